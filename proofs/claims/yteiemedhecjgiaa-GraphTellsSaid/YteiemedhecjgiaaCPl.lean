/- Texts of GraphTells Pl. -/
import Derived.Test.YteiemedhecjgiaaCXu
import Derived.Test.YteiemedhecjgiaaCMd
import Derived.KernelRfl
import Derived.Lib.ItoaNum
set_option linter.unusedSimpArgs false
set_option linter.unusedVariables false
set_option linter.unusedSectionVars false
namespace Go.Y
open Go.Wk Go.Xt
structure BareE where
 r2_bexpr:TExpr→Option TExpr
def r2_bexpr_j5 (i56:Int) (k_r2_bexpr_l1:Int→(List TExpr)→Option TExpr) (l107:List TExpr):Option TExpr :=
 (i64 (i56+1)).bind fun i124 =>
 k_r2_bexpr_l1 i124 l107
def r2_bexpr_l1 (self:BareE) (p_1:TExpr) (i16:Int) (s24:List UInt8):Nat→Int→(List TExpr)→Option TExpr
 | 0,_,_=>none
 | n+1,i56,l59 =>
  if i56<(p_1.Kids.length:Int) then
   (at_ p_1.Kids i56).bind fun x92 =>
   (self.r2_bexpr x92).bind fun r109 =>
   (appN 2513169434916 l59 [r109]).bind fun l119 =>
   r2_bexpr_j5 i56 (r2_bexpr_l1 self p_1 i16 s24 n) l119
  else
   some (TExpr.mk p_1.Kind i16 s24 l59)
def r2_bexpr_j4 (self:BareE) (p_1:TExpr) (i16:Int) (s24:List UInt8):Option TExpr :=
 r2_bexpr_l1 self p_1 i16 s24 (p_1.Kids.length+1) 0 []
def r2_bexpr_j3 (self:BareE) (p_1:TExpr) (i16:Int) (b19:Bool):Option TExpr :=
 if b19=true then
  r2_bexpr_j4 self p_1 i16 p_1.Name
 else
  r2_bexpr_j4 self p_1 i16 []
def r2_bexpr_j2 (self:BareE) (p_1:TExpr) (i16:Int):Option TExpr :=
 if p_1.Kind=3 then
  r2_bexpr_j3 self p_1 i16 true
 else
  if p_1.Kind=20 then
   r2_bexpr_j3 self p_1 i16 true
  else
   if p_1.Kind=19 then
    r2_bexpr_j3 self p_1 i16 true
   else
    r2_bexpr_j3 self p_1 i16 (decide (p_1.Kind=22))
def r2_bexpr_j1 (self:BareE) (p_1:TExpr) (b13:Bool):Option TExpr :=
 if b13=true then
  r2_bexpr_j2 self p_1 p_1.N
 else
  r2_bexpr_j2 self p_1 0
def r2_bexpr (self:BareE) (p_1:TExpr):Option TExpr :=
 if p_1.Kind=1 then
  r2_bexpr_j1 self p_1 true
 else
  r2_bexpr_j1 self p_1 (decide (p_1.Kind=2))
def BareE_run:Nat→BareE
 | 0=>⟨fun _=>none⟩
 | n+1=>⟨r2_bexpr (BareE_run n)⟩
structure BareS where
 r2_bstats:(List TStat)→Option (List TStat)
def r2_bstats_j6 (i77:Int) (l80:List TStat) (x154:TStat) (s179:List UInt8) (i182:Int) (i183:Int) (s184:List UInt8) (l187:List TExpr) (l203:List TStat) (k_r2_bstats_l1:Int→(List TStat)→Option (List TStat)) (l216:List TStat):Option (List TStat) :=
 (appN 1099511627776 l80 [(TStat.mk x154.Kind s179 (TExpr.mk i182 i183 s184 l187) l203 l216)]).bind fun l231 =>
 (i64 (i77+1)).bind fun i234 =>
 k_r2_bstats_l1 i234 l231
def r2_bstats_j5 (self:BareS) (i77:Int) (l80:List TStat) (x154:TStat) (s179:List UInt8) (i182:Int) (i183:Int) (s184:List UInt8) (l187:List TExpr) (k_r2_bstats_l1:Int→(List TStat)→Option (List TStat)) (l203:List TStat):Option (List TStat) :=
 if x154.Kind=3 then
  (self.r2_bstats x154.Else).bind fun r219 =>
  r2_bstats_j6 i77 l80 x154 s179 i182 i183 s184 l187 l203 k_r2_bstats_l1 r219
 else
  r2_bstats_j6 i77 l80 x154 s179 i182 i183 s184 l187 l203 k_r2_bstats_l1 []
def r2_bstats_j4 (self:BareS) (i77:Int) (l80:List TStat) (x154:TStat) (s179:List UInt8) (i182:Int) (i183:Int) (s184:List UInt8) (l187:List TExpr) (k_r2_bstats_l1:Int→(List TStat)→Option (List TStat)) (b198:Bool):Option (List TStat) :=
 if b198=true then
  (self.r2_bstats x154.Body).bind fun r206 =>
  r2_bstats_j5 self i77 l80 x154 s179 i182 i183 s184 l187 k_r2_bstats_l1 r206
 else
  r2_bstats_j5 self i77 l80 x154 s179 i182 i183 s184 l187 k_r2_bstats_l1 []
def r2_bstats_j3 (self:BareS) (i77:Int) (l80:List TStat) (x154:TStat) (s179:List UInt8) (k_r2_bstats_l1:Int→(List TStat)→Option (List TStat)) (i182:Int) (i183:Int) (s184:List UInt8) (l187:List TExpr):Option (List TStat) :=
 if x154.Kind=3 then
  r2_bstats_j4 self i77 l80 x154 s179 i182 i183 s184 l187 k_r2_bstats_l1 true
 else
  r2_bstats_j4 self i77 l80 x154 s179 i182 i183 s184 l187 k_r2_bstats_l1 (decide (x154.Kind=4))
def r2_bstats_j2 (fu:Nat) (self:BareS) (i77:Int) (l80:List TStat) (x154:TStat) (k_r2_bstats_l1:Int→(List TStat)→Option (List TStat)) (s179:List UInt8):Option (List TStat) :=
 if x154.Kind≠6 then
  ((BareE_run fu).r2_bexpr x154.X).bind fun r190 =>
  r2_bstats_j3 self i77 l80 x154 s179 k_r2_bstats_l1 r190.Kind r190.N r190.Name r190.Kids
 else
  r2_bstats_j3 self i77 l80 x154 s179 k_r2_bstats_l1 0 0 [] []
def r2_bstats_j1 (fu:Nat) (self:BareS) (i77:Int) (l80:List TStat) (x154:TStat) (k_r2_bstats_l1:Int→(List TStat)→Option (List TStat)) (b175:Bool):Option (List TStat) :=
 if b175=true then
  r2_bstats_j2 fu self i77 l80 x154 k_r2_bstats_l1 x154.Name
 else
  r2_bstats_j2 fu self i77 l80 x154 k_r2_bstats_l1 []
def r2_bstats_l1 (fu:Nat) (self:BareS) (p_1:List TStat):Nat→Int→(List TStat)→Option (List TStat)
 | 0,_,_=>none
 | n+1,i77,l80 =>
  if i77<(p_1.length:Int) then
   (at_ p_1 i77).bind fun x154 =>
   if x154.Kind=1 then
    r2_bstats_j1 fu self i77 l80 x154 (r2_bstats_l1 fu self p_1 n) true
   else
    if x154.Kind=2 then
     r2_bstats_j1 fu self i77 l80 x154 (r2_bstats_l1 fu self p_1 n) true
    else
     r2_bstats_j1 fu self i77 l80 x154 (r2_bstats_l1 fu self p_1 n) (decide (x154.Kind=7))
  else
   some l80
def r2_bstats (fu:Nat) (self:BareS) (p_1:List TStat):Option (List TStat) :=
 r2_bstats_l1 fu self p_1 (p_1.length+1) 0 []
def BareS_run:Nat→BareS
 | 0=>⟨fun _=>none⟩
 | n+1=>⟨r2_bstats n (BareS_run n)⟩
end Go.Y
namespace Go.Y
open Go.Wk Go.Xt
def r1_class_j4 (p_1:UInt8) (b12:Bool):Option Int :=
 if b12=true then
  some 3
 else
  if (p_1.toNat:Int)=35 then
   some 4
  else
   some 5
def r1_class_j3 (p_1:UInt8) (b8:Bool):Option Int :=
 if b8=true then
  some 2
 else
  if (p_1.toNat:Int)=32 then
   r1_class_j4 p_1 true
  else
   if (p_1.toNat:Int)=9 then
    r1_class_j4 p_1 true
   else
    r1_class_j4 p_1 (decide ((p_1.toNat:Int)=10))
def r1_class_j2 (p_1:UInt8) (b4:Bool):Option Int :=
 if b4=true then
  some 1
 else
  if (48:Int)≤(p_1.toNat:Int) then
   r1_class_j3 p_1 (decide ((p_1.toNat:Int)≤57))
  else
   r1_class_j3 p_1 false
def r1_class_j1 (p_1:UInt8) (b1:Bool):Option Int :=
 if b1=true then
  r1_class_j2 p_1 b1
 else
  r1_class_j2 p_1 (decide ((p_1.toNat:Int)=95))
def r1_class  (p_1:UInt8):Option Int :=
 if (97:Int)≤(p_1.toNat:Int) then
  r1_class_j1 p_1 (decide ((p_1.toNat:Int)≤122))
 else
  r1_class_j1 p_1 false
def r1_res_l1 (p_1:List UInt8):Nat→Int→Option Bool
 | 0,_=>none
 | n+1,i15 =>
  if i15<27 then
   (at_ [[98,111,120],[102,110],[103,101,110],[116,97,115,107],[116,97,107,101,115],[121,105,101,108,100,115],[108,101,116],[105,102],[101,108,115,101],[119,104,105,108,101],[114,101,116,117,114,110],[115,116,111,112],[115,101,110,100],[111,117,116],[100,111],[114,101,99,118],[121,105,101,108,100],[115,116,97,114,116],[114,101,115,117,109,101],[97,108,105,118,101],[110,117,109],[98,111,111,108],[116,114,117,101],[102,97,108,115,101],[97,110,100],[111,114],[110,111,116]] i15).bind fun x28 =>
   if x28=p_1 then
    some true
   else
    (i64 (i15+1)).bind fun i37 =>
    r1_res_l1 p_1 n i37
  else
   some false
def r1_res  (p_1:List UInt8):Option Bool :=
 r1_res_l1 p_1 28 0
def r1_named_j1 (p_1:List UInt8) (q12:Nat) (k_r1_named_l1:Nat→Option Bool) (b29:Bool):Option Bool :=
 if b29=true then
  some false
 else
  k_r1_named_l1 (q12+wd p_1 q12)
def r1_named_l1 (p_1:List UInt8):Nat→Nat→Option Bool
 | 0,_=>none
 | n+1,q12 =>
  if q12<p_1.length then
   (at_ p_1 ((q12:Nat):Int)).bind fun u24 =>
   (r1_class u24).bind fun r26 =>
   if r26≠1 then
    if r26≠2 then
     r1_named_j1 p_1 q12 (r1_named_l1 p_1 n) true
    else
     r1_named_j1 p_1 q12 (r1_named_l1 p_1 n) (decide (((q12:Nat):Int)=0))
   else
    r1_named_j1 p_1 q12 (r1_named_l1 p_1 n) false
  else
   if (0:Int)<(p_1.length:Int) then
    if (p_1.length:Int)≤12 then
     (r1_res p_1).bind fun r36 =>
     some (!r36)
    else
     some false
   else
    some false
def r1_named  (p_1:List UInt8):Option Bool :=
 r1_named_l1 p_1 (p_1.length+1) 0
def r2_more  (n_2:Int) (p_2:Int):Option (Bool×Int) :=
 (i64 (n_2+1)).bind fun i3 =>
 if i3≤2000 then
  some (decide (p_2≤40),i3)
 else
  some (false,i3)
def r2_type_j2  (b7:Bool):Option Int :=
 if b7=true then
  some 7
 else
  some 0
def r2_type_j1 (p_1:TType) (b3:Bool):Option Int :=
 if b3=true then
  some 1
 else
  if p_1.Kind=3 then
   (r1_named p_1.Gen).bind fun r9 =>
   r2_type_j2 (!r9)
  else
   r2_type_j2 false
def r2_type  (p_1:TType):Option Int :=
 if p_1.Kind<1 then
  r2_type_j1 p_1 true
 else
  r2_type_j1 p_1 (decide ((3:Int)<p_1.Kind))
def r2_kids  (p_1:Int):Option Int :=
 (at_ [0,0,0,0,1,1,2,2,2,2,2,2,2,2,2,2,2,2,2,(-1),0,1,(-1),2,1] p_1).bind fun x5 =>
 some x5
structure R2E where
 r2_expr:Int→TExpr→Int→Option (Int×Int)
def r2_expr_l1 (self:R2E) (p_2:TExpr) (p_3:Int):Nat→Int→Int→Option (Int×Int)
 | 0,_,_=>none
 | n+1,i73,i74 =>
  if i73<(p_2.Kids.length:Int) then
   (at_ p_2.Kids i73).bind fun x97 =>
   (i64 (p_3+1)).bind fun i110 =>
   (self.r2_expr i74 x97 i110).bind fun r112 =>
   if r112.1≠0 then
    some (r112.1,r112.2)
   else
    (i64 (i73+1)).bind fun i116 =>
    r2_expr_l1 self p_2 p_3 n i116 r112.2
  else
   some (0,i74)
def r2_expr_j4 (self:R2E) (p_2:TExpr) (p_3:Int) (r8:Bool×Int) (b48:Bool):Option (Int×Int) :=
 if b48=true then
  some (5,r8.2)
 else
  r2_expr_l1 self p_2 p_3 (p_2.Kids.length+1) 0 r8.2
def r2_expr_j3 (self:R2E) (p_2:TExpr) (p_3:Int) (r8:Bool×Int) (b26:Bool):Option (Int×Int) :=
 if b26=true then
  some (7,r8.2)
 else
  (r2_kids p_2.Kind).bind fun r45 =>
  if (0:Int)≤r45 then
   if (p_2.Kids.length:Int)≠r45 then
    r2_expr_j4 self p_2 p_3 r8 true
   else
    r2_expr_j4 self p_2 p_3 r8 (decide ((6:Int)<(p_2.Kids.length:Int)))
  else
   r2_expr_j4 self p_2 p_3 r8 (decide ((6:Int)<(p_2.Kids.length:Int)))
def r2_expr_j2 (self:R2E) (p_2:TExpr) (p_3:Int) (r8:Bool×Int) (b16:Bool):Option (Int×Int) :=
 if b16=true then
  some (3,r8.2)
 else
  if p_2.Kind=3 then
   (r1_named p_2.Name).bind fun r28 =>
   r2_expr_j3 self p_2 p_3 r8 (!r28)
  else
   if p_2.Kind=20 then
    (r1_named p_2.Name).bind fun r32 =>
    r2_expr_j3 self p_2 p_3 r8 (!r32)
   else
    if p_2.Kind=19 then
     (r1_named p_2.Name).bind fun r36 =>
     r2_expr_j3 self p_2 p_3 r8 (!r36)
    else
     if p_2.Kind=22 then
      (r1_named p_2.Name).bind fun r40 =>
      r2_expr_j3 self p_2 p_3 r8 (!r40)
     else
      r2_expr_j3 self p_2 p_3 r8 false
def r2_expr_j1 (self:R2E) (p_2:TExpr) (p_3:Int) (r8:Bool×Int) (b12:Bool):Option (Int×Int) :=
 if b12=true then
  some (1,r8.2)
 else
  if p_2.Kind=1 then
   if p_2.N<0 then
    r2_expr_j2 self p_2 p_3 r8 true
   else
    if (999999999999999:Int)<p_2.N then
     r2_expr_j2 self p_2 p_3 r8 true
    else
     if p_2.Kind=2 then
      if p_2.N<0 then
       r2_expr_j2 self p_2 p_3 r8 true
      else
       r2_expr_j2 self p_2 p_3 r8 (decide ((1:Int)<p_2.N))
     else
      r2_expr_j2 self p_2 p_3 r8 false
  else
   if p_2.Kind=2 then
    if p_2.N<0 then
     r2_expr_j2 self p_2 p_3 r8 true
    else
     r2_expr_j2 self p_2 p_3 r8 (decide ((1:Int)<p_2.N))
   else
    r2_expr_j2 self p_2 p_3 r8 false
def r2_expr (self:R2E) (n_2:Int) (p_2:TExpr) (p_3:Int):Option (Int×Int) :=
 (r2_more n_2 p_3).bind fun r8 =>
 if r8.1=true then
  if p_2.Kind<1 then
   r2_expr_j1 self p_2 p_3 r8 true
  else
   r2_expr_j1 self p_2 p_3 r8 (decide ((24:Int)<p_2.Kind))
 else
  some (4,r8.2)
def R2E_run:Nat→R2E
 | 0=>⟨fun _ _ _=>none⟩
 | n+1=>⟨r2_expr (R2E_run n)⟩
structure R2S where
 r2_stats:Int→(List TStat)→Int→Option (Int×Int)
def r2_stats_j4 (self:R2S) (p_3:Int) (i65:Int) (x127:TStat) (k_r2_stats_l1:Int→Int→Option (Int×Int)) (i181:Int):Option (Int×Int) :=
 if x127.Kind=3 then
  (i64 (p_3+1)).bind fun i191 =>
  (self.r2_stats i181 x127.Else i191).bind fun r193 =>
  if r193.1≠0 then
   some (r193.1,r193.2)
  else
   (i64 (i65+1)).bind fun i197 =>
   k_r2_stats_l1 i197 r193.2
 else
  (i64 (i65+1)).bind fun i199 =>
  k_r2_stats_l1 i199 i181
def r2_stats_j3 (self:R2S) (p_3:Int) (i65:Int) (x127:TStat) (r174:Int×Int) (k_r2_stats_l1:Int→Int→Option (Int×Int)) (b178:Bool):Option (Int×Int) :=
 if b178=true then
  (i64 (p_3+1)).bind fun i183 =>
  (self.r2_stats r174.2 x127.Body i183).bind fun r185 =>
  if r185.1≠0 then
   some (r185.1,r185.2)
  else
   r2_stats_j4 self p_3 i65 x127 k_r2_stats_l1 r185.2
 else
  r2_stats_j4 self p_3 i65 x127 k_r2_stats_l1 r174.2
def r2_stats_j2 (fu:Nat) (self:R2S) (p_3:Int) (i65:Int) (x127:TStat) (r146:Bool×Int) (k_r2_stats_l1:Int→Int→Option (Int×Int)) (b154:Bool):Option (Int×Int) :=
 if b154=true then
  some (7,r146.2)
 else
  if x127.Kind=6 then
   (i64 (i65+1)).bind fun i170 =>
   k_r2_stats_l1 i170 r146.2
  else
   (i64 (p_3+1)).bind fun i172 =>
   ((R2E_run fu).r2_expr r146.2 x127.X i172).bind fun r174 =>
   if r174.1≠0 then
    some (r174.1,r174.2)
   else
    if x127.Kind=3 then
     r2_stats_j3 self p_3 i65 x127 r174 k_r2_stats_l1 true
    else
     r2_stats_j3 self p_3 i65 x127 r174 k_r2_stats_l1 (decide (x127.Kind=4))
def r2_stats_j1 (fu:Nat) (self:R2S) (p_3:Int) (i65:Int) (x127:TStat) (r146:Bool×Int) (k_r2_stats_l1:Int→Int→Option (Int×Int)) (b150:Bool):Option (Int×Int) :=
 if b150=true then
  some (1,r146.2)
 else
  if x127.Kind=1 then
   (r1_named x127.Name).bind fun r156 =>
   r2_stats_j2 fu self p_3 i65 x127 r146 k_r2_stats_l1 (!r156)
  else
   if x127.Kind=2 then
    (r1_named x127.Name).bind fun r160 =>
    r2_stats_j2 fu self p_3 i65 x127 r146 k_r2_stats_l1 (!r160)
   else
    if x127.Kind=7 then
     (r1_named x127.Name).bind fun r164 =>
     r2_stats_j2 fu self p_3 i65 x127 r146 k_r2_stats_l1 (!r164)
    else
     r2_stats_j2 fu self p_3 i65 x127 r146 k_r2_stats_l1 false
def r2_stats_l1 (fu:Nat) (self:R2S) (p_2:List TStat) (p_3:Int):Nat→Int→Int→Option (Int×Int)
 | 0,_,_=>none
 | n+1,i65,i66 =>
  if i65<(p_2.length:Int) then
   (at_ p_2 i65).bind fun x127 =>
   (r2_more i66 p_3).bind fun r146 =>
   if r146.1=true then
    if x127.Kind<1 then
     r2_stats_j1 fu self p_3 i65 x127 r146 (r2_stats_l1 fu self p_2 p_3 n) true
    else
     r2_stats_j1 fu self p_3 i65 x127 r146 (r2_stats_l1 fu self p_2 p_3 n) (decide ((9:Int)<x127.Kind))
   else
    some (4,r146.2)
  else
   some (0,i66)
def r2_stats (fu:Nat) (self:R2S) (n_2:Int) (p_2:List TStat) (p_3:Int):Option (Int×Int) :=
 if (50:Int)<(p_2.length:Int) then
  some (5,n_2)
 else
  r2_stats_l1 fu self p_2 p_3 (p_2.length+1) 0 n_2
def R2S_run:Nat→R2S
 | 0=>⟨fun _ _ _=>none⟩
 | n+1=>⟨r2_stats n (R2S_run n)⟩
def r2_def_j6 (fu:Nat) (p_2:TDef) (r11:Bool×Int) (b100:Bool):Option (Int×Int) :=
 if b100=true then
  some (3,r11.2)
 else
  if p_2.Kind=1 then
   some (0,r11.2)
  else
   ((R2S_run fu).r2_stats r11.2 p_2.Body 2).bind fun r106 =>
   some (r106.1,r106.2)
def r2_def_j5 (fu:Nat) (p_2:TDef) (r11:Bool×Int) :Option (Int×Int) :=
 if p_2.Kind=1 then
  if p_2.Cap<1 then
   r2_def_j6 fu p_2 r11 true
  else
   r2_def_j6 fu p_2 r11 (decide ((20:Int)<p_2.Cap))
 else
  r2_def_j6 fu p_2 r11 false
def r2_def_j4 (fu:Nat) (p_2:TDef) (r11:Bool×Int) :Option (Int×Int) :=
 if p_2.Kind<4 then
  (r2_type p_2.Typ).bind fun r95 =>
  if r95≠0 then
   some (r95,r11.2)
  else
   r2_def_j5 fu p_2 r11
 else
  r2_def_j5 fu p_2 r11
def r2_def_j3 (fu:Nat) (p_2:TDef) (r11:Bool×Int) :Option (Int×Int) :=
 if p_2.Kind=3 then
  (r2_type p_2.Takes).bind fun r89 =>
  if r89≠0 then
   some (r89,r11.2)
  else
   r2_def_j4 fu p_2 r11
 else
  r2_def_j4 fu p_2 r11
def r2_def_l1 (fu:Nat) (p_2:TDef) (r11:Bool×Int):Nat→Int→Option (Int×Int)
 | 0,_=>none
 | n+1,i46 =>
  if i46<(p_2.Params.length:Int) then
   (at_ p_2.Params i46).bind fun x67 =>
   (r1_named x67.Name).bind fun r77 =>
   if r77=true then
    (r2_type x67.Typ).bind fun r81 =>
    if r81≠0 then
     some (r81,r11.2)
    else
     (i64 (i46+1)).bind fun i85 =>
     r2_def_l1 fu p_2 r11 n i85
   else
    some (7,r11.2)
  else
   r2_def_j3 fu p_2 r11
def r2_def_j2 (fu:Nat) (p_2:TDef) (r11:Bool×Int) (b23:Bool):Option (Int×Int) :=
 if b23=true then
  if (6:Int)<(p_2.Params.length:Int) then
   some (5,r11.2)
  else
   r2_def_l1 fu p_2 r11 (p_2.Params.length+1) 0
 else
  r2_def_j3 fu p_2 r11
def r2_def_j1 (fu:Nat) (p_2:TDef) (r11:Bool×Int) (b15:Bool):Option (Int×Int) :=
 if b15=true then
  some (1,r11.2)
 else
  (r1_named p_2.Name).bind fun r19 =>
  if r19=true then
   if p_2.Kind=2 then
    r2_def_j2 fu p_2 r11 true
   else
    r2_def_j2 fu p_2 r11 (decide (p_2.Kind=3))
  else
   some (7,r11.2)
def r2_def (fu:Nat)  (n_2:Int) (p_2:TDef):Option (Int×Int) :=
 (r2_more n_2 1).bind fun r11 =>
 if r11.1=true then
  if p_2.Kind<1 then
   r2_def_j1 fu p_2 r11 true
  else
   r2_def_j1 fu p_2 r11 (decide ((4:Int)<p_2.Kind))
 else
  some (4,r11.2)
def r2_wrong_l1 (fu:Nat) (p_1:List TDef):Nat→Int→Int→Option TFault
 | 0,_,_=>none
 | n+1,i28,i29 =>
  if i28<(p_1.length:Int) then
   (at_ p_1 i28).bind fun x51 =>
   (r2_def fu i29 x51).bind fun r65 =>
   if r65.1≠0 then
    some (TFault.mk r65.1 i28)
   else
    (i64 (i28+1)).bind fun i69 =>
    r2_wrong_l1 fu p_1 n i69 r65.2
  else
   some (TFault.mk 0 0)
def r2_wrong (fu:Nat)  (p_1:List TDef):Option TFault :=
 if (30:Int)<(p_1.length:Int) then
  some (TFault.mk 5 0)
 else
  r2_wrong_l1 fu p_1 (p_1.length+1) 0 0
end Go.Y
namespace Go.Y
open Go.Wk Go.Xt
structure TYieldref3Name where
 Name:List UInt8
 Word:List UInt8
 deriving DecidableEq,Inhabited,Repr
instance:Mo TYieldref3Name where
 sz:=2
 pos:=by decide
 cs μ l x:=l=[S x.Name,S x.Word]
 ln h:=by obtain rfl:=h; rfl
 up le h:=by exact h
 cv h:=by obtain rfl:=h; rfl
def r3_word  (p_1:TType):Option (List UInt8) :=
 if p_1.Kind=1 then
  some [110,117,109]
 else
  if p_1.Kind=2 then
   some [98,111,111,108]
  else
   (cat [61] p_1.Gen).bind fun s5 =>
   some s5
def r3_find_j1 (i33:Int) (x56:TDef) (k_r3_find_l1:Int→Option (TDef×Bool)) (b72:Bool):Option (TDef×Bool) :=
 if b72=true then
  some (x56,true)
 else
  (i64 (i33+1)).bind fun i76 =>
  k_r3_find_l1 i76
def r3_find_l1 (p_1:List TDef) (p_2:Int) (p_3:List UInt8):Nat→Int→Option (TDef×Bool)
 | 0,_=>none
 | n+1,i33 =>
  if i33<(p_1.length:Int) then
   (at_ p_1 i33).bind fun x56 =>
   if x56.Kind=p_2 then
    r3_find_j1 i33 x56 (r3_find_l1 p_1 p_2 p_3 n) (decide (x56.Name=p_3))
   else
    r3_find_j1 i33 x56 (r3_find_l1 p_1 p_2 p_3 n) false
  else
   some ((TDef.mk 0 [] (TType.mk 0 []) (TType.mk 0 []) 0 ([]:List TParam) ([]:List TStat)),false)
def r3_find  (p_1:List TDef) (p_2:Int) (p_3:List UInt8):Option (TDef×Bool) :=
 r3_find_l1 p_1 p_2 p_3 (p_1.length+1) 0
def r3_look_l1 (p_1:List TYieldref3Name) (p_2:List UInt8):Nat→Int→Option (List UInt8×Bool)
 | 0,_=>none
 | n+1,i24 =>
  if (0:Int)≤i24 then
   (at_ p_1 i24).bind fun x45 =>
   if x45.Name=p_2 then
    (at_ p_1 i24).bind fun x54 =>
    some (x54.Word,true)
   else
    (i64 (i24 - 1)).bind fun i62 =>
    r3_look_l1 p_1 p_2 n i62
  else
   some ([],false)
def r3_look (fu:Nat)  (p_1:List TYieldref3Name) (p_2:List UInt8):Option (List UInt8×Bool) :=
 (i64 ((p_1.length:Int) - 1)).bind fun i4 =>
 r3_look_l1 p_1 p_2 fu i4
structure R3T where
 r3_type:(List TDef)→TDef→(List TYieldref3Name)→TExpr→Option (List UInt8×Int)
 r3_ask:Int→(List TDef)→TDef→(List TYieldref3Name)→TExpr→Option (List UInt8×Int)
 r3_must:Int→(List UInt8)→(List TDef)→TDef→(List TYieldref3Name)→TExpr→Option Int
 r3_given:Int→(List TDef)→TExpr→(List TDef)→TDef→(List TYieldref3Name)→TExpr→Option (TDef×Int)
def r3_type_j2  (b67:Bool):Option (List UInt8×Int) :=
 if b67=true then
  some ([],9)
 else
  some ([98,111,111,108],0)
def r3_type_j3  (s121:List UInt8) (i122:Int):Option (List UInt8×Int) :=
 some (s121,i122)
def r3_type_j6  (s186:List UInt8) (i187:Int):Option (List UInt8×Int) :=
 some (s186,i187)
def r3_type_j5 (self:R3T) (p_1:List TDef) (p_2:TDef) (p_3:List TYieldref3Name) (p_4:TExpr) (i146:Int) (s147:List UInt8) (i148:Int) (s149:List UInt8) (i150:Int) (s151:List UInt8) (i152:Int) (l155:List TParam) (l159:List TStat):Option (List UInt8×Int) :=
 (r3_word (TType.mk i148 s149)).bind fun r188 =>
 (r3_word (TType.mk i150 s151)).bind fun r191 =>
 (self.r3_must 1 r191 p_1 p_2 p_3 p_4).bind fun r194 =>
 r3_type_j6 r188 r194
def r3_type_j10 (self:R3T) (p_1:List TDef) (p_2:TDef) (p_3:List TYieldref3Name) (p_4:TExpr) (s201:List UInt8) (s208:List UInt8):Option (List UInt8×Int) :=
 (self.r3_must 0 s201 p_1 p_2 p_3 p_4).bind fun r211 =>
 if r211≠0 then
  some ([],r211)
 else
  (self.r3_must 1 s201 p_1 p_2 p_3 p_4).bind fun r215 =>
  some (s208,r215)
def r3_type_j9 (self:R3T) (p_1:List TDef) (p_2:TDef) (p_3:List TYieldref3Name) (p_4:TExpr) (s201:List UInt8) (s202:List UInt8) (b205:Bool):Option (List UInt8×Int) :=
 if b205=true then
  r3_type_j10 self p_1 p_2 p_3 p_4 s201 [98,111,111,108]
 else
  r3_type_j10 self p_1 p_2 p_3 p_4 s201 s202
def r3_type_j8 (self:R3T) (p_1:List TDef) (p_2:TDef) (p_3:List TYieldref3Name) (p_4:TExpr) (s201:List UInt8) (s202:List UInt8):Option (List UInt8×Int) :=
 if (13:Int)≤p_4.Kind then
  r3_type_j9 self p_1 p_2 p_3 p_4 s201 s202 (decide (p_4.Kind≤16))
 else
  r3_type_j9 self p_1 p_2 p_3 p_4 s201 s202 false
def r3_type_j7 (self:R3T) (p_1:List TDef) (p_2:TDef) (p_3:List TYieldref3Name) (p_4:TExpr) (b198:Bool):Option (List UInt8×Int) :=
 if b198=true then
  r3_type_j8 self p_1 p_2 p_3 p_4 [98,111,111,108] [98,111,111,108]
 else
  r3_type_j8 self p_1 p_2 p_3 p_4 [110,117,109] [110,117,109]
def r3_type_j4 (self:R3T) (p_1:List TDef) (p_2:TDef) (p_3:List TYieldref3Name) (p_4:TExpr) (b133:Bool):Option (List UInt8×Int) :=
 if b133=true then
  (self.r3_ask 0 p_1 p_2 p_3 p_4).bind fun r137 =>
  if r137.2≠0 then
   some ([],r137.2)
  else
   (at_ r137.1 0).bind fun u141 =>
   if (u141.toNat:Int)≠61 then
    some ([],9)
   else
    if p_4.Kind=24 then
     some ([98,111,111,108],0)
    else
     (cut r137.1 1 r137.1.length).bind fun s161 =>
     (r3_find p_1 3 s161).bind fun r163 =>
     r3_type_j5 self p_1 p_2 p_3 p_4 r163.1.Kind r163.1.Name r163.1.Typ.Kind r163.1.Typ.Gen r163.1.Takes.Kind r163.1.Takes.Gen r163.1.Cap r163.1.Params r163.1.Body
 else
  if p_4.Kind=17 then
   r3_type_j7 self p_1 p_2 p_3 p_4 true
  else
   r3_type_j7 self p_1 p_2 p_3 p_4 (decide (p_4.Kind=18))
def r3_type_j1 (self:R3T) (p_1:List TDef) (p_2:TDef) (p_3:List TYieldref3Name) (p_4:TExpr) (b55:Bool):Option (List UInt8×Int) :=
 if b55=true then
  (self.r3_ask 0 p_1 p_2 p_3 p_4).bind fun r59 =>
  if r59.2≠0 then
   some ([],r59.2)
  else
   (self.r3_ask 1 p_1 p_2 p_3 p_4).bind fun r63 =>
   if r63.2≠0 then
    some ([],r63.2)
   else
    if r59.1≠r63.1 then
     r3_type_j2 true
    else
     (at_ r59.1 0).bind fun u69 =>
     r3_type_j2 (decide ((u69.toNat:Int)=61))
 else
  if p_4.Kind=19 then
   (self.r3_given 2 p_1 p_4 p_1 p_2 p_3 p_4).bind fun r74 =>
   if r74.2≠0 then
    some ([],r74.2)
   else
    (r3_word r74.1.Typ).bind fun r86 =>
    some (r86,0)
  else
   if p_4.Kind=22 then
    (self.r3_given 3 p_1 p_4 p_1 p_2 p_3 p_4).bind fun r90 =>
    (cat [61] p_4.Name).bind fun s101 =>
    some (s101,r90.2)
   else
    if p_4.Kind=20 then
     (r3_find p_1 1 p_4.Name).bind fun r104 =>
     if r104.2=true then
      (r3_word r104.1.Typ).bind fun r116 =>
      some (r116,0)
     else
      some ([],7)
    else
     if p_4.Kind=21 then
      if p_2.Kind≠3 then
       some ([],8)
      else
       (r3_word p_2.Takes).bind fun r123 =>
       (r3_word p_2.Typ).bind fun r126 =>
       (self.r3_must 0 r126 p_1 p_2 p_3 p_4).bind fun r129 =>
       r3_type_j3 r123 r129
     else
      if p_4.Kind=23 then
       r3_type_j4 self p_1 p_2 p_3 p_4 (decide (p_4.Kind=23))
      else
       r3_type_j4 self p_1 p_2 p_3 p_4 (decide (p_4.Kind=24))
def r3_type (fu:Nat) (self:R3T) (p_1:List TDef) (p_2:TDef) (p_3:List TYieldref3Name) (p_4:TExpr):Option (List UInt8×Int) :=
 if p_4.Kind=1 then
  some ([110,117,109],0)
 else
  if p_4.Kind=2 then
   some ([98,111,111,108],0)
  else
   if p_4.Kind=3 then
    (r3_look fu p_3 p_4.Name).bind fun r43 =>
    if r43.2=true then
     some (r43.1,0)
    else
     some ([],7)
   else
    if p_4.Kind=4 then
     (self.r3_must 0 [110,117,109] p_1 p_2 p_3 p_4).bind fun r48 =>
     some ([110,117,109],r48)
    else
     if p_4.Kind=5 then
      (self.r3_must 0 [98,111,111,108] p_1 p_2 p_3 p_4).bind fun r52 =>
      some ([98,111,111,108],r52)
     else
      if p_4.Kind=11 then
       r3_type_j1 self p_1 p_2 p_3 p_4 (decide (p_4.Kind=11))
      else
       r3_type_j1 self p_1 p_2 p_3 p_4 (decide (p_4.Kind=12))
def r3_ask (self:R3T) (p_1:Int) (p_2:List TDef) (p_3:TDef) (p_4:List TYieldref3Name) (p_5:TExpr):Option (List UInt8×Int) :=
 (at_ p_5.Kids p_1).bind fun x28 =>
 (self.r3_type p_2 p_3 p_4 x28).bind fun r39 =>
 some (r39.1,r39.2)
def r3_must_j1 (r31:List UInt8×Int) (b34:Bool):Option Int :=
 if b34=true then
  some 9
 else
  some r31.2
def r3_must (self:R3T) (p_1:Int) (p_2:List UInt8) (p_3x1:List TDef) (p_3x2:TDef) (p_3x3:List TYieldref3Name) (p_3x4:TExpr):Option Int :=
 (self.r3_ask p_1 p_3x1 p_3x2 p_3x3 p_3x4).bind fun r31 =>
 if r31.2=0 then
  r3_must_j1 r31 (decide (r31.1≠p_2))
 else
  r3_must_j1 r31 false
def r3_given_j1 (r54:TDef×Bool) (i85:Int) (k_r3_given_l1:Int→Option (TDef×Int)) (i116:Int):Option (TDef×Int) :=
 if i116≠0 then
  some (r54.1,i116)
 else
  (i64 (i85+1)).bind fun i125 =>
  k_r3_given_l1 i125
def r3_given_l1 (self:R3T) (p_4x1:List TDef) (p_4x2:TDef) (p_4x3:List TYieldref3Name) (p_4x4:TExpr) (r54:TDef×Bool):Nat→Int→Option (TDef×Int)
 | 0,_=>none
 | n+1,i85 =>
  if i85<(r54.1.Params.length:Int) then
   (at_ r54.1.Params i85).bind fun x106 =>
   (r3_word x106.Typ).bind fun r117 =>
   (self.r3_must i85 r117 p_4x1 p_4x2 p_4x3 p_4x4).bind fun r120 =>
   r3_given_j1 r54 i85 (r3_given_l1 self p_4x1 p_4x2 p_4x3 p_4x4 r54 n) r120
  else
   some (r54.1,0)
def r3_given (self:R3T) (p_1:Int) (p_2:List TDef) (p_3:TExpr) (p_4x1:List TDef) (p_4x2:TDef) (p_4x3:List TYieldref3Name) (p_4x4:TExpr):Option (TDef×Int) :=
 (r3_find p_2 p_1 p_3.Name).bind fun r54 =>
 if r54.2=true then
  if (r54.1.Params.length:Int)≠(p_3.Kids.length:Int) then
   some (r54.1,5)
  else
   r3_given_l1 self p_4x1 p_4x2 p_4x3 p_4x4 r54 (r54.1.Params.length+1) 0
 else
  some (r54.1,7)
def R3T_run:Nat→R3T
 | 0=>⟨fun _ _ _ _=>none,fun _ _ _ _ _=>none,fun _ _ _ _ _ _=>none,fun _ _ _ _ _ _ _=>none⟩
 | n+1=>⟨r3_type n (R3T_run n),r3_ask (R3T_run n),r3_must (R3T_run n),r3_given (R3T_run n)⟩
end Go.Y
namespace Go.Y
open Go.Wk Go.Xt
def r3_of_j1 (r20:List UInt8×Int) (b23:Bool):Option Int :=
 if b23=true then
  some 9
 else
  some r20.2
def r3_of (fu:Nat)  (p_1:List TDef) (p_2:TDef) (p_3:List TYieldref3Name) (p_4:TExpr) (p_5:List UInt8):Option Int :=
 ((R3T_run fu).r3_type p_1 p_2 p_3 p_4).bind fun r20 =>
 if r20.2=0 then
  r3_of_j1 r20 (decide (r20.1≠p_5))
 else
  r3_of_j1 r20 false
structure R3B where
 r3_block:(List TDef)→TDef→(List TYieldref3Name)→(List TStat)→Option Int
def r3_block_j2 (i174:Int) (l177:List TYieldref3Name) (k_r3_block_l1:Int→(List TYieldref3Name)→Option Int) (i440:Int):Option Int :=
 if i440≠0 then
  some i440
 else
  (i64 (i174+1)).bind fun i456 =>
  k_r3_block_l1 i456 l177
def r3_block_j3 (i174:Int) (l177:List TYieldref3Name) (k_r3_block_l1:Int→(List TYieldref3Name)→Option Int) (i475:Int):Option Int :=
 if i475≠0 then
  some i475
 else
  (i64 (i174+1)).bind fun i491 =>
  k_r3_block_l1 i491 l177
def r3_block_j4 (i174:Int) (l177:List TYieldref3Name) (k_r3_block_l1:Int→(List TYieldref3Name)→Option Int) (b504:Bool):Option Int :=
 if b504=true then
  some 9
 else
  (i64 (i174+1)).bind fun i510 =>
  k_r3_block_l1 i510 l177
def r3_block_j1 (fu:Nat) (self:R3B) (p_1:List TDef) (p_2:TDef) (i174:Int) (l177:List TYieldref3Name) (x328:TStat) (k_r3_block_l1:Int→(List TYieldref3Name)→Option Int) (b400:Bool):Option Int :=
 if b400=true then
  (r3_of fu p_1 p_2 l177 x328.X [98,111,111,108]).bind fun r412 =>
  if r412≠0 then
   some r412
  else
   (self.r3_block p_1 p_2 l177 x328.Body).bind fun r421 =>
   if r421≠0 then
    some r421
   else
    if x328.Kind=3 then
     (self.r3_block p_1 p_2 l177 x328.Else).bind fun r431 =>
     if r431≠0 then
      some r431
     else
      (i64 (i174+1)).bind fun i434 =>
      k_r3_block_l1 i434 l177
    else
     (i64 (i174+1)).bind fun i436 =>
     k_r3_block_l1 i436 l177
 else
  if x328.Kind=5 then
   if p_2.Kind≠2 then
    some 8
   else
    (r3_word p_2.Typ).bind fun r441 =>
    (r3_of fu p_1 p_2 l177 x328.X r441).bind fun r452 =>
    r3_block_j2 i174 l177 k_r3_block_l1 r452
  else
   if x328.Kind=6 then
    if p_2.Kind=2 then
     some 8
    else
     (i64 (i174+1)).bind fun i460 =>
     k_r3_block_l1 i460 l177
   else
    if x328.Kind=7 then
     (r3_find p_1 1 x328.Name).bind fun r463 =>
     if r463.2=true then
      (r3_word r463.1.Typ).bind fun r476 =>
      (r3_of fu p_1 p_2 l177 x328.X r476).bind fun r487 =>
      r3_block_j3 i174 l177 k_r3_block_l1 r487
     else
      some 7
    else
     ((R3T_run fu).r3_type p_1 p_2 l177 x328.X).bind fun r501 =>
     if r501.2≠0 then
      some r501.2
     else
      if x328.Kind=8 then
       (at_ r501.1 0).bind fun u506 =>
       r3_block_j4 i174 l177 k_r3_block_l1 (decide ((u506.toNat:Int)=61))
      else
       r3_block_j4 i174 l177 k_r3_block_l1 false
def r3_block_l1 (fu:Nat) (self:R3B) (p_1:List TDef) (p_2:TDef) (p_4:List TStat):Nat→Int→(List TYieldref3Name)→Option Int
 | 0,_,_=>none
 | n+1,i174,l177 =>
  if i174<(p_4.length:Int) then
   (at_ p_4 i174).bind fun x328 =>
   if x328.Kind=1 then
    ((R3T_run fu).r3_type p_1 p_2 l177 x328.X).bind fun r356 =>
    if r356.2≠0 then
     some r356.2
    else
     (r3_look fu l177 x328.Name).bind fun r365 =>
     if r365.2=true then
      some 7
     else
      (app l177 [(TYieldref3Name.mk x328.Name r356.1)]).bind fun l372 =>
      (i64 (i174+1)).bind fun i375 =>
      r3_block_l1 fu self p_1 p_2 p_4 n i375 l372
   else
    if x328.Kind=2 then
     (r3_look fu l177 x328.Name).bind fun r386 =>
     if r386.2=true then
      (r3_of fu p_1 p_2 l177 x328.X r386.1).bind fun r395 =>
      if r395≠0 then
       some r395
      else
       (i64 (i174+1)).bind fun i398 =>
       r3_block_l1 fu self p_1 p_2 p_4 n i398 l177
     else
      some 7
    else
     if x328.Kind=3 then
      r3_block_j1 fu self p_1 p_2 i174 l177 x328 (r3_block_l1 fu self p_1 p_2 p_4 n) (decide (x328.Kind=3))
     else
      r3_block_j1 fu self p_1 p_2 i174 l177 x328 (r3_block_l1 fu self p_1 p_2 p_4 n) (decide (x328.Kind=4))
  else
   some 0
def r3_block (fu:Nat) (self:R3B) (p_1:List TDef) (p_2:TDef) (p_3:List TYieldref3Name) (p_4:List TStat):Option Int :=
 (app ([]:List TYieldref3Name) p_3).bind fun l23 =>
 r3_block_l1 fu self p_1 p_2 p_4 (p_4.length+1) 0 l23
def R3B_run:Nat→R3B
 | 0=>⟨fun _ _ _ _=>none⟩
 | n+1=>⟨r3_block n (R3B_run n)⟩
def r3_head_j3  (b229:Bool):Option Int :=
 if b229=true then
  some 9
 else
  some 0
def r3_head_j1 (p_2:TDef) :Option Int :=
 if p_2.Kind=3 then
  if p_2.Takes.Kind=3 then
   r3_head_j3 true
  else
   if p_2.Kind≠4 then
    r3_head_j3 (decide (p_2.Typ.Kind=3))
   else
    r3_head_j3 false
 else
  if p_2.Kind≠4 then
   r3_head_j3 (decide (p_2.Typ.Kind=3))
  else
   r3_head_j3 false
def r3_head_l2 (p_1:List TDef) (i80:Int) (x151:TParam) (l165:List TParam) (k_r3_head_l1:Int→Option Int):Nat→Int→Option Int
 | 0,_=>none
 | n+1,i183 =>
  if i183<(l165.length:Int) then
   (at_ l165 i183).bind fun x198 =>
   if x198.Name=x151.Name then
    some 7
   else
    (i64 (i183+1)).bind fun i209 =>
    r3_head_l2 p_1 i80 x151 l165 k_r3_head_l1 n i209
  else
   if x151.Typ.Kind=3 then
    (r3_find p_1 3 x151.Typ.Gen).bind fun r212 =>
    if r212.2=true then
     (i64 (i80+1)).bind fun i224 =>
     k_r3_head_l1 i224
    else
     some 7
   else
    (i64 (i80+1)).bind fun i226 =>
    k_r3_head_l1 i226
def r3_head_j2 (p_1:List TDef) (p_2:TDef) (i80:Int) (x151:TParam) (k_r3_head_l1:Int→Option Int) (b161:Bool):Option Int :=
 if b161=true then
  r3_head_j1 p_2
 else
  (cut p_2.Params 0 i80).bind fun l165 =>
  r3_head_l2 p_1 i80 x151 l165 k_r3_head_l1 (l165.length+1) 0
def r3_head_l1 (p_1:List TDef) (p_2:TDef):Nat→Int→Option Int
 | 0,_=>none
 | n+1,i80 =>
  if i80<(p_2.Params.length:Int) then
   (at_ p_2.Params i80).bind fun x151 =>
   if p_2.Kind≠2 then
    r3_head_j2 p_1 p_2 i80 x151 (r3_head_l1 p_1 p_2 n) (decide (p_2.Kind≠3))
   else
    r3_head_j2 p_1 p_2 i80 x151 (r3_head_l1 p_1 p_2 n) false
  else
   r3_head_j1 p_2
def r3_head  (p_1:List TDef) (p_2:TDef):Option Int :=
 r3_head_l1 p_1 p_2 (p_2.Params.length+1) 0
def r3_body_j1 (fu:Nat) (p_1:List TDef) (p_2:TDef) (l15:List TYieldref3Name):Option Int :=
 ((R3B_run fu).r3_block p_1 p_2 l15 p_2.Body).bind fun r106 =>
 some r106
def r3_body_j2 (i41:Int) (k_r3_body_l1:Int→(List TYieldref3Name)→Option Int) (l83:List TYieldref3Name):Option Int :=
 (i64 (i41+1)).bind fun i97 =>
 k_r3_body_l1 i97 l83
def r3_body_l1 (fu:Nat) (p_1:List TDef) (p_2:TDef):Nat→Int→(List TYieldref3Name)→Option Int
 | 0,_,_=>none
 | n+1,i41,l44 =>
  if i41<(p_2.Params.length:Int) then
   (at_ p_2.Params i41).bind fun x71 =>
   (r3_word x71.Typ).bind fun r85 =>
   (app l44 [(TYieldref3Name.mk x71.Name r85)]).bind fun l92 =>
   r3_body_j2 i41 (r3_body_l1 fu p_1 p_2 n) l92
  else
   r3_body_j1 fu p_1 p_2 l44
def r3_body (fu:Nat)  (p_1:List TDef) (p_2:TDef):Option Int :=
 if p_2.Kind=1 then
  some 0
 else
  if p_2.Kind≠4 then
   r3_body_l1 fu p_1 p_2 (p_2.Params.length+1) 0 []
  else
   r3_body_j1 fu p_1 p_2 []
end Go.Y
namespace Go.Y
open Go.Wk Go.Xt
structure R3K where
 r3_speaks:TExpr→Int→(List UInt8)→Option Bool
def r3_speaks_l1 (self:R3K) (p_1:TExpr) (p_2:Int) (p_3:List UInt8):Nat→Int→Option Bool
 | 0,_=>none
 | n+1,i28 =>
  if i28<(p_1.Kids.length:Int) then
   (at_ p_1.Kids i28).bind fun x49 =>
   (self.r3_speaks x49 p_2 p_3).bind fun r62 =>
   if r62=true then
    some true
   else
    (i64 (i28+1)).bind fun i66 =>
    r3_speaks_l1 self p_1 p_2 p_3 n i66
  else
   some false
def r3_speaks_j1 (self:R3K) (p_1:TExpr) (p_2:Int) (p_3:List UInt8) (b6:Bool):Option Bool :=
 if b6=true then
  some true
 else
  r3_speaks_l1 self p_1 p_2 p_3 (p_1.Kids.length+1) 0
def r3_speaks (self:R3K) (p_1:TExpr) (p_2:Int) (p_3:List UInt8):Option Bool :=
 if p_1.Kind=p_2 then
  r3_speaks_j1 self p_1 p_2 p_3 (decide (p_1.Name=p_3))
 else
  r3_speaks_j1 self p_1 p_2 p_3 false
def R3K_run:Nat→R3K
 | 0=>⟨fun _ _ _=>none⟩
 | n+1=>⟨r3_speaks (R3K_run n)⟩
structure R3S where
 r3_says:(List TStat)→Int→(List UInt8)→Option Bool
def r3_says_j1 (i92:Int) (k_r3_says_l1:Int→Option Bool) (b196:Bool):Option Bool :=
 if b196=true then
  some true
 else
  (i64 (i92+1)).bind fun i259 =>
  k_r3_says_l1 i259
def r3_says_l1 (fu:Nat) (self:R3S) (p_2:Int) (p_3:List UInt8) (r4:List TStat):Nat→Int→Option Bool
 | 0,_=>none
 | n+1,i92 =>
  if i92<(r4.length:Int) then
   (at_ r4 i92).bind fun x177 =>
   if p_2=0 then
    if x177.Kind=7 then
     if x177.Name=p_3 then
      r3_says_j1 i92 (r3_says_l1 fu self p_2 p_3 r4 n) true
     else
      if (0:Int)<p_2 then
       ((R3K_run fu).r3_speaks x177.X p_2 p_3).bind fun r201 =>
       if r201=true then
        r3_says_j1 i92 (r3_says_l1 fu self p_2 p_3 r4 n) true
       else
        (self.r3_says x177.Body p_2 p_3).bind fun r205 =>
        if r205=true then
         r3_says_j1 i92 (r3_says_l1 fu self p_2 p_3 r4 n) true
        else
         (self.r3_says x177.Else p_2 p_3).bind fun r209 =>
         r3_says_j1 i92 (r3_says_l1 fu self p_2 p_3 r4 n) r209
      else
       (self.r3_says x177.Body p_2 p_3).bind fun r212 =>
       if r212=true then
        r3_says_j1 i92 (r3_says_l1 fu self p_2 p_3 r4 n) true
       else
        (self.r3_says x177.Else p_2 p_3).bind fun r216 =>
        r3_says_j1 i92 (r3_says_l1 fu self p_2 p_3 r4 n) r216
    else
     if (0:Int)<p_2 then
      ((R3K_run fu).r3_speaks x177.X p_2 p_3).bind fun r220 =>
      if r220=true then
       r3_says_j1 i92 (r3_says_l1 fu self p_2 p_3 r4 n) true
      else
       (self.r3_says x177.Body p_2 p_3).bind fun r224 =>
       if r224=true then
        r3_says_j1 i92 (r3_says_l1 fu self p_2 p_3 r4 n) true
       else
        (self.r3_says x177.Else p_2 p_3).bind fun r228 =>
        r3_says_j1 i92 (r3_says_l1 fu self p_2 p_3 r4 n) r228
     else
      (self.r3_says x177.Body p_2 p_3).bind fun r231 =>
      if r231=true then
       r3_says_j1 i92 (r3_says_l1 fu self p_2 p_3 r4 n) true
      else
       (self.r3_says x177.Else p_2 p_3).bind fun r235 =>
       r3_says_j1 i92 (r3_says_l1 fu self p_2 p_3 r4 n) r235
   else
    if (0:Int)<p_2 then
     ((R3K_run fu).r3_speaks x177.X p_2 p_3).bind fun r239 =>
     if r239=true then
      r3_says_j1 i92 (r3_says_l1 fu self p_2 p_3 r4 n) true
     else
      (self.r3_says x177.Body p_2 p_3).bind fun r243 =>
      if r243=true then
       r3_says_j1 i92 (r3_says_l1 fu self p_2 p_3 r4 n) true
      else
       (self.r3_says x177.Else p_2 p_3).bind fun r247 =>
       r3_says_j1 i92 (r3_says_l1 fu self p_2 p_3 r4 n) r247
    else
     (self.r3_says x177.Body p_2 p_3).bind fun r250 =>
     if r250=true then
      r3_says_j1 i92 (r3_says_l1 fu self p_2 p_3 r4 n) true
     else
      (self.r3_says x177.Else p_2 p_3).bind fun r254 =>
      r3_says_j1 i92 (r3_says_l1 fu self p_2 p_3 r4 n) r254
  else
   some false
def r3_says (fu:Nat) (self:R3S) (p_1:List TStat) (p_2:Int) (p_3:List UInt8):Option Bool :=
 ((BareS_run fu).r2_bstats p_1).bind fun r4 =>
 r3_says_l1 fu self p_2 p_3 r4 (r4.length+1) 0
def R3S_run:Nat→R3S
 | 0=>⟨fun _ _ _=>none⟩
 | n+1=>⟨r3_says n (R3S_run n)⟩
def r3_reaches_l3 (i1037:Int) (l1040:List TDef) (x1187:TDef) (k_r3_reaches_l2:Int→(List TDef)→Option (List TDef)):Nat→Bool→Int→Option (List TDef)
 | 0,_,_=>none
 | n+1,b1266,i1267 =>
  if i1267<(l1040.length:Int) then
   (at_ l1040 i1267).bind fun x1296 =>
   if b1266=true then
    (i64 (i1267+1)).bind fun i1319 =>
    r3_reaches_l3 i1037 l1040 x1187 k_r3_reaches_l2 n true i1319
   else
    (i64 (i1267+1)).bind fun i1321 =>
    r3_reaches_l3 i1037 l1040 x1187 k_r3_reaches_l2 n (decide (x1296.Name=x1187.Name)) i1321
  else
   if b1266=true then
    (i64 (i1037+1)).bind fun i1333 =>
    k_r3_reaches_l2 i1333 l1040
   else
    (app l1040 [x1187]).bind fun l1328 =>
    (i64 (i1037+1)).bind fun i1331 =>
    k_r3_reaches_l2 i1331 l1328
def r3_reaches_j1 (i1037:Int) (l1040:List TDef) (x1187:TDef) (k_r3_reaches_l2:Int→(List TDef)→Option (List TDef)) (b1213:Bool):Option (List TDef) :=
 if b1213=true then
  (i64 (i1037+1)).bind fun i1240 =>
  k_r3_reaches_l2 i1240 l1040
 else
  r3_reaches_l3 i1037 l1040 x1187 k_r3_reaches_l2 (l1040.length+1) false 0
def r3_reaches_l2 (fu:Nat) (p_1:List TDef) (i454:Int) (k_r3_reaches_l1:Int→(List TDef)→Option (List TDef)):Nat→Int→(List TDef)→Option (List TDef)
 | 0,_,_=>none
 | n+1,i1037,l1040 =>
  if i1037<(p_1.length:Int) then
   (at_ p_1 i1037).bind fun x1187 =>
   if ((mget (mput (mput ([]:List (Int×Int)) 2 19) 3 22) x1187.Kind).getD 0)=0 then
    r3_reaches_j1 i1037 l1040 x1187 (r3_reaches_l2 fu p_1 i454 k_r3_reaches_l1 n) true
   else
    (at_ l1040 i454).bind fun x1215 =>
    ((R3S_run fu).r3_says x1215.Body ((mget (mput (mput ([]:List (Int×Int)) 2 19) 3 22) x1187.Kind).getD 0) x1187.Name).bind fun r1235 =>
    r3_reaches_j1 i1037 l1040 x1187 (r3_reaches_l2 fu p_1 i454 k_r3_reaches_l1 n) (!r1235)
  else
   (i64 (i454+1)).bind fun i1335 =>
   k_r3_reaches_l1 i1335 l1040
def r3_reaches_l1 (fu:Nat) (p_1:List TDef):Nat→Int→(List TDef)→Option (List TDef)
 | 0,_,_=>none
 | n+1,i454,l457 =>
  if i454<(l457.length:Int) then
   r3_reaches_l2 fu p_1 i454 (r3_reaches_l1 fu p_1 n) (p_1.length+1) 0 l457
  else
   some l457
def r3_reaches (fu:Nat)  (p_1:List TDef) (p_2:List UInt8):Option (List TDef) :=
 (r3_find p_1 4 p_2).bind fun r7 =>
 r3_reaches_l1 fu p_1 fu 0 ([r7.1]:List TDef)
def r3_owners_l2 (p_1:List TDef) (i125:Int) (i126:Int) (k_r3_owners_l1:Int→Int→Option (List TOwner×TFault)):Nat→Int→Option (List TOwner×TFault)
 | 0,_=>none
 | n+1,i269 =>
  if i269<i126 then
   (at_ p_1 i269).bind fun x302 =>
   (at_ p_1 i126).bind fun x316 =>
   if x302.Name=x316.Name then
    some (([]:List TOwner),(TFault.mk 7 i126))
   else
    (i64 (i269+1)).bind fun i331 =>
    r3_owners_l2 p_1 i125 i126 k_r3_owners_l1 n i331
  else
   (at_ p_1 i126).bind fun x333 =>
   if x333.Kind=4 then
    (i64 (i125+1)).bind fun i348 =>
    (i64 (i126+1)).bind fun i350 =>
    k_r3_owners_l1 i348 i350
   else
    (i64 (i126+1)).bind fun i352 =>
    k_r3_owners_l1 i125 i352
def r3_owners_j3 (i869:Int) (x1532:TDef) (i1587:Int) (s1641:List UInt8) (k_r3_owners_l7:Int→(List UInt8)→(List UInt8)→Option (List TOwner×TFault)) (b1652:Bool):Option (List TOwner×TFault) :=
 if b1652=true then
  some (([]:List TOwner),(TFault.mk 8 i869))
 else
  (i64 (i1587+1)).bind fun i1656 =>
  k_r3_owners_l7 i1656 s1641 x1532.Name
def r3_owners_j1 (fu:Nat) (i869:Int) (x1268:TDef) (x1532:TDef) (i1587:Int) (s1589:List UInt8) (x1622:TDef) (k_r3_owners_l7:Int→(List UInt8)→(List UInt8)→Option (List TOwner×TFault)) (s1641:List UInt8):Option (List TOwner×TFault) :=
 ((R3S_run fu).r3_says x1622.Body 20 x1268.Name).bind fun r1648 =>
 if r1648=true then
  if s1589≠[] then
   r3_owners_j3 i869 x1532 i1587 s1641 k_r3_owners_l7 (decide (s1589≠x1532.Name))
  else
   r3_owners_j3 i869 x1532 i1587 s1641 k_r3_owners_l7 false
 else
  (i64 (i1587+1)).bind fun i1658 =>
  k_r3_owners_l7 i1658 s1641 s1589
def r3_owners_j2 (fu:Nat) (i869:Int) (x1268:TDef) (x1532:TDef) (i1587:Int) (s1589:List UInt8) (x1622:TDef) (k_r3_owners_l7:Int→(List UInt8)→(List UInt8)→Option (List TOwner×TFault)) (b1643:Bool):Option (List TOwner×TFault) :=
 if b1643=true then
  some (([]:List TOwner),(TFault.mk 8 i869))
 else
  r3_owners_j1 fu i869 x1268 x1532 i1587 s1589 x1622 k_r3_owners_l7 x1532.Name
def r3_owners_l7 (fu:Nat) (i869:Int) (x1268:TDef) (i1408:Int) (x1532:TDef) (r1551:List TDef) (k_r3_owners_l6:Int→(List UInt8)→(List UInt8)→Option (List TOwner×TFault)):Nat→Int→(List UInt8)→(List UInt8)→Option (List TOwner×TFault)
 | 0,_,_,_=>none
 | n+1,i1587,s1588,s1589 =>
  if i1587<(r1551.length:Int) then
   (at_ r1551 i1587).bind fun x1622 =>
   ((R3S_run fu).r3_says x1622.Body 0 x1268.Name).bind fun r1638 =>
   if r1638=true then
    if s1588≠[] then
     r3_owners_j2 fu i869 x1268 x1532 i1587 s1589 x1622 (r3_owners_l7 fu i869 x1268 i1408 x1532 r1551 k_r3_owners_l6 n) (decide (s1588≠x1532.Name))
    else
     r3_owners_j2 fu i869 x1268 x1532 i1587 s1589 x1622 (r3_owners_l7 fu i869 x1268 i1408 x1532 r1551 k_r3_owners_l6 n) false
   else
    r3_owners_j1 fu i869 x1268 x1532 i1587 s1589 x1622 (r3_owners_l7 fu i869 x1268 i1408 x1532 r1551 k_r3_owners_l6 n) s1588
  else
   (i64 (i1408+1)).bind fun i1660 =>
   k_r3_owners_l6 i1660 s1588 s1589
def r3_owners_l6 (fu:Nat) (p_1:List TDef) (i869:Int) (l872:List TOwner) (x1268:TDef) (k_r3_owners_l5:Int→(List TOwner)→Option (List TOwner×TFault)):Nat→Int→(List UInt8)→(List UInt8)→Option (List TOwner×TFault)
 | 0,_,_,_=>none
 | n+1,i1408,s1409,s1410 =>
  if i1408<(p_1.length:Int) then
   (at_ p_1 i1408).bind fun x1532 =>
   if x1532.Kind≠4 then
    (i64 (i1408+1)).bind fun i1549 =>
    r3_owners_l6 fu p_1 i869 l872 x1268 k_r3_owners_l5 n i1549 s1409 s1410
   else
    (r3_reaches fu p_1 x1532.Name).bind fun r1551 =>
    r3_owners_l7 fu i869 x1268 i1408 x1532 r1551 (r3_owners_l6 fu p_1 i869 l872 x1268 k_r3_owners_l5 n) (r1551.length+1) 0 s1409 s1410
  else
   (app l872 [(TOwner.mk x1268.Name s1409 s1410)]).bind fun l1666 =>
   (i64 (i869+1)).bind fun i1669 =>
   k_r3_owners_l5 i1669 l1666
def r3_owners_l5 (fu:Nat) (p_1:List TDef):Nat→Int→(List TOwner)→Option (List TOwner×TFault)
 | 0,_,_=>none
 | n+1,i869,l872 =>
  if i869<(p_1.length:Int) then
   (at_ p_1 i869).bind fun x1268 =>
   if x1268.Kind≠1 then
    (i64 (i869+1)).bind fun i1285 =>
    r3_owners_l5 fu p_1 n i1285 l872
   else
    r3_owners_l6 fu p_1 i869 l872 x1268 (r3_owners_l5 fu p_1 n) (p_1.length+1) 0 [] []
  else
   some (l872,(TFault.mk 0 0))
def r3_owners_l4 (fu:Nat) (p_1:List TDef):Nat→Int→Option (List TOwner×TFault)
 | 0,_=>none
 | n+1,i435 =>
  if i435<(p_1.length:Int) then
   (at_ p_1 i435).bind fun x457 =>
   (r3_body fu p_1 x457).bind fun r471 =>
   if r471≠0 then
    some (([]:List TOwner),(TFault.mk r471 i435))
   else
    (i64 (i435+1)).bind fun i475 =>
    r3_owners_l4 fu p_1 n i475
  else
   r3_owners_l5 fu p_1 (p_1.length+1) 0 []
def r3_owners_l3 (fu:Nat) (p_1:List TDef):Nat→Int→Option (List TOwner×TFault)
 | 0,_=>none
 | n+1,i374 =>
  if i374<(p_1.length:Int) then
   (at_ p_1 i374).bind fun x396 =>
   (r3_head p_1 x396).bind fun r410 =>
   if r410≠0 then
    some (([]:List TOwner),(TFault.mk r410 i374))
   else
    (i64 (i374+1)).bind fun i414 =>
    r3_owners_l3 fu p_1 n i414
  else
   r3_owners_l4 fu p_1 (p_1.length+1) 0
def r3_owners_l1 (fu:Nat) (p_1:List TDef):Nat→Int→Int→Option (List TOwner×TFault)
 | 0,_,_=>none
 | n+1,i125,i126 =>
  if i126<(p_1.length:Int) then
   r3_owners_l2 p_1 i125 i126 (r3_owners_l1 fu p_1 n) fu 0
  else
   if i125=0 then
    some (([]:List TOwner),(TFault.mk 6 (p_1.length:Int)))
   else
    r3_owners_l3 fu p_1 (p_1.length+1) 0
def r3_owners (fu:Nat)  (p_1:List TDef):Option (List TOwner×TFault) :=
 (r2_wrong fu p_1).bind fun r9 =>
 if r9.Err≠0 then
  some (([]:List TOwner),r9)
 else
  r3_owners_l1 fu p_1 (p_1.length+1) 0 0
end Go.Y
namespace Go.Y
open Go.Wk Go.Xt
structure TEdge where
 Box:List UInt8
 From:List UInt8
 To:List UInt8
 deriving DecidableEq,Inhabited,Repr
instance:Mo TEdge where
 sz:=3
 pos:=by decide
 cs μ l x:=l=[S x.Box,S x.From,S x.To]
 ln h:=by obtain rfl:=h; rfl
 up le h:=by exact h
 cv h:=by obtain rfl:=h; rfl
def gr_names_l1 (p_1:List TDef):Nat→Int→(List (List UInt8))→Option (List (List UInt8))
 | 0,_,_=>none
 | n+1,i37,l40 =>
  if i37<(p_1.length:Int) then
   (at_ p_1 i37).bind fun x74 =>
   if x74.Kind=4 then
    (app l40 [x74.Name]).bind fun l95 =>
    (i64 (i37+1)).bind fun i98 =>
    gr_names_l1 p_1 n i98 l95
   else
    (i64 (i37+1)).bind fun i100 =>
    gr_names_l1 p_1 n i100 l40
  else
   some l40
def gr_names  (p_1:List TDef):Option (List (List UInt8)) :=
 gr_names_l1 p_1 (p_1.length+1) 0 []
def gr_edges_j1 (i44:Int) (l47:List TEdge) (x77:TOwner) (k_gr_edges_l1:Int→(List TEdge)→Option (List TEdge×TFault)) (b87:Bool):Option (List TEdge×TFault) :=
 if b87=true then
  (app l47 [(TEdge.mk x77.Box x77.Writer x77.Reader)]).bind fun l95 =>
  (i64 (i44+1)).bind fun i98 =>
  k_gr_edges_l1 i98 l95
 else
  (i64 (i44+1)).bind fun i100 =>
  k_gr_edges_l1 i100 l47
def gr_edges_l1 (r9:List TOwner×TFault):Nat→Int→(List TEdge)→Option (List TEdge×TFault)
 | 0,_,_=>none
 | n+1,i44,l47 =>
  if i44<(r9.1.length:Int) then
   (at_ r9.1 i44).bind fun x77 =>
   if x77.Writer≠[] then
    gr_edges_j1 i44 l47 x77 (gr_edges_l1 r9 n) (decide (x77.Reader≠[]))
   else
    gr_edges_j1 i44 l47 x77 (gr_edges_l1 r9 n) false
  else
   some (l47,r9.2)
def gr_edges (fu:Nat)  (p_1:List TDef):Option (List TEdge×TFault) :=
 (sema_owners fu p_1).bind fun r9 =>
 if r9.2.Err≠0 then
  some (([]:List TEdge),r9.2)
 else
  gr_edges_l1 r9 (r9.1.length+1) 0 []
def idxf_e_l1 (p_1:List TEdge) (p_2:TEdge→Option Bool):Nat→Int→Option Int
 | 0,_=>none
 | n+1,i20 =>
  if i20<(p_1.length:Int) then
   (at_ p_1 i20).bind fun x37 =>
   (p_2 x37).bind fun b45 =>
   if b45=true then
    some i20
   else
    (i64 (i20+1)).bind fun i49 =>
    idxf_e_l1 p_1 p_2 n i49
  else
   some (-1)
def idxf_e  (p_1:List TEdge) (p_2:TEdge→Option Bool):Option Int :=
 idxf_e_l1 p_1 p_2 (p_1.length+1) 0
def conf_e  (p_1:List TEdge) (p_2:TEdge→Option Bool):Option Bool :=
 (idxf_e p_1 p_2).bind fun r7 =>
 some (decide ((0:Int)≤r7))
def idxf_s_l1 (p_1:List (List UInt8)) (p_2:(List UInt8)→Option Bool):Nat→Int→Option Int
 | 0,_=>none
 | n+1,i20 =>
  if i20<(p_1.length:Int) then
   (at_ p_1 i20).bind fun x37 =>
   (p_2 x37).bind fun b45 =>
   if b45=true then
    some i20
   else
    (i64 (i20+1)).bind fun i49 =>
    idxf_s_l1 p_1 p_2 n i49
  else
   some (-1)
def idxf_s  (p_1:List (List UInt8)) (p_2:(List UInt8)→Option Bool):Option Int :=
 idxf_s_l1 p_1 p_2 (p_1.length+1) 0
def gr_o11  (p_1:TEdge) (p_2:List UInt8) (p_3:List (List UInt8)):Option Bool :=
 if p_1.To=p_2 then
  some (p_3.contains p_1.From)
 else
  some false
def gr_o1  (p_1:List UInt8) (p_2:List TEdge) (p_3:List (List UInt8)):Option Bool :=
 (conf_e p_2 (fun x_=>gr_o11 x_ p_1 p_3)).bind fun r17 =>
 some (!r17)
def gr_order_j1 (r14:List TEdge×TFault) :Option (List (List UInt8)×List (List UInt8)×TFault) :=
 some (([]:List (List UInt8)),([]:List (List UInt8)),r14.2)
def gr_order_j2 (r14:List TEdge×TFault) (l74:List (List UInt8)) (l78:List (List UInt8)) :Option (List (List UInt8)×List (List UInt8)×TFault) :=
 some (l78,l74,r14.2)
def gr_order_l1 (r14:List TEdge×TFault):Nat→(List (List UInt8))→(List (List UInt8))→Option (List (List UInt8)×List (List UInt8)×TFault)
 | 0,_,_=>none
 | n+1,l74,l78 =>
  (idxf_s l74 (fun x_=>gr_o1 x_ r14.1 l74)).bind fun r133 =>
  if r133<0 then
   gr_order_j2 r14 l74 l78
  else
   (at_ l74 r133).bind fun x147 =>
   (app l78 [x147]).bind fun l165 =>
   (i64 (r133+1)).bind fun i168 =>
   (del_ l74 r133 i168).bind fun l170 =>
   gr_order_l1 r14 n l170 l165
def gr_order (fu:Nat)  (p_1:List TDef):Option (List (List UInt8)×List (List UInt8)×TFault) :=
 (gr_edges fu p_1).bind fun r14 =>
 if r14.2.Err≠0 then
  gr_order_j1 r14
 else
  (gr_names p_1).bind fun r24 =>
  gr_order_l1 r14 fu r24 []
end Go.Y
namespace Go.Y
open Go.Wk Go.Xt
def r15_edges_j1 (i44:Int) (l47:List TEdge) (x77:TOwner) (k_r15_edges_l1:Int→(List TEdge)→Option (List TEdge×TFault)) (b87:Bool):Option (List TEdge×TFault) :=
 if b87=true then
  (app l47 [(TEdge.mk x77.Box x77.Writer x77.Reader)]).bind fun l95 =>
  (i64 (i44+1)).bind fun i98 =>
  k_r15_edges_l1 i98 l95
 else
  (i64 (i44+1)).bind fun i100 =>
  k_r15_edges_l1 i100 l47
def r15_edges_l1 (r9:List TOwner×TFault):Nat→Int→(List TEdge)→Option (List TEdge×TFault)
 | 0,_,_=>none
 | n+1,i44,l47 =>
  if i44<(r9.1.length:Int) then
   (at_ r9.1 i44).bind fun x77 =>
   if (0:Int)<(x77.Writer.length:Int) then
    r15_edges_j1 i44 l47 x77 (r15_edges_l1 r9 n) (decide ((0:Int)<(x77.Reader.length:Int)))
   else
    r15_edges_j1 i44 l47 x77 (r15_edges_l1 r9 n) false
  else
   some (l47,r9.2)
def r15_edges (fu:Nat)  (p_1:List TDef):Option (List TEdge×TFault) :=
 (r3_owners fu p_1).bind fun r9 =>
 if r9.2.Err≠0 then
  some (([]:List TEdge),r9.2)
 else
  r15_edges_l1 r9 (r9.1.length+1) 0 []
def r15_has_l1 (p_1:List (List UInt8)) (p_2:List UInt8):Nat→Int→Option Bool
 | 0,_=>none
 | n+1,i14 =>
  if i14<(p_1.length:Int) then
   (at_ p_1 i14).bind fun x27 =>
   if x27=p_2 then
    some true
   else
    (i64 (i14+1)).bind fun i36 =>
    r15_has_l1 p_1 p_2 n i36
  else
   some false
def r15_has  (p_1:List (List UInt8)) (p_2:List UInt8):Option Bool :=
 r15_has_l1 p_1 p_2 (p_1.length+1) 0
def r15_order_l3 (r12:List TEdge×TFault) (b959:Bool) (i960:Int) (l963:List (List UInt8)) (l967:List (List UInt8)) (x1103:TDef) (k_r15_order_l2:Bool→Int→(List (List UInt8))→(List (List UInt8))→Option (List (List UInt8)×List (List UInt8)×TFault)):Nat→Bool→Int→Option (List (List UInt8)×List (List UInt8)×TFault)
 | 0,_,_=>none
 | n+1,b1160,i1161 =>
  if i1161<(r12.1.length:Int) then
   (at_ r12.1 i1161).bind fun x1189 =>
   if b1160=true then
    if x1189.To≠x1103.Name then
     (i64 (i1161+1)).bind fun i1201 =>
     r15_order_l3 r12 b959 i960 l963 l967 x1103 k_r15_order_l2 n true i1201
    else
     (r15_has l963 x1189.From).bind fun r1211 =>
     (i64 (i1161+1)).bind fun i1213 =>
     r15_order_l3 r12 b959 i960 l963 l967 x1103 k_r15_order_l2 n r1211 i1213
   else
    (i64 (i1161+1)).bind fun i1215 =>
    r15_order_l3 r12 b959 i960 l963 l967 x1103 k_r15_order_l2 n false i1215
  else
   if b1160=true then
    (app l963 [x1103.Name]).bind fun l1222 =>
    (i64 (i960+1)).bind fun i1225 =>
    k_r15_order_l2 true i1225 l1222 l967
   else
    (app l967 [x1103.Name]).bind fun l1231 =>
    (i64 (i960+1)).bind fun i1234 =>
    k_r15_order_l2 b959 i1234 l963 l1231
def r15_order_j1 (r12:List TEdge×TFault) (b959:Bool) (i960:Int) (l963:List (List UInt8)) (l967:List (List UInt8)) (x1103:TDef) (k_r15_order_l2:Bool→Int→(List (List UInt8))→(List (List UInt8))→Option (List (List UInt8)×List (List UInt8)×TFault)) (b1119:Bool):Option (List (List UInt8)×List (List UInt8)×TFault) :=
 if b1119=true then
  (i64 (i960+1)).bind fun i1133 =>
  k_r15_order_l2 b959 i1133 l963 l967
 else
  r15_order_l3 r12 b959 i960 l963 l967 x1103 k_r15_order_l2 (r12.1.length+1) (!b959) 0
def r15_order_l2 (p_1:List TDef) (r12:List TEdge×TFault) (k_r15_order_l1:Bool→(List (List UInt8))→(List (List UInt8))→Option (List (List UInt8)×List (List UInt8)×TFault)):Nat→Bool→Int→(List (List UInt8))→(List (List UInt8))→Option (List (List UInt8)×List (List UInt8)×TFault)
 | 0,_,_,_,_=>none
 | n+1,b959,i960,l963,l967 =>
  if i960<(p_1.length:Int) then
   (at_ p_1 i960).bind fun x1103 =>
   if x1103.Kind≠4 then
    r15_order_j1 r12 b959 i960 l963 l967 x1103 (r15_order_l2 p_1 r12 k_r15_order_l1 n) true
   else
    (r15_has l963 x1103.Name).bind fun r1129 =>
    r15_order_j1 r12 b959 i960 l963 l967 x1103 (r15_order_l2 p_1 r12 k_r15_order_l1 n) r1129
  else
   k_r15_order_l1 b959 l963 l967
def r15_order_l1 (p_1:List TDef) (r12:List TEdge×TFault):Nat→Bool→(List (List UInt8))→(List (List UInt8))→Option (List (List UInt8)×List (List UInt8)×TFault)
 | 0,_,_,_=>none
 | n+1,b412,l415,l419 =>
  if b412=true then
   r15_order_l2 p_1 r12 (r15_order_l1 p_1 r12 n) (p_1.length+1) false 0 l415 []
  else
   some (l415,l419,r12.2)
def r15_order (fu:Nat)  (p_1:List TDef):Option (List (List UInt8)×List (List UInt8)×TFault) :=
 (r15_edges fu p_1).bind fun r12 =>
 if r12.2.Err≠0 then
  some (([]:List (List UInt8)),([]:List (List UInt8)),r12.2)
 else
  r15_order_l1 p_1 r12 fu true [] []
def l15_same_l1 (p_1:List (List UInt8)) (p_2:List (List UInt8)):Nat→Int→Option Bool
 | 0,_=>none
 | n+1,i26 =>
  if i26<(p_1.length:Int) then
   (at_ p_1 i26).bind fun x47 =>
   (at_ p_2 i26).bind fun x55 =>
   if x47≠x55 then
    some false
   else
    (i64 (i26+1)).bind fun i65 =>
    l15_same_l1 p_1 p_2 n i65
  else
   some true
def l15_same  (p_1:List (List UInt8)) (p_2:List (List UInt8)):Option Bool :=
 if (p_1.length:Int)≠(p_2.length:Int) then
  some false
 else
  l15_same_l1 p_1 p_2 (p_1.length+1) 0
def law_gtells_l1 (fu:Nat) (p_1:List TDef) (r4:List TEdge×TFault) (r12:List TEdge×TFault):Nat→Int→Option Bool
 | 0,_=>none
 | n+1,i42 =>
  if i42<(r4.1.length:Int) then
   (at_ r4.1 i42).bind fun x63 =>
   (at_ r12.1 i42).bind fun x71 =>
   if (andL [(decide (x63.Box=x71.Box)),(decide (x63.From=x71.From)),(decide (x63.To=x71.To))])=true then
    (i64 (i42+1)).bind fun i80 =>
    law_gtells_l1 fu p_1 r4 r12 n i80
   else
    some false
  else
   (gr_order fu p_1).bind fun r82 =>
   (r15_order fu p_1).bind fun r91 =>
   if (andL [(decide (r82.2.2.Err=r91.2.2.Err)),(decide (r82.2.2.At=r91.2.2.At))])=true then
    (l15_same r82.1 r91.1).bind fun r101 =>
    if r101=true then
     (l15_same r82.2.1 r91.2.1).bind fun r105 =>
     some r105
    else
     some false
   else
    some false
def law_gtells_j1 (fu:Nat) (p_1:List TDef) (r4:List TEdge×TFault) (r12:List TEdge×TFault) (b20:Bool):Option Bool :=
 if b20=true then
  some false
 else
  law_gtells_l1 fu p_1 r4 r12 (r4.1.length+1) 0
def law_gtells (fu:Nat)  (p_1:List TDef):Option Bool :=
 (gr_edges fu p_1).bind fun r4 =>
 (r15_edges fu p_1).bind fun r12 =>
 if (andL [(decide (r4.2.Err=r12.2.Err)),(decide (r4.2.At=r12.2.At))])=true then
  law_gtells_j1 fu p_1 r4 r12 (decide ((r4.1.length:Int)≠(r12.1.length:Int)))
 else
  law_gtells_j1 fu p_1 r4 r12 true
end Go.Y
namespace Go.Y
open Go.Wk Go.Xt
theorem i64_ok {n:Int} (h:-9223372036854775808≤n∧n≤9223372036854775807):i64 n=some n:=if_pos h
theorem bS {α β:Type} {x:α} {f:α→Option β}:Option.bind (some x) f=f x:=rfl
theorem at_nat {α:Type} {l:List α} {i:Nat}:at_ l (i:Int)=l[i]?:=by simp [at_]
theorem at_0 {α:Type} {l:List α} (h:0<l.length):at_ l 0=some l[0]:=by simp [at_,h]
theorem at_1 {α:Type} {l:List α} (h:1<l.length):at_ l 1=some l[1]:=by simp [at_,h]
theorem lx_letter_t (c:UInt8):∃ b,lx_letter c=some b:=by
 unfold lx_letter
 split
 ·split <;> exact ⟨_,rfl⟩
 ·exact ⟨_,rfl⟩
theorem lx_digit_t (c:UInt8):∃ b,lx_digit c=some b:=by
 unfold lx_digit
 split <;> exact ⟨_,rfl⟩
theorem lx_n1_t (c:UInt8):∃ b,lx_n1 c=some b:=by
 obtain ⟨a,ha⟩:=lx_letter_t c
 obtain ⟨b,hb⟩:=lx_digit_t c
 unfold lx_n1
 rw [ha,bS,hb,bS]
 split <;> exact ⟨_,rfl⟩
theorem lx_while_t (l:List UInt8) (p:UInt8→Option Bool) (hp:∀ c,∃ b,p c=some b) (hl:l.length≤65536):∀ (n i:Nat),i≤l.length→l.length<n+i→∃ r,lx_while_l1 l p n (i:Int)=some r
 | 0,i,h1,h2=>by omega
 | n+1,i,h1,h2=>by
  rw [lx_while_l1]
  by_cases c:i<l.length
  ·obtain ⟨b,hb⟩:=hp l[i]
   rw [if_pos (by omega),at_nat,List.getElem?_eq_getElem c,bS,hb,bS]
   cases b with
   | true=>rw [lx_while_j1,if_pos rfl,i64_ok (by omega),bS]; exact lx_while_t l p hp hl n (i+1) c (by omega)
   | false=>exact ⟨_,rfl⟩
  ·rw [if_neg (by omega)]
   exact ⟨_,rfl⟩
theorem lex_named_t (fu:Nat) (hf:20≤fu) (s:List UInt8):∃ b,lex_named fu s=some b:=by
 have hj:∀ b,(b=true∨s.length≤12)→∃ r,lex_named_j1 fu s b=some r:=by
  intro b hb
  cases b with
  | true=>exact ⟨_,rfl⟩
  | false =>
   have hs:s.length≤12:=by simpa using hb
   obtain ⟨r,hr⟩:=lx_while_t s lx_n1 lx_n1_t (by omega) fu 0 (by omega) (by omega)
   have hr2:lx_while fu s lx_n1=some r:=hr
   exact ⟨_,by rw [lex_named_j1,if_neg (by decide),hr2,bS]⟩
 rw [lex_named]
 by_cases h1:(s.length:Int)<1
 ·rw [if_pos h1]; exact hj _ (.inl rfl)
 ·rw [if_neg h1]
  by_cases h2:(12:Int)<s.length
  ·rw [if_pos h2]; exact hj _ (.inl rfl)
  ·have h0:0<s.length:=by omega
   obtain ⟨b,hb⟩:=lx_letter_t s[0]
   rw [if_neg h2,at_0 h0,bS,hb,bS]
   cases b with
   | false=>rw [if_neg (by decide)]; exact hj _ (.inl rfl)
   | true =>
    rw [if_pos rfl,cat,if_pos (by simp; omega),bS,cat,if_pos (by simp; omega),bS,scont,if_pos (by decide +kernel),bS]
    exact hj _ (.inr (by omega))
def kidN (k:Int):Int:=if k≤3∨k=20 then 0 else if k≤5∨k=21∨k=24 then 1 else if k≤18∨k=23 then 2 else -1
theorem syn_kids_t (k:Int):syn_kids k=some (kidN k):=by
 unfold syn_kids kidN
 by_cases h1:k≤3
 ·rw [if_pos h1,if_pos (.inl h1)]; rfl
 ·rw [if_neg h1]
  by_cases h2:k=20
  ·rw [decide_eq_true h2,if_pos (.inr h2)]; rfl
  ·rw [decide_eq_false h2,syn_kids_j1,if_neg (by decide),if_neg (show ¬ (k≤3∨k=20) by omega)]
   by_cases h3:k≤5
   ·rw [if_pos h3,if_pos (.inl h3)]; rfl
   ·rw [if_neg h3]
    by_cases h4:k=21
    ·rw [if_pos h4,if_pos (.inr (.inl h4))]; rfl
    ·rw [if_neg h4]
     by_cases h5:k=24
     ·rw [decide_eq_true h5,if_pos (.inr (.inr h5))]; rfl
     ·rw [decide_eq_false h5,syn_kids_j2,if_neg (by decide),if_neg (show ¬ (k≤5∨k=21∨k=24) by omega)]
      by_cases h6:k≤18
      ·rw [if_pos h6,if_pos (.inl h6)]; rfl
      ·rw [if_neg h6]
       by_cases h7:k=23
       ·rw [decide_eq_true h7,if_pos (.inr h7)]; rfl
       ·rw [decide_eq_false h7,if_neg (show ¬ (k≤18∨k=23) by omega)]; rfl
theorem syn_node_t (node d:Int) (h0:0≤node) (h1:node≤4294967296):∃ e,syn_node node d=some (e,node+1)∧(e=0→node+1≤2000∧d≤40):=by
 unfold syn_node
 rw [i64_ok (by omega),bS]
 by_cases c:2000<node+1
 ·rw [if_pos c]; exact ⟨4,rfl,fun h=>absurd h (by decide)⟩
 ·rw [if_neg c]
  by_cases e:40<d
  ·rw [decide_eq_true e]; exact ⟨4,rfl,fun h=>absurd h (by decide)⟩
  ·rw [decide_eq_false e]; exact ⟨0,rfl,fun _=>⟨by omega,by omega⟩⟩
structure KidsOk (x:TExpr):Prop where
 eq:0≤kidN x.Kind→(x.Kids.length:Int)=kidN x.Kind
 le:x.Kids.length≤6
def OkE:Nat→TExpr→Prop
 | 0,_=>False
 | k+1,x=>1≤x.Kind∧x.Kind≤24∧KidsOk x∧∀ y ∈ x.Kids,OkE k y
def nE:Nat→TExpr→Nat
 | 0,_=>0
 | k+1,x=>1+(x.Kids.map (nE k)).sum
theorem kidN_le (k:Int):kidN k≤2:=by
 unfold kidN
 split
 ·decide
 ·split
  ·decide
  ·split <;> decide
theorem syn_expr_t:∀ (n:Nat) (x:TExpr) (d node:Int),62≤n+d→0≤d→d≤41→0≤node→node≤2000 →
  ∃ e k,(SynExpr_run n).syn_expr node x d=some (e,k)∧node≤k∧(e=0→k≤2000∧OkE (41 - d).toNat x∧k=node+(nE (41 - d).toNat x:Nat)):=by
 intro n
 induction n with
 | zero=>intro x d node h0 h1 h2; omega
 | succ n ih =>
  intro x d node h0 h1 h2 h3 h4
  show ∃ e k,syn_expr n (SynExpr_run n) node x d=some (e,k)∧_
  obtain ⟨b,hb⟩:=lex_named_t n (by omega) x.Name
  obtain ⟨e,hn,he⟩:=syn_node_t node d h3 (by omega)
  rw [syn_expr,hn,bS]
  by_cases c:e=0
  ·subst c
   obtain ⟨hk,hd⟩:=he rfl
   rw [if_neg (by simp)]
   have hD:(41 - d).toNat=(40 - d).toNat+1:=by omega
   rw [hD]
   generalize hP:(fun o:Option (Int×Int)=>∃ e k,o=some (e,k)∧node≤k∧(e=0→k≤2000∧OkE ((40 - d).toNat+1) x∧k=node+(nE ((40 - d).toNat+1) x:Nat)))=P
   have bad:∀ e:Int,e≠0→P (some (e,node+1)):=fun e h=>by rw [← hP]; exact ⟨e,_,rfl,by omega,fun h'=>absurd h' h⟩
   have L:x.Kids.length≤6→∀ (m i:Nat) (c:Int),i≤x.Kids.length→x.Kids.length<m+i→0≤c→c≤2000 →
     ∃ e k,syn_expr_l1 (SynExpr_run n) x d m i c=some (e,k)∧c≤k∧(e=0→k≤2000∧(∀ y ∈ x.Kids.drop i,OkE (40 - d).toNat y)∧k=c+(((x.Kids.drop i).map (nE (40 - d).toNat)).sum:Nat)):=by
    intro hl m
    induction m with
    | zero=>intro i c h1 h2; omega
    | succ m ihm =>
     intro i c g1 g2 g3 g4
     rw [syn_expr_l1]
     by_cases q:i<x.Kids.length
     ·obtain ⟨e,k,e1,e2,e3⟩:=ih x.Kids[i] (d+1) c (by omega) (by omega) (by omega) g3 g4
      rw [if_pos (by omega),at_nat,List.getElem?_eq_getElem q,bS,i64_ok (by omega),bS,e1,bS]
      by_cases z:e=0
      ·subst z
       obtain ⟨f1,f2,f3⟩:=e3 rfl
       rw [if_neg (by simp),i64_ok (by omega),bS]
       obtain ⟨e',k',r1,r2,r3⟩:=ihm (i+1) k q (by omega) (by omega) f1
       refine ⟨e',k',r1,by omega,fun hz=>?_⟩
       obtain ⟨s1,s2,s3⟩:=r3 hz
       have hd':(41 - (d+1)).toNat=(40 - d).toNat:=by omega
       rw [hd'] at f2 f3
       refine ⟨s1,fun y hy=>?_,?_⟩
       ·rw [List.drop_eq_getElem_cons q] at hy
        rcases List.mem_cons.1 hy with rfl | hy
        ·exact f2
        ·exact s2 y hy
       ·rw [List.drop_eq_getElem_cons q,List.map_cons,List.sum_cons]
        omega
      ·rw [if_pos z]
       exact ⟨e,k,rfl,e2,fun h=>absurd h z⟩
     ·rw [if_neg (by omega),List.drop_eq_nil_of_le (by omega)]
      exact ⟨0,c,rfl,by omega,fun _=>⟨g4,by simp,by simp⟩⟩
   by_cases kd:1≤x.Kind∧x.Kind≤24
   ·have J6:∀ b,(b=false→KidsOk x)→P (syn_expr_j6 (SynExpr_run n) x d (0,node+1) b):=by
     intro b h
     cases b with
     | true=>exact bad 5 (by decide)
     | false =>
      have hk':=h rfl
      rw [syn_expr_j6,if_neg (by decide),← hP]
      obtain ⟨e,k,r1,r2,r3⟩:=L hk'.le (x.Kids.length+1) 0 (node+1) (by omega) (by omega) (by omega) (by omega)
      refine ⟨e,k,r1,by omega,fun hz=>?_⟩
      obtain ⟨s1,s2,s3⟩:=r3 hz
      rw [List.drop_zero] at s2 s3
      exact ⟨s1,⟨kd.1,kd.2,hk',s2⟩,by rw [nE]; omega⟩
    have kl:=kidN_le x.Kind
    have J5:∀ b,(b=false→0≤kidN x.Kind→(x.Kids.length:Int)=kidN x.Kind)→P (syn_expr_j5 (SynExpr_run n) x d (0,node+1) (kidN x.Kind) b):=by
     intro b h
     cases b with
     | true=>rw [syn_expr_j5,if_pos rfl]; exact J6 _ (fun h=>absurd h (by decide))
     | false =>
      rw [syn_expr_j5,if_neg (by decide)]
      by_cases q:kidN x.Kind<0
      ·rw [if_pos q]
       exact J6 _ fun hd=>⟨h rfl,by have:=of_decide_eq_false hd; omega⟩
      ·rw [if_neg q]
       exact J6 _ fun _=>⟨h rfl,by have:=h rfl (by omega); omega⟩
    have J4:∀ b,P (syn_expr_j4 (SynExpr_run n) x d (0,node+1) (kidN x.Kind) b):=by
     intro b
     cases b with
     | true=>exact bad 7 (by decide)
     | false =>
      rw [syn_expr_j4,if_neg (by decide)]
      by_cases q:0≤kidN x.Kind
      ·rw [if_pos q]
       exact J5 _ fun hd _=>by have:=of_decide_eq_false hd; omega
      ·rw [if_neg q]
       exact J5 _ fun _ h=>absurd h q
    have J3:∀ b,P (syn_expr_j3 n (SynExpr_run n) x d (0,node+1) (kidN x.Kind) b):=by
     intro b'
     cases b' with
     | true=>exact bad 3 (by decide)
     | false =>
      rw [syn_expr_j3,if_neg (by decide),hb]
      simp only [bS]
      split
      ·exact J4 _
      ·split
       ·exact J4 _
       ·split <;> exact J4 _
    have J2:∀ b,P (syn_expr_j2 n (SynExpr_run n) x d (0,node+1) (kidN x.Kind) b):=by
     intro b'
     unfold syn_expr_j2
     split
     ·exact J3 _
     ·split
      ·split <;> exact J3 _
      ·exact J3 _
    have J1:∀ b,P (syn_expr_j1 n (SynExpr_run n) x d (0,node+1) b):=by
     intro b'
     cases b' with
     | true=>exact bad 1 (by decide)
     | false =>
      rw [syn_expr_j1,if_neg (by decide),syn_kids_t,bS]
      split
      ·split <;> exact J2 _
      ·exact J2 _
    have G:P (if x.Kind<1 then syn_expr_j1 n (SynExpr_run n) x d (0,node+1) true else syn_expr_j1 n (SynExpr_run n) x d (0,node+1) (decide ((24:Int)<x.Kind))):=by
     split <;> exact J1 _
    rw [← hP] at G
    exact G
   ·have G:P (if x.Kind<1 then syn_expr_j1 n (SynExpr_run n) x d (0,node+1) true else syn_expr_j1 n (SynExpr_run n) x d (0,node+1) (decide ((24:Int)<x.Kind))):=by
     split
     ·exact bad 1 (by decide)
     ·rw [decide_eq_true (show 24<x.Kind by omega)]
      exact bad 1 (by decide)
    rw [← hP] at G
    exact G
  ·rw [if_pos c]
   exact ⟨e,_,rfl,by omega,fun h=>absurd h c⟩
def OkS:Nat→TStat→Prop
 | 0,_=>False
 | k+1,s=>1≤s.Kind∧s.Kind≤9∧(s.Kind≠6→OkE k s.X)∧((s.Kind=3∨s.Kind=4)→s.Body.length≤50∧∀ y ∈ s.Body,OkS k y)∧(s.Kind=3→s.Else.length≤50∧∀ y ∈ s.Else,OkS k y)
def nS:Nat→TStat→Nat
 | 0,_=>0
 | k+1,s=>1+(if s.Kind=6 then 0 else nE k s.X)+(if s.Kind=3∨s.Kind=4 then (s.Body.map (nS k)).sum else 0)+(if s.Kind=3 then (s.Else.map (nS k)).sum else 0)
theorem syn_stat_t:∀ (n:Nat),(∀ (l:List TStat) (d node:Int),2*(42 - d)+65≤n→0≤d→d≤41→0≤node→node≤2000 →
   ∃ e k,(SynStat_run n).syn_stats node l d=some (e,k)∧node≤k∧(e=0→k≤2000∧(l.length≤50∧∀ y ∈ l,OkS (41 - d).toNat y)∧k=node+((l.map (nS (41 - d).toNat)).sum:Nat))) ∧
  (∀ (x:TStat) (d node:Int),2*(42 - d)+64≤n→0≤d→d≤41→0≤node→node≤2000 →
   ∃ e k,(SynStat_run n).syn_stat node x d=some (e,k)∧node≤k∧(e=0→k≤2000∧OkS (41 - d).toNat x∧k=node+(nS (41 - d).toNat x:Nat))):=by
 intro n
 induction n with
 | zero=>exact ⟨fun l d node h0 h1 h2=>by omega,fun l d node h0 h1 h2=>by omega⟩
 | succ n ih =>
  obtain ⟨ihl,ihs⟩:=ih
  refine ⟨fun l d node h0 h1 h2 h3 h4=>?_,fun x d node h0 h1 h2 h3 h4=>?_⟩
  ·show ∃ e k,syn_stats (SynStat_run n) node l d=some (e,k)∧_
   rw [syn_stats]
   by_cases hl:(50:Int)<l.length
   ·rw [if_pos hl]; exact ⟨5,node,rfl,by omega,fun h=>absurd h (by decide)⟩
   ·rw [if_neg hl]
    have L:∀ (m i:Nat) (c:Int),i≤l.length→l.length<m+i→0≤c→c≤2000 →
      ∃ e k,syn_stats_l1 (SynStat_run n) l d m i c=some (e,k)∧c≤k∧(e=0→k≤2000∧(∀ y ∈ l.drop i,OkS (41 - d).toNat y)∧k=c+(((l.drop i).map (nS (41 - d).toNat)).sum:Nat)):=by
     intro m
     induction m with
     | zero=>intro i c h1 h2; omega
     | succ m ihm =>
      intro i c g1 g2 g3 g4
      rw [syn_stats_l1]
      by_cases q:i<l.length
      ·obtain ⟨e,k,e1,e2,e3⟩:=ihs l[i] d c (by omega) h1 h2 g3 g4
       rw [if_pos (by omega),at_nat,List.getElem?_eq_getElem q,bS,e1,bS]
       by_cases z:e=0
       ·subst z
        obtain ⟨f1,f2,f3⟩:=e3 rfl
        rw [if_neg (by simp),i64_ok (by omega),bS]
        obtain ⟨e',k',r1,r2,r3⟩:=ihm (i+1) k q (by omega) (by omega) f1
        refine ⟨e',k',r1,by omega,fun hz=>?_⟩
        obtain ⟨s1,s2,s3⟩:=r3 hz
        refine ⟨s1,fun y hy=>?_,?_⟩
        ·rw [List.drop_eq_getElem_cons q] at hy
         rcases List.mem_cons.1 hy with rfl | hy
         ·exact f2
         ·exact s2 y hy
        ·rw [List.drop_eq_getElem_cons q,List.map_cons,List.sum_cons]
         omega
       ·rw [if_pos z]
        exact ⟨e,k,rfl,e2,fun h=>absurd h z⟩
      ·rw [if_neg (by omega),List.drop_eq_nil_of_le (by omega)]
       exact ⟨0,c,rfl,by omega,fun _=>⟨g4,by simp,by simp⟩⟩
    obtain ⟨e,k,r1,r2,r3⟩:=L (l.length+1) 0 node (by omega) (by omega) h3 h4
    refine ⟨e,k,r1,r2,fun hz=>?_⟩
    obtain ⟨s1,s2,s3⟩:=r3 hz
    rw [List.drop_zero] at s2 s3
    exact ⟨s1,⟨by omega,s2⟩,s3⟩
  ·show ∃ e k,syn_stat n (SynStat_run n) node x d=some (e,k)∧_
   obtain ⟨b,hb⟩:=lex_named_t n (by omega) x.Name
   obtain ⟨e,hn,he⟩:=syn_node_t node d h3 (by omega)
   rw [syn_stat,hn,bS]
   by_cases c:e=0
   ·subst c
    obtain ⟨hk,hd⟩:=he rfl
    rw [if_neg (by simp)]
    have hD:(41 - d).toNat=(40 - d).toNat+1:=by omega
    have hD':(41 - (d+1)).toNat=(40 - d).toNat:=by omega
    rw [hD]
    generalize hP:(fun o:Option (Int×Int)=>∃ e k,o=some (e,k)∧node≤k∧(e=0→k≤2000∧OkS ((40 - d).toNat+1) x∧k=node+(nS ((40 - d).toNat+1) x:Nat)))=P
    have bad:∀ e c:Int,e≠0→node≤c→P (some (e,c)):=fun e c h hc=>by rw [← hP]; exact ⟨e,_,rfl,hc,fun h'=>absurd h' h⟩
    have kids:=fun (l:List TStat) (c:Int) (hc:node≤c) (hc':c≤2000)=>ihl l (d+1) c (by omega) (by omega) (by omega) (by omega) hc'
    rw [hD'] at kids
    have G:P (if x.Kind<1 then syn_stat_j1 n (SynStat_run n) x d (0,node+1) true else syn_stat_j1 n (SynStat_run n) x d (0,node+1) (decide ((9:Int)<x.Kind))):=by
     by_cases kd:1≤x.Kind∧x.Kind≤9
     ·have J4:∀ (c:Int),node≤c→c≤2000→x.Kind≠6→OkE (40 - d).toNat x.X→((x.Kind=3∨x.Kind=4)→x.Body.length≤50∧∀ y ∈ x.Body,OkS (40 - d).toNat y) →
        c=node+1+(nE (40 - d).toNat x.X:Nat)+((if x.Kind=3∨x.Kind=4 then (x.Body.map (nS (40 - d).toNat)).sum else 0:Nat):Int)→P (syn_stat_j4 (SynStat_run n) x d c):=by
       intro c g1 g2 k6 gx gb gc
       rw [syn_stat_j4]
       by_cases k3:x.Kind=3
       ·obtain ⟨e,k,r1,r2,r3⟩:=kids x.Else c g1 g2
        rw [if_pos k3,i64_ok (by omega),bS,r1,bS]
        rw [← hP]
        refine ⟨e,k,rfl,by omega,fun hz=>?_⟩
        obtain ⟨s1,s2,s3⟩:=r3 hz
        refine ⟨s1,⟨kd.1,kd.2,fun _=>gx,gb,fun _=>s2⟩,?_⟩
        rw [nS,if_neg k6,if_pos k3]
        omega
       ·rw [if_neg k3,← hP]
        refine ⟨0,c,rfl,g1,fun _=>⟨g2,⟨kd.1,kd.2,fun _=>gx,gb,fun h=>absurd h k3⟩,?_⟩⟩
        rw [nS,if_neg k6,if_neg k3]
        omega
      have J3:∀ (c:Int) b,node≤c→c≤2000→x.Kind≠6→OkE (40 - d).toNat x.X→(b=true ↔ x.Kind=3∨x.Kind=4)→c=node+1+(nE (40 - d).toNat x.X:Nat)→P (syn_stat_j3 (SynStat_run n) x d (0,c) b):=by
       intro c b g1 g2 k6 gx gb gc
       rw [syn_stat_j3]
       by_cases q:b=true
       ·obtain ⟨e,k,r1,r2,r3⟩:=kids x.Body c g1 g2
        rw [if_pos q,i64_ok (by omega),bS,r1,bS]
        by_cases z:e=0
        ·subst z
         obtain ⟨s1,s2,s3⟩:=r3 rfl
         rw [if_neg (by simp)]
         exact J4 k (by omega) s1 k6 gx (fun _=>s2) (by rw [if_pos (gb.1 q)]; omega)
        ·rw [if_pos z]
         exact bad e k z (by omega)
       ·rw [if_neg q]
        exact J4 c g1 g2 k6 gx (fun h=>absurd (gb.2 h) q) (by rw [if_neg fun h=>q (gb.2 h)]; omega)
      have J2:∀ b,P (syn_stat_j2 n (SynStat_run n) x d (0,node+1) b):=by
       intro b
       cases b with
       | true=>exact bad 7 _ (by decide) (by omega)
       | false =>
        rw [syn_stat_j2,if_neg (by decide)]
        by_cases k6:x.Kind=6
        ·rw [if_pos k6,← hP]
         refine ⟨0,node+1,rfl,by omega,fun _=>⟨by omega,⟨kd.1,kd.2,fun h=>absurd k6 h,fun h=>by omega,fun h=>by omega⟩,?_⟩⟩
         rw [nS,if_pos k6,if_neg (by omega),if_neg (by omega)]
         omega
        ·obtain ⟨e,k,r1,r2,r3⟩:=syn_expr_t n x.X (d+1) (node+1) (by omega) (by omega) (by omega) (by omega) (by omega)
         rw [hD'] at r3
         rw [if_neg k6,i64_ok (by omega),bS,r1,bS]
         by_cases z:e=0
         ·subst z
          obtain ⟨s1,s2,s3⟩:=r3 rfl
          rw [if_neg (by simp)]
          split
          ·rename_i h3
           exact J3 k true (by omega) s1 k6 s2 (by simp [h3]) (by omega)
          ·rename_i h3
           exact J3 k _ (by omega) s1 k6 s2 (by simp [h3]) (by omega)
         ·rw [if_pos z]
          exact bad e k z (by omega)
      have J1:∀ b,P (syn_stat_j1 n (SynStat_run n) x d (0,node+1) b):=by
       intro b'
       cases b' with
       | true=>exact bad 1 _ (by decide) (by omega)
       | false =>
        rw [syn_stat_j1,if_neg (by decide),hb]
        simp only [bS]
        split
        ·exact J2 _
        ·split
         ·exact J2 _
         ·split <;> exact J2 _
      split <;> exact J1 _
     ·split
      ·exact bad 1 _ (by decide) (by omega)
      ·rw [decide_eq_true (show 9<x.Kind by omega)]
       exact bad 1 _ (by decide) (by omega)
    rw [← hP] at G
    exact G
   ·rw [if_pos c]
    exact ⟨e,_,rfl,by omega,fun h=>absurd h c⟩
def OkT (t:TType):Prop:=1≤t.Kind∧t.Kind≤3
theorem syn_typ_t (fu:Nat) (hf:20≤fu) (t:TType):∃ e,syn_typ fu t=some e∧(e=0→OkT t):=by
 obtain ⟨b,hb⟩:=lex_named_t fu hf t.Gen
 rw [syn_typ]
 by_cases c:1≤t.Kind∧t.Kind≤3
 ·rw [if_neg (by omega),decide_eq_false (by omega),syn_typ_j1,if_neg (by decide),hb]
  simp only [bS]
  have:∀ b,∃ e,syn_typ_j2 b=some e:=fun b=>by cases b <;> exact ⟨_,rfl⟩
  split
  ·obtain ⟨e,he⟩:=this (!b); exact ⟨e,he,fun _=>c⟩
  ·obtain ⟨e,he⟩:=this false; exact ⟨e,he,fun _=>c⟩
 ·split
  ·exact ⟨1,rfl,fun h=>absurd h (by decide)⟩
  ·rw [decide_eq_true (show 3<t.Kind by omega)]
   exact ⟨1,rfl,fun h=>absurd h (by decide)⟩
structure OkD (x:TDef):Prop where
 k1:1≤x.Kind
 k4:x.Kind≤4
 ps:x.Kind=2∨x.Kind=3→x.Params.length≤6∧∀ p ∈ x.Params,OkT p.Typ
 tk:x.Kind=3→OkT x.Takes
 ty:x.Kind≠4→OkT x.Typ
 bl:x.Kind≠1→x.Body.length≤50
 bo:x.Kind≠1→∀ y ∈ x.Body,OkS 39 y
def nD (x:TDef):Nat:=1+if x.Kind≠1 then (x.Body.map (nS 39)).sum else 0
theorem syn_def_t (fu:Nat) (hf:200≤fu) (x:TDef) (node:Int) (h3:0≤node) (h4:node≤2000):∃ e k,syn_def fu node x=some (e,k)∧node≤k∧(e=0→k≤2000∧OkD x∧k=node+(nD x:Nat)):=by
 obtain ⟨b,hb⟩:=lex_named_t fu (by omega) x.Name
 obtain ⟨e,hn,he⟩:=syn_node_t node 1 h3 (by omega)
 rw [syn_def,hn,bS]
 by_cases c:e=0
 ·subst c
  obtain ⟨hk,hd⟩:=he rfl
  rw [if_neg (by simp)]
  generalize hP:(fun o:Option (Int×Int)=>∃ e k,o=some (e,k)∧node≤k∧(e=0→k≤2000∧OkD x∧k=node+(nD x:Nat)))=P
  have bad:∀ e c:Int,e≠0→node≤c→P (some (e,c)):=fun e c h hc=>by rw [← hP]; exact ⟨e,_,rfl,hc,fun h'=>absurd h' h⟩
  have G:P (if x.Kind<1 then syn_def_j1 fu x (0,node+1) true else syn_def_j1 fu x (0,node+1) (decide ((4:Int)<x.Kind))):=by
   by_cases kd:1≤x.Kind∧x.Kind≤4
   ·have J5:(x.Kind=2∨x.Kind=3→x.Params.length≤6∧∀ p ∈ x.Params,OkT p.Typ)→(x.Kind=3→OkT x.Takes)→(x.Kind≠4→OkT x.Typ)→P (syn_def_j5 fu x (0,node+1)):=by
     intro g1 g2 g3
     rw [syn_def_j5]
     by_cases k1:x.Kind=1
     ·rw [if_neg (by simpa using k1)]
      have J6:∀ b,P (syn_def_j6 (0,node+1) b):=by
       intro b
       cases b with
       | true=>exact bad 3 _ (by decide) (by omega)
       | false =>
        rw [← hP]
        exact ⟨0,node+1,rfl,by omega,fun _=>⟨by omega,⟨kd.1,kd.2,g1,g2,g3,fun h=>absurd k1 h,fun h=>absurd k1 h⟩,by rw [nD,if_neg (by simpa using k1)]; omega⟩⟩
      split <;> exact J6 _
     ·obtain ⟨e,k,r1,r2,r3⟩:=(syn_stat_t fu).1 x.Body 2 (node+1) (by omega) (by omega) (by omega) (by omega) (by omega)
      rw [if_pos k1,r1,bS,← hP]
      refine ⟨e,k,rfl,by omega,fun hz=>?_⟩
      obtain ⟨s1,s2,s3⟩:=r3 hz
      exact ⟨s1,⟨kd.1,kd.2,g1,g2,g3,fun _=>s2.1,fun _=>s2.2⟩,by rw [nD,if_pos k1]; rw [show (41 - (2:Int)).toNat=39 from rfl] at s3; omega⟩
    have J4:(x.Kind=2∨x.Kind=3→x.Params.length≤6∧∀ p ∈ x.Params,OkT p.Typ)→(x.Kind=3→OkT x.Takes)→P (syn_def_j4 fu x (0,node+1)):=by
     intro g1 g2
     rw [syn_def_j4]
     by_cases k4:x.Kind=4
     ·rw [if_neg (by simpa using k4)]
      exact J5 g1 g2 fun h=>absurd k4 h
     ·obtain ⟨e,h1,h2⟩:=syn_typ_t fu (by omega) x.Typ
      rw [if_pos k4,h1,bS]
      by_cases z:e=0
      ·rw [if_neg (by simpa using z)]; exact J5 g1 g2 fun _=>h2 z
      ·rw [if_pos z]; exact bad e _ z (by omega)
    have J3:(x.Kind=2∨x.Kind=3→x.Params.length≤6∧∀ p ∈ x.Params,OkT p.Typ)→P (syn_def_j3 fu x (0,node+1)):=by
     intro g1
     rw [syn_def_j3]
     by_cases k3:x.Kind=3
     ·obtain ⟨e,h1,h2⟩:=syn_typ_t fu (by omega) x.Takes
      rw [if_pos k3,h1,bS]
      by_cases z:e=0
      ·rw [if_neg (by simpa using z)]; exact J4 g1 fun _=>h2 z
      ·rw [if_pos z]; exact bad e _ z (by omega)
     ·rw [if_neg k3]
      exact J4 g1 fun h=>absurd h k3
    have L:x.Params.length≤6→∀ (m i:Nat),i≤x.Params.length→x.Params.length<m+i→(∀ p ∈ x.Params.take i,OkT p.Typ)→P (syn_def_l1 fu x (0,node+1) m i):=by
     intro hl m
     induction m with
     | zero=>intro i h1 h2; omega
     | succ m ihm =>
      intro i g1 g2 g3
      rw [syn_def_l1]
      by_cases q:i<x.Params.length
      ·obtain ⟨b',hb'⟩:=lex_named_t fu (by omega) x.Params[i].Name
       obtain ⟨e,h1,h2⟩:=syn_typ_t fu (by omega) x.Params[i].Typ
       rw [if_pos (by omega),at_nat,List.getElem?_eq_getElem q,bS,hb',bS]
       cases b' with
       | false=>rw [if_neg (by decide)]; exact bad 7 _ (by decide) (by omega)
       | true =>
        rw [if_pos rfl,h1,bS]
        by_cases z:e=0
        ·rw [if_neg (by simpa using z),i64_ok (by omega),bS]
         refine ihm (i+1) q (by omega) fun p hp=>?_
         rw [List.take_succ_eq_append_getElem q] at hp
         rcases List.mem_append.1 hp with hp | hp
         ·exact g3 p hp
         ·rw [List.mem_singleton.1 hp]; exact h2 z
        ·rw [if_pos z]; exact bad e _ z (by omega)
      ·rw [if_neg (by omega)]
       rw [List.take_of_length_le (by omega)] at g3
       exact J3 fun _=>⟨hl,g3⟩
    have J2:∀ b,(b=true ↔ x.Kind=2∨x.Kind=3)→P (syn_def_j2 fu x (0,node+1) b):=by
     intro b g
     rw [syn_def_j2]
     by_cases q:b=true
     ·rw [if_pos q]
      by_cases hl:(6:Int)<x.Params.length
      ·rw [if_pos hl]; exact bad 5 _ (by decide) (by omega)
      ·rw [if_neg hl]
       exact L (by omega) (x.Params.length+1) 0 (by omega) (by omega) (by simp)
     ·rw [if_neg q]
      exact J3 fun h=>absurd (g.2 h) q
    have J1:∀ b,P (syn_def_j1 fu x (0,node+1) b):=by
     intro b'
     cases b' with
     | true=>exact bad 1 _ (by decide) (by omega)
     | false =>
      rw [syn_def_j1,if_neg (by decide),hb,bS]
      cases b with
      | false=>rw [if_neg (by decide)]; exact bad 7 _ (by decide) (by omega)
      | true =>
       rw [if_pos rfl]
       split
       ·rename_i h2; exact J2 _ (by simp [h2])
       ·rename_i h2; exact J2 _ (by simp [h2])
    split <;> exact J1 _
   ·split
    ·exact bad 1 _ (by decide) (by omega)
    ·rw [decide_eq_true (show 4<x.Kind by omega)]
     exact bad 1 _ (by decide) (by omega)
  rw [← hP] at G
  exact G
 ·rw [if_pos c]
  exact ⟨e,_,rfl,by omega,fun h=>absurd h c⟩
structure OkP (l:List TDef):Prop where
 le:l.length≤30
 ok:∀ d ∈ l,OkD d
 n:(l.map nD).sum≤2000
theorem syn_wrong_t (fu:Nat) (hf:200≤fu) (l:List TDef):∃ f,syn_wrong fu l=some f∧(f.Err=0→f.At=0∧OkP l):=by
 rw [syn_wrong]
 by_cases hl:(30:Int)<l.length
 ·rw [if_pos hl]; exact ⟨_,rfl,fun h=>absurd h (by decide:(5:Int)≠0)⟩
 ·rw [if_neg hl]
  have L:∀ (m i:Nat) (c:Int),i≤l.length→l.length<m+i→0≤c→c≤2000→(∀ d ∈ l.take i,OkD d)→c=(((l.take i).map nD).sum:Nat)→∃ f,syn_wrong_l1 fu l m i c=some f∧(f.Err=0→f.At=0∧OkP l):=by
   intro m
   induction m with
   | zero=>intro i c h1 h2; omega
   | succ m ihm =>
    intro i c g1 g2 g3 g4 g5 g6
    rw [syn_wrong_l1]
    by_cases q:i<l.length
    ·obtain ⟨e,k,e1,e2,e3⟩:=syn_def_t fu hf l[i] c g3 g4
     rw [if_pos (by omega),at_nat,List.getElem?_eq_getElem q,bS,e1,bS]
     by_cases z:e=0
     ·subst z
      obtain ⟨f1,f2,f3⟩:=e3 rfl
      rw [if_neg (by simp),i64_ok (by omega),bS]
      refine ihm (i+1) k q (by omega) (by omega) f1 (fun p hp=>?_) ?_
      ·rw [List.take_succ_eq_append_getElem q] at hp
       rcases List.mem_append.1 hp with hp | hp
       ·exact g5 p hp
       ·rw [List.mem_singleton.1 hp]; exact f2
      ·rw [List.take_succ_eq_append_getElem q,List.map_append,List.sum_append,List.map_cons,List.map_nil,List.sum_cons,List.sum_nil]
       omega
     ·rw [if_pos z]
      exact ⟨_,rfl,fun h=>absurd h z⟩
    ·rw [if_neg (by omega)]
     rw [List.take_of_length_le (by omega)] at g5 g6
     exact ⟨_,rfl,fun _=>⟨rfl,by omega,g5,by omega⟩⟩
  exact L (l.length+1) 0 0 (by omega) (by omega) (by omega) (by omega) (by simp) (by simp)
end Go.Y
namespace Go.Y
open Go.Wk Go.Xt
abbrev Bl:=List (List (List UInt8×TType))
def bareT (t:TType):TType:=if t.Kind≠3 then ⟨t.Kind,[]⟩ else t
theorem sema_plain_e (t:TType):sema_plain t=some (decide (t.Kind≠3)):=rfl
theorem sema_bare_e (t:TType):sema_bare t=some (bareT t):=by
 rw [sema_bare,sema_plain_e,bS,bareT]
 by_cases c:t.Kind≠3
 ·rw [decide_eq_true c,if_pos rfl,if_pos c]; rfl
 ·rw [decide_eq_false c,if_neg (by decide),if_neg c]; rfl
def isK (o:Option TDef) (k:Int):Bool:=match o with | some d=>decide (d.Kind=k) | none=>false
theorem sema_find_e (p:TSp) (kind:Int) (name:List UInt8):sema_find p kind name=some (mget p.named name,isK (mget p.named name) kind):=by
 rw [sema_find]
 cases h:mget p.named name with
 | none=>rfl
 | some d=>rfl
theorem isK_t {o:Option TDef} {k:Int} (h:isK o k=true):∃ d,o=some d∧d.Kind=k:=by
 cases o with
 | none=>cases h
 | some d=>exact ⟨d,rfl,of_decide_eq_true h⟩
theorem isK_i {d:TDef} {k:Int} (h:d.Kind=k):isK (some d) k=true:=decide_eq_true h
def TyOk (p:TSp) (t:TType):Prop:=t.Kind=3→∃ d,mget p.named t.Gen=some d∧d.Kind=3
theorem TyOk.bare {p:TSp} {t:TType} (h:TyOk p t):TyOk p (bareT t):=by
 unfold bareT
 split
 ·rename_i c; exact fun h3=>absurd h3 c
 ·exact h
theorem TyOk.of {p:TSp} {t:TType} (h:t.Kind≠3):TyOk p t:=fun h3=>absurd h3 h
theorem bareT_kind {t:TType}:(bareT t).Kind=t.Kind:=by
 unfold bareT
 split <;> rfl
structure HeadOk (p:TSp) (d:TDef):Prop where
 ty:d.Kind≠4→d.Typ.Kind≠3
 tk:d.Kind=3→d.Takes.Kind≠3
 ps:d.Kind=2∨d.Kind=3→∀ q ∈ d.Params,TyOk p q.Typ
 pl:d.Kind=2∨d.Kind=3→d.Params.length≤6
def Pg (p:TSp):Prop:=∀ k d,mget p.named k=some d→HeadOk p d
def ScOk (p:TSp) (B:Bl):Prop:=∀ m ∈ B,∀ k t,mget m k=some t→TyOk p t
structure EH (p:TSp) (d:TDef) (B:Bl):Prop where
 pg:Pg p
 hd:HeadOk p d
 sc:ScOk p B
 bl:B.length≤100
theorem sema_look_t {p:TSp} {B:Bl} (hB:ScOk p B) (hl:B.length≤100) (fu:Nat) (hf:110≤fu) (d:TDef) (name:List UInt8):∃ t b,sema_look fu p d B name=some (t,b)∧(b=true→TyOk p t):=by
 have L:∀ (n j:Nat),j≤B.length→j<n→∃ t b,sema_look_l1 name B n ((j:Int) - 1)=some (t,b)∧(b=true→TyOk p t):=by
  intro n
  induction n with
  | zero=>intro j h1 h2; omega
  | succ n ih =>
   intro j h1 h2
   rw [sema_look_l1]
   cases j with
   | zero=>rw [if_neg (by omega)]; exact ⟨_,_,rfl,by simp⟩
   | succ j =>
    have e:((j+1:Nat):Int) - 1=(j:Int):=by omega
    rw [e,if_pos (by omega),at_nat,List.getElem?_eq_getElem (show j<B.length by omega),bS]
    cases h:mget B[j] name with
    | none =>
     rw [if_neg (by simp),i64_ok (by omega),bS]
     exact ih j (by omega) (by omega)
    | some t=>exact ⟨t,true,rfl,fun _=>hB _ (List.getElem_mem _) _ _ h⟩
 rw [sema_look,i64_ok (by omega),bS]
 exact L fu B.length (by omega) (by omega)
def Calls (p:TSp):Nat→TExpr→Prop
 | 0,_=>False
 | k+1,x=>(x.Kind=19→∃ d,mget p.named x.Name=some d∧d.Kind=2)∧(x.Kind=22→∃ d,mget p.named x.Name=some d∧d.Kind=3)∧(x.Kind=20→∃ d,mget p.named x.Name=some d∧d.Kind=1)∧∀ y ∈ x.Kids,Calls p k y
theorem two {α:Type} {l:List α} (h:l.length=2):∃ a b,l=[a,b]:=by
 match l,h with
 | [a,b],_=>exact ⟨a,b,rfl⟩
theorem one {α:Type} {l:List α} (h:l.length=1):∃ a,l=[a]:=by
 match l,h with
 | [a],_=>exact ⟨a,rfl⟩
structure SemaT (n:Nat):Prop where
 typed:∀ (k:Nat) (p:TSp) (d:TDef) (B:Bl) (x:TExpr) (t:TType),EH p d B→OkE k x→3*k+111≤n→∃ e,(SemaE_run n).sema_typed p d B x t=some e∧(e=0→Calls p k x)
 args:∀ (k:Nat) (p:TSp) (d:TDef) (B:Bl) (x:TExpr) (kind:Int),EH p d B→(∀ y ∈ x.Kids,OkE k y)→x.Kids.length≤6→(kind=2∨kind=3)→3*k+112≤n →
  ∃ od e,(SemaE_run n).sema_args p d B x kind=some (od,e)∧(e=0→∃ f,od=some f∧mget p.named x.Name=some f∧f.Kind=kind∧∀ y ∈ x.Kids,Calls p k y)
 both:∀ (k:Nat) (p:TSp) (d:TDef) (B:Bl) (x a b:TExpr),EH p d B→x.Kids=[a,b]→OkE k a→OkE k b→3*k+112≤n→∃ t e,(SemaE_run n).sema_both p d B x=some (t,e)∧(e=0→Calls p k a∧Calls p k b)
 handle:∀ (k:Nat) (p:TSp) (d:TDef) (B:Bl) (x:TExpr),EH p d B→OkE k x→3*k+112≤n→∃ od e,(SemaE_run n).sema_handle p d B x=some (od,e)∧(e=0→(∃ f g,od=some f∧mget p.named g=some f∧f.Kind=3)∧Calls p k x)
 expr:∀ (k:Nat) (p:TSp) (d:TDef) (B:Bl) (x:TExpr),EH p d B→OkE k x→3*k+110≤n→∃ t e,(SemaE_run n).sema_expr p d B x=some (t,e)∧(e=0→TyOk p t∧Calls p k x)
theorem sema_typed_j1_e (r:TType×Int) (b:Bool):sema_typed_j1 r b=some (if b=true then 9 else r.2):=by cases b <;> rfl
theorem sema_both_j1_e (r s:TType×Int) (b:Bool):sema_both_j1 r s b=some (r.1,if b=true then 9 else s.2):=by cases b <;> rfl
theorem sema_t:∀ n,SemaT n:=by
 intro n
 induction n with
 | zero=>exact ⟨fun _ _ _ _ _ _ _ _ h=>by omega,fun _ _ _ _ _ _ _ _ _ _ h=>by omega,fun _ _ _ _ _ _ _ _ _ _ _ h=>by omega,fun _ _ _ _ _ _ _ h=>by omega,fun _ _ _ _ _ _ _ h=>by omega⟩
 | succ n ih =>
  refine ⟨fun k p d B x t H hx hn=>?_,fun k p d B x kind H hx hl hk hn=>?_,fun k p d B x a b H hx ha hb hn=>?_,fun k p d B x H hx hn=>?_,fun k p d B x H hx hn=>?_⟩
  ·show ∃ e,sema_typed (SemaE_run n) p d B x t=some e∧_
   obtain ⟨t',e,h1,h2⟩:=ih.expr k p d B x H hx (by omega)
   rw [sema_typed,h1,bS]
   by_cases z:e=0
   ·rw [if_pos z,sema_bare_e,bS,sema_typed_j1_e]
    exact ⟨_,rfl,fun _=>(h2 z).2⟩
   ·rw [if_neg z,sema_typed_j1_e]
    exact ⟨e,rfl,fun h=>absurd h z⟩
  ·show ∃ od e,sema_args (SemaE_run n) p d B x kind=some (od,e)∧_
   rw [sema_args,sema_find_e,bS]
   by_cases c:isK (mget p.named x.Name) kind=true
   ·obtain ⟨f,hf,fk⟩:=isK_t c
    rw [if_pos c,hf]
    simp only [bS]
    have hp:=H.pg _ _ hf
    have hpl:=hp.pl (by omega)
    by_cases q:(f.Params.length:Int)≠x.Kids.length
    ·rw [decide_eq_true q]; exact ⟨none,5,rfl,fun h=>absurd h (by decide)⟩
    ·rw [decide_eq_false q,sema_args_j1,if_neg (by decide)]
     simp only [bS]
     have L:∀ (m i:Nat),i≤f.Params.length→f.Params.length<m+i→∃ od e,sema_args_l1 (SemaE_run n) x p d B (some f,isK (some f) kind) f m i=some (od,e)∧(e=0→od=some f∧∀ y ∈ x.Kids.drop i,Calls p k y):=by
      intro m
      induction m with
      | zero=>intro i h1 h2; omega
      | succ m ihm =>
       intro i h1 h2
       rw [sema_args_l1]
       by_cases c:i<f.Params.length
       ·have hi:i<x.Kids.length:=by omega
        obtain ⟨e,e1,e2⟩:=ih.typed k p d B x.Kids[i] f.Params[i].Typ H (hx _ (List.getElem_mem _)) (by omega)
        rw [if_pos (by omega),at_nat,List.getElem?_eq_getElem c,bS,at_nat,List.getElem?_eq_getElem hi,bS,e1,bS]
        by_cases z:e=0
        ·rw [if_neg (by simpa using z),i64_ok (by omega),bS]
         obtain ⟨od,e',r1,r2⟩:=ihm (i+1) c (by omega)
         refine ⟨od,e',r1,fun hz=>⟨(r2 hz).1,fun y hy=>?_⟩⟩
         rw [List.drop_eq_getElem_cons hi] at hy
         rcases List.mem_cons.1 hy with rfl | hy
         ·exact e2 z
         ·exact (r2 hz).2 y hy
        ·rw [if_pos z]; exact ⟨none,e,rfl,fun h=>absurd h z⟩
       ·rw [if_neg (by omega),List.drop_eq_nil_of_le (by omega)]
        exact ⟨some f,0,rfl,fun _=>⟨rfl,by simp⟩⟩
     obtain ⟨od,e,r1,r2⟩:=L (f.Params.length+1) 0 (by omega) (by omega)
     refine ⟨od,e,r1,fun hz=>?_⟩
     obtain ⟨s1,s2⟩:=r2 hz
     rw [List.drop_zero] at s2
     exact ⟨f,s1,rfl,fk,s2⟩
   ·rw [if_neg c]
    exact ⟨none,7,rfl,fun h=>absurd h (by decide)⟩
  ·show ∃ t e,sema_both (SemaE_run n) p d B x=some (t,e)∧_
   obtain ⟨t1,e1,h1,h2⟩:=ih.expr k p d B a H ha (by omega)
   obtain ⟨t2,e2,g1,g2⟩:=ih.expr k p d B b H hb (by omega)
   have k0:at_ x.Kids 0=some a:=by rw [hx]; rfl
   have k1:at_ x.Kids 1=some b:=by rw [hx]; rfl
   rw [sema_both,k0,bS,h1,bS]
   by_cases z:e1=0
   ·rw [if_neg (by simpa using z),k1,bS,g1,bS]
    by_cases z2:e2=0
    ·have fin:∀ b',∃ t e,sema_both_j1 (t1,e1) (t2,e2) b'=some (t,e)∧(e=0→Calls p k a∧Calls p k b):=fun b'=>by rw [sema_both_j1_e]; exact ⟨_,_,rfl,fun _=>⟨(h2 z).2,(g2 z2).2⟩⟩
     rw [if_pos z2]
     split
     ·rw [sema_plain_e,bS]; exact fin _
     ·exact fin _
    ·rw [if_neg z2,sema_both_j1_e]
     exact ⟨_,e2,rfl,fun h=>absurd h z2⟩
   ·rw [if_pos z]
    exact ⟨_,e1,rfl,fun h=>absurd h z⟩
  ·show ∃ od e,sema_handle (SemaE_run n) p d B x=some (od,e)∧_
   obtain ⟨t,e,h1,h2⟩:=ih.expr k p d B x H hx (by omega)
   rw [sema_handle,h1,bS]
   by_cases z:e=0
   ·rw [if_neg (by simpa using z),sema_plain_e,bS]
    by_cases q:t.Kind≠3
    ·rw [if_pos (decide_eq_true q)]; exact ⟨none,9,rfl,fun h=>absurd h (by decide)⟩
    ·obtain ⟨f,f1,f2⟩:=(h2 z).1 (Decidable.not_not.1 q)
     rw [if_neg (by simpa using q)]
     exact ⟨_,0,rfl,fun _=>⟨⟨f,t.Gen,f1,f1,f2⟩,(h2 z).2⟩⟩
   ·rw [if_pos z]
    exact ⟨none,e,rfl,fun h=>absurd h z⟩
  ·show ∃ t e,sema_expr n (SemaE_run n) p d B x=some (t,e)∧_
   cases k with
   | zero=>cases hx
   | succ k =>
   obtain ⟨k1,k24,hk,hks⟩:=hx
   have kl:kidN x.Kind=1→∃ a,x.Kids=[a]∧OkE k a:=fun h=>by
    obtain ⟨a,ha⟩:=one (l:=x.Kids) (by have:=hk.eq (by omega); omega)
    exact ⟨a,ha,hks a (by simp [ha])⟩
   have kl2:kidN x.Kind=2→∃ a b,x.Kids=[a,b]∧OkE k a∧OkE k b:=fun h=>by
    obtain ⟨a,b,ha⟩:=two (l:=x.Kids) (by have:=hk.eq (by omega); omega)
    exact ⟨a,b,ha,hks a (by simp [ha]),hks b (by simp [ha])⟩
   have kl0:kidN x.Kind=0→x.Kids=[]:=fun h=>List.length_eq_zero_iff.1 (by have:=hk.eq (by omega); omega)
   have ca:x.Kind≠19→x.Kind≠20→x.Kind≠22→(∀ y ∈ x.Kids,Calls p k y)→Calls p (k+1) x:=fun h1 h2 h3 h4=>⟨fun h=>absurd h h1,fun h=>absurd h h3,fun h=>absurd h h2,h4⟩
   rw [sema_expr]
   by_cases c1:x.Kind=1
   ·rw [if_pos c1]
    exact ⟨_,0,rfl,fun _=>⟨.of (by decide),ca (by omega) (by omega) (by omega) (by rw [kl0 (by rw [c1]; rfl)]; simp)⟩⟩
   rw [if_neg c1]
   by_cases c2:x.Kind=2
   ·rw [if_pos c2]
    exact ⟨_,0,rfl,fun _=>⟨.of (by decide),ca (by omega) (by omega) (by omega) (by rw [kl0 (by rw [c2]; rfl)]; simp)⟩⟩
   rw [if_neg c2]
   by_cases c3:x.Kind=3
   ·obtain ⟨t,b,h1,h2⟩:=sema_look_t H.sc H.bl n (by omega) d x.Name
    rw [if_pos c3,h1,bS]
    cases b with
    | true=>exact ⟨t,0,rfl,fun _=>⟨h2 rfl,ca (by omega) (by omega) (by omega) (by rw [kl0 (by rw [c3]; rfl)]; simp)⟩⟩
    | false=>exact ⟨_,7,rfl,fun h=>absurd h (by decide)⟩
   rw [if_neg c3]
   by_cases c4:x.Kind=4
   ·obtain ⟨a,ha,ho⟩:=kl (by rw [c4]; rfl)
    obtain ⟨e,e1,e2⟩:=ih.typed k p d B a ⟨1,[]⟩ H ho (by omega)
    have k0:at_ x.Kids 0=some a:=by rw [ha]; rfl
    rw [if_pos c4,k0,bS,sema_num,bS,bS,e1,bS]
    exact ⟨_,e,rfl,fun hz=>⟨.of (by decide),ca (by omega) (by omega) (by omega) (by rw [ha]; simpa using e2 hz)⟩⟩
   rw [if_neg c4]
   by_cases c5:x.Kind=5
   ·obtain ⟨a,ha,ho⟩:=kl (by rw [c5]; rfl)
    obtain ⟨e,e1,e2⟩:=ih.typed k p d B a ⟨2,[]⟩ H ho (by omega)
    have k0:at_ x.Kids 0=some a:=by rw [ha]; rfl
    rw [if_pos c5,k0,bS,sema_boolean,bS,bS,e1,bS]
    exact ⟨_,e,rfl,fun hz=>⟨.of (by decide),ca (by omega) (by omega) (by omega) (by rw [ha]; simpa using e2 hz)⟩⟩
   rw [if_neg c5]
   have J3:∀ b,(b=true ↔ x.Kind=11∨x.Kind=12)→∃ t e,sema_expr_j3 (SemaE_run n) x p d B b=some (t,e)∧(e=0→TyOk p t∧Calls p (k+1) x):=by
    intro b hb
    rw [sema_expr_j3]
    by_cases q:b=true
    ·have c:=hb.1 q
     obtain ⟨a,a',ha,o1,o2⟩:=kl2 (by rcases c with c | c <;> rw [c] <;> rfl)
     obtain ⟨t,e,h1,h2⟩:=ih.both k p d B x a a' H ha o1 o2 (by omega)
     rw [if_pos q,h1,bS,sema_boolean,bS]
     exact ⟨_,e,rfl,fun hz=>⟨.of (by decide),ca (by omega) (by omega) (by omega) (by rw [ha]; simpa using h2 hz)⟩⟩
    rw [if_neg q]
    have q1:x.Kind≠11:=fun h=>q (hb.2 (.inl h))
    have q2:x.Kind≠12:=fun h=>q (hb.2 (.inr h))
    by_cases c19:x.Kind=19
    ·obtain ⟨od,e,h1,h2⟩:=ih.args k p d B x 2 H hks hk.le (.inl rfl) (by omega)
     rw [if_pos c19,h1,bS]
     by_cases z:e=0
     ·obtain ⟨f,rfl,g1,g2,g3⟩:=h2 z
      rw [if_neg (by simpa using z)]
      simp only [bS]
      rw [sema_bare_e,bS]
      exact ⟨_,0,rfl,fun _=>⟨.of (by rw [bareT_kind]; exact (H.pg _ _ g1).ty (by omega)),⟨fun _=>⟨f,g1,g2⟩,fun h=>by omega,fun h=>by omega,g3⟩⟩⟩
     ·rw [if_pos z]
      exact ⟨_,e,rfl,fun h=>absurd h z⟩
    rw [if_neg c19]
    by_cases c20:x.Kind=20
    ·rw [if_pos c20,sema_find_e,bS]
     by_cases c:isK (mget p.named x.Name) 1=true
     ·obtain ⟨f,hf,fk⟩:=isK_t c
      rw [if_pos c,hf]
      simp only [bS]
      rw [sema_bare_e,bS]
      exact ⟨_,0,rfl,fun _=>⟨.of (by rw [bareT_kind]; exact (H.pg _ _ hf).ty (by omega)),⟨fun h=>by omega,fun h=>by omega,fun _=>⟨f,hf,fk⟩,by rw [kl0 (by rw [c20]; rfl)]; simp⟩⟩⟩
     ·rw [if_neg c]
      exact ⟨_,7,rfl,fun h=>absurd h (by decide)⟩
    rw [if_neg c20]
    by_cases c21:x.Kind=21
    ·obtain ⟨a,ha,ho⟩:=kl (by rw [c21]; rfl)
     obtain ⟨e,e1,e2⟩:=ih.typed k p d B a d.Typ H ho (by omega)
     have k0:at_ x.Kids 0=some a:=by rw [ha]; rfl
     rw [if_pos c21]
     by_cases cd:d.Kind=3
     ·rw [if_neg (by simpa using cd),k0,bS,sema_bare_e,bS,e1,bS]
      exact ⟨_,e,rfl,fun hz=>⟨.of (by show (bareT d.Takes).Kind≠3; rw [bareT_kind]; exact H.hd.tk cd),ca (by omega) (by omega) (by omega) (by rw [ha]; simpa using e2 hz)⟩⟩
     ·rw [if_pos cd]
      exact ⟨_,8,rfl,fun h=>absurd h (by decide)⟩
    rw [if_neg c21]
    by_cases c22:x.Kind=22
    ·obtain ⟨od,e,h1,h2⟩:=ih.args k p d B x 3 H hks hk.le (.inr rfl) (by omega)
     rw [if_pos c22,h1,bS]
     refine ⟨_,e,rfl,fun hz=>?_⟩
     obtain ⟨f,-,g1,g2,g3⟩:=h2 hz
     exact ⟨fun _=>⟨f,g1,g2⟩,⟨fun h=>by omega,fun _=>⟨f,g1,g2⟩,fun h=>by omega,g3⟩⟩
    rw [if_neg c22]
    by_cases c23:x.Kind=23
    ·obtain ⟨a,a',ha,o1,o2⟩:=kl2 (by rw [c23]; rfl)
     obtain ⟨od,e,h1,h2⟩:=ih.handle k p d B a H o1 (by omega)
     have k0:at_ x.Kids 0=some a:=by rw [ha]; rfl
     have k1:at_ x.Kids 1=some a':=by rw [ha]; rfl
     rw [if_pos c23,k0,bS,h1,bS]
     by_cases z:e=0
     ·obtain ⟨⟨f,g,rfl,g1,g2⟩,g3⟩:=h2 z
      obtain ⟨e',r1,r2⟩:=ih.typed k p d B a' f.Takes H o2 (by omega)
      rw [if_neg (by simpa using z)]
      simp only [bS]
      rw [k1,bS,sema_bare_e,bS,r1,bS]
      exact ⟨_,e',rfl,fun hz=>⟨.of (by show (bareT f.Typ).Kind≠3; rw [bareT_kind]; exact (H.pg _ _ g1).ty (by omega)),ca (by omega) (by omega) (by omega) (by rw [ha]; simpa using ⟨g3,r2 hz⟩)⟩⟩
     ·rw [if_pos z]
      exact ⟨_,e,rfl,fun h=>absurd h z⟩
    rw [if_neg c23]
    by_cases c24:x.Kind=24
    ·obtain ⟨a,ha,ho⟩:=kl (by rw [c24]; rfl)
     obtain ⟨od,e,h1,h2⟩:=ih.handle k p d B a H ho (by omega)
     have k0:at_ x.Kids 0=some a:=by rw [ha]; rfl
     rw [if_pos c24,k0,bS,h1,bS,sema_boolean,bS]
     exact ⟨_,e,rfl,fun hz=>⟨.of (by decide),ca (by omega) (by omega) (by omega) (by rw [ha]; simpa using (h2 hz).2)⟩⟩
    rw [if_neg c24]
    have L:∀ (i1 i2:Int) (s1 s2:List UInt8) (m i:Nat),i≤x.Kids.length→x.Kids.length<m+i→∃ e,sema_expr_l1 (SemaE_run n) x p d B i1 s1 i2 s2 m i=some (⟨i2,s2⟩,e)∧(e=0→∀ y ∈ x.Kids.drop i,Calls p k y):=by
     intro i1 i2 s1 s2 m
     induction m with
     | zero=>intro i h1 h2; omega
     | succ m ihm =>
      intro i h1 h2
      rw [sema_expr_l1]
      by_cases c:i<x.Kids.length
      ·have:=hk.le
       obtain ⟨e,e1,e2⟩:=ih.typed k p d B x.Kids[i] ⟨i1,s1⟩ H (hks _ (List.getElem_mem _)) (by omega)
       rw [if_pos (by omega),at_nat,List.getElem?_eq_getElem c,bS,e1,bS]
       by_cases z:e=0
       ·rw [if_neg (by simpa using z),i64_ok (by omega),bS]
        obtain ⟨e',r1,r2⟩:=ihm (i+1) c (by omega)
        refine ⟨e',r1,fun hz y hy=>?_⟩
        rw [List.drop_eq_getElem_cons c] at hy
        rcases List.mem_cons.1 hy with rfl | hy
        ·exact e2 z
        ·exact r2 hz y hy
       ·rw [if_pos z]; exact ⟨e,rfl,fun h=>absurd h z⟩
      ·rw [if_neg (by omega),List.drop_eq_nil_of_le (by omega)]
       exact ⟨0,rfl,fun _=>by simp⟩
    have J6:∀ (i1 i2:Int) (s1 s2:List UInt8),i2≠3→∃ t e,sema_expr_j6 (SemaE_run n) x p d B i1 s1 i2 s2=some (t,e)∧(e=0→TyOk p t∧Calls p (k+1) x):=by
     intro i1 i2 s1 s2 h
     obtain ⟨e,h1,h2⟩:=L i1 i2 s1 s2 (x.Kids.length+1) 0 (by omega) (by omega)
     exact ⟨_,e,h1,fun hz=>⟨.of h,ca (by omega) (by omega) (by omega) (by simpa using h2 hz)⟩⟩
    rw [sema_num,bS,bS,sema_boolean]
    simp only [bS]
    split
    ·exact J6 _ _ _ _ (by decide)
    ·split
     ·exact J6 _ _ _ _ (by decide)
     ·exact J6 _ _ _ _ (by decide)
   split
   ·rename_i h; exact J3 _ (by simp [h])
   ·rename_i h; exact J3 _ (by simp [h])
end Go.Y
namespace Go.Y
open Go.Wk Go.Xt
theorem mget_mput {κ β:Type} [DecidableEq κ]:∀ (m:List (κ×β)) (k k':κ) (x:β),mget (mput m k x) k'=if k=k' then some x else mget m k'
 | [],k,k',x=>rfl
 | (a,b)::m,k,k',x=>by
  rw [mput]
  by_cases c:a=k
  ·subst c
   rw [if_pos rfl,mget,mget]
   by_cases d:a=k'
   ·rw [if_pos d,if_pos d]
   ·rw [if_neg d,if_neg d,if_neg d]
  ·rw [if_neg c,mget,mget,mget_mput m k k' x]
   by_cases d:a=k'
   ·rw [if_pos d,if_pos d,if_neg fun h=>c (d.trans h.symm)]
   ·rw [if_neg d,if_neg d]
def CallsS (p:TSp):Nat→TStat→Prop
 | 0,_=>False
 | k+1,s=>(s.Kind≠6→Calls p k s.X)∧((s.Kind=3∨s.Kind=4)→∀ y ∈ s.Body,CallsS p k y)∧(s.Kind=3→∀ y ∈ s.Else,CallsS p k y)∧(s.Kind=7→∃ d,mget p.named s.Name=some d∧d.Kind=1)
theorem sema_pop_t (p:TSp) (d:TDef) (B:Bl) (h:0<B.length) (h2:B.length≤100):sema_pop p d B=some (B.take (B.length - 1)):=by
 rw [sema_pop,i64_ok (by omega),bS,cut,if_pos (by omega),bS,sema_pop_j1]
 simp
structure SemaST (n:Nat):Prop where
 stats:∀ (k:Nat) (p:TSp) (d:TDef) (B:Bl) (l:List TStat),EH p d B→l.length≤50→(∀ y ∈ l,OkS k y)→B.length+k≤90→5*k+130≤n →
  ∃ e,(SemaS_run n).sema_stats p d B l=some (e,B)∧(e=0→∀ y ∈ l,CallsS p k y)
 stat:∀ (k:Nat) (p:TSp) (d:TDef) (B:Bl) (s:TStat),EH p d B→0<B.length→OkS k s→B.length+k≤91→5*k+129≤n →
  ∃ e B',(SemaS_run n).sema_stat p d B s=some (e,B')∧B'.length=B.length∧B'.take (B.length - 1)=B.take (B.length - 1)∧ScOk p B'∧(e=0→CallsS p k s)
theorem sema_stat_j4_e (B:Bl) (r:TType×Int) (b:Bool):sema_stat_j4 B r b=some (if b=true then 9 else r.2,B):=by cases b <;> rfl
theorem semaS_t:∀ n,SemaST n:=by
 intro n
 induction n with
 | zero=>exact ⟨fun _ _ _ _ _ _ _ _ _ h=>by omega,fun _ _ _ _ _ _ _ _ _ h=>by omega⟩
 | succ n ih =>
  refine ⟨fun k p d B l H hl hx hB hn=>?_,fun k p d B s H h0 hx hB hn=>?_⟩
  ·show ∃ e,sema_stats (SemaS_run n) p d B l=some (e,B)∧_
   rw [sema_stats,app,if_pos (by simp; omega),bS,sema_stats_j1]
   have L:∀ (m i:Nat) (B':Bl),i≤l.length→l.length<m+i→B'.length=B.length+1→B'.take B.length=B→ScOk p B' →
     ∃ e,sema_stats_l1 (SemaS_run n) l p d m i B'=some (e,B)∧(e=0→∀ y ∈ l.drop i,CallsS p k y):=by
    intro m
    induction m with
    | zero=>intro i B' h1 h2; omega
    | succ m ihm =>
     intro i B' h1 h2 g1 g2 g3
     rw [sema_stats_l1]
     have pop:∀ C:Bl,C.length=B.length+1→C.take B.length=B→sema_pop p d C=some B:=fun C e1 e2=>by
      rw [sema_pop_t p d C (by omega) (by omega),e1,Nat.add_sub_cancel,e2]
     by_cases c:i<l.length
     ·obtain ⟨e,B2,r1,r2,r3,r4,r5⟩:=ih.stat k p d B' l[i] ⟨H.pg,H.hd,g3,by omega⟩ (by omega) (hx _ (List.getElem_mem _)) (by omega) (by omega)
      rw [g1,Nat.add_sub_cancel] at r3
      rw [g1] at r2
      have e2:B2.take B.length=B:=r3.trans g2
      rw [if_pos (by omega),at_nat,List.getElem?_eq_getElem c,bS,r1,bS]
      by_cases z:e=0
      ·rw [if_neg (by simpa using z),i64_ok (by omega),bS]
       obtain ⟨e',s1,s2⟩:=ihm (i+1) B2 c (by omega) r2 e2 r4
       refine ⟨e',s1,fun hz y hy=>?_⟩
       rw [List.drop_eq_getElem_cons c] at hy
       rcases List.mem_cons.1 hy with rfl | hy
       ·exact r5 z
       ·exact s2 hz y hy
      ·rw [if_pos z]
       simp only []
       rw [pop B2 r2 e2,bS]
       exact ⟨e,rfl,fun h=>absurd h z⟩
     ·rw [if_neg (by omega),pop B' g1 g2,bS,List.drop_eq_nil_of_le (by omega)]
      exact ⟨0,rfl,fun _=>by simp⟩
   have:=L (l.length+1) 0 (B++[[]]) (by omega) (by omega) (by simp) (by simp) (fun m hm k' t ht=>by
    rcases List.mem_append.1 hm with hm | hm
    ·exact H.sc m hm k' t ht
    ·rw [List.mem_singleton.1 hm] at ht; cases ht)
   simpa using this
  ·show ∃ e B',sema_stat n (SemaS_run n) p d B s=some (e,B')∧_
   cases k with
   | zero=>cases hx
   | succ k =>
   obtain ⟨k1,k9,hX,hb,he⟩:=hx
   have tt:=(sema_t n).typed k p d B s.X
   have te:=(sema_t n).expr k p d B s.X
   have same:∀ e:Int,(e=0→CallsS p (k+1) s)→∀ o:Option (Int×Bl),o=some (e,B)→∃ e B',o=some (e,B')∧B'.length=B.length∧B'.take (B.length - 1)=B.take (B.length - 1)∧ScOk p B'∧(e=0→CallsS p (k+1) s) :=
    fun e h o ho=>⟨e,B,ho,rfl,rfl,H.sc,h⟩
   have cs:s.Kind≠3→s.Kind≠4→s.Kind≠7→(s.Kind≠6→Calls p k s.X)→CallsS p (k+1) s:=fun h3 h4 h7 h=>⟨h,fun h=>by omega,fun h=>absurd h h3,fun h=>absurd h h7⟩
   rw [sema_stat]
   by_cases c1:s.Kind=1
   ·obtain ⟨t,e,h1,h2⟩:=te H (hX (by omega)) (by omega)
    rw [if_pos c1,h1,bS]
    by_cases z:e=0
    ·obtain ⟨t',b,g1,g2⟩:=sema_look_t H.sc H.bl n (by omega) d s.Name
     rw [if_neg (by simpa using z),g1,bS]
     cases b with
     | true=>exact same 7 (fun h=>absurd h (by decide)) _ rfl
     | false =>
      have hlt:B.length - 1<B.length:=by omega
      have e1:(B.length:Int) - 1=((B.length - 1:Nat):Int):=by omega
      rw [if_neg (by simp),i64_ok (by omega),bS,e1,at_nat,List.getElem?_eq_getElem hlt,bS,sema_stat_j1]
      refine ⟨0,_,rfl,by simp,?_,fun m hm k' u hu=>?_,fun _=>cs (by omega) (by omega) (by omega) fun _=>(h2 z).2⟩
      ·simp [List.take_set_of_le]
      ·rcases List.mem_or_eq_of_mem_set hm with hm | rfl
       ·exact H.sc m hm k' u hu
       ·rw [mget_mput] at hu
        split at hu
        ·obtain rfl:=Option.some.inj hu
         exact (h2 z).1
        ·exact H.sc _ (List.getElem_mem _) k' u hu
    ·rw [if_pos z]
     exact same e (fun h=>absurd h z) _ rfl
   rw [if_neg c1]
   by_cases c2:s.Kind=2
   ·obtain ⟨t',b,g1,g2⟩:=sema_look_t H.sc H.bl n (by omega) d s.Name
    rw [if_pos c2,g1,bS]
    cases b with
    | false=>exact same 7 (fun h=>absurd h (by decide)) _ rfl
    | true =>
     obtain ⟨e,h1,h2⟩:=tt t' H (hX (by omega)) (by omega)
     rw [if_pos rfl,h1,bS]
     exact same e (fun hz=>cs (by omega) (by omega) (by omega) fun _=>h2 hz) _ rfl
   rw [if_neg c2]
   have J2:∀ b,(b=true ↔ s.Kind=3∨s.Kind=4)→∃ e B',sema_stat_j2 n (SemaS_run n) s p d B b=some (e,B')∧B'.length=B.length∧B'.take (B.length - 1)=B.take (B.length - 1)∧ScOk p B'∧(e=0→CallsS p (k+1) s):=by
    intro b hb'
    rw [sema_stat_j2]
    by_cases q:b=true
    ·have c:=hb'.1 q
     obtain ⟨e,h1,h2⟩:=tt ⟨2,[]⟩ H (hX (by omega)) (by omega)
     rw [if_pos q,sema_boolean,bS,h1,bS]
     by_cases z:e=0
     ·rw [if_neg (by simpa using z)]
      obtain ⟨e2,g1,g2⟩:=ih.stats k p d B s.Body H (hb c).1 (hb c).2 (by omega) (by omega)
      rw [g1,bS]
      by_cases z2:e2=0
      ·rw [if_neg (by simpa using z2)]
       by_cases c4:s.Kind=4
       ·rw [decide_eq_true c4]
        exact same e2 (fun _=>⟨fun _=>h2 z,fun _=>g2 z2,fun h=>by omega,fun h=>by omega⟩) _ rfl
       ·have c3:s.Kind=3:=by omega
        obtain ⟨e3,f1,f2⟩:=ih.stats k p d B s.Else H (he c3).1 (he c3).2 (by omega) (by omega)
        rw [decide_eq_false c4,sema_stat_j3,if_neg (by decide)]
        simp only []
        rw [f1,bS]
        exact same e3 (fun hz=>⟨fun _=>h2 z,fun _=>g2 z2,fun _=>f2 hz,fun h=>by omega⟩) _ rfl
      ·rw [if_pos z2]
       exact same e2 (fun h=>absurd h z2) _ rfl
     ·rw [if_pos z]
      exact same e (fun h=>absurd h z) _ rfl
    rw [if_neg q]
    have q3:s.Kind≠3:=fun h=>q (hb'.2 (.inl h))
    have q4:s.Kind≠4:=fun h=>q (hb'.2 (.inr h))
    by_cases c5:s.Kind=5
    ·rw [if_pos c5]
     split
     ·exact same 8 (fun h=>absurd h (by decide)) _ rfl
     ·obtain ⟨e,h1,h2⟩:=tt d.Typ H (hX (by omega)) (by omega)
      rw [h1,bS]
      exact same e (fun hz=>cs q3 q4 (by omega) fun _=>h2 hz) _ rfl
    rw [if_neg c5]
    by_cases c6:s.Kind=6
    ·rw [if_pos c6]
     split
     ·exact same 8 (fun h=>absurd h (by decide)) _ rfl
     ·exact same 0 (fun hz=>cs q3 q4 (by omega) fun h=>absurd c6 h) _ rfl
    rw [if_neg c6]
    by_cases c7:s.Kind=7
    ·rw [if_pos c7,sema_find_e,bS]
     by_cases c:isK (mget p.named s.Name) 1=true
     ·obtain ⟨f,hf,fk⟩:=isK_t c
      obtain ⟨e,h1,h2⟩:=tt f.Typ H (hX (by omega)) (by omega)
      rw [if_pos c,hf]
      simp only [bS]
      rw [h1,bS]
      exact same e (fun hz=>⟨fun _=>h2 hz,fun h=>by omega,fun h=>by omega,fun _=>⟨f,hf,fk⟩⟩) _ rfl
     ·rw [if_neg c]
      exact same 7 (fun h=>absurd h (by decide)) _ rfl
    rw [if_neg c7]
    by_cases c8:s.Kind=8
    ·obtain ⟨t,e,h1,h2⟩:=te H (hX (by omega)) (by omega)
     rw [if_pos c8,h1,bS]
     by_cases z:e=0
     ·rw [if_pos z,sema_plain_e,bS,sema_stat_j4_e]
      exact same _ (fun _=>cs q3 q4 (by omega) fun _=>(h2 z).2) _ rfl
     ·rw [if_neg z,sema_stat_j4_e]
      exact same e (fun h=>absurd h z) _ rfl
    rw [if_neg c8]
    by_cases c9:s.Kind=9
    ·obtain ⟨t,e,h1,h2⟩:=te H (hX (by omega)) (by omega)
     rw [if_pos c9,h1,bS]
     exact same e (fun hz=>cs q3 q4 (by omega) fun _=>(h2 hz).2) _ rfl
    ·omega
   split
   ·rename_i h; exact J2 _ (by simp [h])
   ·rename_i h; exact J2 _ (by simp [h])
theorem sema_typ_t (p:TSp) (t:TType):∃ e,sema_typ p t=some e∧(e=0→TyOk p t):=by
 rw [sema_typ,sema_plain_e,bS]
 by_cases c:t.Kind≠3
 ·rw [if_pos (decide_eq_true c)]; exact ⟨0,rfl,fun _=>.of c⟩
 ·rw [if_neg (by simpa using c),sema_find_e,bS]
  by_cases q:isK (mget p.named t.Gen) 3=true
  ·rw [if_pos q]; exact ⟨0,rfl,fun _ _=>isK_t q⟩
  ·rw [if_neg q]; exact ⟨7,rfl,fun h=>absurd h (by decide)⟩
theorem sema_head_t (p:TSp) (d:TDef) (hd:OkD d):∃ e,sema_head p d=some e∧(e=0→HeadOk p d):=by
 have j3:∀ b,sema_head_j3 b=some (if b=true then 9 else 0):=fun b=>by cases b <;> rfl
 have J2:(d.Kind=2∨d.Kind=3→∀ q ∈ d.Params,TyOk p q.Typ)→∃ e,sema_head_j2 d=some e∧(e=0→HeadOk p d):=by
  intro g
  rw [sema_head_j2]
  have hpl:d.Kind=2∨d.Kind=3→d.Params.length≤6:=fun h=>(hd.ps h).1
  by_cases c3:d.Kind=3
  ·rw [if_pos c3,sema_plain_e,bS]
   by_cases q:d.Takes.Kind≠3
   ·rw [if_pos (decide_eq_true q),if_pos (by omega),sema_plain_e,bS,j3]
    refine ⟨_,rfl,fun hz=>⟨fun _ h=>?_,fun _=>q,g,hpl⟩⟩
    simp [h] at hz
   ·rw [if_neg (by simpa using q),j3]
    exact ⟨9,rfl,fun h=>absurd h (by decide)⟩
  ·rw [if_neg c3]
   by_cases c4:d.Kind=4
   ·rw [if_neg (by simpa using c4),j3]
    exact ⟨0,rfl,fun _=>⟨fun h=>absurd c4 h,fun h=>absurd h c3,g,hpl⟩⟩
   ·rw [if_pos c4,sema_plain_e,bS,j3]
    refine ⟨_,rfl,fun hz=>⟨fun _ h=>?_,fun h=>absurd h c3,g,hpl⟩⟩
    simp [h] at hz
 have J1:∀ b,(b=true ↔ d.Kind=2∨d.Kind=3)→∃ e,sema_head_j1 p d b=some e∧(e=0→HeadOk p d):=by
  intro b hb
  rw [sema_head_j1]
  by_cases q:b=true
  ·rw [if_pos q]
   have hp:=hd.ps (hb.1 q)
   have L:∀ (m i:Nat) (S:List (List UInt8×Int)),i≤d.Params.length→d.Params.length<m+i→(∀ k c,mget S k=some c→0≤c∧c≤1)→(∀ q ∈ d.Params.take i,TyOk p q.Typ)→∃ e,sema_head_l1 p d m i S=some e∧(e=0→HeadOk p d):=by
    intro m
    induction m with
    | zero=>intro i S h1 h2; omega
    | succ m ihm =>
     intro i S h1 h2 g1 g2
     rw [sema_head_l1]
     by_cases c:i<d.Params.length
     ·have hc:0≤(mget S d.Params[i].Name).getD 0∧(mget S d.Params[i].Name).getD 0≤1:=by
       cases h:mget S d.Params[i].Name with
       | none=>decide
       | some v=>exact g1 _ _ h
      rw [if_pos (by omega),at_nat,List.getElem?_eq_getElem c,bS,i64_ok (by omega),bS,mget_mput,if_pos rfl]
      simp only [Option.getD_some]
      by_cases w:(1:Int)<(mget S d.Params[i].Name).getD 0+1
      ·rw [if_pos w]; exact ⟨7,rfl,fun h=>absurd h (by decide)⟩
      ·obtain ⟨e,e1,e2⟩:=sema_typ_t p d.Params[i].Typ
       rw [if_neg w,e1,bS]
       by_cases z:e=0
       ·rw [if_neg (by simpa using z),i64_ok (by omega),bS]
        refine ihm (i+1) _ c (by omega) (fun k v hv=>?_) fun y hy=>?_
        ·rw [mget_mput] at hv
         split at hv
         ·obtain rfl:=Option.some.inj hv
          omega
         ·exact g1 _ _ hv
        ·rw [List.take_succ_eq_append_getElem c] at hy
         rcases List.mem_append.1 hy with hy | hy
         ·exact g2 y hy
         ·rw [List.mem_singleton.1 hy]; exact e2 z
       ·rw [if_pos z]; exact ⟨e,rfl,fun h=>absurd h z⟩
     ·rw [if_neg (by omega)]
      rw [List.take_of_length_le (by omega)] at g2
      exact J2 fun _=>g2
   exact L (d.Params.length+1) 0 [] (by omega) (by omega) (fun k c h=>by cases h) (by simp)
  ·rw [if_neg q]
   exact J2 fun h=>absurd (hb.2 h) q
 rw [sema_head]
 split
 ·rename_i h; exact J1 _ (by simp [h])
 ·rename_i h; exact J1 _ (by simp [h])
theorem sema_body_t (fu:Nat) (hf:500≤fu) (p:TSp) (d:TDef) (hp:Pg p) (hh:HeadOk p d) (hd:OkD d):∃ e,sema_body fu p d=some e∧(e=0→d.Kind≠1→∀ y ∈ d.Body,CallsS p 39 y):=by
 rw [sema_body]
 by_cases c1:d.Kind=1
 ·rw [if_pos c1]; exact ⟨0,rfl,fun _ h=>absurd c1 h⟩
 ·rw [if_neg c1]
  have J1:∀ B:Bl,B.length=1→ScOk p B→∃ e,sema_body_j1 fu p d B=some e∧(e=0→d.Kind≠1→∀ y ∈ d.Body,CallsS p 39 y):=by
   intro B h1 h2
   obtain ⟨e,r1,r2⟩:=(semaS_t fu).stats 39 p d B d.Body ⟨hp,hh,h2,by omega⟩ (hd.bl c1) (hd.bo c1) (by omega) (by omega)
   rw [sema_body_j1,r1,bS]
   exact ⟨e,rfl,fun hz _=>r2 hz⟩
  by_cases c4:d.Kind=4
  ·rw [if_neg (by simpa using c4)]
   exact J1 _ rfl (fun m hm k t ht=>by rw [List.mem_singleton.1 hm] at ht; cases ht)
  ·rw [if_pos c4]
   have k23:d.Kind=2∨d.Kind=3:=by have:=hd.k1; have:=hd.k4; omega
   have hpl:=hh.pl k23
   have L:∀ (m i:Nat) (B:Bl),i≤d.Params.length→d.Params.length<m+i→B.length=1→ScOk p B→∃ e,sema_body_l1 fu p d m i B=some e∧(e=0→d.Kind≠1→∀ y ∈ d.Body,CallsS p 39 y):=by
    intro m
    induction m with
    | zero=>intro i B h1 h2; omega
    | succ m ihm =>
     intro i B h1 h2 g1 g2
     rw [sema_body_l1]
     by_cases c:i<d.Params.length
     ·have h0:0<B.length:=by omega
      rw [if_pos (by omega),at_nat,List.getElem?_eq_getElem c,bS,at_0 h0,bS,sema_bare_e,bS,sema_body_j2,i64_ok (by omega),bS]
      refine ihm (i+1) _ c (by omega) (by simpa using g1) fun m' hm' k t ht=>?_
      rcases List.mem_or_eq_of_mem_set hm' with hm' | rfl
      ·exact g2 m' hm' k t ht
      ·rw [mget_mput] at ht
       split at ht
       ·obtain rfl:=Option.some.inj ht
        exact (hh.ps k23 _ (List.getElem_mem _)).bare
       ·exact g2 _ (List.getElem_mem _) k t ht
     ·rw [if_neg (by omega)]
      exact J1 B g1 g2
   exact L (d.Params.length+1) 0 _ (by omega) (by omega) rfl (fun m hm k t ht=>by rw [List.mem_singleton.1 hm] at ht; cases ht)
structure Right (p:TSp) (l:List TDef):Prop where
 ok:OkP l
 nm:∀ d ∈ l,mget p.named d.Name=some d
 only:∀ k d,mget p.named k=some d→d ∈ l∧d.Name=k
 nd:l.Pairwise fun a b=>a.Name≠b.Name
 tk:∃ d ∈ l,d.Kind=4
 hd:∀ d ∈ l,HeadOk p d
 cs:∀ d ∈ l,d.Kind≠1→∀ y ∈ d.Body,CallsS p 39 y
theorem sema_named_t (fu:Nat) (hf:500≤fu) (l:List TDef):∃ p f,sema_named fu l=some (p,f)∧(f.Err=0→Right p l):=by
 obtain ⟨f,h1,h2⟩:=syn_wrong_t fu (by omega) l
 rw [sema_named,h1,bS]
 by_cases z:f.Err=0
 ·obtain ⟨-,ok⟩:=h2 z
  have hl:=ok.le
  rw [if_neg (by simpa using z)]
  have L3:∀ (N:List (List UInt8×TDef)),(∀ d ∈ l,mget N d.Name=some d)→(∀ k d,mget N k=some d→d ∈ l∧d.Name=k)→l.Pairwise (fun a b=>a.Name≠b.Name)→(∃ d ∈ l,d.Kind=4)→(∀ d ∈ l,HeadOk ⟨l,N⟩ d) →
    ∀ (m i:Nat),i≤l.length→l.length<m+i→(∀ d ∈ l.take i,d.Kind≠1→∀ y ∈ d.Body,CallsS ⟨l,N⟩ 39 y)→∃ p f,sema_named_l3 fu l N m i=some (p,f)∧(f.Err=0→Right p l):=by
   intro N n1 n2 n3 n4 n5 m
   induction m with
   | zero=>intro i h1 h2; omega
   | succ m ihm =>
    intro i h1 h2 g
    rw [sema_named_l3]
    by_cases c:i<l.length
    ·obtain ⟨e,e1,e2⟩:=sema_body_t fu hf ⟨l,N⟩ l[i] (fun k d hd=>n5 d (n2 k d hd).1) (n5 _ (List.getElem_mem _)) (ok.ok _ (List.getElem_mem _))
     rw [if_pos (by omega),at_nat,List.getElem?_eq_getElem c,bS,e1,bS]
     by_cases z:e=0
     ·rw [if_neg (by simpa using z),i64_ok (by omega),bS]
      refine ihm (i+1) c (by omega) fun d hd=>?_
      rw [List.take_succ_eq_append_getElem c] at hd
      rcases List.mem_append.1 hd with hd | hd
      ·exact g d hd
      ·rw [List.mem_singleton.1 hd]; exact e2 z
     ·rw [if_pos z]; exact ⟨_,_,rfl,fun h=>absurd h z⟩
    ·rw [if_neg (by omega)]
     rw [List.take_of_length_le (by omega)] at g
     exact ⟨_,_,rfl,fun _=>⟨ok,n1,n2,n3,n4,n5,g⟩⟩
  have L2:∀ (N:List (List UInt8×TDef)),(∀ d ∈ l,mget N d.Name=some d)→(∀ k d,mget N k=some d→d ∈ l∧d.Name=k)→l.Pairwise (fun a b=>a.Name≠b.Name)→(∃ d ∈ l,d.Kind=4) →
    ∀ (m i:Nat),i≤l.length→l.length<m+i→(∀ d ∈ l.take i,HeadOk ⟨l,N⟩ d)→∃ p f,sema_named_l2 fu l N m i=some (p,f)∧(f.Err=0→Right p l):=by
   intro N n1 n2 n3 n4 m
   induction m with
   | zero=>intro i h1 h2; omega
   | succ m ihm =>
    intro i h1 h2 g
    rw [sema_named_l2]
    by_cases c:i<l.length
    ·obtain ⟨e,e1,e2⟩:=sema_head_t ⟨l,N⟩ l[i] (ok.ok _ (List.getElem_mem _))
     rw [if_pos (by omega),at_nat,List.getElem?_eq_getElem c,bS,e1,bS]
     by_cases z:e=0
     ·rw [if_neg (by simpa using z),i64_ok (by omega),bS]
      refine ihm (i+1) c (by omega) fun d hd=>?_
      rw [List.take_succ_eq_append_getElem c] at hd
      rcases List.mem_append.1 hd with hd | hd
      ·exact g d hd
      ·rw [List.mem_singleton.1 hd]; exact e2 z
     ·rw [if_pos z]; exact ⟨_,_,rfl,fun h=>absurd h z⟩
    ·rw [if_neg (by omega)]
     rw [List.take_of_length_le (by omega)] at g
     exact L3 N n1 n2 n3 n4 g (l.length+1) 0 (by omega) (by omega) (by simp)
  have L1:∀ (m i:Nat) (t:Int) (N:List (List UInt8×TDef)),i≤l.length→l.length<m+i→0≤t→t≤i→(t≠0→∃ d ∈ l,d.Kind=4)→(∀ d ∈ l.take i,mget N d.Name=some d)→(∀ k d,mget N k=some d→d ∈ l.take i∧d.Name=k)→(l.take i).Pairwise (fun a b=>a.Name≠b.Name) →
    ∃ p f,sema_named_l1 fu l m t i N=some (p,f)∧(f.Err=0→Right p l):=by
   intro m
   induction m with
   | zero=>intro i t N h1 h2; omega
   | succ m ihm =>
    intro i t N h1 h2 g1 g2 g3 g4 g5 g6
    rw [sema_named_l1]
    by_cases c:i<l.length
    ·have e0:at_ l (i:Int)=some l[i]:=by rw [at_nat,List.getElem?_eq_getElem c]
     rw [if_pos (by omega),e0,bS]
     cases h:mget N l[i].Name with
     | some v=>rw [if_pos (by simp)]; exact ⟨_,_,rfl,fun h=>absurd h (by decide:(7:Int)≠0)⟩
     | none =>
      rw [if_neg (by simp)]
      simp only [bS]
      have hm:l[i] ∈ l:=List.getElem_mem _
      have tk:=List.take_succ_eq_append_getElem c
      have nn:∀ d ∈ l.take i,d.Name≠l[i].Name:=fun d hd he=>by
       have:=g4 d hd
       rw [he,h] at this
       cases this
      have q1:∀ d ∈ l.take (i+1),mget (mput N l[i].Name l[i]) d.Name=some d:=by
       intro d hd
       rw [tk] at hd
       rw [mget_mput]
       rcases List.mem_append.1 hd with hd | hd
       ·rw [if_neg fun he=>nn d hd he.symm]; exact g4 d hd
       ·rw [List.mem_singleton.1 hd,if_pos rfl]
      have q2:∀ k d,mget (mput N l[i].Name l[i]) k=some d→d ∈ l.take (i+1)∧d.Name=k:=by
       intro k d hd
       rw [mget_mput] at hd
       rw [tk]
       split at hd
       ·rename_i hk
        obtain rfl:=Option.some.inj hd
        exact ⟨List.mem_append.2 (.inr (List.mem_singleton.2 rfl)),hk⟩
       ·obtain ⟨r1,r2⟩:=g5 k d hd
        exact ⟨List.mem_append.2 (.inl r1),r2⟩
      have q3:(l.take (i+1)).Pairwise (fun a b=>a.Name≠b.Name):=by
       rw [tk,List.pairwise_append]
       refine ⟨g6,List.pairwise_singleton _ _,fun a ha b hb=>?_⟩
       rw [List.mem_singleton.1 hb]
       exact nn a ha
      by_cases k4:l[i].Kind=4
      ·rw [if_pos k4,i64_ok (by omega),bS,i64_ok (by omega),bS]
       exact ihm (i+1) (t+1) _ c (by omega) (by omega) (by omega) (fun _=>⟨_,hm,k4⟩) q1 q2 q3
      ·rw [if_neg k4,i64_ok (by omega),bS]
       exact ihm (i+1) t _ c (by omega) g1 (by omega) g3 q1 q2 q3
    ·rw [if_neg (by omega)]
     rw [List.take_of_length_le (by omega)] at g4 g5 g6
     by_cases t0:t=0
     ·rw [if_pos t0]; exact ⟨_,_,rfl,fun h=>absurd h (by decide:(6:Int)≠0)⟩
     ·rw [if_neg t0]
      exact L2 N g4 g5 g6 (g3 t0) (l.length+1) 0 (by omega) (by omega) (by simp)
  exact L1 (l.length+1) 0 0 [] (by omega) (by omega) (by omega) (by omega) (fun h=>absurd rfl h) (by simp) (fun k d h=>by cases h) (by simp)
 ·rw [if_pos z]
  exact ⟨_,_,rfl,fun h=>absurd h z⟩
end Go.Y
namespace Go.Y
open Go.Wk Go.Xt
abbrev Nm:=List UInt8
def cE:Nat→TExpr→List Nm
 | 0,_=>[]
 | k+1,x=>(if x.Kind=19∨x.Kind=22 then [x.Name] else [])++(x.Kids.map (cE k)).flatten
def rE:Nat→TExpr→List Nm
 | 0,_=>[]
 | k+1,x=>(if x.Kind=20 then [x.Name] else [])++(x.Kids.map (rE k)).flatten
def cS:Nat→TStat→List Nm
 | 0,_=>[]
 | k+1,s=>(if s.Kind=6 then [] else cE k s.X)++(if s.Kind=3∨s.Kind=4 then (s.Body.map (cS k)).flatten else [])++(if s.Kind=3 then (s.Else.map (cS k)).flatten else [])
def rS:Nat→TStat→List Nm
 | 0,_=>[]
 | k+1,s=>(if s.Kind=6 then [] else rE k s.X)++(if s.Kind=3∨s.Kind=4 then (s.Body.map (rS k)).flatten else [])++(if s.Kind=3 then (s.Else.map (rS k)).flatten else [])
def sS:Nat→TStat→List Nm
 | 0,_=>[]
 | k+1,s=>(if s.Kind=7 then [s.Name] else [])++(if s.Kind=3∨s.Kind=4 then (s.Body.map (sS k)).flatten else [])++(if s.Kind=3 then (s.Else.map (sS k)).flatten else [])
theorem flat_le {α β:Type} (f:α→List β) (g:α→Nat) (h:∀ x,(f x).length≤g x):∀ l:List α,(l.map f).flatten.length≤(l.map g).sum
 | []=>by simp
 | x::l=>by
  have:=flat_le f g h l
  have:=h x
  simp only [List.map_cons,List.flatten_cons,List.length_append,List.sum_cons]
  omega
theorem le_sum {α:Type} (g:α→Nat):∀ (l:List α) (x:α),x ∈ l→g x≤(l.map g).sum
 | y::l,x,h=>by
  rw [List.map_cons,List.sum_cons]
  rcases List.mem_cons.1 h with rfl | h
  ·omega
  ·have:=le_sum g l x h; omega
theorem cE_le:∀ (k:Nat) (x:TExpr),(cE k x).length≤nE k x
 | 0,x=>by simp [cE]
 | k+1,x=>by
  have:=flat_le (cE k) (nE k) (cE_le k) x.Kids
  rw [cE,nE,List.length_append]
  split <;> simp only [List.length_cons,List.length_nil] <;> omega
theorem rE_le:∀ (k:Nat) (x:TExpr),(rE k x).length≤nE k x
 | 0,x=>by simp [rE]
 | k+1,x=>by
  have:=flat_le (rE k) (nE k) (rE_le k) x.Kids
  rw [rE,nE,List.length_append]
  split <;> simp only [List.length_cons,List.length_nil] <;> omega
theorem cS_le:∀ (k:Nat) (x:TStat),(cS k x).length≤nS k x
 | 0,x=>by simp [cS]
 | k+1,x=>by
  have:=flat_le (cS k) (nS k) (cS_le k) x.Body
  have:=flat_le (cS k) (nS k) (cS_le k) x.Else
  have:=cE_le k x.X
  rw [cS,nS,List.length_append,List.length_append]
  split <;> split <;> split <;> (try simp only [List.length_nil]) <;> omega
theorem rS_le:∀ (k:Nat) (x:TStat),(rS k x).length≤nS k x
 | 0,x=>by simp [rS]
 | k+1,x=>by
  have:=flat_le (rS k) (nS k) (rS_le k) x.Body
  have:=flat_le (rS k) (nS k) (rS_le k) x.Else
  have:=rE_le k x.X
  rw [rS,nS,List.length_append,List.length_append]
  split <;> split <;> split <;> (try simp only [List.length_nil]) <;> omega
theorem sS_le:∀ (k:Nat) (x:TStat),(sS k x).length≤nS k x
 | 0,x=>by simp [sS]
 | k+1,x=>by
  have:=flat_le (sS k) (nS k) (sS_le k) x.Body
  have:=flat_le (sS k) (nS k) (sS_le k) x.Else
  rw [sS,nS,List.length_append,List.length_append]
  by_cases h7:x.Kind=7
  ·rw [if_pos h7,if_neg (by omega),if_neg (by omega),if_neg (by omega),if_neg (by omega),if_neg (by omega)]
   simp
  ·rw [if_neg h7]
   split <;> split <;> split <;> (try simp only [List.length_nil]) <;> omega
theorem app_ok {α:Type} {l xs:List α} (h:l.length+xs.length≤4294967296):app l xs=some (l++xs):=if_pos h
theorem uses_expr_t:∀ (n k:Nat) (x:TExpr) (c s r:List Nm),k≤n→OkE k x→c.length+nE k x≤1000000→r.length+nE k x≤1000000→(SemaU_run n).uses_expr c s r x=some (c++cE k x,s,r++rE k x):=by
 intro n
 induction n with
 | zero =>
  intro k x c s r h1 h2
  obtain rfl:k=0:=by omega
  cases h2
 | succ n ih =>
  intro k x c s r h1 h2 h3 h4
  cases k with
  | zero=>cases h2
  | succ k =>
  obtain ⟨k1,k24,hk,hks⟩:=h2
  show uses_expr (SemaU_run n) c s r x=_
  have L:∀ (m i:Nat) (c r:List Nm),i≤x.Kids.length→x.Kids.length<m+i→c.length+((x.Kids.drop i).map (nE k)).sum≤1000000→r.length+((x.Kids.drop i).map (nE k)).sum≤1000000 →
    uses_expr_l1 (SemaU_run n) x m i c s r=some (c++((x.Kids.drop i).map (cE k)).flatten,s,r++((x.Kids.drop i).map (rE k)).flatten):=by
   intro m
   induction m with
   | zero=>intro i c r h1 h2; omega
   | succ m ihm =>
    intro i c r g1 g2 g3 g4
    rw [uses_expr_l1]
    have hl:=hk.le
    by_cases q:i<x.Kids.length
    ·rw [List.drop_eq_getElem_cons q,List.map_cons,List.sum_cons] at g3 g4
     have b1:=cE_le k x.Kids[i]
     have b2:=rE_le k x.Kids[i]
     rw [if_pos (by omega),at_nat,List.getElem?_eq_getElem q,bS,ih k x.Kids[i] c s r (by omega) (hks _ (List.getElem_mem _)) (by omega) (by omega),bS,i64_ok (by omega),bS]
     refine (ihm (i+1) _ _ q (by omega) (by simp only [List.length_append]; omega) (by simp only [List.length_append]; omega)).trans ?_
     rw [List.drop_eq_getElem_cons q]
     simp only [List.map_cons,List.flatten_cons,List.append_assoc]
    ·rw [if_neg (by omega),List.drop_eq_nil_of_le (by omega)]
     simp
  have J1:∀ c r:List Nm,c.length+(x.Kids.map (nE k)).sum≤1000000→r.length+(x.Kids.map (nE k)).sum≤1000000→uses_expr_j1 (SemaU_run n) x s c r=some (c++(x.Kids.map (cE k)).flatten,s,r++(x.Kids.map (rE k)).flatten):=by
   intro c r g1 g2
   have:=L (x.Kids.length+1) 0 c r (by omega) (by omega) (by simpa using g1) (by simpa using g2)
   simpa [uses_expr_j1] using this
  rw [nE] at h3 h4
  have J2:∀ b,(b=true ↔ x.Kind=19∨x.Kind=22)→uses_expr_j2 (SemaU_run n) c x s r b=some (c++cE (k+1) x,s,r++rE (k+1) x):=by
   intro b hb
   rw [uses_expr_j2,cE,rE]
   by_cases q:b=true
   ·have:=hb.1 q
    rw [if_pos q,app_ok (by simp; omega),bS,uses_expr_j3,J1 _ _ (by simp; omega) (by omega),if_pos this,if_neg (by omega)]
    simp
   ·rw [if_neg q]
    have hn:¬ (x.Kind=19∨x.Kind=22):=fun h=>q (hb.2 h)
    by_cases c20:x.Kind=20
    ·rw [if_pos c20,app_ok (by simp; omega),bS,uses_expr_j4,J1 _ _ (by omega) (by simp; omega),if_neg hn,if_pos c20]
     simp
    ·rw [if_neg c20,J1 _ _ (by omega) (by omega),if_neg hn,if_neg c20]
     simp
  rw [uses_expr]
  split
  ·rename_i h; exact J2 _ (by simp [h])
  ·rename_i h; exact J2 _ (by simp [h])
theorem uses_stats_t:∀ (n k:Nat) (l:List TStat) (c s r:List Nm),k+1≤n→l.length≤50→(∀ y ∈ l,OkS k y)→c.length+(l.map (nS k)).sum≤1000000→s.length+(l.map (nS k)).sum≤1000000→r.length+(l.map (nS k)).sum≤1000000 →
  (SemaV_run n).uses_stats c s r l=some (c++(l.map (cS k)).flatten,s++(l.map (sS k)).flatten,r++(l.map (rS k)).flatten):=by
 intro n
 induction n with
 | zero=>intro k l c s r h1; omega
 | succ n ih =>
  intro k l c s r h1 hl hx h3 h4 h5
  show uses_stats n (SemaV_run n) c s r l=_
  have L:∀ (m i:Nat) (c s r:List Nm),i≤l.length→l.length<m+i→c.length+((l.drop i).map (nS k)).sum≤1000000→s.length+((l.drop i).map (nS k)).sum≤1000000→r.length+((l.drop i).map (nS k)).sum≤1000000 →
    uses_stats_l1 n (SemaV_run n) l m i c s r=some (c++((l.drop i).map (cS k)).flatten,s++((l.drop i).map (sS k)).flatten,r++((l.drop i).map (rS k)).flatten):=by
   intro m
   induction m with
   | zero=>intro i c s r h1 h2; omega
   | succ m ihm =>
    intro i c s r g1 g2 g3 g4 g5
    rw [uses_stats_l1]
    by_cases q:i<l.length
    ·rw [List.drop_eq_getElem_cons q,List.map_cons,List.sum_cons] at g3 g4 g5
     rw [if_pos (by omega),at_nat,List.getElem?_eq_getElem q,bS]
     have hy:=hx _ (List.getElem_mem q)
     have b1:=cS_le k l[i]
     have b2:=sS_le k l[i]
     have b3:=rS_le k l[i]
     have nx:=fun c' s' r' (e1:c'=c++cS k l[i]) (e2:s'=s++sS k l[i]) (e3:r'=r++rS k l[i]) =>
      (ihm (i+1) c' s' r' q (by omega) (by rw [e1,List.length_append]; omega) (by rw [e2,List.length_append]; omega) (by rw [e3,List.length_append]; omega)).trans
       (show _=some (c++((l.drop i).map (cS k)).flatten,s++((l.drop i).map (sS k)).flatten,r++((l.drop i).map (rS k)).flatten) by
        rw [List.drop_eq_getElem_cons q,e1,e2,e3]
        simp only [List.map_cons,List.flatten_cons,List.append_assoc])
     generalize l[i]=y at *
     cases k with
     | zero=>cases hy
     | succ k =>
     obtain ⟨k1,k9,oX,oB,oE⟩:=hy
     rw [nS] at g3 g4 g5
     rw [cS] at b1 nx
     rw [sS] at b2 nx
     rw [rS] at b3 nx
     have J5:∀ c' s' r',(y.Kind=3→c'.length+(y.Else.map (nS k)).sum≤1000000∧s'.length+(y.Else.map (nS k)).sum≤1000000∧r'.length+(y.Else.map (nS k)).sum≤1000000) →
       c'=c++((if y.Kind=6 then [] else cE k y.X)++(if y.Kind=3∨y.Kind=4 then (y.Body.map (cS k)).flatten else []))→s'=s++((if y.Kind=7 then [y.Name] else [])++(if y.Kind=3∨y.Kind=4 then (y.Body.map (sS k)).flatten else [])) →
       r'=r++((if y.Kind=6 then [] else rE k y.X)++(if y.Kind=3∨y.Kind=4 then (y.Body.map (rS k)).flatten else [])) →
       uses_stats_j5 (SemaV_run n) i y (uses_stats_l1 n (SemaV_run n) l m) c' s' r'=some (c++((l.drop i).map (cS (k+1))).flatten,s++((l.drop i).map (sS (k+1))).flatten,r++((l.drop i).map (rS (k+1))).flatten):=by
      intro c' s' r' hb e1 e2 e3
      rw [uses_stats_j5]
      by_cases c3:y.Kind=3
      ·obtain ⟨z1,z2,z3⟩:=hb c3
       rw [if_pos c3,ih k y.Else c' s' r' (by omega) (oE c3).1 (oE c3).2 z1 z2 z3,bS,i64_ok (by omega),bS]
       refine nx _ _ _ ?_ ?_ ?_
       ·rw [e1]; simp only [if_pos c3,List.append_assoc]
       ·rw [e2]; simp only [if_pos c3,List.append_assoc]
       ·rw [e3]; simp only [if_pos c3,List.append_assoc]
      ·rw [if_neg c3,i64_ok (by omega),bS]
       refine nx _ _ _ ?_ ?_ ?_
       ·rw [e1]; simp only [if_neg c3,List.append_nil]
       ·rw [e2]; simp only [if_neg c3,List.append_nil]
       ·rw [e3]; simp only [if_neg c3,List.append_nil]
     have J4:∀ c' s' r' b,(b=true ↔ y.Kind=3∨y.Kind=4)→c'=c++(if y.Kind=6 then [] else cE k y.X)→s'=s++(if y.Kind=7 then [y.Name] else [])→r'=r++(if y.Kind=6 then [] else rE k y.X) →
       uses_stats_j4 (SemaV_run n) i y c' s' r' (uses_stats_l1 n (SemaV_run n) l m) b=some (c++((l.drop i).map (cS (k+1))).flatten,s++((l.drop i).map (sS (k+1))).flatten,r++((l.drop i).map (rS (k+1))).flatten):=by
      intro c' s' r' b hb e1 e2 e3
      rw [uses_stats_j4]
      have y1:=cE_le k y.X
      have y2:=rE_le k y.X
      have y3:=flat_le (cS k) (nS k) (cS_le k) y.Body
      have y4:=flat_le (sS k) (nS k) (sS_le k) y.Body
      have y5:=flat_le (rS k) (nS k) (rS_le k) y.Body
      by_cases q:b=true
      ·have c34:=hb.1 q
       rw [if_neg (show y.Kind≠6 by omega),if_pos c34] at g3 g4 g5
       rw [if_neg (show y.Kind≠6 by omega)] at e1 e3
       rw [if_neg (show y.Kind≠7 by omega)] at e2
       have l1:c'.length=c.length+(cE k y.X).length:=by rw [e1,List.length_append]
       have l2:s'.length=s.length:=by rw [e2]; simp
       have l3:r'.length=r.length+(rE k y.X).length:=by rw [e3,List.length_append]
       rw [if_pos q,ih k y.Body c' s' r' (by omega) (oB c34).1 (oB c34).2 (by omega) (by omega) (by omega),bS]
       refine J5 _ _ _ (fun h3=>?_) ?_ ?_ ?_
       ·rw [if_pos h3] at g3 g4 g5
        simp only [List.length_append]
        omega
       ·rw [e1,if_neg (show y.Kind≠6 by omega),if_pos c34,List.append_assoc]
       ·rw [e2,if_neg (show y.Kind≠7 by omega),if_pos c34,List.append_assoc]
       ·rw [e3,if_neg (show y.Kind≠6 by omega),if_pos c34,List.append_assoc]
      ·have hn:¬ (y.Kind=3∨y.Kind=4):=fun h=>q (hb.2 h)
       rw [if_neg q]
       refine J5 _ _ _ (fun h3=>absurd (.inl h3) hn) ?_ ?_ ?_
       ·rw [e1,if_neg hn,List.append_nil]
       ·rw [e2,if_neg hn,List.append_nil]
       ·rw [e3,if_neg hn,List.append_nil]
     have J1:∀ s',s'=s++(if y.Kind=7 then [y.Name] else [])→uses_stats_j1 n (SemaV_run n) i c r y (uses_stats_l1 n (SemaV_run n) l m) s'=some (c++((l.drop i).map (cS (k+1))).flatten,s++((l.drop i).map (sS (k+1))).flatten,r++((l.drop i).map (rS (k+1))).flatten):=by
      intro s' e2
      have J3:∀ c' r',c'=c++(if y.Kind=6 then [] else cE k y.X)→r'=r++(if y.Kind=6 then [] else rE k y.X)→uses_stats_j3 (SemaV_run n) i y (uses_stats_l1 n (SemaV_run n) l m) c' s' r'=some (c++((l.drop i).map (cS (k+1))).flatten,s++((l.drop i).map (sS (k+1))).flatten,r++((l.drop i).map (rS (k+1))).flatten):=by
       intro c' r' e1 e3
       rw [uses_stats_j3]
       split
       ·rename_i h; exact J4 _ _ _ _ (by simp [h]) e1 e2 e3
       ·rename_i h; exact J4 _ _ _ _ (by simp [h]) e1 e2 e3
      rw [uses_stats_j1]
      by_cases c6:y.Kind=6
      ·rw [if_neg (by simpa using c6)]
       exact J3 _ _ (by rw [if_pos c6,List.append_nil]) (by rw [if_pos c6,List.append_nil])
      ·rw [if_neg c6] at g3 g4 g5
       rw [if_pos c6,uses_expr_t n k y.X c s' r (by omega) (oX c6) (by omega) (by omega),bS]
       exact J3 _ _ (by rw [if_neg c6]) (by rw [if_neg c6])
     by_cases c7:y.Kind=7
     ·rw [if_pos c7,app_ok (by simp; omega),bS,uses_stats_j2]
      exact J1 _ (by rw [if_pos c7])
     ·rw [if_neg c7]
      exact J1 _ (by rw [if_neg c7,List.append_nil])
    ·rw [if_neg (by omega),List.drop_eq_nil_of_le (by omega)]
     simp
  rw [uses_stats]
  have:=L (l.length+1) 0 c s r (by omega) (by omega) (by simpa using h3) (by simpa using h4) (by simpa using h5)
  simpa using this
end Go.Y
namespace Go.Y
open Go.Wk Go.Xt
theorem mem_flat {α β:Type} {f:α→List β} {l:List α} {b:β} (h:b ∈ (l.map f).flatten):∃ a ∈ l,b ∈ f a:=by
 obtain ⟨q,hq,hb⟩:=List.mem_flatten.1 h
 obtain ⟨a,ha,rfl⟩:=List.mem_map.1 hq
 exact ⟨a,ha,hb⟩
theorem mem_ite {β:Type} {c:Prop} [Decidable c] {l m:List β} {b:β} (h:b ∈ (if c then l else m)):(c∧b ∈ l)∨(¬ c∧b ∈ m):=by
 by_cases q:c
 ·rw [if_pos q] at h; exact .inl ⟨q,h⟩
 ·rw [if_neg q] at h; exact .inr ⟨q,h⟩
theorem calls_c {p:TSp}:∀ (k:Nat) (x:TExpr),Calls p k x→∀ c ∈ cE k x,∃ d,mget p.named c=some d∧(d.Kind=2∨d.Kind=3)
 | 0,x,h=>by cases h
 | k+1,x,h=>by
  obtain ⟨h1,h2,h3,h4⟩:=h
  intro c hc
  rw [cE] at hc
  rcases List.mem_append.1 hc with hc | hc
  ·rcases mem_ite hc with ⟨q,hc⟩ | ⟨q,hc⟩
   ·rw [List.mem_singleton.1 hc]
    rcases q with q | q
    ·obtain ⟨d,e1,e2⟩:=h1 q; exact ⟨d,e1,.inl e2⟩
    ·obtain ⟨d,e1,e2⟩:=h2 q; exact ⟨d,e1,.inr e2⟩
   ·cases hc
  ·obtain ⟨a,ha,hb⟩:=mem_flat hc
   exact calls_c k a (h4 a ha) c hb
theorem callsS_c {p:TSp}:∀ (k:Nat) (x:TStat),CallsS p k x→∀ c ∈ cS k x,∃ d,mget p.named c=some d∧(d.Kind=2∨d.Kind=3)
 | 0,x,h=>by cases h
 | k+1,x,h=>by
  obtain ⟨h1,h2,h3,h4⟩:=h
  intro c hc
  rw [cS] at hc
  rcases List.mem_append.1 hc with hc | hc
  ·rcases List.mem_append.1 hc with hc | hc
   ·rcases mem_ite hc with ⟨q,hc⟩ | ⟨q,hc⟩
    ·cases hc
    ·exact calls_c k _ (h1 q) c hc
   ·rcases mem_ite hc with ⟨q,hc⟩ | ⟨q,hc⟩
    ·obtain ⟨a,ha,hb⟩:=mem_flat hc
     exact callsS_c k a (h2 q a ha) c hb
    ·cases hc
  ·rcases mem_ite hc with ⟨q,hc⟩ | ⟨q,hc⟩
   ·obtain ⟨a,ha,hb⟩:=mem_flat hc
    exact callsS_c k a (h3 q a ha) c hb
   ·cases hc
def cD (d:TDef):List Nm:=(d.Body.map (cS 39)).flatten
def sD (d:TDef):List Nm:=(d.Body.map (sS 39)).flatten
def rD (d:TDef):List Nm:=(d.Body.map (rS 39)).flatten
def addC (N:List (Nm×TDef)):List Nm→List Nm→List (Option TDef)→List Nm×List (Option TDef)
 | [],had,todo=>(had,todo)
 | c::cs,had,todo=>if had.contains c=true then addC N cs had todo else addC N cs (had++[c]) (todo++[mget N c])
def rch (N:List (Nm×TDef)):Nat→List Nm→List (Option TDef)→List Nm→List Nm→Option TSemaUses
 | 0,_,_,_,_=>none
 | n+1,had,[],s,r=>some ⟨[],s,r⟩
 | n+1,had,none::t,s,r=>none
 | n+1,had,some d::t,s,r=>rch N n (addC N (cD d) had t).1 (addC N (cD d) had t).2 (s++sD d) (r++rD d)
def rem_ (l:List TDef) (had:List Nm):Nat:=(l.filter fun d=>!had.contains d.Name).length
theorem filter_le {α:Type} (P Q:α→Bool) (h:∀ x,Q x=true→P x=true):∀ l:List α,(l.filter Q).length≤(l.filter P).length
 | []=>by simp
 | x::l=>by
  have ih:=filter_le P Q h l
  rw [List.filter_cons,List.filter_cons]
  by_cases q:Q x=true
  ·rw [if_pos q,if_pos (h x q),List.length_cons,List.length_cons]; omega
  ·rw [if_neg q]
   split
   ·rw [List.length_cons]; omega
   ·exact ih
theorem filter_lt {α:Type} (P Q:α→Bool) (h:∀ x,Q x=true→P x=true):∀ (l:List α) (x:α),x ∈ l→P x=true→Q x=false→(l.filter Q).length<(l.filter P).length
 | y::l,x,hx,hp,hq=>by
  have le:=filter_le P Q h l
  rw [List.filter_cons,List.filter_cons]
  rcases List.mem_cons.1 hx with rfl | hx
  ·rw [if_pos hp,if_neg (by simp [hq]),List.length_cons]; omega
  ·have ih:=filter_lt P Q h l x hx hp hq
   by_cases q:Q y=true
   ·rw [if_pos q,if_pos (h y q),List.length_cons,List.length_cons]; omega
   ·rw [if_neg q]
    split
    ·rw [List.length_cons]; omega
    ·exact ih
theorem rem_add (l:List TDef) (had:List Nm) (d:TDef) (hd:d ∈ l) (h:had.contains d.Name=false):rem_ l (had++[d.Name])<rem_ l had:=by
 refine filter_lt _ _ (fun x hx=>?_) l d hd (by simpa using h) (by simp)
 simp only [Bool.not_eq_true',List.contains_eq_mem,List.mem_append,decide_eq_false_iff_not] at hx ⊢
 exact fun h=>hx (.inl h)
structure Todo (p:TSp) (l:List TDef) (had:List Nm) (todo:List (Option TDef)) (q:Nat):Prop where
 hl:had.length+rem_ l had≤30
 td:∀ o ∈ todo,∃ d ∈ l,o=some d∧d.Kind≠1
 q:rem_ l had+todo.length≤q
theorem addC_ok {p:TSp} {l:List TDef} (R:Right p l):∀ (cs:List Nm) (had:List Nm) (todo:List (Option TDef)) (q:Nat),(∀ c ∈ cs,∃ d,mget p.named c=some d∧(d.Kind=2∨d.Kind=3))→Todo p l had todo q→Todo p l (addC p.named cs had todo).1 (addC p.named cs had todo).2 q
 | [],had,todo,q,h,T=>T
 | c::cs,had,todo,q,h,T=>by
  rw [addC]
  have h':∀ c ∈ cs,∃ d,mget p.named c=some d∧(d.Kind=2∨d.Kind=3):=fun c hc=>h c (List.mem_cons_of_mem _ hc)
  by_cases k:had.contains c=true
  ·rw [if_pos k]; exact addC_ok R cs had todo q h' T
  ·rw [if_neg k]
   obtain ⟨d,e1,e2⟩:=h c (List.mem_cons_self ..)
   obtain ⟨m1,m2⟩:=R.only _ _ e1
   have hr:=rem_add l had d m1 (by rw [m2]; simpa using k)
   rw [m2] at hr
   refine addC_ok R cs _ _ q h' ⟨?_,fun o ho=>?_,?_⟩
   ·rw [List.length_append,List.length_singleton]; have:=T.hl; omega
   ·rcases List.mem_append.1 ho with ho | ho
    ·exact T.td o ho
    ·rw [List.mem_singleton.1 ho]; exact ⟨d,m1,e1,by omega⟩
   ·rw [List.length_append,List.length_singleton]; have:=T.q; omega
theorem reach_l2_e {p:TSp} {l:List TDef} (R:Right p l) (u:List Nm×List Nm×List Nm) (s r:List Nm) (K:List Nm→List (Option TDef)→List Nm→List Nm→Option TSemaUses) (hu:∀ c ∈ u.1,∃ d,mget p.named c=some d∧(d.Kind=2∨d.Kind=3)) (hl:u.1.length≤1000000) :
  ∀ (m i:Nat) (had:List Nm) (todo:List (Option TDef)) (q:Nat),i≤u.1.length→u.1.length<m+i→q≤1000→Todo p l had todo q →
   sema_reach_l2 p u s r K m i had todo=K (addC p.named (u.1.drop i) had todo).1 (addC p.named (u.1.drop i) had todo).2 s r:=by
 intro m
 induction m with
 | zero=>intro i had todo q h1 h2; omega
 | succ m ih =>
  intro i had todo q h1 h2 hq T
  rw [sema_reach_l2]
  by_cases c:i<u.1.length
  ·rw [if_pos (by omega),at_nat,List.getElem?_eq_getElem c,bS,List.drop_eq_getElem_cons c,addC]
   have hc:=hu _ (List.getElem_mem c)
   by_cases k:had.contains u.1[i]=true
   ·rw [if_pos k,if_pos k,i64_ok (by omega),bS]
    exact ih (i+1) had todo q c (by omega) hq T
   ·have T1:=T.hl
    have T2:=T.q
    have T':=addC_ok R [u.1[i]] had todo q (fun c hc'=>by rw [List.mem_singleton.1 hc']; exact hc) T
    rw [addC,if_neg k,addC] at T'
    rw [if_neg k,if_neg k,app_ok (by simp; omega),bS,app_ok (by simp; omega),bS,i64_ok (by omega),bS]
    exact ih (i+1) _ _ q c (by omega) hq T'
  ·rw [if_neg (by omega),List.drop_eq_nil_of_le (by omega)]
   rfl
theorem uses_body {p:TSp} {l:List TDef} (R:Right p l) (fu:Nat) (hf:500≤fu) (d:TDef) (hd:d ∈ l) (h1:d.Kind≠1):(SemaV_run fu).uses_stats [] [] [] d.Body=some (cD d,sD d,rD d)∧(cD d).length≤2000∧(sD d).length≤2000∧(rD d).length≤2000:=by
 have ok:=R.ok.ok d hd
 have hn:nD d≤2000:=Nat.le_trans (le_sum nD l d hd) R.ok.n
 rw [nD,if_pos h1] at hn
 have:=uses_stats_t fu 39 d.Body [] [] [] (by omega) (ok.bl h1) (ok.bo h1) (by simp; omega) (by simp; omega) (by simp; omega)
 have a1:=flat_le (cS 39) (nS 39) (cS_le 39) d.Body
 have a2:=flat_le (sS 39) (nS 39) (sS_le 39) d.Body
 have a3:=flat_le (rS 39) (nS 39) (rS_le 39) d.Body
 exact ⟨by rw [this]; rfl,by rw [cD]; omega,by rw [sD]; omega,by rw [rD]; omega⟩
theorem reach_l1_e {p:TSp} {l:List TDef} (R:Right p l) (fu:Nat) (hf:500≤fu):∀ (n q:Nat) (had:List Nm) (todo:List (Option TDef)) (s r:List Nm),q<n→q≤1000→Todo p l had todo q→s.length+2000*q≤1000000000→r.length+2000*q≤1000000000 →
  sema_reach_l1 fu p n had todo s r=rch p.named n had todo s r∧(∃ u,rch p.named n had todo s r=some u∧u.calls=[]):=by
 intro n
 induction n with
 | zero=>intro q had todo s r h1; omega
 | succ n ih =>
  intro q had todo s r h1 h2 T b1 b2
  rw [sema_reach_l1]
  cases todo with
  | nil=>exact ⟨by rw [if_neg (by simp)]; rfl,_,rfl,rfl⟩
  | cons o t =>
   obtain ⟨d,hd,rfl,k1⟩:=T.td o (List.mem_cons_self ..)
   obtain ⟨u1,u2,u3,u4⟩:=uses_body R fu hf d hd k1
   have T2:=T.q
   have T1:=T.hl
   rw [List.length_cons] at T2
   have e1:at_ (some d::t) 0=some (some d):=rfl
   have e2:cut (some d::t) 1 ((some d::t).length:Int)=some t:=by
    rw [cut,if_pos (by simp; omega)]
    simp
   have hc:∀ c ∈ cD d,∃ d',mget p.named c=some d'∧(d'.Kind=2∨d'.Kind=3):=fun c hc=>by
    obtain ⟨a,ha,hb⟩:=mem_flat hc
    exact callsS_c 39 a (R.cs d hd k1 a ha) c hb
   have T':Todo p l had t (q - 1):=⟨T1,fun o ho=>T.td o (List.mem_cons_of_mem _ ho),by omega⟩
   have T3:=addC_ok R (cD d) had t (q - 1) hc T'
   rw [if_pos (by simp),e1,bS,e2,bS,bS,u1,bS,app_ok (by simp only []; omega),bS,app_ok (by simp only []; omega),bS,sema_reach_j1]
   rw [show ((0:Int))=((0:Nat):Int) from rfl,reach_l2_e R (cD d,sD d,rD d) _ _ _ hc (by simp only []; omega) _ 0 had t (q - 1) (by omega) (by simp only []; omega) (by omega) T',List.drop_zero]
   rw [rch]
   exact ih (q - 1) _ _ (s++sD d) (r++rD d) (by omega) (by omega) T3 (by rw [List.length_append]; omega) (by rw [List.length_append]; omega)
theorem reach_e {p:TSp} {l:List TDef} (R:Right p l) (fu:Nat) (hf:500≤fu) (d:TDef) (hd:d ∈ l) (h1:d.Kind≠1):sema_reach fu p d=rch p.named fu [] [some d] [] []∧(∃ u,rch p.named fu [] [some d] [] []=some u∧u.calls=[]):=by
 have hr:rem_ l []≤30:=Nat.le_trans (List.length_filter_le _ _) R.ok.le
 exact reach_l1_e R fu hf fu 31 [] [some d] [] [] (by omega) (by omega) ⟨by simpa using hr,fun o ho=>by rw [List.mem_singleton.1 ho]; exact ⟨d,hd,rfl,h1⟩,by simp; omega⟩ (by simp) (by simp)
def noU:TSemaUses:=⟨[],[],[]⟩
def own3 (L:List (Nm×TSemaUses)) (b:Nm):List TDef→Nm→Nm→Option (Nm×Nm)
 | [],w,r=>some (w,r)
 | t::ts,w,r=>if t.Kind≠4 then own3 L b ts w r else
   if ((mget L t.Name).getD noU).sends.contains b=true∧w≠[] then none else
   if ((mget L t.Name).getD noU).recvs.contains b=true∧r≠[] then none else
   own3 L b ts (if ((mget L t.Name).getD noU).sends.contains b=true then t.Name else w) (if ((mget L t.Name).getD noU).recvs.contains b=true then t.Name else r)
def own2 (L:List (Nm×TSemaUses)) (l:List TDef):List TDef→Int→List TOwner→List TOwner×TFault
 | [],i,acc=>(acc,⟨0,0⟩)
 | x::xs,i,acc=>if x.Kind≠1 then own2 L l xs (i+1) acc else
   match own3 L x.Name l [] [] with
   | none=>([],⟨8,i⟩)
   | some (w,r)=>own2 L l xs (i+1) (acc++[⟨x.Name,w,r⟩])
def own1 (N:List (Nm×TDef)) (fu:Nat):List TDef→List (Nm×TSemaUses)→List (Nm×TSemaUses)
 | [],L=>L
 | d::ds,L=>if d.Kind=4 then own1 N fu ds (mput L d.Name ((rch N fu [] [some d] [] []).getD noU)) else own1 N fu ds L
theorem own_l3_e (l:List TDef) (hl:l.length≤30) (L:List (Nm×TSemaUses)) (i:Int) (acc:List TOwner) (x:TDef) (K:Int→List TOwner→Option (List TOwner×TFault)) (hi:0≤i∧i≤1000) (ha:acc.length≤1000) :
  ∀ (m j:Nat) (w r:Nm),j≤l.length→l.length<m+j→sema_owners_l3 l L i acc x K m j w r=match own3 L x.Name (l.drop j) w r with | none=>some ([],⟨8,i⟩) | some (w',r')=>K (i+1) (acc++[⟨x.Name,w',r'⟩]):=by
 intro m
 induction m with
 | zero=>intro j w r h1 h2; omega
 | succ m ih =>
  intro j w r h1 h2
  rw [sema_owners_l3]
  by_cases c:j<l.length
  ·rw [if_pos (by omega),at_nat,List.getElem?_eq_getElem c,bS,List.drop_eq_getElem_cons c,own3]
   have e0:(TSemaUses.mk [] [] [])=noU:=rfl
   have nx:=fun w r=>ih (j+1) w r c (by omega)
   generalize l[j]=t at *
   by_cases k4:t.Kind≠4
   ·rw [if_pos k4,if_pos k4,i64_ok (by omega),bS]
    exact nx w r
   ·rw [if_neg k4,if_neg k4,e0]
    have J2:∀ w',sema_owners_j2 L i x j r t (sema_owners_l3 l L i acc x K m) w'=if ((mget L t.Name).getD noU).recvs.contains x.Name=true∧r≠[] then some ([],⟨8,i⟩) else
      match own3 L x.Name (l.drop (j+1)) w' (if ((mget L t.Name).getD noU).recvs.contains x.Name=true then t.Name else r) with | none=>some ([],⟨8,i⟩) | some (w',r')=>K (i+1) (acc++[⟨x.Name,w',r'⟩]):=by
     intro w'
     rw [sema_owners_j2,e0]
     by_cases q:((mget L t.Name).getD noU).recvs.contains x.Name=true
     ·rw [if_pos q]
      by_cases z:r≠[]
      ·rw [if_pos z,if_pos ⟨q,z⟩]
      ·rw [if_neg z,if_neg (fun h=>z h.2),if_pos q,sema_owners_j3,i64_ok (by omega),bS]
       exact nx _ _
     ·rw [if_neg q,if_neg (fun h=>q h.1),if_neg q,sema_owners_j3,i64_ok (by omega),bS]
      exact nx _ _
    by_cases q:((mget L t.Name).getD noU).sends.contains x.Name=true
    ·rw [if_pos q]
     by_cases z:w≠[]
     ·rw [if_pos z,if_pos ⟨q,z⟩]
     ·rw [if_neg z,if_neg (fun h=>z h.2),if_pos q,J2]
      split <;> rfl
    ·rw [if_neg q,if_neg (fun h=>q h.1),if_neg q,J2]
     split <;> rfl
  ·rw [if_neg (by omega),List.drop_eq_nil_of_le (by omega),app_ok (by simp; omega),bS,i64_ok (by omega),bS]
   rfl
theorem own_l2_e (l:List TDef) (hl:l.length≤30) (L:List (Nm×TSemaUses)):∀ (m i:Nat) (acc:List TOwner),i≤l.length→l.length<m+i→acc.length≤i→sema_owners_l2 l L m i acc=some (own2 L l (l.drop i) i acc):=by
 intro m
 induction m with
 | zero=>intro i acc h1 h2; omega
 | succ m ih =>
  intro i acc h1 h2 h3
  rw [sema_owners_l2]
  by_cases c:i<l.length
  ·rw [if_pos (by omega),at_nat,List.getElem?_eq_getElem c,bS,List.drop_eq_getElem_cons c,own2]
   by_cases k1:l[i].Kind≠1
   ·rw [if_pos k1,if_pos k1,i64_ok (by omega),bS]
    exact ih (i+1) acc c (by omega) (by omega)
   ·rw [if_neg k1,if_neg k1,show ((0:Int))=((0:Nat):Int) from rfl,own_l3_e l hl L i acc l[i] _ (by omega) (by omega) _ 0 [] [] (by omega) (by omega),List.drop_zero]
    cases h:own3 L l[i].Name l [] [] with
    | none=>rfl
    | some v=>exact ih (i+1) _ c (by omega) (by simp; omega)
  ·rw [if_neg (by omega),List.drop_eq_nil_of_le (by omega)]
   rfl
theorem own_l1_e {p:TSp} {l:List TDef} (R:Right p l) (fu:Nat) (hf:500≤fu) (f:TFault):∀ (m i:Nat) (L:List (Nm×TSemaUses)),i≤l.length→l.length<m+i→sema_owners_l1 fu l (p,f) m i L=some (own2 (own1 p.named fu (l.drop i) L) l l 0 []):=by
 have hl:=R.ok.le
 intro m
 induction m with
 | zero=>intro i L h1 h2; omega
 | succ m ih =>
  intro i L h1 h2
  rw [sema_owners_l1]
  by_cases c:i<l.length
  ·have e0:at_ l (i:Int)=some l[i]:=by rw [at_nat,List.getElem?_eq_getElem c]
   rw [if_pos (by omega),e0,bS,List.drop_eq_getElem_cons c,own1]
   by_cases k4:l[i].Kind=4
   ·obtain ⟨h1',u,h2',-⟩:=reach_e R fu hf l[i] (List.getElem_mem _) (by omega)
    rw [if_pos k4,if_pos k4]
    simp only [bS]
    rw [h1',h2',bS,sema_owners_j1,i64_ok (by omega),bS]
    exact ih (i+1) _ c (by omega)
   ·rw [if_neg k4,if_neg k4,i64_ok (by omega),bS]
    exact ih (i+1) L c (by omega)
  ·rw [if_neg (by omega),List.drop_eq_nil_of_le (by omega)]
   exact own_l2_e l hl L (l.length+1) 0 [] (by omega) (by omega) (by simp)
theorem sema_owners_t (fu:Nat) (hf:500≤fu) (l:List TDef):∃ p f,sema_named fu l=some (p,f)∧((f.Err≠0∧sema_owners fu l=some ([],f))∨(f.Err=0∧Right p l∧sema_owners fu l=some (own2 (own1 p.named fu l []) l l 0 []))):=by
 obtain ⟨p,f,h1,h2⟩:=sema_named_t fu hf l
 refine ⟨p,f,h1,?_⟩
 rw [sema_owners,h1,bS]
 by_cases z:f.Err=0
 ·rw [if_neg (by simpa using z)]
  exact .inr ⟨z,h2 z,own_l1_e (h2 z) fu hf f (l.length+1) 0 [] (by omega) (by omega)⟩
 ·rw [if_pos z]
  exact .inl ⟨z,rfl⟩
end Go.Y
namespace Go.Y
def SzE:Nat→TExpr→Prop
 | 0,_=>False
 | k+1,x=>x.Kids.length≤2513169434916∧∀ y ∈ x.Kids,SzE k y
def SzS:Nat→TStat→Prop
 | 0,_=>False
 | k+1,s=>SzE k s.X∧(s.Body.length≤1099511627776∧∀ y ∈ s.Body,SzS k y)∧(s.Else.length≤1099511627776∧∀ y ∈ s.Else,SzS k y)
def SzD (k:Nat) (d:TDef):Prop:=d.Params.length≤3518437208883∧d.Body.length≤1099511627776∧∀ y ∈ d.Body,SzS k y
def SzP (k:Nat) (l:List TDef):Prop:=l.length≤1099511627776∧∀ d ∈ l,SzD k d
theorem SzE.up:∀ {k m:Nat} {x:TExpr},SzE k x→k≤m→SzE m x
 | 0,m,x,h,hk=>by cases h
 | k+1,0,x,h,hk=>by omega
 | k+1,m+1,x,h,hk=>⟨h.1,fun y hy=>(h.2 y hy).up (by omega)⟩
theorem SzS.up:∀ {k m:Nat} {x:TStat},SzS k x→k≤m→SzS m x
 | 0,m,x,h,hk=>by cases h
 | k+1,0,x,h,hk=>by omega
 | k+1,m+1,x,h,hk=>⟨h.1.up (by omega),⟨h.2.1.1,fun y hy=>(h.2.1.2 y hy).up (by omega)⟩,⟨h.2.2.1,fun y hy=>(h.2.2.2 y hy).up (by omega)⟩⟩
end Go.Y
namespace Go.Y
open Go.Wk Go.Xt
def Who (l:List TDef) (w:Nm):Prop:=w=[]∨∃ t ∈ l,t.Kind=4∧t.Name=w
theorem own3_who (L:List (Nm×TSemaUses)) (b:Nm) (l:List TDef):∀ (ts:List TDef) (w r w' r':Nm),(∀ t ∈ ts,t ∈ l)→Who l w→Who l r→own3 L b ts w r=some (w',r')→Who l w'∧Who l r'
 | [],w,r,w',r',h,h1,h2,e=>by
  cases e; exact ⟨h1,h2⟩
 | t::ts,w,r,w',r',h,h1,h2,e=>by
  have h':∀ t ∈ ts,t ∈ l:=fun y hy=>h y (List.mem_cons_of_mem _ hy)
  rw [own3] at e
  by_cases k:t.Kind≠4
  ·rw [if_pos k] at e
   exact own3_who L b l ts w r w' r' h' h1 h2 e
  ·rw [if_neg k] at e
   split at e
   ·cases e
   ·split at e
    ·cases e
    ·have ht:Who l t.Name:=.inr ⟨t,h t (List.mem_cons_self ..),Decidable.not_not.1 k,rfl⟩
     refine own3_who L b l ts _ _ w' r' h' ?_ ?_ e
     ·split
      ·exact ht
      ·exact h1
     ·split
      ·exact ht
      ·exact h2
def Fit (l:List TDef):List TDef→List TOwner→Prop
 | [],os=>os=[]
 | x::xs,os=>(x.Kind≠1∧Fit l xs os)∨(x.Kind=1∧∃ o os',os=o::os'∧o.Box=x.Name∧Who l o.Writer∧Who l o.Reader∧Fit l xs os')
theorem own2_fit (L:List (Nm×TSemaUses)) (l:List TDef):∀ (xs:List TDef) (i:Int) (acc res:List TOwner) (f:TFault),own2 L l xs i acc=(res,f)→(f.Err≠0∧res=[])∨(f.Err=0∧∃ os,res=acc++os∧Fit l xs os)
 | [],i,acc,res,f,h=>by
  cases h
  exact .inr ⟨rfl,[],by simp,rfl⟩
 | x::xs,i,acc,res,f,h=>by
  rw [own2] at h
  by_cases k:x.Kind≠1
  ·rw [if_pos k] at h
   rcases own2_fit L l xs _ _ _ _ h with h | ⟨h1,os,h2,h3⟩
   ·exact .inl h
   ·exact .inr ⟨h1,os,h2,.inl ⟨k,h3⟩⟩
  ·rw [if_neg k] at h
   cases e:own3 L x.Name l [] [] with
   | none =>
    rw [e] at h
    cases h
    exact .inl ⟨(by decide:(8:Int)≠0),rfl⟩
   | some v =>
    obtain ⟨w,r⟩:=v
    rw [e] at h
    obtain ⟨w1,w2⟩:=own3_who L x.Name l l [] [] w r (fun _ h=>h) (.inl rfl) (.inl rfl) e
    rcases own2_fit L l xs _ _ _ _ h with h | ⟨h1,os,h2,h3⟩
    ·exact .inl h
    ·exact .inr ⟨h1,⟨x.Name,w,r⟩::os,by rw [h2,List.append_assoc]; rfl,.inr ⟨Decidable.not_not.1 k,_,_,rfl,rfl,w1,w2,h3⟩⟩
end Go.Y
namespace Go.Y
open Go.Wk Go.Xt
def bareE:Nat→TExpr→TExpr
 | 0,x=>x
 | k+1,x=>TExpr.mk x.Kind (if x.Kind=1∨x.Kind=2 then x.N else 0) (if x.Kind=3∨x.Kind=20∨x.Kind=19∨x.Kind=22 then x.Name else []) (x.Kids.map (bareE k))
def bareS:Nat→TStat→TStat
 | 0,s=>s
 | k+1,s=>TStat.mk s.Kind (if s.Kind=1∨s.Kind=2∨s.Kind=7 then s.Name else []) (if s.Kind≠6 then bareE k s.X else TExpr.mk 0 0 [] []) (if s.Kind=3∨s.Kind=4 then s.Body.map (bareS k) else []) (if s.Kind=3 then s.Else.map (bareS k) else [])
theorem appN_ok {α:Type} {B:Nat} {l xs:List α} (h:l.length+xs.length≤B):appN B l xs=some (l++xs):=if_pos h
theorem bexpr_t:∀ (n k:Nat) (x:TExpr),k≤n→SzE k x→(BareE_run n).r2_bexpr x=some (bareE k x):=by
 intro n
 induction n with
 | zero =>
  intro k x h1 h2
  obtain rfl:k=0:=by omega
  cases h2
 | succ n ih =>
  intro k x h1 h2
  cases k with
  | zero=>cases h2
  | succ k =>
  obtain ⟨hl,hk⟩:=h2
  show r2_bexpr (BareE_run n) x=_
  have L:∀ (i:Int) (s:Nm) (m j:Nat) (acc:List TExpr),j≤x.Kids.length→x.Kids.length<m+j→acc.length≤j→r2_bexpr_l1 (BareE_run n) x i s m j acc=some (TExpr.mk x.Kind i s (acc++(x.Kids.drop j).map (bareE k))):=by
   intro i s m
   induction m with
   | zero=>intro j acc h1 h2; omega
   | succ m ihm =>
    intro j acc g1 g2 g3
    rw [r2_bexpr_l1]
    by_cases c:j<x.Kids.length
    ·rw [if_pos (by omega),at_nat,List.getElem?_eq_getElem c,bS,ih k x.Kids[j] (by omega) (hk _ (List.getElem_mem c)),bS,appN_ok (by simp; omega),bS,r2_bexpr_j5,i64_ok (by omega),bS]
     refine (ihm (j+1) _ c (by omega) (by simp; omega)).trans ?_
     rw [List.drop_eq_getElem_cons c]
     simp only [List.map_cons,List.append_assoc,List.singleton_append]
    ·rw [if_neg (by omega),List.drop_eq_nil_of_le (by omega)]
     simp
  have J4:∀ (i:Int) (s:Nm),r2_bexpr_j4 (BareE_run n) x i s=some (TExpr.mk x.Kind i s (x.Kids.map (bareE k))):=by
   intro i s
   have:=L i s (x.Kids.length+1) 0 [] (by omega) (by omega) (by simp)
   simpa [r2_bexpr_j4] using this
  have J2:∀ i:Int,r2_bexpr_j2 (BareE_run n) x i=some (TExpr.mk x.Kind i (if x.Kind=3∨x.Kind=20∨x.Kind=19∨x.Kind=22 then x.Name else []) (x.Kids.map (bareE k))):=by
   intro i
   have J3:∀ b,(b=true ↔ x.Kind=3∨x.Kind=20∨x.Kind=19∨x.Kind=22)→r2_bexpr_j3 (BareE_run n) x i b=some (TExpr.mk x.Kind i (if x.Kind=3∨x.Kind=20∨x.Kind=19∨x.Kind=22 then x.Name else []) (x.Kids.map (bareE k))):=by
    intro b hb
    rw [r2_bexpr_j3]
    by_cases q:b=true
    ·rw [if_pos q,if_pos (hb.1 q),J4]
    ·rw [if_neg q,if_neg (fun h=>q (hb.2 h)),J4]
   rw [r2_bexpr_j2]
   by_cases c3:x.Kind=3
   ·rw [if_pos c3]; exact J3 _ (by simp [c3])
   rw [if_neg c3]
   by_cases c20:x.Kind=20
   ·rw [if_pos c20]; exact J3 _ (by simp [c20])
   rw [if_neg c20]
   by_cases c19:x.Kind=19
   ·rw [if_pos c19]; exact J3 _ (by simp [c19])
   rw [if_neg c19]
   exact J3 _ (by simp [c3,c20,c19])
  have J1:∀ b,(b=true ↔ x.Kind=1∨x.Kind=2)→r2_bexpr_j1 (BareE_run n) x b=some (bareE (k+1) x):=by
   intro b hb
   rw [r2_bexpr_j1,bareE]
   by_cases q:b=true
   ·rw [if_pos q,if_pos (hb.1 q),J2]
   ·rw [if_neg q,if_neg (fun h=>q (hb.2 h)),J2]
  rw [r2_bexpr]
  by_cases c1:x.Kind=1
  ·rw [if_pos c1]; exact J1 _ (by simp [c1])
  ·rw [if_neg c1]; exact J1 _ (by simp [c1])
theorem bstats_t:∀ (n k:Nat) (l:List TStat),k+1≤n→l.length≤1099511627776→(∀ y ∈ l,SzS k y)→(BareS_run n).r2_bstats l=some (l.map (bareS k)):=by
 intro n
 induction n with
 | zero=>intro k l h1; omega
 | succ n ih =>
  intro k l h1 hl hx
  show r2_bstats n (BareS_run n) l=_
  have L:∀ (m i:Nat) (acc:List TStat),i≤l.length→l.length<m+i→acc.length≤i→r2_bstats_l1 n (BareS_run n) l m i acc=some (acc++(l.drop i).map (bareS k)):=by
   intro m
   induction m with
   | zero=>intro i acc h1 h2; omega
   | succ m ihm =>
    intro i acc g1 g2 g3
    rw [r2_bstats_l1]
    by_cases c:i<l.length
    ·rw [if_pos (by omega),at_nat,List.getElem?_eq_getElem c,bS]
     have hy:=hx _ (List.getElem_mem c)
     have nx:=fun z (hz:z=bareS k l[i])=>(ihm (i+1) (acc++[z]) c (by omega) (by simp; omega)).trans (show _=some (acc++(l.drop i).map (bareS k)) by
      rw [List.drop_eq_getElem_cons c,hz]
      simp only [List.map_cons,List.append_assoc,List.singleton_append])
     generalize l[i]=y at *
     cases k with
     | zero=>cases hy
     | succ k =>
     obtain ⟨hX,⟨hb1,hb2⟩,⟨he1,he2⟩⟩:=hy
     have J6:∀ (s:Nm) (a b:Int) (t:Nm) (q:List TExpr) (bo el:List TStat),TStat.mk y.Kind s (TExpr.mk a b t q) bo el=bareS (k+1) y→r2_bstats_j6 (i:Int) acc y s a b t q bo (r2_bstats_l1 n (BareS_run n) l m) el=some (acc++(l.drop i).map (bareS (k+1))):=by
      intro s a b t q bo el hz
      rw [r2_bstats_j6,appN_ok (by simp; omega),bS,i64_ok (by omega),bS]
      exact nx _ hz
     have J5:∀ (s:Nm) (a b:Int) (t:Nm) (q:List TExpr) (bo:List TStat),TStat.mk y.Kind s (TExpr.mk a b t q) bo (if y.Kind=3 then y.Else.map (bareS k) else [])=bareS (k+1) y→r2_bstats_j5 (BareS_run n) (i:Int) acc y s a b t q (r2_bstats_l1 n (BareS_run n) l m) bo=some (acc++(l.drop i).map (bareS (k+1))):=by
      intro s a b t q bo hz
      rw [r2_bstats_j5]
      by_cases c3:y.Kind=3
      ·rw [if_pos c3] at hz ⊢
       rw [ih k y.Else (by omega) he1 he2,bS]
       exact J6 _ _ _ _ _ _ _ hz
      ·rw [if_neg c3] at hz ⊢
       exact J6 _ _ _ _ _ _ _ hz
     have J4:∀ (s:Nm) (a b:Int) (t:Nm) (q:List TExpr) (v:Bool),(v=true ↔ y.Kind=3∨y.Kind=4)→TStat.mk y.Kind s (TExpr.mk a b t q) (if y.Kind=3∨y.Kind=4 then y.Body.map (bareS k) else []) (if y.Kind=3 then y.Else.map (bareS k) else [])=bareS (k+1) y→r2_bstats_j4 (BareS_run n) (i:Int) acc y s a b t q (r2_bstats_l1 n (BareS_run n) l m) v=some (acc++(l.drop i).map (bareS (k+1))):=by
      intro s a b t q v hv hz
      rw [r2_bstats_j4]
      by_cases w:v=true
      ·rw [if_pos (hv.1 w)] at hz
       rw [if_pos w,ih k y.Body (by omega) hb1 hb2,bS]
       exact J5 _ _ _ _ _ _ hz
      ·rw [if_neg (fun h=>w (hv.2 h))] at hz
       rw [if_neg w]
       exact J5 _ _ _ _ _ _ hz
     have J3:∀ (s:Nm) (a b:Int) (t:Nm) (q:List TExpr),TStat.mk y.Kind s (TExpr.mk a b t q) (if y.Kind=3∨y.Kind=4 then y.Body.map (bareS k) else []) (if y.Kind=3 then y.Else.map (bareS k) else [])=bareS (k+1) y→r2_bstats_j3 (BareS_run n) (i:Int) acc y s (r2_bstats_l1 n (BareS_run n) l m) a b t q=some (acc++(l.drop i).map (bareS (k+1))):=by
      intro s a b t q hz
      rw [r2_bstats_j3]
      by_cases c3:y.Kind=3
      ·rw [if_pos c3]; exact J4 _ _ _ _ _ _ (by simp [c3]) hz
      ·rw [if_neg c3]; exact J4 _ _ _ _ _ _ (by simp [c3]) hz
     have J2:∀ s:Nm,s=(if y.Kind=1∨y.Kind=2∨y.Kind=7 then y.Name else [])→r2_bstats_j2 n (BareS_run n) (i:Int) acc y (r2_bstats_l1 n (BareS_run n) l m) s=some (acc++(l.drop i).map (bareS (k+1))):=by
      intro s hs
      rw [r2_bstats_j2]
      by_cases c6:y.Kind≠6
      ·rw [if_pos c6,bexpr_t n k y.X (by omega) hX,bS]
       refine J3 _ _ _ _ _ ?_
       rw [bareS,if_pos c6,← hs]
       generalize bareE k y.X=z
       cases z
       rfl
      ·rw [if_neg c6]
       refine J3 _ _ _ _ _ ?_
       rw [bareS,if_neg c6,← hs]
     have J1:∀ b,(b=true ↔ y.Kind=1∨y.Kind=2∨y.Kind=7)→r2_bstats_j1 n (BareS_run n) (i:Int) acc y (r2_bstats_l1 n (BareS_run n) l m) b=some (acc++(l.drop i).map (bareS (k+1))):=by
      intro b hb
      rw [r2_bstats_j1]
      by_cases q:b=true
      ·rw [if_pos q]; exact J2 _ (by rw [if_pos (hb.1 q)])
      ·rw [if_neg q]; exact J2 _ (by rw [if_neg (fun h=>q (hb.2 h))])
     by_cases c1:y.Kind=1
     ·rw [if_pos c1]; exact J1 _ (by simp [c1])
     rw [if_neg c1]
     by_cases c2:y.Kind=2
     ·rw [if_pos c2]; exact J1 _ (by simp [c2])
     rw [if_neg c2]
     exact J1 _ (by simp [c1,c2])
    ·rw [if_neg (by omega),List.drop_eq_nil_of_le (by omega)]
     simp
  have:=L (l.length+1) 0 [] (by omega) (by omega) (by simp)
  simpa [r2_bstats] using this
end Go.Y
namespace Go.Y
open Go.Wk Go.Xt
abbrev Wd:=List UInt8
def isLet (c:UInt8):Bool:=decide (97≤c.toNat∧c.toNat≤122∨c.toNat=95)
def isDig (c:UInt8):Bool:=decide (48≤c.toNat∧c.toNat≤57)
def Nmd (w:Wd):Prop:=∀ fu,20≤fu→lex_named fu w=some true
def FmE:Nat→TExpr→Prop
 | 0,_=>False
 | k+1,x=>1≤x.Kind∧x.Kind≤24∧KidsOk x∧(x.Kind=1→0≤x.N∧x.N≤999999999999999)∧(x.Kind=2→x.N=0∨x.N=1)∧((x.Kind=3∨x.Kind=20∨x.Kind=19∨x.Kind=22)→Nmd x.Name)∧∀ y ∈ x.Kids,FmE k y
end Go.Y
