/- Texts of SynPrints Pl. -/
import Derived.Test.YteiemedhecjgiaaDoorCMd
import Derived.Test.YteiemedhecjgiaaDoorCXu
import Derived.Lib.ItoaNum
set_option linter.unusedSimpArgs false
set_option linter.unusedVariables false
set_option linter.unusedSectionVars false
namespace Go.Y
open Go.Wk Go.Xt
def bd_len  (buf_4:List UInt8):Option Int :=
 some (buf_4.length:Int)
def bd_byte  (buf_4:List UInt8) (p_2:UInt8):Option (Unit×List UInt8) :=
 (app buf_4 [p_2]).bind fun l18 =>
 some ((),l18)
def bd_str  (buf_4:List UInt8) (p_2:List UInt8):Option (Int×Unit×List UInt8) :=
 (app buf_4 p_2).bind fun l14 =>
 some ((p_2.length:Int),(),l14)
end Go.Y
namespace Go.Y
open Go.Wk Go.Xt
def pr_type  (p_1:TType):Option (List UInt8) :=
 if p_1.Kind=1 then
  some [110,117,109]
 else
  if p_1.Kind=2 then
   some [98,111,111,108]
  else
   some p_1.Gen
def pr_tight_l1 (p_1:Int) (r1:List TSynLevel):Nat→Int→Option (List UInt8×Int)
 | 0,_=>none
 | n+1,i27 =>
  if i27<(r1.length:Int) then
   (at_ r1 i27).bind fun x50 =>
   (mfind x50.signs p_1).bind fun o68 =>
   if o68.isSome=true then
    (i64 (i27+1)).bind fun i87 =>
    some ((o68.getD ([],0)).1,i87)
   else
    (i64 (i27+1)).bind fun i89 =>
    pr_tight_l1 p_1 r1 n i89
  else
   if p_1=4 then
    some ([45],6)
   else
    if p_1=5 then
     some ([110,111,116],6)
    else
     some ([],7)
def pr_tight  (p_1:Int):Option (List UInt8×Int) :=
 (p_levels ).bind fun r1 =>
 pr_tight_l1 p_1 r1 (r1.length+1) 0
def pw_putd_j1 (i51:Int) (x97:List UInt8) (k_pw_putd_l1:Int→(List UInt8)→Option (List UInt8)) (l112:List UInt8):Option (List UInt8) :=
 (bd_str l112 x97).bind fun r126 =>
 (i64 (i51+1)).bind fun i134 =>
 k_pw_putd_l1 i134 r126.2.2
def pw_putd_l1 (p_2:List (List UInt8)):Nat→Int→(List UInt8)→Option (List UInt8)
 | 0,_,_=>none
 | n+1,i51,l56 =>
  if i51<(p_2.length:Int) then
   (at_ p_2 i51).bind fun x97 =>
   (bd_len l56).bind fun r105 =>
   if (0:Int)<r105 then
    (bd_byte l56 32).bind fun r115 =>
    pw_putd_j1 i51 x97 (pw_putd_l1 p_2 n) r115.2
   else
    pw_putd_j1 i51 x97 (pw_putd_l1 p_2 n) l56
  else
   some l56
def pw_putd  (buf_4:List UInt8) (p_2:List (List UInt8)):Option (List UInt8) :=
 pw_putd_l1 p_2 (p_2.length+1) 0 buf_4
def pw_put_j1 (i51:Int) (x97:List UInt8) (k_pw_put_l1:Int→(List UInt8)→Option (List UInt8)) (l112:List UInt8):Option (List UInt8) :=
 (bd_str l112 x97).bind fun r126 =>
 (i64 (i51+1)).bind fun i134 =>
 k_pw_put_l1 i134 r126.2.2
def pw_put_l1 (p_2:List (List UInt8)):Nat→Int→(List UInt8)→Option (List UInt8)
 | 0,_,_=>none
 | n+1,i51,l56 =>
  if i51<(p_2.length:Int) then
   (at_ p_2 i51).bind fun x97 =>
   (bd_len l56).bind fun r105 =>
   if (0:Int)<r105 then
    (bd_byte l56 32).bind fun r115 =>
    pw_put_j1 i51 x97 (pw_put_l1 p_2 n) r115.2
   else
    pw_put_j1 i51 x97 (pw_put_l1 p_2 n) l56
  else
   some l56
def pw_put  (buf_4:List UInt8) (p_2:List (List UInt8)):Option (List UInt8) :=
 pw_put_l1 p_2 (p_2.length+1) 0 buf_4
structure PrE where
 pw_expr:(List UInt8)→TExpr→Int→Option (List UInt8)
 pw_args:(List UInt8)→(List TExpr)→Option (List UInt8)
def pw_expr_j2 (self:PrE) (p_2:TExpr) (r19:List UInt8×Int) (r27:List UInt8) (i343:Int):Option (List UInt8) :=
 (at_ p_2.Kids 0).bind fun x348 =>
 (self.pw_expr r27 x348 i343).bind fun r359 =>
 (pw_put r359 [r19.1]).bind fun r371 =>
 (at_ p_2.Kids 1).bind fun x379 =>
 (i64 (r19.2+1)).bind fun i390 =>
 (self.pw_expr r371 x379 i390).bind fun r392 =>
 (pw_putd r392 [[41]]).bind fun r402 =>
 some r402
def pw_expr_j1 (self:PrE) (p_2:TExpr) (r19:List UInt8×Int) (r27:List UInt8) (b120:Bool):Option (List UInt8) :=
 if b120=true then
  (pw_put r27 [r19.1]).bind fun r128 =>
  (at_ p_2.Kids 0).bind fun x136 =>
  (self.pw_expr r128 x136 6).bind fun r147 =>
  (pw_putd r147 [[41]]).bind fun r157 =>
  some r157
 else
  if p_2.Kind=20 then
   (pw_put r27 [[114,101,99,118],[40],p_2.Name,[41]]).bind fun r170 =>
   (pw_putd r170 [[41]]).bind fun r180 =>
   some r180
  else
   if p_2.Kind=21 then
    (pw_put r27 [[121,105,101,108,100]]).bind fun r193 =>
    (self.pw_args r193 p_2.Kids).bind fun r201 =>
    (pw_putd r201 [[41]]).bind fun r211 =>
    some r211
   else
    if p_2.Kind=23 then
     (pw_put r27 [[114,101,115,117,109,101]]).bind fun r224 =>
     (self.pw_args r224 p_2.Kids).bind fun r232 =>
     (pw_putd r232 [[41]]).bind fun r242 =>
     some r242
    else
     if p_2.Kind=24 then
      (pw_put r27 [[97,108,105,118,101]]).bind fun r255 =>
      (self.pw_args r255 p_2.Kids).bind fun r263 =>
      (pw_putd r263 [[41]]).bind fun r273 =>
      some r273
     else
      if p_2.Kind=22 then
       (pw_put r27 [[115,116,97,114,116],p_2.Name]).bind fun r286 =>
       (self.pw_args r286 p_2.Kids).bind fun r294 =>
       (pw_putd r294 [[41]]).bind fun r304 =>
       some r304
      else
       if p_2.Kind=19 then
        (pw_put r27 [p_2.Name]).bind fun r317 =>
        (self.pw_args r317 p_2.Kids).bind fun r325 =>
        (pw_putd r325 [[41]]).bind fun r335 =>
        some r335
       else
        if r19.2=3 then
         (i64 (r19.2+1)).bind fun i345 =>
         pw_expr_j2 self p_2 r19 r27 i345
        else
         pw_expr_j2 self p_2 r19 r27 r19.2
def pw_expr_j4 (self:PrE) (p_2:TExpr) (buf_4:List UInt8) (r19:List UInt8×Int) (i616:Int):Option (List UInt8) :=
 (at_ p_2.Kids 0).bind fun x621 =>
 (self.pw_expr buf_4 x621 i616).bind fun r632 =>
 (pw_put r632 [r19.1]).bind fun r644 =>
 (at_ p_2.Kids 1).bind fun x652 =>
 (i64 (r19.2+1)).bind fun i663 =>
 (self.pw_expr r644 x652 i663).bind fun r665 =>
 some r665
def pw_expr_j3 (self:PrE) (p_2:TExpr) (buf_4:List UInt8) (r19:List UInt8×Int) (b463:Bool):Option (List UInt8) :=
 if b463=true then
  (pw_put buf_4 [r19.1]).bind fun r471 =>
  (at_ p_2.Kids 0).bind fun x479 =>
  (self.pw_expr r471 x479 6).bind fun r490 =>
  some r490
 else
  if p_2.Kind=20 then
   (pw_put buf_4 [[114,101,99,118],[40],p_2.Name,[41]]).bind fun r503 =>
   some r503
  else
   if p_2.Kind=21 then
    (pw_put buf_4 [[121,105,101,108,100]]).bind fun r516 =>
    (self.pw_args r516 p_2.Kids).bind fun r524 =>
    some r524
   else
    if p_2.Kind=23 then
     (pw_put buf_4 [[114,101,115,117,109,101]]).bind fun r537 =>
     (self.pw_args r537 p_2.Kids).bind fun r545 =>
     some r545
    else
     if p_2.Kind=24 then
      (pw_put buf_4 [[97,108,105,118,101]]).bind fun r558 =>
      (self.pw_args r558 p_2.Kids).bind fun r566 =>
      some r566
     else
      if p_2.Kind=22 then
       (pw_put buf_4 [[115,116,97,114,116],p_2.Name]).bind fun r579 =>
       (self.pw_args r579 p_2.Kids).bind fun r587 =>
       some r587
      else
       if p_2.Kind=19 then
        (pw_put buf_4 [p_2.Name]).bind fun r600 =>
        (self.pw_args r600 p_2.Kids).bind fun r608 =>
        some r608
       else
        if r19.2=3 then
         (i64 (r19.2+1)).bind fun i618 =>
         pw_expr_j4 self p_2 buf_4 r19 i618
        else
         pw_expr_j4 self p_2 buf_4 r19 r19.2
def pw_expr (self:PrE) (buf_4:List UInt8) (p_2:TExpr) (p_3:Int):Option (List UInt8) :=
 (pr_tight p_2.Kind).bind fun r19 =>
 if r19.2<p_3 then
  (pw_put buf_4 [[40]]).bind fun r27 =>
  if p_2.Kind=1 then
   (fmt10 p_2.N).bind fun s38 =>
   (pw_put r27 [s38]).bind fun r44 =>
   (pw_putd r44 [[41]]).bind fun r54 =>
   some r54
  else
   if p_2.Kind=2 then
    (at_ [[102,97,108,115,101],[116,114,117,101]] p_2.N).bind fun x67 =>
    (pw_put r27 [x67]).bind fun r79 =>
    (pw_putd r79 [[41]]).bind fun r89 =>
    some r89
   else
    if p_2.Kind=3 then
     (pw_put r27 [p_2.Name]).bind fun r102 =>
     (pw_putd r102 [[41]]).bind fun r112 =>
     some r112
    else
     if p_2.Kind=4 then
      pw_expr_j1 self p_2 r19 r27 (decide (p_2.Kind=4))
     else
      pw_expr_j1 self p_2 r19 r27 (decide (p_2.Kind=5))
 else
  if p_2.Kind=1 then
   (fmt10 p_2.N).bind fun s411 =>
   (pw_put buf_4 [s411]).bind fun r417 =>
   some r417
  else
   if p_2.Kind=2 then
    (at_ [[102,97,108,115,101],[116,114,117,101]] p_2.N).bind fun x430 =>
    (pw_put buf_4 [x430]).bind fun r442 =>
    some r442
   else
    if p_2.Kind=3 then
     (pw_put buf_4 [p_2.Name]).bind fun r455 =>
     some r455
    else
     if p_2.Kind=4 then
      pw_expr_j3 self p_2 buf_4 r19 (decide (p_2.Kind=4))
     else
      pw_expr_j3 self p_2 buf_4 r19 (decide (p_2.Kind=5))
def pw_args_j1 (self:PrE) (p_2:List TExpr) (i67:Int) (k_pw_args_l1:Int→(List UInt8)→Option (List UInt8)) (l121:List UInt8):Option (List UInt8) :=
 (at_ p_2 i67).bind fun x139 =>
 (self.pw_expr l121 x139 1).bind fun r150 =>
 (i64 (i67+1)).bind fun i158 =>
 k_pw_args_l1 i158 r150
def pw_args_l1 (self:PrE) (p_2:List TExpr):Nat→Int→(List UInt8)→Option (List UInt8)
 | 0,_,_=>none
 | n+1,i67,l72 =>
  if i67<(p_2.length:Int) then
   if (0:Int)<i67 then
    (pw_put l72 [[44]]).bind fun r128 =>
    pw_args_j1 self p_2 i67 (pw_args_l1 self p_2 n) r128
   else
    pw_args_j1 self p_2 i67 (pw_args_l1 self p_2 n) l72
  else
   (pw_put l72 [[41]]).bind fun r164 =>
   some r164
def pw_args (self:PrE) (buf_4:List UInt8) (p_2:List TExpr):Option (List UInt8) :=
 (pw_put buf_4 [[40]]).bind fun r20 =>
 pw_args_l1 self p_2 (p_2.length+1) 0 r20
def PrE_run:Nat→PrE
 | 0=>⟨fun _ _ _=>none,fun _ _=>none⟩
 | n+1=>⟨pw_expr (PrE_run n),pw_args (PrE_run n)⟩
structure PrS where
 pw_body:(List UInt8)→(List TStat)→Option (List UInt8)
 pw_stat:(List UInt8)→TStat→Option (List UInt8)
def pw_body_l1 (self:PrS) (p_2:List TStat):Nat→Int→(List UInt8)→Option (List UInt8)
 | 0,_,_=>none
 | n+1,i55,l60 =>
  if i55<(p_2.length:Int) then
   (at_ p_2 i55).bind fun x93 =>
   (self.pw_stat l60 x93).bind fun r110 =>
   (i64 (i55+1)).bind fun i118 =>
   pw_body_l1 self p_2 n i118 r110
  else
   (pw_put l60 [[125]]).bind fun r124 =>
   some r124
def pw_body (self:PrS) (buf_4:List UInt8) (p_2:List TStat):Option (List UInt8) :=
 (pw_put buf_4 [[123]]).bind fun r20 =>
 pw_body_l1 self p_2 (p_2.length+1) 0 r20
def pw_stat_j4  (l171:List UInt8):Option (List UInt8) :=
 (pw_put l171 [[59]]).bind fun r189 =>
 some r189
def pw_stat_j1 (fu:Nat) (p_2:TStat) (l29:List UInt8):Option (List UInt8) :=
 if p_2.Kind≠6 then
  ((PrE_run fu).pw_expr l29 p_2.X 1).bind fun r174 =>
  pw_stat_j4 r174
 else
  pw_stat_j4 l29
def pw_stat_j3 (self:PrS) (p_2:TStat) (r65:List UInt8) (b73:Bool):Option (List UInt8) :=
 if b73=true then
  (pw_put r65 [[101,108,115,101]]).bind fun r81 =>
  (self.pw_body r81 p_2.Else).bind fun r89 =>
  some r89
 else
  some r65
def pw_stat_j2 (fu:Nat) (self:PrS) (p_2:TStat) (buf_4:List UInt8) (b31:Bool):Option (List UInt8) :=
 if b31=true then
  (pw_put buf_4 [((mget (mput (mput ([]:List (Int×List UInt8)) 3 [105,102]) 4 [119,104,105,108,101]) p_2.Kind).getD [])]).bind fun r49 =>
  ((PrE_run fu).pw_expr r49 p_2.X 1).bind fun r57 =>
  (self.pw_body r57 p_2.Body).bind fun r65 =>
  if p_2.Kind=3 then
   pw_stat_j3 self p_2 r65 (decide ((0:Int)<(p_2.Else.length:Int)))
  else
   pw_stat_j3 self p_2 r65 false
 else
  if p_2.Kind=1 then
   (pw_put buf_4 [[108,101,116],p_2.Name,[61]]).bind fun r102 =>
   pw_stat_j1 fu p_2 r102
  else
   if p_2.Kind=2 then
    (pw_put buf_4 [p_2.Name,[61]]).bind fun r115 =>
    pw_stat_j1 fu p_2 r115
   else
    if p_2.Kind=7 then
     (pw_put buf_4 [[115,101,110,100],p_2.Name]).bind fun r128 =>
     pw_stat_j1 fu p_2 r128
    else
     (pw_put buf_4 [((mget (mput (mput (mput (mput ([]:List (Int×List UInt8)) 5 [114,101,116,117,114,110]) 6 [115,116,111,112]) 8 [111,117,116]) 9 [100,111]) p_2.Kind).getD [])]).bind fun r156 =>
     pw_stat_j1 fu p_2 r156
def pw_stat (fu:Nat) (self:PrS) (buf_4:List UInt8) (p_2:TStat):Option (List UInt8) :=
 if p_2.Kind=3 then
  pw_stat_j2 fu self p_2 buf_4 (decide (p_2.Kind=3))
 else
  pw_stat_j2 fu self p_2 buf_4 (decide (p_2.Kind=4))
def PrS_run:Nat→PrS
 | 0=>⟨fun _ _=>none,fun _ _=>none⟩
 | n+1=>⟨pw_body (PrS_run n),pw_stat n (PrS_run n)⟩
def pw_def_j1 (fu:Nat) (p_2:TDef) (l26:List UInt8):Option (List UInt8) :=
 ((PrS_run fu).pw_body l26 p_2.Body).bind fun r331 =>
 some r331
def pw_def_j2  (l33:List UInt8):Option (List UInt8) :=
 some l33
def pw_def_j5 (i162:Int) (k_pw_def_l1:Int→(List UInt8)→Option (List UInt8)) (l254:List UInt8):Option (List UInt8) :=
 (i64 (i162+1)).bind fun i274 =>
 k_pw_def_l1 i274 l254
def pw_def_j4 (i162:Int) (x218:TParam) (k_pw_def_l1:Int→(List UInt8)→Option (List UInt8)) (l232:List UInt8):Option (List UInt8) :=
 (pr_type x218.Typ).bind fun r256 =>
 (pw_put l232 [x218.Name,r256]).bind fun r263 =>
 pw_def_j5 i162 k_pw_def_l1 r263
def pw_def_j6 (fu:Nat) (p_2:TDef) (l292:List UInt8):Option (List UInt8) :=
 (pr_type p_2.Typ).bind fun r313 =>
 (pw_put l292 [r313]).bind fun r320 =>
 pw_def_j1 fu p_2 r320
def pw_def_l1 (fu:Nat) (p_2:TDef):Nat→Int→(List UInt8)→Option (List UInt8)
 | 0,_,_=>none
 | n+1,i162,l167 =>
  if i162<(p_2.Params.length:Int) then
   (at_ p_2.Params i162).bind fun x218 =>
   if (0:Int)<i162 then
    (pw_put l167 [[44]]).bind fun r239 =>
    pw_def_j4 i162 x218 (pw_def_l1 fu p_2 n) r239
   else
    pw_def_j4 i162 x218 (pw_def_l1 fu p_2 n) l167
  else
   (pw_put l167 [[41]]).bind fun r280 =>
   if p_2.Kind=3 then
    (pr_type p_2.Takes).bind fun r295 =>
    (pw_put r280 [[116,97,107,101,115],r295,[121,105,101,108,100,115]]).bind fun r302 =>
    pw_def_j6 fu p_2 r302
   else
    pw_def_j6 fu p_2 r280
def pw_def_j3 (fu:Nat) (p_2:TDef) (l72:List UInt8):Option (List UInt8) :=
 pw_def_l1 fu p_2 (p_2.Params.length+1) 0 l72
def pw_def (fu:Nat)  (buf_4:List UInt8) (p_2:TDef):Option (List UInt8) :=
 if p_2.Kind=1 then
  (pr_type p_2.Typ).bind fun r35 =>
  (fmt10 p_2.Cap).bind fun s38 =>
  (pw_put buf_4 [[98,111,120],p_2.Name,r35,s38,[59]]).bind fun r44 =>
  pw_def_j2 r44
 else
  if p_2.Kind=4 then
   (pw_put buf_4 [[116,97,115,107],p_2.Name]).bind fun r60 =>
   pw_def_j1 fu p_2 r60
  else
   (pw_put buf_4 [((mget (mput (mput ([]:List (Int×List UInt8)) 2 [102,110]) 3 [103,101,110]) p_2.Kind).getD []),p_2.Name,[40]]).bind fun r88 =>
   pw_def_j3 fu p_2 r88
def syn_print_l1 (fu:Nat) (p_1:List TDef):Nat→Int→(List UInt8)→Option (List UInt8×TFault)
 | 0,_,_=>none
 | n+1,i39,l44 =>
  if i39<(p_1.length:Int) then
   (at_ p_1 i39).bind fun x74 =>
   (pw_def fu l44 x74).bind fun r88 =>
   (i64 (i39+1)).bind fun i96 =>
   syn_print_l1 fu p_1 n i96 r88
  else
   (bd_len l44).bind fun r98 =>
   if (6000:Int)<r98 then
    some ([],(TFault.mk 4 0))
   else
    some (l44,(TFault.mk 0 0))
def syn_print (fu:Nat)  (p_1:List TDef):Option (List UInt8×TFault) :=
 (syn_wrong fu p_1).bind fun r6 =>
 if r6.Err≠0 then
  some ([],r6)
 else
  syn_print_l1 fu p_1 (p_1.length+1) 0 []
end Go.Y
namespace Go.Y
open Go.Wk Go.Xt
def r1_class_j4 (p_1:UInt8) (b12:Bool):Option Int :=
 if b12=true then
  some 3
 else
  if (p_1.toNat:Int)=35 then
   some 4
  else
   some 5
def r1_class_j3 (p_1:UInt8) (b8:Bool):Option Int :=
 if b8=true then
  some 2
 else
  if (p_1.toNat:Int)=32 then
   r1_class_j4 p_1 true
  else
   if (p_1.toNat:Int)=9 then
    r1_class_j4 p_1 true
   else
    r1_class_j4 p_1 (decide ((p_1.toNat:Int)=10))
def r1_class_j2 (p_1:UInt8) (b4:Bool):Option Int :=
 if b4=true then
  some 1
 else
  if (48:Int)≤(p_1.toNat:Int) then
   r1_class_j3 p_1 (decide ((p_1.toNat:Int)≤57))
  else
   r1_class_j3 p_1 false
def r1_class_j1 (p_1:UInt8) (b1:Bool):Option Int :=
 if b1=true then
  r1_class_j2 p_1 b1
 else
  r1_class_j2 p_1 (decide ((p_1.toNat:Int)=95))
def r1_class  (p_1:UInt8):Option Int :=
 if (97:Int)≤(p_1.toNat:Int) then
  r1_class_j1 p_1 (decide ((p_1.toNat:Int)≤122))
 else
  r1_class_j1 p_1 false
def r1_res_l1 (p_1:List UInt8):Nat→Int→Option Bool
 | 0,_=>none
 | n+1,i15 =>
  if i15<27 then
   (at_ [[98,111,120],[102,110],[103,101,110],[116,97,115,107],[116,97,107,101,115],[121,105,101,108,100,115],[108,101,116],[105,102],[101,108,115,101],[119,104,105,108,101],[114,101,116,117,114,110],[115,116,111,112],[115,101,110,100],[111,117,116],[100,111],[114,101,99,118],[121,105,101,108,100],[115,116,97,114,116],[114,101,115,117,109,101],[97,108,105,118,101],[110,117,109],[98,111,111,108],[116,114,117,101],[102,97,108,115,101],[97,110,100],[111,114],[110,111,116]] i15).bind fun x28 =>
   if x28=p_1 then
    some true
   else
    (i64 (i15+1)).bind fun i37 =>
    r1_res_l1 p_1 n i37
  else
   some false
def r1_res  (p_1:List UInt8):Option Bool :=
 r1_res_l1 p_1 28 0
def r1_named_j1 (p_1:List UInt8) (q12:Nat) (k_r1_named_l1:Nat→Option Bool) (b29:Bool):Option Bool :=
 if b29=true then
  some false
 else
  k_r1_named_l1 (q12+wd p_1 q12)
def r1_named_l1 (p_1:List UInt8):Nat→Nat→Option Bool
 | 0,_=>none
 | n+1,q12 =>
  if q12<p_1.length then
   (at_ p_1 ((q12:Nat):Int)).bind fun u24 =>
   (r1_class u24).bind fun r26 =>
   if r26≠1 then
    if r26≠2 then
     r1_named_j1 p_1 q12 (r1_named_l1 p_1 n) true
    else
     r1_named_j1 p_1 q12 (r1_named_l1 p_1 n) (decide (((q12:Nat):Int)=0))
   else
    r1_named_j1 p_1 q12 (r1_named_l1 p_1 n) false
  else
   if (0:Int)<(p_1.length:Int) then
    if (p_1.length:Int)≤12 then
     (r1_res p_1).bind fun r36 =>
     some (!r36)
    else
     some false
   else
    some false
def r1_named  (p_1:List UInt8):Option Bool :=
 r1_named_l1 p_1 (p_1.length+1) 0
def r2_more  (n_2:Int) (p_2:Int):Option (Bool×Int) :=
 (i64 (n_2+1)).bind fun i3 =>
 if i3≤2000 then
  some (decide (p_2≤40),i3)
 else
  some (false,i3)
def r2_type_j2  (b7:Bool):Option Int :=
 if b7=true then
  some 7
 else
  some 0
def r2_type_j1 (p_1:TType) (b3:Bool):Option Int :=
 if b3=true then
  some 1
 else
  if p_1.Kind=3 then
   (r1_named p_1.Gen).bind fun r9 =>
   r2_type_j2 (!r9)
  else
   r2_type_j2 false
def r2_type  (p_1:TType):Option Int :=
 if p_1.Kind<1 then
  r2_type_j1 p_1 true
 else
  r2_type_j1 p_1 (decide ((3:Int)<p_1.Kind))
def r2_kids  (p_1:Int):Option Int :=
 (at_ [0,0,0,0,1,1,2,2,2,2,2,2,2,2,2,2,2,2,2,(-1),0,1,(-1),2,1] p_1).bind fun x5 =>
 some x5
structure R2E where
 r2_expr:Int→TExpr→Int→Option (Int×Int)
def r2_expr_l1 (self:R2E) (p_2:TExpr) (p_3:Int):Nat→Int→Int→Option (Int×Int)
 | 0,_,_=>none
 | n+1,i73,i74 =>
  if i73<(p_2.Kids.length:Int) then
   (at_ p_2.Kids i73).bind fun x97 =>
   (i64 (p_3+1)).bind fun i110 =>
   (self.r2_expr i74 x97 i110).bind fun r112 =>
   if r112.1≠0 then
    some (r112.1,r112.2)
   else
    (i64 (i73+1)).bind fun i116 =>
    r2_expr_l1 self p_2 p_3 n i116 r112.2
  else
   some (0,i74)
def r2_expr_j4 (self:R2E) (p_2:TExpr) (p_3:Int) (r8:Bool×Int) (b48:Bool):Option (Int×Int) :=
 if b48=true then
  some (5,r8.2)
 else
  r2_expr_l1 self p_2 p_3 (p_2.Kids.length+1) 0 r8.2
def r2_expr_j3 (self:R2E) (p_2:TExpr) (p_3:Int) (r8:Bool×Int) (b26:Bool):Option (Int×Int) :=
 if b26=true then
  some (7,r8.2)
 else
  (r2_kids p_2.Kind).bind fun r45 =>
  if (0:Int)≤r45 then
   if (p_2.Kids.length:Int)≠r45 then
    r2_expr_j4 self p_2 p_3 r8 true
   else
    r2_expr_j4 self p_2 p_3 r8 (decide ((6:Int)<(p_2.Kids.length:Int)))
  else
   r2_expr_j4 self p_2 p_3 r8 (decide ((6:Int)<(p_2.Kids.length:Int)))
def r2_expr_j2 (self:R2E) (p_2:TExpr) (p_3:Int) (r8:Bool×Int) (b16:Bool):Option (Int×Int) :=
 if b16=true then
  some (3,r8.2)
 else
  if p_2.Kind=3 then
   (r1_named p_2.Name).bind fun r28 =>
   r2_expr_j3 self p_2 p_3 r8 (!r28)
  else
   if p_2.Kind=20 then
    (r1_named p_2.Name).bind fun r32 =>
    r2_expr_j3 self p_2 p_3 r8 (!r32)
   else
    if p_2.Kind=19 then
     (r1_named p_2.Name).bind fun r36 =>
     r2_expr_j3 self p_2 p_3 r8 (!r36)
    else
     if p_2.Kind=22 then
      (r1_named p_2.Name).bind fun r40 =>
      r2_expr_j3 self p_2 p_3 r8 (!r40)
     else
      r2_expr_j3 self p_2 p_3 r8 false
def r2_expr_j1 (self:R2E) (p_2:TExpr) (p_3:Int) (r8:Bool×Int) (b12:Bool):Option (Int×Int) :=
 if b12=true then
  some (1,r8.2)
 else
  if p_2.Kind=1 then
   if p_2.N<0 then
    r2_expr_j2 self p_2 p_3 r8 true
   else
    if (999999999999999:Int)<p_2.N then
     r2_expr_j2 self p_2 p_3 r8 true
    else
     if p_2.Kind=2 then
      if p_2.N<0 then
       r2_expr_j2 self p_2 p_3 r8 true
      else
       r2_expr_j2 self p_2 p_3 r8 (decide ((1:Int)<p_2.N))
     else
      r2_expr_j2 self p_2 p_3 r8 false
  else
   if p_2.Kind=2 then
    if p_2.N<0 then
     r2_expr_j2 self p_2 p_3 r8 true
    else
     r2_expr_j2 self p_2 p_3 r8 (decide ((1:Int)<p_2.N))
   else
    r2_expr_j2 self p_2 p_3 r8 false
def r2_expr (self:R2E) (n_2:Int) (p_2:TExpr) (p_3:Int):Option (Int×Int) :=
 (r2_more n_2 p_3).bind fun r8 =>
 if r8.1=true then
  if p_2.Kind<1 then
   r2_expr_j1 self p_2 p_3 r8 true
  else
   r2_expr_j1 self p_2 p_3 r8 (decide ((24:Int)<p_2.Kind))
 else
  some (4,r8.2)
def R2E_run:Nat→R2E
 | 0=>⟨fun _ _ _=>none⟩
 | n+1=>⟨r2_expr (R2E_run n)⟩
structure R2S where
 r2_stats:Int→(List TStat)→Int→Option (Int×Int)
def r2_stats_j4 (self:R2S) (p_3:Int) (i65:Int) (x127:TStat) (k_r2_stats_l1:Int→Int→Option (Int×Int)) (i181:Int):Option (Int×Int) :=
 if x127.Kind=3 then
  (i64 (p_3+1)).bind fun i191 =>
  (self.r2_stats i181 x127.Else i191).bind fun r193 =>
  if r193.1≠0 then
   some (r193.1,r193.2)
  else
   (i64 (i65+1)).bind fun i197 =>
   k_r2_stats_l1 i197 r193.2
 else
  (i64 (i65+1)).bind fun i199 =>
  k_r2_stats_l1 i199 i181
def r2_stats_j3 (self:R2S) (p_3:Int) (i65:Int) (x127:TStat) (r174:Int×Int) (k_r2_stats_l1:Int→Int→Option (Int×Int)) (b178:Bool):Option (Int×Int) :=
 if b178=true then
  (i64 (p_3+1)).bind fun i183 =>
  (self.r2_stats r174.2 x127.Body i183).bind fun r185 =>
  if r185.1≠0 then
   some (r185.1,r185.2)
  else
   r2_stats_j4 self p_3 i65 x127 k_r2_stats_l1 r185.2
 else
  r2_stats_j4 self p_3 i65 x127 k_r2_stats_l1 r174.2
def r2_stats_j2 (fu:Nat) (self:R2S) (p_3:Int) (i65:Int) (x127:TStat) (r146:Bool×Int) (k_r2_stats_l1:Int→Int→Option (Int×Int)) (b154:Bool):Option (Int×Int) :=
 if b154=true then
  some (7,r146.2)
 else
  if x127.Kind=6 then
   (i64 (i65+1)).bind fun i170 =>
   k_r2_stats_l1 i170 r146.2
  else
   (i64 (p_3+1)).bind fun i172 =>
   ((R2E_run fu).r2_expr r146.2 x127.X i172).bind fun r174 =>
   if r174.1≠0 then
    some (r174.1,r174.2)
   else
    if x127.Kind=3 then
     r2_stats_j3 self p_3 i65 x127 r174 k_r2_stats_l1 true
    else
     r2_stats_j3 self p_3 i65 x127 r174 k_r2_stats_l1 (decide (x127.Kind=4))
def r2_stats_j1 (fu:Nat) (self:R2S) (p_3:Int) (i65:Int) (x127:TStat) (r146:Bool×Int) (k_r2_stats_l1:Int→Int→Option (Int×Int)) (b150:Bool):Option (Int×Int) :=
 if b150=true then
  some (1,r146.2)
 else
  if x127.Kind=1 then
   (r1_named x127.Name).bind fun r156 =>
   r2_stats_j2 fu self p_3 i65 x127 r146 k_r2_stats_l1 (!r156)
  else
   if x127.Kind=2 then
    (r1_named x127.Name).bind fun r160 =>
    r2_stats_j2 fu self p_3 i65 x127 r146 k_r2_stats_l1 (!r160)
   else
    if x127.Kind=7 then
     (r1_named x127.Name).bind fun r164 =>
     r2_stats_j2 fu self p_3 i65 x127 r146 k_r2_stats_l1 (!r164)
    else
     r2_stats_j2 fu self p_3 i65 x127 r146 k_r2_stats_l1 false
def r2_stats_l1 (fu:Nat) (self:R2S) (p_2:List TStat) (p_3:Int):Nat→Int→Int→Option (Int×Int)
 | 0,_,_=>none
 | n+1,i65,i66 =>
  if i65<(p_2.length:Int) then
   (at_ p_2 i65).bind fun x127 =>
   (r2_more i66 p_3).bind fun r146 =>
   if r146.1=true then
    if x127.Kind<1 then
     r2_stats_j1 fu self p_3 i65 x127 r146 (r2_stats_l1 fu self p_2 p_3 n) true
    else
     r2_stats_j1 fu self p_3 i65 x127 r146 (r2_stats_l1 fu self p_2 p_3 n) (decide ((9:Int)<x127.Kind))
   else
    some (4,r146.2)
  else
   some (0,i66)
def r2_stats (fu:Nat) (self:R2S) (n_2:Int) (p_2:List TStat) (p_3:Int):Option (Int×Int) :=
 if (50:Int)<(p_2.length:Int) then
  some (5,n_2)
 else
  r2_stats_l1 fu self p_2 p_3 (p_2.length+1) 0 n_2
def R2S_run:Nat→R2S
 | 0=>⟨fun _ _ _=>none⟩
 | n+1=>⟨r2_stats n (R2S_run n)⟩
def r2_def_j6 (fu:Nat) (p_2:TDef) (r11:Bool×Int) (b100:Bool):Option (Int×Int) :=
 if b100=true then
  some (3,r11.2)
 else
  if p_2.Kind=1 then
   some (0,r11.2)
  else
   ((R2S_run fu).r2_stats r11.2 p_2.Body 2).bind fun r106 =>
   some (r106.1,r106.2)
def r2_def_j5 (fu:Nat) (p_2:TDef) (r11:Bool×Int) :Option (Int×Int) :=
 if p_2.Kind=1 then
  if p_2.Cap<1 then
   r2_def_j6 fu p_2 r11 true
  else
   r2_def_j6 fu p_2 r11 (decide ((20:Int)<p_2.Cap))
 else
  r2_def_j6 fu p_2 r11 false
def r2_def_j4 (fu:Nat) (p_2:TDef) (r11:Bool×Int) :Option (Int×Int) :=
 if p_2.Kind<4 then
  (r2_type p_2.Typ).bind fun r95 =>
  if r95≠0 then
   some (r95,r11.2)
  else
   r2_def_j5 fu p_2 r11
 else
  r2_def_j5 fu p_2 r11
def r2_def_j3 (fu:Nat) (p_2:TDef) (r11:Bool×Int) :Option (Int×Int) :=
 if p_2.Kind=3 then
  (r2_type p_2.Takes).bind fun r89 =>
  if r89≠0 then
   some (r89,r11.2)
  else
   r2_def_j4 fu p_2 r11
 else
  r2_def_j4 fu p_2 r11
def r2_def_l1 (fu:Nat) (p_2:TDef) (r11:Bool×Int):Nat→Int→Option (Int×Int)
 | 0,_=>none
 | n+1,i46 =>
  if i46<(p_2.Params.length:Int) then
   (at_ p_2.Params i46).bind fun x67 =>
   (r1_named x67.Name).bind fun r77 =>
   if r77=true then
    (r2_type x67.Typ).bind fun r81 =>
    if r81≠0 then
     some (r81,r11.2)
    else
     (i64 (i46+1)).bind fun i85 =>
     r2_def_l1 fu p_2 r11 n i85
   else
    some (7,r11.2)
  else
   r2_def_j3 fu p_2 r11
def r2_def_j2 (fu:Nat) (p_2:TDef) (r11:Bool×Int) (b23:Bool):Option (Int×Int) :=
 if b23=true then
  if (6:Int)<(p_2.Params.length:Int) then
   some (5,r11.2)
  else
   r2_def_l1 fu p_2 r11 (p_2.Params.length+1) 0
 else
  r2_def_j3 fu p_2 r11
def r2_def_j1 (fu:Nat) (p_2:TDef) (r11:Bool×Int) (b15:Bool):Option (Int×Int) :=
 if b15=true then
  some (1,r11.2)
 else
  (r1_named p_2.Name).bind fun r19 =>
  if r19=true then
   if p_2.Kind=2 then
    r2_def_j2 fu p_2 r11 true
   else
    r2_def_j2 fu p_2 r11 (decide (p_2.Kind=3))
  else
   some (7,r11.2)
def r2_def (fu:Nat)  (n_2:Int) (p_2:TDef):Option (Int×Int) :=
 (r2_more n_2 1).bind fun r11 =>
 if r11.1=true then
  if p_2.Kind<1 then
   r2_def_j1 fu p_2 r11 true
  else
   r2_def_j1 fu p_2 r11 (decide ((4:Int)<p_2.Kind))
 else
  some (4,r11.2)
def r2_wrong_l1 (fu:Nat) (p_1:List TDef):Nat→Int→Int→Option TFault
 | 0,_,_=>none
 | n+1,i28,i29 =>
  if i28<(p_1.length:Int) then
   (at_ p_1 i28).bind fun x51 =>
   (r2_def fu i29 x51).bind fun r65 =>
   if r65.1≠0 then
    some (TFault.mk r65.1 i28)
   else
    (i64 (i28+1)).bind fun i69 =>
    r2_wrong_l1 fu p_1 n i69 r65.2
  else
   some (TFault.mk 0 0)
def r2_wrong (fu:Nat)  (p_1:List TDef):Option TFault :=
 if (30:Int)<(p_1.length:Int) then
  some (TFault.mk 5 0)
 else
  r2_wrong_l1 fu p_1 (p_1.length+1) 0 0
end Go.Y
namespace Go.Y
open Go.Wk Go.Xt
def r2_tyt  (p_1:TType):Option (List UInt8) :=
 (cat p_1.Gen [32]).bind fun s3 =>
 (at_ [[],[110,117,109,32],[98,111,111,108,32],s3] p_1.Kind).bind fun x9 =>
 some x9
def r2_sign_l1 (p_1:Int) (p_2:List UInt8) (x29:List (List UInt8)):Nat→Int→Option Int
 | 0,_=>none
 | n+1,i65 =>
  if i65<(x29.length:Int) then
   (at_ x29 i65).bind fun x90 =>
   if x90=p_2 then
    (i64 (p_1 - 1)).bind fun i99 =>
    (at_ [18,17,11,6,8] i99).bind fun x101 =>
    (i64 (x101+i65)).bind fun i109 =>
    some i109
   else
    (i64 (i65+1)).bind fun i111 =>
    r2_sign_l1 p_1 p_2 x29 n i111
  else
   some 0
def r2_sign  (p_1:Int) (p_2:List UInt8):Option Int :=
 (i64 (p_1 - 1)).bind fun i25 =>
 (at_ [[[111,114]],[[97,110,100]],[[61,61],[33,61],[60],[60,61],[62],[62,61]],[[43],[45]],[[42],[47],[37]]] i25).bind fun x29 =>
 r2_sign_l1 p_1 p_2 x29 (x29.length+1) 0
structure R2T where
 r2_text:TExpr→Int→Option (List UInt8)
 r2_args:(List TExpr)→Option (List UInt8)
def r2_text_j1 (p_2:Int) (s6:List UInt8) (i7:Int):Option (List UInt8) :=
 if i7<p_2 then
  (cat [40,32] s6).bind fun s608 =>
  (cat s608 [41,32]).bind fun s610 =>
  some s610
 else
  some s6
def r2_text_j2 (p_2:Int) (s53:List UInt8):Option (List UInt8) :=
 r2_text_j1 p_2 s53 7
def r2_text_j3 (p_2:Int) (s74:List UInt8):Option (List UInt8) :=
 r2_text_j1 p_2 s74 7
def r2_text_j6 (i264:Int) (i490:Int) (k_r2_text_l2:(List UInt8)→Int→Int→Option (List UInt8)) (s562:List UInt8):Option (List UInt8) :=
 (i64 (i490+1)).bind fun i600 =>
 k_r2_text_l2 s562 i264 i600
def r2_text_j5 (self:R2T) (p_1:TExpr) (i264:Int) (i490:Int) (x545:List UInt8) (k_r2_text_l2:(List UInt8)→Int→Int→Option (List UInt8)) (i559:Int):Option (List UInt8) :=
 (at_ p_1.Kids 0).bind fun x563 =>
 (at_ p_1.Kids 1).bind fun x574 =>
 (i64 (i264+1)).bind fun i585 =>
 (self.r2_text x563 i559).bind fun r587 =>
 (cat r587 x545).bind fun s590 =>
 (cat s590 [32]).bind fun s592 =>
 (self.r2_text x574 i585).bind fun r594 =>
 (cat s592 r594).bind fun s597 =>
 r2_text_j6 i264 i490 k_r2_text_l2 s597
def r2_text_j4 (self:R2T) (p_1:TExpr) (i264:Int) (s488:List UInt8) (i489:Int) (i490:Int) (x545:List UInt8) (k_r2_text_l2:(List UInt8)→Int→Int→Option (List UInt8)) (b553:Bool):Option (List UInt8) :=
 if b553=true then
  if i264=3 then
   r2_text_j5 self p_1 i264 i490 x545 k_r2_text_l2 4
  else
   r2_text_j5 self p_1 i264 i490 x545 k_r2_text_l2 i264
 else
  (i64 (i490+1)).bind fun i602 =>
  k_r2_text_l2 s488 i489 i602
def r2_text_l2 (self:R2T) (p_1:TExpr) (i264:Int) (k_r2_text_l1:(List UInt8)→Int→Int→Option (List UInt8)):Nat→(List UInt8)→Int→Int→Option (List UInt8)
 | 0,_,_,_=>none
 | n+1,s488,i489,i490 =>
  if i490<13 then
   (at_ [[111,114],[97,110,100],[61,61],[33,61],[60],[60,61],[62],[62,61],[43],[45],[42],[47],[37]] i490).bind fun x545 =>
   (r2_sign i264 x545).bind fun r554 =>
   r2_text_j4 self p_1 i264 s488 i489 i490 x545 (r2_text_l2 self p_1 i264 k_r2_text_l1 n) (decide (r554=p_1.Kind))
  else
   (i64 (i264+1)).bind fun i604 =>
   k_r2_text_l1 s488 i489 i604
def r2_text_l1 (self:R2T) (p_1:TExpr) (p_2:Int):Nat→(List UInt8)→Int→Int→Option (List UInt8)
 | 0,_,_,_=>none
 | n+1,s262,i263,i264 =>
  if i264≤5 then
   r2_text_l2 self p_1 i264 (r2_text_l1 self p_1 p_2 n) 14 s262 i263 0
  else
   r2_text_j1 p_2 s262 i263
def r2_text (fu:Nat) (self:R2T) (p_1:TExpr) (p_2:Int):Option (List UInt8) :=
 if p_1.Kind=1 then
  (fmt10 p_1.N).bind fun s9 =>
  (cat s9 [32]).bind fun s11 =>
  r2_text_j1 p_2 s11 7
 else
  if p_1.Kind=2 then
   if p_1.N=1 then
    r2_text_j1 p_2 [116,114,117,101,32] 7
   else
    r2_text_j1 p_2 [102,97,108,115,101,32] 7
  else
   if p_1.Kind=3 then
    (cat p_1.Name [32]).bind fun s16 =>
    r2_text_j1 p_2 s16 7
   else
    if p_1.Kind=4 then
     (at_ p_1.Kids 0).bind fun x19 =>
     (self.r2_text x19 6).bind fun r30 =>
     (cat [45,32] r30).bind fun s33 =>
     r2_text_j1 p_2 s33 6
    else
     if p_1.Kind=5 then
      (at_ p_1.Kids 0).bind fun x36 =>
      (self.r2_text x36 6).bind fun r47 =>
      (cat [110,111,116,32] r47).bind fun s50 =>
      r2_text_j1 p_2 s50 6
     else
      if p_1.Kind=19 then
       (cat p_1.Name [32]).bind fun s54 =>
       (self.r2_args p_1.Kids).bind fun r56 =>
       (cat s54 r56).bind fun s59 =>
       r2_text_j2 p_2 s59
      else
       if p_1.Kind=20 then
        (cat [114,101,99,118,32,40,32] p_1.Name).bind fun s63 =>
        (cat s63 [32,41,32]).bind fun s65 =>
        r2_text_j1 p_2 s65 7
       else
        if p_1.Kind=21 then
         (self.r2_args p_1.Kids).bind fun r68 =>
         (cat [121,105,101,108,100,32] r68).bind fun s71 =>
         r2_text_j1 p_2 s71 7
        else
         if p_1.Kind=22 then
          (cat [115,116,97,114,116,32] p_1.Name).bind fun s75 =>
          (cat s75 [32]).bind fun s77 =>
          (self.r2_args p_1.Kids).bind fun r79 =>
          (cat s77 r79).bind fun s82 =>
          r2_text_j3 p_2 s82
         else
          if p_1.Kind=23 then
           (self.r2_args p_1.Kids).bind fun r86 =>
           (cat [114,101,115,117,109,101,32] r86).bind fun s89 =>
           r2_text_j1 p_2 s89 7
          else
           if p_1.Kind=24 then
            (self.r2_args p_1.Kids).bind fun r92 =>
            (cat [97,108,105,118,101,32] r92).bind fun s95 =>
            r2_text_j1 p_2 s95 7
           else
            r2_text_l1 self p_1 p_2 fu [] 7 1
def r2_args_j1 (self:R2T) (i28:Int) (x54:TExpr) (k_r2_args_l1:(List UInt8)→Int→Option (List UInt8)) (s67:List UInt8):Option (List UInt8) :=
 (self.r2_text x54 1).bind fun r72 =>
 (cat s67 r72).bind fun s75 =>
 (i64 (i28+1)).bind fun i77 =>
 k_r2_args_l1 s75 i77
def r2_args_l1 (self:R2T) (p_1:List TExpr):Nat→(List UInt8)→Int→Option (List UInt8)
 | 0,_,_=>none
 | n+1,s27,i28 =>
  if i28<(p_1.length:Int) then
   (at_ p_1 i28).bind fun x54 =>
   if (0:Int)<i28 then
    (cat s27 [44,32]).bind fun s69 =>
    r2_args_j1 self i28 x54 (r2_args_l1 self p_1 n) s69
   else
    r2_args_j1 self i28 x54 (r2_args_l1 self p_1 n) s27
  else
   (cat s27 [41,32]).bind fun s79 =>
   some s79
def r2_args (self:R2T) (p_1:List TExpr):Option (List UInt8) :=
 r2_args_l1 self p_1 (p_1.length+1) [40,32] 0
def R2T_run:Nat→R2T
 | 0=>⟨fun _ _=>none,fun _=>none⟩
 | n+1=>⟨r2_text n (R2T_run n),r2_args (R2T_run n)⟩
structure R2B where
 r2_body:(List TStat)→Option (List UInt8)
def r2_body_j4 (self:R2B) (i80:Int) (x158:TStat) (s231:List UInt8) (k_r2_body_l1:(List UInt8)→Int→Option (List UInt8)) (b233:Bool):Option (List UInt8) :=
 if b233=true then
  (cat s231 [101,108,115,101,32]).bind fun s237 =>
  (self.r2_body x158.Else).bind fun r239 =>
  (cat s237 r239).bind fun s242 =>
  (i64 (i80+1)).bind fun i244 =>
  k_r2_body_l1 s242 i244
 else
  (i64 (i80+1)).bind fun i246 =>
  k_r2_body_l1 s231 i246
def r2_body_j3 (self:R2B) (i80:Int) (x158:TStat) (s216:List UInt8) (k_r2_body_l1:(List UInt8)→Int→Option (List UInt8)) (b224:Bool):Option (List UInt8) :=
 if b224=true then
  (self.r2_body x158.Body).bind fun r228 =>
  (cat s216 r228).bind fun s231 =>
  if x158.Kind=3 then
   r2_body_j4 self i80 x158 s231 k_r2_body_l1 (decide ((0:Int)<(x158.Else.length:Int)))
  else
   r2_body_j4 self i80 x158 s231 k_r2_body_l1 false
 else
  (cat s216 [59,32]).bind fun s248 =>
  (i64 (i80+1)).bind fun i250 =>
  k_r2_body_l1 s248 i250
def r2_body_j2 (self:R2B) (i80:Int) (x158:TStat) (k_r2_body_l1:(List UInt8)→Int→Option (List UInt8)) (s216:List UInt8):Option (List UInt8) :=
 if x158.Kind=3 then
  r2_body_j3 self i80 x158 s216 k_r2_body_l1 true
 else
  r2_body_j3 self i80 x158 s216 k_r2_body_l1 (decide (x158.Kind=4))
def r2_body_j1 (fu:Nat) (self:R2B) (i80:Int) (x158:TStat) (k_r2_body_l1:(List UInt8)→Int→Option (List UInt8)) (s177:List UInt8):Option (List UInt8) :=
 if x158.Kind≠6 then
  ((R2T_run fu).r2_text x158.X 1).bind fun r218 =>
  (cat s177 r218).bind fun s221 =>
  r2_body_j2 self i80 x158 k_r2_body_l1 s221
 else
  r2_body_j2 self i80 x158 k_r2_body_l1 s177
def r2_body_l1 (fu:Nat) (self:R2B) (p_1:List TStat):Nat→(List UInt8)→Int→Option (List UInt8)
 | 0,_,_=>none
 | n+1,s79,i80 =>
  if i80<(p_1.length:Int) then
   (at_ p_1 i80).bind fun x158 =>
   if x158.Kind=1 then
    (cat s79 [108,101,116,32]).bind fun s179 =>
    (cat s179 x158.Name).bind fun s181 =>
    (cat s181 [32,61,32]).bind fun s183 =>
    r2_body_j1 fu self i80 x158 (r2_body_l1 fu self p_1 n) s183
   else
    if x158.Kind=2 then
     (cat s79 x158.Name).bind fun s186 =>
     (cat s186 [32,61,32]).bind fun s188 =>
     r2_body_j1 fu self i80 x158 (r2_body_l1 fu self p_1 n) s188
    else
     if x158.Kind=3 then
      (cat s79 [105,102,32]).bind fun s191 =>
      r2_body_j1 fu self i80 x158 (r2_body_l1 fu self p_1 n) s191
     else
      if x158.Kind=4 then
       (cat s79 [119,104,105,108,101,32]).bind fun s194 =>
       r2_body_j1 fu self i80 x158 (r2_body_l1 fu self p_1 n) s194
      else
       if x158.Kind=5 then
        (cat s79 [114,101,116,117,114,110,32]).bind fun s197 =>
        r2_body_j1 fu self i80 x158 (r2_body_l1 fu self p_1 n) s197
       else
        if x158.Kind=6 then
         (cat s79 [115,116,111,112,32]).bind fun s200 =>
         r2_body_j1 fu self i80 x158 (r2_body_l1 fu self p_1 n) s200
        else
         if x158.Kind=7 then
          (cat s79 [115,101,110,100,32]).bind fun s203 =>
          (cat s203 x158.Name).bind fun s205 =>
          (cat s205 [32]).bind fun s207 =>
          r2_body_j1 fu self i80 x158 (r2_body_l1 fu self p_1 n) s207
         else
          if x158.Kind=8 then
           (cat s79 [111,117,116,32]).bind fun s210 =>
           r2_body_j1 fu self i80 x158 (r2_body_l1 fu self p_1 n) s210
          else
           if x158.Kind=9 then
            (cat s79 [100,111,32]).bind fun s213 =>
            r2_body_j1 fu self i80 x158 (r2_body_l1 fu self p_1 n) s213
           else
            r2_body_j1 fu self i80 x158 (r2_body_l1 fu self p_1 n) s79
  else
   (cat s79 [125,32]).bind fun s252 =>
   some s252
def r2_body (fu:Nat) (self:R2B) (p_1:List TStat):Option (List UInt8) :=
 r2_body_l1 fu self p_1 (p_1.length+1) [123,32] 0
def R2B_run:Nat→R2B
 | 0=>⟨fun _=>none⟩
 | n+1=>⟨r2_body n (R2B_run n)⟩
def r2_print_j1 (i181:Int) (k_r2_print_l1:(List UInt8)→Int→Option (List UInt8×TFault)) (s369:List UInt8):Option (List UInt8×TFault) :=
 (i64 (i181+1)).bind fun i388 =>
 k_r2_print_l1 s369 i388
def r2_print_j2 (i181:Int) (k_r2_print_l1:(List UInt8)→Int→Option (List UInt8×TFault)) (s391:List UInt8):Option (List UInt8×TFault) :=
 (i64 (i181+1)).bind fun i404 =>
 k_r2_print_l1 s391 i404
def r2_print_j7  (s542:List UInt8):Option (List UInt8×TFault) :=
 if (6000:Int)<(s542.length:Int) then
  some ([],(TFault.mk 4 0))
 else
  some (s542,(TFault.mk 0 0))
def r2_print_j4 (i431:Int) (k_r2_print_l2:(List UInt8)→Int→Option (List UInt8×TFault)) (s473:List UInt8):Option (List UInt8×TFault) :=
 (i64 (i431+1)).bind fun i484 =>
 k_r2_print_l2 s473 i484
def r2_print_j3 (i431:Int) (x458:TParam) (k_r2_print_l2:(List UInt8)→Int→Option (List UInt8×TFault)) (s468:List UInt8):Option (List UInt8×TFault) :=
 (cat s468 x458.Name).bind fun s474 =>
 (cat s474 [32]).bind fun s476 =>
 (r2_tyt x458.Typ).bind fun r478 =>
 (cat s476 r478).bind fun s481 =>
 r2_print_j4 i431 k_r2_print_l2 s481
def r2_print_j5 (i181:Int) (k_r2_print_l1:(List UInt8)→Int→Option (List UInt8×TFault)) (s487:List UInt8):Option (List UInt8×TFault) :=
 (i64 (i181+1)).bind fun i509 =>
 k_r2_print_l1 s487 i509
def r2_print_j6 (i181:Int) (k_r2_print_l1:(List UInt8)→Int→Option (List UInt8×TFault)) (s511:List UInt8):Option (List UInt8×TFault) :=
 (i64 (i181+1)).bind fun i540 =>
 k_r2_print_l1 s511 i540
def r2_print_l2 (fu:Nat) (s180:List UInt8) (i181:Int) (x352:TDef) (k_r2_print_l1:(List UInt8)→Int→Option (List UInt8×TFault)):Nat→(List UInt8)→Int→Option (List UInt8×TFault)
 | 0,_,_=>none
 | n+1,s430,i431 =>
  if i431<(x352.Params.length:Int) then
   (at_ x352.Params i431).bind fun x458 =>
   if (0:Int)<i431 then
    (cat s430 [44,32]).bind fun s470 =>
    r2_print_j3 i431 x458 (r2_print_l2 fu s180 i181 x352 k_r2_print_l1 n) s470
   else
    r2_print_j3 i431 x458 (r2_print_l2 fu s180 i181 x352 k_r2_print_l1 n) s430
  else
   if x352.Kind=2 then
    (cat s180 [102,110,32]).bind fun s488 =>
    (cat s488 x352.Name).bind fun s490 =>
    (cat s490 [32]).bind fun s492 =>
    (cat s492 s430).bind fun s494 =>
    (cat s494 [41,32]).bind fun s496 =>
    (r2_tyt x352.Typ).bind fun r498 =>
    (cat s496 r498).bind fun s501 =>
    ((R2B_run fu).r2_body x352.Body).bind fun r503 =>
    (cat s501 r503).bind fun s506 =>
    r2_print_j5 i181 k_r2_print_l1 s506
   else
    (cat s180 [103,101,110,32]).bind fun s512 =>
    (cat s512 x352.Name).bind fun s514 =>
    (cat s514 [32]).bind fun s516 =>
    (cat s516 s430).bind fun s518 =>
    (cat s518 [41,32,116,97,107,101,115,32]).bind fun s520 =>
    (r2_tyt x352.Takes).bind fun r522 =>
    (cat s520 r522).bind fun s525 =>
    (cat s525 [121,105,101,108,100,115,32]).bind fun s527 =>
    (r2_tyt x352.Typ).bind fun r529 =>
    (cat s527 r529).bind fun s532 =>
    ((R2B_run fu).r2_body x352.Body).bind fun r534 =>
    (cat s532 r534).bind fun s537 =>
    r2_print_j6 i181 k_r2_print_l1 s537
def r2_print_l1 (fu:Nat) (p_1:List TDef):Nat→(List UInt8)→Int→Option (List UInt8×TFault)
 | 0,_,_=>none
 | n+1,s180,i181 =>
  if i181<(p_1.length:Int) then
   (at_ p_1 i181).bind fun x352 =>
   if x352.Kind=1 then
    (cat s180 [98,111,120,32]).bind fun s370 =>
    (cat s370 x352.Name).bind fun s372 =>
    (cat s372 [32]).bind fun s374 =>
    (r2_tyt x352.Typ).bind fun r376 =>
    (cat s374 r376).bind fun s379 =>
    (fmt10 x352.Cap).bind fun s381 =>
    (cat s379 s381).bind fun s383 =>
    (cat s383 [32,59,32]).bind fun s385 =>
    r2_print_j1 i181 (r2_print_l1 fu p_1 n) s385
   else
    if x352.Kind=4 then
     (cat s180 [116,97,115,107,32]).bind fun s392 =>
     (cat s392 x352.Name).bind fun s394 =>
     (cat s394 [32]).bind fun s396 =>
     ((R2B_run fu).r2_body x352.Body).bind fun r398 =>
     (cat s396 r398).bind fun s401 =>
     r2_print_j2 i181 (r2_print_l1 fu p_1 n) s401
    else
     r2_print_l2 fu s180 i181 x352 (r2_print_l1 fu p_1 n) (x352.Params.length+1) [40,32] 0
  else
   if (0:Int)<(s180.length:Int) then
    (i64 ((s180.length:Int) - 1)).bind fun i544 =>
    (cut s180 0 i544).bind fun s546 =>
    r2_print_j7 s546
   else
    r2_print_j7 s180
def r2_print (fu:Nat)  (p_1:List TDef):Option (List UInt8×TFault) :=
 (r2_wrong fu p_1).bind fun r6 =>
 if r6.Err≠0 then
  some ([],r6)
 else
  r2_print_l1 fu p_1 (p_1.length+1) [] 0
end Go.Y
namespace Go.Y
open Go.Wk Go.Xt
def law_synp (fu:Nat)  (p_1:List TDef):Option Bool :=
 (syn_print fu p_1).bind fun r4 =>
 (r2_print fu p_1).bind fun r9 =>
 (syn_wrong fu p_1).bind fun r14 =>
 (r2_wrong fu p_1).bind fun r17 =>
 if (andL [(decide (r14.Err=r17.Err)),(decide (r14.At=r17.At))])=true then
  if r4.1=r9.1 then
   some (andL [(decide (r4.2.Err=r9.2.Err)),(decide (r4.2.At=r9.2.At))])
  else
   some false
 else
  some false
end Go.Y
namespace Go.Y
open Go.Wk Go.Xt
theorem i64_ok {n:Int} (h:-9223372036854775808≤n∧n≤9223372036854775807):i64 n=some n:=if_pos h
theorem bS {α β:Type} {x:α} {f:α→Option β}:Option.bind (some x) f=f x:=rfl
theorem at_nat {α:Type} {l:List α} {i:Nat}:at_ l (i:Int)=l[i]?:=by simp [at_]
theorem at_0 {α:Type} {l:List α} (h:0<l.length):at_ l 0=some l[0]:=by simp [at_,h]
theorem at_1 {α:Type} {l:List α} (h:1<l.length):at_ l 1=some l[1]:=by simp [at_,h]
theorem lx_letter_t (c:UInt8):∃ b,lx_letter c=some b:=by
 unfold lx_letter
 split
 ·split <;> exact ⟨_,rfl⟩
 ·exact ⟨_,rfl⟩
theorem lx_digit_t (c:UInt8):∃ b,lx_digit c=some b:=by
 unfold lx_digit
 split <;> exact ⟨_,rfl⟩
theorem lx_n1_t (c:UInt8):∃ b,lx_n1 c=some b:=by
 obtain ⟨a,ha⟩:=lx_letter_t c
 obtain ⟨b,hb⟩:=lx_digit_t c
 unfold lx_n1
 rw [ha,bS,hb,bS]
 split <;> exact ⟨_,rfl⟩
theorem lx_while_t (l:List UInt8) (p:UInt8→Option Bool) (hp:∀ c,∃ b,p c=some b) (hl:l.length≤65536):∀ (n i:Nat),i≤l.length→l.length<n+i→∃ r,lx_while_l1 l p n (i:Int)=some r
 | 0,i,h1,h2=>by omega
 | n+1,i,h1,h2=>by
  rw [lx_while_l1]
  by_cases c:i<l.length
  ·obtain ⟨b,hb⟩:=hp l[i]
   rw [if_pos (by omega),at_nat,List.getElem?_eq_getElem c,bS,hb,bS]
   cases b with
   | true=>rw [lx_while_j1,if_pos rfl,i64_ok (by omega),bS]; exact lx_while_t l p hp hl n (i+1) c (by omega)
   | false=>exact ⟨_,rfl⟩
  ·rw [if_neg (by omega)]
   exact ⟨_,rfl⟩
theorem lex_named_t (fu:Nat) (hf:20≤fu) (s:List UInt8):∃ b,lex_named fu s=some b:=by
 have hj:∀ b,(b=true∨s.length≤12)→∃ r,lex_named_j1 fu s b=some r:=by
  intro b hb
  cases b with
  | true=>exact ⟨_,rfl⟩
  | false =>
   have hs:s.length≤12:=by simpa using hb
   obtain ⟨r,hr⟩:=lx_while_t s lx_n1 lx_n1_t (by omega) fu 0 (by omega) (by omega)
   have hr2:lx_while fu s lx_n1=some r:=hr
   exact ⟨_,by rw [lex_named_j1,if_neg (by decide),hr2,bS]⟩
 rw [lex_named]
 by_cases h1:(s.length:Int)<1
 ·rw [if_pos h1]; exact hj _ (.inl rfl)
 ·rw [if_neg h1]
  by_cases h2:(12:Int)<s.length
  ·rw [if_pos h2]; exact hj _ (.inl rfl)
  ·have h0:0<s.length:=by omega
   obtain ⟨b,hb⟩:=lx_letter_t s[0]
   rw [if_neg h2,at_0 h0,bS,hb,bS]
   cases b with
   | false=>rw [if_neg (by decide)]; exact hj _ (.inl rfl)
   | true =>
    rw [if_pos rfl,cat,if_pos (by simp; omega),bS,cat,if_pos (by simp; omega),bS,scont,if_pos (by decide +kernel),bS]
    exact hj _ (.inr (by omega))
def kidN (k:Int):Int:=if k≤3∨k=20 then 0 else if k≤5∨k=21∨k=24 then 1 else if k≤18∨k=23 then 2 else -1
theorem syn_kids_t (k:Int):syn_kids k=some (kidN k):=by
 unfold syn_kids kidN
 by_cases h1:k≤3
 ·rw [if_pos h1,if_pos (.inl h1)]; rfl
 ·rw [if_neg h1]
  by_cases h2:k=20
  ·rw [decide_eq_true h2,if_pos (.inr h2)]; rfl
  ·rw [decide_eq_false h2,syn_kids_j1,if_neg (by decide),if_neg (show ¬ (k≤3∨k=20) by omega)]
   by_cases h3:k≤5
   ·rw [if_pos h3,if_pos (.inl h3)]; rfl
   ·rw [if_neg h3]
    by_cases h4:k=21
    ·rw [if_pos h4,if_pos (.inr (.inl h4))]; rfl
    ·rw [if_neg h4]
     by_cases h5:k=24
     ·rw [decide_eq_true h5,if_pos (.inr (.inr h5))]; rfl
     ·rw [decide_eq_false h5,syn_kids_j2,if_neg (by decide),if_neg (show ¬ (k≤5∨k=21∨k=24) by omega)]
      by_cases h6:k≤18
      ·rw [if_pos h6,if_pos (.inl h6)]; rfl
      ·rw [if_neg h6]
       by_cases h7:k=23
       ·rw [decide_eq_true h7,if_pos (.inr h7)]; rfl
       ·rw [decide_eq_false h7,if_neg (show ¬ (k≤18∨k=23) by omega)]; rfl
theorem syn_node_t (node d:Int) (h0:0≤node) (h1:node≤4294967296):∃ e,syn_node node d=some (e,node+1)∧(e=0→node+1≤2000∧d≤40):=by
 unfold syn_node
 rw [i64_ok (by omega),bS]
 by_cases c:2000<node+1
 ·rw [if_pos c]; exact ⟨4,rfl,fun h=>absurd h (by decide)⟩
 ·rw [if_neg c]
  by_cases e:40<d
  ·rw [decide_eq_true e]; exact ⟨4,rfl,fun h=>absurd h (by decide)⟩
  ·rw [decide_eq_false e]; exact ⟨0,rfl,fun _=>⟨by omega,by omega⟩⟩
structure KidsOk (x:TExpr):Prop where
 eq:0≤kidN x.Kind→(x.Kids.length:Int)=kidN x.Kind
 le:x.Kids.length≤6
def OkE:Nat→TExpr→Prop
 | 0,_=>False
 | k+1,x=>1≤x.Kind∧x.Kind≤24∧KidsOk x∧∀ y ∈ x.Kids,OkE k y
def nE:Nat→TExpr→Nat
 | 0,_=>0
 | k+1,x=>1+(x.Kids.map (nE k)).sum
theorem kidN_le (k:Int):kidN k≤2:=by
 unfold kidN
 split
 ·decide
 ·split
  ·decide
  ·split <;> decide
theorem syn_expr_t:∀ (n:Nat) (x:TExpr) (d node:Int),62≤n+d→0≤d→d≤41→0≤node→node≤2000 →
  ∃ e k,(SynExpr_run n).syn_expr node x d=some (e,k)∧node≤k∧(e=0→k≤2000∧OkE (41 - d).toNat x∧k=node+(nE (41 - d).toNat x:Nat)):=by
 intro n
 induction n with
 | zero=>intro x d node h0 h1 h2; omega
 | succ n ih =>
  intro x d node h0 h1 h2 h3 h4
  show ∃ e k,syn_expr n (SynExpr_run n) node x d=some (e,k)∧_
  obtain ⟨b,hb⟩:=lex_named_t n (by omega) x.Name
  obtain ⟨e,hn,he⟩:=syn_node_t node d h3 (by omega)
  rw [syn_expr,hn,bS]
  by_cases c:e=0
  ·subst c
   obtain ⟨hk,hd⟩:=he rfl
   rw [if_neg (by simp)]
   have hD:(41 - d).toNat=(40 - d).toNat+1:=by omega
   rw [hD]
   generalize hP:(fun o:Option (Int×Int)=>∃ e k,o=some (e,k)∧node≤k∧(e=0→k≤2000∧OkE ((40 - d).toNat+1) x∧k=node+(nE ((40 - d).toNat+1) x:Nat)))=P
   have bad:∀ e:Int,e≠0→P (some (e,node+1)):=fun e h=>by rw [← hP]; exact ⟨e,_,rfl,by omega,fun h'=>absurd h' h⟩
   have L:x.Kids.length≤6→∀ (m i:Nat) (c:Int),i≤x.Kids.length→x.Kids.length<m+i→0≤c→c≤2000 →
     ∃ e k,syn_expr_l1 (SynExpr_run n) x d m i c=some (e,k)∧c≤k∧(e=0→k≤2000∧(∀ y ∈ x.Kids.drop i,OkE (40 - d).toNat y)∧k=c+(((x.Kids.drop i).map (nE (40 - d).toNat)).sum:Nat)):=by
    intro hl m
    induction m with
    | zero=>intro i c h1 h2; omega
    | succ m ihm =>
     intro i c g1 g2 g3 g4
     rw [syn_expr_l1]
     by_cases q:i<x.Kids.length
     ·obtain ⟨e,k,e1,e2,e3⟩:=ih x.Kids[i] (d+1) c (by omega) (by omega) (by omega) g3 g4
      rw [if_pos (by omega),at_nat,List.getElem?_eq_getElem q,bS,i64_ok (by omega),bS,e1,bS]
      by_cases z:e=0
      ·subst z
       obtain ⟨f1,f2,f3⟩:=e3 rfl
       rw [if_neg (by simp),i64_ok (by omega),bS]
       obtain ⟨e',k',r1,r2,r3⟩:=ihm (i+1) k q (by omega) (by omega) f1
       refine ⟨e',k',r1,by omega,fun hz=>?_⟩
       obtain ⟨s1,s2,s3⟩:=r3 hz
       have hd':(41 - (d+1)).toNat=(40 - d).toNat:=by omega
       rw [hd'] at f2 f3
       refine ⟨s1,fun y hy=>?_,?_⟩
       ·rw [List.drop_eq_getElem_cons q] at hy
        rcases List.mem_cons.1 hy with rfl | hy
        ·exact f2
        ·exact s2 y hy
       ·rw [List.drop_eq_getElem_cons q,List.map_cons,List.sum_cons]
        omega
      ·rw [if_pos z]
       exact ⟨e,k,rfl,e2,fun h=>absurd h z⟩
     ·rw [if_neg (by omega),List.drop_eq_nil_of_le (by omega)]
      exact ⟨0,c,rfl,by omega,fun _=>⟨g4,by simp,by simp⟩⟩
   by_cases kd:1≤x.Kind∧x.Kind≤24
   ·have J6:∀ b,(b=false→KidsOk x)→P (syn_expr_j6 (SynExpr_run n) x d (0,node+1) b):=by
     intro b h
     cases b with
     | true=>exact bad 5 (by decide)
     | false =>
      have hk':=h rfl
      rw [syn_expr_j6,if_neg (by decide),← hP]
      obtain ⟨e,k,r1,r2,r3⟩:=L hk'.le (x.Kids.length+1) 0 (node+1) (by omega) (by omega) (by omega) (by omega)
      refine ⟨e,k,r1,by omega,fun hz=>?_⟩
      obtain ⟨s1,s2,s3⟩:=r3 hz
      rw [List.drop_zero] at s2 s3
      exact ⟨s1,⟨kd.1,kd.2,hk',s2⟩,by rw [nE]; omega⟩
    have kl:=kidN_le x.Kind
    have J5:∀ b,(b=false→0≤kidN x.Kind→(x.Kids.length:Int)=kidN x.Kind)→P (syn_expr_j5 (SynExpr_run n) x d (0,node+1) (kidN x.Kind) b):=by
     intro b h
     cases b with
     | true=>rw [syn_expr_j5,if_pos rfl]; exact J6 _ (fun h=>absurd h (by decide))
     | false =>
      rw [syn_expr_j5,if_neg (by decide)]
      by_cases q:kidN x.Kind<0
      ·rw [if_pos q]
       exact J6 _ fun hd=>⟨h rfl,by have:=of_decide_eq_false hd; omega⟩
      ·rw [if_neg q]
       exact J6 _ fun _=>⟨h rfl,by have:=h rfl (by omega); omega⟩
    have J4:∀ b,P (syn_expr_j4 (SynExpr_run n) x d (0,node+1) (kidN x.Kind) b):=by
     intro b
     cases b with
     | true=>exact bad 7 (by decide)
     | false =>
      rw [syn_expr_j4,if_neg (by decide)]
      by_cases q:0≤kidN x.Kind
      ·rw [if_pos q]
       exact J5 _ fun hd _=>by have:=of_decide_eq_false hd; omega
      ·rw [if_neg q]
       exact J5 _ fun _ h=>absurd h q
    have J3:∀ b,P (syn_expr_j3 n (SynExpr_run n) x d (0,node+1) (kidN x.Kind) b):=by
     intro b'
     cases b' with
     | true=>exact bad 3 (by decide)
     | false =>
      rw [syn_expr_j3,if_neg (by decide),hb]
      simp only [bS]
      split
      ·exact J4 _
      ·split
       ·exact J4 _
       ·split <;> exact J4 _
    have J2:∀ b,P (syn_expr_j2 n (SynExpr_run n) x d (0,node+1) (kidN x.Kind) b):=by
     intro b'
     unfold syn_expr_j2
     split
     ·exact J3 _
     ·split
      ·split <;> exact J3 _
      ·exact J3 _
    have J1:∀ b,P (syn_expr_j1 n (SynExpr_run n) x d (0,node+1) b):=by
     intro b'
     cases b' with
     | true=>exact bad 1 (by decide)
     | false =>
      rw [syn_expr_j1,if_neg (by decide),syn_kids_t,bS]
      split
      ·split <;> exact J2 _
      ·exact J2 _
    have G:P (if x.Kind<1 then syn_expr_j1 n (SynExpr_run n) x d (0,node+1) true else syn_expr_j1 n (SynExpr_run n) x d (0,node+1) (decide ((24:Int)<x.Kind))):=by
     split <;> exact J1 _
    rw [← hP] at G
    exact G
   ·have G:P (if x.Kind<1 then syn_expr_j1 n (SynExpr_run n) x d (0,node+1) true else syn_expr_j1 n (SynExpr_run n) x d (0,node+1) (decide ((24:Int)<x.Kind))):=by
     split
     ·exact bad 1 (by decide)
     ·rw [decide_eq_true (show 24<x.Kind by omega)]
      exact bad 1 (by decide)
    rw [← hP] at G
    exact G
  ·rw [if_pos c]
   exact ⟨e,_,rfl,by omega,fun h=>absurd h c⟩
def OkS:Nat→TStat→Prop
 | 0,_=>False
 | k+1,s=>1≤s.Kind∧s.Kind≤9∧(s.Kind≠6→OkE k s.X)∧((s.Kind=3∨s.Kind=4)→s.Body.length≤50∧∀ y ∈ s.Body,OkS k y)∧(s.Kind=3→s.Else.length≤50∧∀ y ∈ s.Else,OkS k y)
def nS:Nat→TStat→Nat
 | 0,_=>0
 | k+1,s=>1+(if s.Kind=6 then 0 else nE k s.X)+(if s.Kind=3∨s.Kind=4 then (s.Body.map (nS k)).sum else 0)+(if s.Kind=3 then (s.Else.map (nS k)).sum else 0)
theorem syn_stat_t:∀ (n:Nat),(∀ (l:List TStat) (d node:Int),2*(42 - d)+65≤n→0≤d→d≤41→0≤node→node≤2000 →
   ∃ e k,(SynStat_run n).syn_stats node l d=some (e,k)∧node≤k∧(e=0→k≤2000∧(l.length≤50∧∀ y ∈ l,OkS (41 - d).toNat y)∧k=node+((l.map (nS (41 - d).toNat)).sum:Nat))) ∧
  (∀ (x:TStat) (d node:Int),2*(42 - d)+64≤n→0≤d→d≤41→0≤node→node≤2000 →
   ∃ e k,(SynStat_run n).syn_stat node x d=some (e,k)∧node≤k∧(e=0→k≤2000∧OkS (41 - d).toNat x∧k=node+(nS (41 - d).toNat x:Nat))):=by
 intro n
 induction n with
 | zero=>exact ⟨fun l d node h0 h1 h2=>by omega,fun l d node h0 h1 h2=>by omega⟩
 | succ n ih =>
  obtain ⟨ihl,ihs⟩:=ih
  refine ⟨fun l d node h0 h1 h2 h3 h4=>?_,fun x d node h0 h1 h2 h3 h4=>?_⟩
  ·show ∃ e k,syn_stats (SynStat_run n) node l d=some (e,k)∧_
   rw [syn_stats]
   by_cases hl:(50:Int)<l.length
   ·rw [if_pos hl]; exact ⟨5,node,rfl,by omega,fun h=>absurd h (by decide)⟩
   ·rw [if_neg hl]
    have L:∀ (m i:Nat) (c:Int),i≤l.length→l.length<m+i→0≤c→c≤2000 →
      ∃ e k,syn_stats_l1 (SynStat_run n) l d m i c=some (e,k)∧c≤k∧(e=0→k≤2000∧(∀ y ∈ l.drop i,OkS (41 - d).toNat y)∧k=c+(((l.drop i).map (nS (41 - d).toNat)).sum:Nat)):=by
     intro m
     induction m with
     | zero=>intro i c h1 h2; omega
     | succ m ihm =>
      intro i c g1 g2 g3 g4
      rw [syn_stats_l1]
      by_cases q:i<l.length
      ·obtain ⟨e,k,e1,e2,e3⟩:=ihs l[i] d c (by omega) h1 h2 g3 g4
       rw [if_pos (by omega),at_nat,List.getElem?_eq_getElem q,bS,e1,bS]
       by_cases z:e=0
       ·subst z
        obtain ⟨f1,f2,f3⟩:=e3 rfl
        rw [if_neg (by simp),i64_ok (by omega),bS]
        obtain ⟨e',k',r1,r2,r3⟩:=ihm (i+1) k q (by omega) (by omega) f1
        refine ⟨e',k',r1,by omega,fun hz=>?_⟩
        obtain ⟨s1,s2,s3⟩:=r3 hz
        refine ⟨s1,fun y hy=>?_,?_⟩
        ·rw [List.drop_eq_getElem_cons q] at hy
         rcases List.mem_cons.1 hy with rfl | hy
         ·exact f2
         ·exact s2 y hy
        ·rw [List.drop_eq_getElem_cons q,List.map_cons,List.sum_cons]
         omega
       ·rw [if_pos z]
        exact ⟨e,k,rfl,e2,fun h=>absurd h z⟩
      ·rw [if_neg (by omega),List.drop_eq_nil_of_le (by omega)]
       exact ⟨0,c,rfl,by omega,fun _=>⟨g4,by simp,by simp⟩⟩
    obtain ⟨e,k,r1,r2,r3⟩:=L (l.length+1) 0 node (by omega) (by omega) h3 h4
    refine ⟨e,k,r1,r2,fun hz=>?_⟩
    obtain ⟨s1,s2,s3⟩:=r3 hz
    rw [List.drop_zero] at s2 s3
    exact ⟨s1,⟨by omega,s2⟩,s3⟩
  ·show ∃ e k,syn_stat n (SynStat_run n) node x d=some (e,k)∧_
   obtain ⟨b,hb⟩:=lex_named_t n (by omega) x.Name
   obtain ⟨e,hn,he⟩:=syn_node_t node d h3 (by omega)
   rw [syn_stat,hn,bS]
   by_cases c:e=0
   ·subst c
    obtain ⟨hk,hd⟩:=he rfl
    rw [if_neg (by simp)]
    have hD:(41 - d).toNat=(40 - d).toNat+1:=by omega
    have hD':(41 - (d+1)).toNat=(40 - d).toNat:=by omega
    rw [hD]
    generalize hP:(fun o:Option (Int×Int)=>∃ e k,o=some (e,k)∧node≤k∧(e=0→k≤2000∧OkS ((40 - d).toNat+1) x∧k=node+(nS ((40 - d).toNat+1) x:Nat)))=P
    have bad:∀ e c:Int,e≠0→node≤c→P (some (e,c)):=fun e c h hc=>by rw [← hP]; exact ⟨e,_,rfl,hc,fun h'=>absurd h' h⟩
    have kids:=fun (l:List TStat) (c:Int) (hc:node≤c) (hc':c≤2000)=>ihl l (d+1) c (by omega) (by omega) (by omega) (by omega) hc'
    rw [hD'] at kids
    have G:P (if x.Kind<1 then syn_stat_j1 n (SynStat_run n) x d (0,node+1) true else syn_stat_j1 n (SynStat_run n) x d (0,node+1) (decide ((9:Int)<x.Kind))):=by
     by_cases kd:1≤x.Kind∧x.Kind≤9
     ·have J4:∀ (c:Int),node≤c→c≤2000→x.Kind≠6→OkE (40 - d).toNat x.X→((x.Kind=3∨x.Kind=4)→x.Body.length≤50∧∀ y ∈ x.Body,OkS (40 - d).toNat y) →
        c=node+1+(nE (40 - d).toNat x.X:Nat)+((if x.Kind=3∨x.Kind=4 then (x.Body.map (nS (40 - d).toNat)).sum else 0:Nat):Int)→P (syn_stat_j4 (SynStat_run n) x d c):=by
       intro c g1 g2 k6 gx gb gc
       rw [syn_stat_j4]
       by_cases k3:x.Kind=3
       ·obtain ⟨e,k,r1,r2,r3⟩:=kids x.Else c g1 g2
        rw [if_pos k3,i64_ok (by omega),bS,r1,bS]
        rw [← hP]
        refine ⟨e,k,rfl,by omega,fun hz=>?_⟩
        obtain ⟨s1,s2,s3⟩:=r3 hz
        refine ⟨s1,⟨kd.1,kd.2,fun _=>gx,gb,fun _=>s2⟩,?_⟩
        rw [nS,if_neg k6,if_pos k3]
        omega
       ·rw [if_neg k3,← hP]
        refine ⟨0,c,rfl,g1,fun _=>⟨g2,⟨kd.1,kd.2,fun _=>gx,gb,fun h=>absurd h k3⟩,?_⟩⟩
        rw [nS,if_neg k6,if_neg k3]
        omega
      have J3:∀ (c:Int) b,node≤c→c≤2000→x.Kind≠6→OkE (40 - d).toNat x.X→(b=true ↔ x.Kind=3∨x.Kind=4)→c=node+1+(nE (40 - d).toNat x.X:Nat)→P (syn_stat_j3 (SynStat_run n) x d (0,c) b):=by
       intro c b g1 g2 k6 gx gb gc
       rw [syn_stat_j3]
       by_cases q:b=true
       ·obtain ⟨e,k,r1,r2,r3⟩:=kids x.Body c g1 g2
        rw [if_pos q,i64_ok (by omega),bS,r1,bS]
        by_cases z:e=0
        ·subst z
         obtain ⟨s1,s2,s3⟩:=r3 rfl
         rw [if_neg (by simp)]
         exact J4 k (by omega) s1 k6 gx (fun _=>s2) (by rw [if_pos (gb.1 q)]; omega)
        ·rw [if_pos z]
         exact bad e k z (by omega)
       ·rw [if_neg q]
        exact J4 c g1 g2 k6 gx (fun h=>absurd (gb.2 h) q) (by rw [if_neg fun h=>q (gb.2 h)]; omega)
      have J2:∀ b,P (syn_stat_j2 n (SynStat_run n) x d (0,node+1) b):=by
       intro b
       cases b with
       | true=>exact bad 7 _ (by decide) (by omega)
       | false =>
        rw [syn_stat_j2,if_neg (by decide)]
        by_cases k6:x.Kind=6
        ·rw [if_pos k6,← hP]
         refine ⟨0,node+1,rfl,by omega,fun _=>⟨by omega,⟨kd.1,kd.2,fun h=>absurd k6 h,fun h=>by omega,fun h=>by omega⟩,?_⟩⟩
         rw [nS,if_pos k6,if_neg (by omega),if_neg (by omega)]
         omega
        ·obtain ⟨e,k,r1,r2,r3⟩:=syn_expr_t n x.X (d+1) (node+1) (by omega) (by omega) (by omega) (by omega) (by omega)
         rw [hD'] at r3
         rw [if_neg k6,i64_ok (by omega),bS,r1,bS]
         by_cases z:e=0
         ·subst z
          obtain ⟨s1,s2,s3⟩:=r3 rfl
          rw [if_neg (by simp)]
          split
          ·rename_i h3
           exact J3 k true (by omega) s1 k6 s2 (by simp [h3]) (by omega)
          ·rename_i h3
           exact J3 k _ (by omega) s1 k6 s2 (by simp [h3]) (by omega)
         ·rw [if_pos z]
          exact bad e k z (by omega)
      have J1:∀ b,P (syn_stat_j1 n (SynStat_run n) x d (0,node+1) b):=by
       intro b'
       cases b' with
       | true=>exact bad 1 _ (by decide) (by omega)
       | false =>
        rw [syn_stat_j1,if_neg (by decide),hb]
        simp only [bS]
        split
        ·exact J2 _
        ·split
         ·exact J2 _
         ·split <;> exact J2 _
      split <;> exact J1 _
     ·split
      ·exact bad 1 _ (by decide) (by omega)
      ·rw [decide_eq_true (show 9<x.Kind by omega)]
       exact bad 1 _ (by decide) (by omega)
    rw [← hP] at G
    exact G
   ·rw [if_pos c]
    exact ⟨e,_,rfl,by omega,fun h=>absurd h c⟩
def OkT (t:TType):Prop:=1≤t.Kind∧t.Kind≤3
theorem syn_typ_t (fu:Nat) (hf:20≤fu) (t:TType):∃ e,syn_typ fu t=some e∧(e=0→OkT t):=by
 obtain ⟨b,hb⟩:=lex_named_t fu hf t.Gen
 rw [syn_typ]
 by_cases c:1≤t.Kind∧t.Kind≤3
 ·rw [if_neg (by omega),decide_eq_false (by omega),syn_typ_j1,if_neg (by decide),hb]
  simp only [bS]
  have:∀ b,∃ e,syn_typ_j2 b=some e:=fun b=>by cases b <;> exact ⟨_,rfl⟩
  split
  ·obtain ⟨e,he⟩:=this (!b); exact ⟨e,he,fun _=>c⟩
  ·obtain ⟨e,he⟩:=this false; exact ⟨e,he,fun _=>c⟩
 ·split
  ·exact ⟨1,rfl,fun h=>absurd h (by decide)⟩
  ·rw [decide_eq_true (show 3<t.Kind by omega)]
   exact ⟨1,rfl,fun h=>absurd h (by decide)⟩
structure OkD (x:TDef):Prop where
 k1:1≤x.Kind
 k4:x.Kind≤4
 ps:x.Kind=2∨x.Kind=3→x.Params.length≤6∧∀ p ∈ x.Params,OkT p.Typ
 tk:x.Kind=3→OkT x.Takes
 ty:x.Kind≠4→OkT x.Typ
 bl:x.Kind≠1→x.Body.length≤50
 bo:x.Kind≠1→∀ y ∈ x.Body,OkS 39 y
def nD (x:TDef):Nat:=1+if x.Kind≠1 then (x.Body.map (nS 39)).sum else 0
theorem syn_def_t (fu:Nat) (hf:200≤fu) (x:TDef) (node:Int) (h3:0≤node) (h4:node≤2000):∃ e k,syn_def fu node x=some (e,k)∧node≤k∧(e=0→k≤2000∧OkD x∧k=node+(nD x:Nat)):=by
 obtain ⟨b,hb⟩:=lex_named_t fu (by omega) x.Name
 obtain ⟨e,hn,he⟩:=syn_node_t node 1 h3 (by omega)
 rw [syn_def,hn,bS]
 by_cases c:e=0
 ·subst c
  obtain ⟨hk,hd⟩:=he rfl
  rw [if_neg (by simp)]
  generalize hP:(fun o:Option (Int×Int)=>∃ e k,o=some (e,k)∧node≤k∧(e=0→k≤2000∧OkD x∧k=node+(nD x:Nat)))=P
  have bad:∀ e c:Int,e≠0→node≤c→P (some (e,c)):=fun e c h hc=>by rw [← hP]; exact ⟨e,_,rfl,hc,fun h'=>absurd h' h⟩
  have G:P (if x.Kind<1 then syn_def_j1 fu x (0,node+1) true else syn_def_j1 fu x (0,node+1) (decide ((4:Int)<x.Kind))):=by
   by_cases kd:1≤x.Kind∧x.Kind≤4
   ·have J5:(x.Kind=2∨x.Kind=3→x.Params.length≤6∧∀ p ∈ x.Params,OkT p.Typ)→(x.Kind=3→OkT x.Takes)→(x.Kind≠4→OkT x.Typ)→P (syn_def_j5 fu x (0,node+1)):=by
     intro g1 g2 g3
     rw [syn_def_j5]
     by_cases k1:x.Kind=1
     ·rw [if_neg (by simpa using k1)]
      have J6:∀ b,P (syn_def_j6 (0,node+1) b):=by
       intro b
       cases b with
       | true=>exact bad 3 _ (by decide) (by omega)
       | false =>
        rw [← hP]
        exact ⟨0,node+1,rfl,by omega,fun _=>⟨by omega,⟨kd.1,kd.2,g1,g2,g3,fun h=>absurd k1 h,fun h=>absurd k1 h⟩,by rw [nD,if_neg (by simpa using k1)]; omega⟩⟩
      split <;> exact J6 _
     ·obtain ⟨e,k,r1,r2,r3⟩:=(syn_stat_t fu).1 x.Body 2 (node+1) (by omega) (by omega) (by omega) (by omega) (by omega)
      rw [if_pos k1,r1,bS,← hP]
      refine ⟨e,k,rfl,by omega,fun hz=>?_⟩
      obtain ⟨s1,s2,s3⟩:=r3 hz
      exact ⟨s1,⟨kd.1,kd.2,g1,g2,g3,fun _=>s2.1,fun _=>s2.2⟩,by rw [nD,if_pos k1]; rw [show (41 - (2:Int)).toNat=39 from rfl] at s3; omega⟩
    have J4:(x.Kind=2∨x.Kind=3→x.Params.length≤6∧∀ p ∈ x.Params,OkT p.Typ)→(x.Kind=3→OkT x.Takes)→P (syn_def_j4 fu x (0,node+1)):=by
     intro g1 g2
     rw [syn_def_j4]
     by_cases k4:x.Kind=4
     ·rw [if_neg (by simpa using k4)]
      exact J5 g1 g2 fun h=>absurd k4 h
     ·obtain ⟨e,h1,h2⟩:=syn_typ_t fu (by omega) x.Typ
      rw [if_pos k4,h1,bS]
      by_cases z:e=0
      ·rw [if_neg (by simpa using z)]; exact J5 g1 g2 fun _=>h2 z
      ·rw [if_pos z]; exact bad e _ z (by omega)
    have J3:(x.Kind=2∨x.Kind=3→x.Params.length≤6∧∀ p ∈ x.Params,OkT p.Typ)→P (syn_def_j3 fu x (0,node+1)):=by
     intro g1
     rw [syn_def_j3]
     by_cases k3:x.Kind=3
     ·obtain ⟨e,h1,h2⟩:=syn_typ_t fu (by omega) x.Takes
      rw [if_pos k3,h1,bS]
      by_cases z:e=0
      ·rw [if_neg (by simpa using z)]; exact J4 g1 fun _=>h2 z
      ·rw [if_pos z]; exact bad e _ z (by omega)
     ·rw [if_neg k3]
      exact J4 g1 fun h=>absurd h k3
    have L:x.Params.length≤6→∀ (m i:Nat),i≤x.Params.length→x.Params.length<m+i→(∀ p ∈ x.Params.take i,OkT p.Typ)→P (syn_def_l1 fu x (0,node+1) m i):=by
     intro hl m
     induction m with
     | zero=>intro i h1 h2; omega
     | succ m ihm =>
      intro i g1 g2 g3
      rw [syn_def_l1]
      by_cases q:i<x.Params.length
      ·obtain ⟨b',hb'⟩:=lex_named_t fu (by omega) x.Params[i].Name
       obtain ⟨e,h1,h2⟩:=syn_typ_t fu (by omega) x.Params[i].Typ
       rw [if_pos (by omega),at_nat,List.getElem?_eq_getElem q,bS,hb',bS]
       cases b' with
       | false=>rw [if_neg (by decide)]; exact bad 7 _ (by decide) (by omega)
       | true =>
        rw [if_pos rfl,h1,bS]
        by_cases z:e=0
        ·rw [if_neg (by simpa using z),i64_ok (by omega),bS]
         refine ihm (i+1) q (by omega) fun p hp=>?_
         rw [List.take_succ_eq_append_getElem q] at hp
         rcases List.mem_append.1 hp with hp | hp
         ·exact g3 p hp
         ·rw [List.mem_singleton.1 hp]; exact h2 z
        ·rw [if_pos z]; exact bad e _ z (by omega)
      ·rw [if_neg (by omega)]
       rw [List.take_of_length_le (by omega)] at g3
       exact J3 fun _=>⟨hl,g3⟩
    have J2:∀ b,(b=true ↔ x.Kind=2∨x.Kind=3)→P (syn_def_j2 fu x (0,node+1) b):=by
     intro b g
     rw [syn_def_j2]
     by_cases q:b=true
     ·rw [if_pos q]
      by_cases hl:(6:Int)<x.Params.length
      ·rw [if_pos hl]; exact bad 5 _ (by decide) (by omega)
      ·rw [if_neg hl]
       exact L (by omega) (x.Params.length+1) 0 (by omega) (by omega) (by simp)
     ·rw [if_neg q]
      exact J3 fun h=>absurd (g.2 h) q
    have J1:∀ b,P (syn_def_j1 fu x (0,node+1) b):=by
     intro b'
     cases b' with
     | true=>exact bad 1 _ (by decide) (by omega)
     | false =>
      rw [syn_def_j1,if_neg (by decide),hb,bS]
      cases b with
      | false=>rw [if_neg (by decide)]; exact bad 7 _ (by decide) (by omega)
      | true =>
       rw [if_pos rfl]
       split
       ·rename_i h2; exact J2 _ (by simp [h2])
       ·rename_i h2; exact J2 _ (by simp [h2])
    split <;> exact J1 _
   ·split
    ·exact bad 1 _ (by decide) (by omega)
    ·rw [decide_eq_true (show 4<x.Kind by omega)]
     exact bad 1 _ (by decide) (by omega)
  rw [← hP] at G
  exact G
 ·rw [if_pos c]
  exact ⟨e,_,rfl,by omega,fun h=>absurd h c⟩
structure OkP (l:List TDef):Prop where
 le:l.length≤30
 ok:∀ d ∈ l,OkD d
 n:(l.map nD).sum≤2000
theorem syn_wrong_t (fu:Nat) (hf:200≤fu) (l:List TDef):∃ f,syn_wrong fu l=some f∧(f.Err=0→f.At=0∧OkP l):=by
 rw [syn_wrong]
 by_cases hl:(30:Int)<l.length
 ·rw [if_pos hl]; exact ⟨_,rfl,fun h=>absurd h (by decide:(5:Int)≠0)⟩
 ·rw [if_neg hl]
  have L:∀ (m i:Nat) (c:Int),i≤l.length→l.length<m+i→0≤c→c≤2000→(∀ d ∈ l.take i,OkD d)→c=(((l.take i).map nD).sum:Nat)→∃ f,syn_wrong_l1 fu l m i c=some f∧(f.Err=0→f.At=0∧OkP l):=by
   intro m
   induction m with
   | zero=>intro i c h1 h2; omega
   | succ m ihm =>
    intro i c g1 g2 g3 g4 g5 g6
    rw [syn_wrong_l1]
    by_cases q:i<l.length
    ·obtain ⟨e,k,e1,e2,e3⟩:=syn_def_t fu hf l[i] c g3 g4
     rw [if_pos (by omega),at_nat,List.getElem?_eq_getElem q,bS,e1,bS]
     by_cases z:e=0
     ·subst z
      obtain ⟨f1,f2,f3⟩:=e3 rfl
      rw [if_neg (by simp),i64_ok (by omega),bS]
      refine ihm (i+1) k q (by omega) (by omega) f1 (fun p hp=>?_) ?_
      ·rw [List.take_succ_eq_append_getElem q] at hp
       rcases List.mem_append.1 hp with hp | hp
       ·exact g5 p hp
       ·rw [List.mem_singleton.1 hp]; exact f2
      ·rw [List.take_succ_eq_append_getElem q,List.map_append,List.sum_append,List.map_cons,List.map_nil,List.sum_cons,List.sum_nil]
       omega
     ·rw [if_pos z]
      exact ⟨_,rfl,fun h=>absurd h z⟩
    ·rw [if_neg (by omega)]
     rw [List.take_of_length_le (by omega)] at g5 g6
     exact ⟨_,rfl,fun _=>⟨rfl,by omega,g5,by omega⟩⟩
  exact L (l.length+1) 0 0 (by omega) (by omega) (by omega) (by omega) (by simp) (by simp)
end Go.Y
namespace Go.Y
def SzE:Nat→TExpr→Prop
 | 0,_=>False
 | k+1,x=>x.Kids.length≤2513169434916∧∀ y ∈ x.Kids,SzE k y
def SzS:Nat→TStat→Prop
 | 0,_=>False
 | k+1,s=>SzE k s.X∧(s.Body.length≤1099511627776∧∀ y ∈ s.Body,SzS k y)∧(s.Else.length≤1099511627776∧∀ y ∈ s.Else,SzS k y)
def SzD (k:Nat) (d:TDef):Prop:=d.Params.length≤3518437208883∧d.Body.length≤1099511627776∧∀ y ∈ d.Body,SzS k y
def SzP (k:Nat) (l:List TDef):Prop:=l.length≤1099511627776∧∀ d ∈ l,SzD k d
end Go.Y
namespace Go.Y
open Go.Wk Go.Xt
abbrev Wd:=List UInt8
def isLet (c:UInt8):Bool:=decide (97≤c.toNat∧c.toNat≤122∨c.toNat=95)
def isDig (c:UInt8):Bool:=decide (48≤c.toNat∧c.toNat≤57)
def Nmd (w:Wd):Prop:=∀ fu,20≤fu→lex_named fu w=some true
def own (k:Int):Nat:=if k=18 then 1 else if k=17 then 2 else if 11≤k∧k≤16 then 3 else if k=6∨k=7 then 4 else if 8≤k∧k≤10 then 5 else if k=4∨k=5 then 6 else 7
def sgn (k:Int):Wd:=if k=18 then [111,114] else if k=17 then [97,110,100] else if k=11 then [61,61] else if k=12 then [33,61] else if k=13 then [60] else if k=14 then [60,61] else if k=15 then [62] else if k=16 then [62,61] else if k=6 then [43] else if k=7 then [45] else if k=8 then [42] else if k=9 then [47] else if k=10 then [37] else if k=4 then [45] else [110,111,116]
def wT (f:TExpr→List Wd) (l:List TExpr):List Wd:=(l.map fun x=>[44]::f x).flatten
def wA (f:TExpr→List Wd):List TExpr→List Wd
 | []=>[[40],[41]]
 | x::l=>[40]::(f x++(wT f l++[[41]]))
def wC (f:Nat→TExpr→List Wd) (x:TExpr):List Wd :=
 if x.Kind=1 then [Lib.itoa x.N]
 else if x.Kind=2 then [if x.N=1 then [116,114,117,101] else [102,97,108,115,101]]
 else if x.Kind=3 then [x.Name]
 else if x.Kind=4∨x.Kind=5 then sgn x.Kind::(match x.Kids with | a::_=>f 6 a | _=>[])
 else if x.Kind≤18 then (match x.Kids with | a::b::_=>f (if own x.Kind=3 then 4 else own x.Kind) a++sgn x.Kind::f (own x.Kind+1) b | _=>[])
 else if x.Kind=19 then x.Name::wA (f 1) x.Kids
 else if x.Kind=20 then [[114,101,99,118],[40],x.Name,[41]]
 else if x.Kind=21 then [121,105,101,108,100]::wA (f 1) x.Kids
 else if x.Kind=22 then [115,116,97,114,116]::x.Name::wA (f 1) x.Kids
 else if x.Kind=23 then [114,101,115,117,109,101]::wA (f 1) x.Kids
 else [97,108,105,118,101]::wA (f 1) x.Kids
def wE:Nat→Nat→TExpr→List Wd
 | 0,need,x=>[]
 | k+1,need,x=>if own x.Kind<need then [40]::(wC (wE k) x++[[41]]) else wC (wE k) x
def FmE:Nat→TExpr→Prop
 | 0,_=>False
 | k+1,x=>1≤x.Kind∧x.Kind≤24∧KidsOk x∧(x.Kind=1→0≤x.N∧x.N≤999999999999999)∧(x.Kind=2→x.N=0∨x.N=1)∧((x.Kind=3∨x.Kind=20∨x.Kind=19∨x.Kind=22)→Nmd x.Name)∧∀ y ∈ x.Kids,FmE k y
end Go.Y
