/- Texts of SemaWritten Pl. -/
import Derived.Test.YtdfnejebobekoaaGreatDoorCMd
import Derived.Test.YtdfnejebobekoaaGreatDoorCXu
import Derived.KernelRfl
import Derived.Lib.ItoaNum
set_option linter.unusedSimpArgs false
set_option linter.unusedVariables false
set_option linter.unusedSectionVars false
namespace Go.Y
open Go.Wk Go.Xt
def tx_1:List UInt8:=[98,111,120,32,98,32,110,117,109,32,49,32,59,32,116,97,115,107,32,97,32,123,32,115,101,110,100,32,98,32,49,32,59,32,125,32,116,97,115,107,32,99,32,123,32,111,117,116,32,114,101,99,118,32,40,32,98,32,41,32,59,32,125]
def l3_alive (fu:Nat)  :Option Bool :=
 (syn_read fu tx_1).bind fun r1 =>
 (sema_owners fu r1.1).bind fun r9 =>
 if r1.2.Err=0 then
  if r9.2.Err=0 then
   if (r9.1.length:Int)=1 then
    (at_ r9.1 0).bind fun x20 =>
    some (andL [(decide (x20.Box=[98])),(decide (x20.Writer=[97])),(decide (x20.Reader=[99]))])
   else
    some false
  else
   some false
 else
  some false
end Go.Y
namespace Go.Y
open Go.Wk Go.Xt
def bd_len  (buf_4:List UInt8):Option Int :=
 some (buf_4.length:Int)
def bd_byte  (buf_4:List UInt8) (p_2:UInt8):Option (Unit×List UInt8) :=
 (app buf_4 [p_2]).bind fun l18 =>
 some ((),l18)
def bd_str  (buf_4:List UInt8) (p_2:List UInt8):Option (Int×Unit×List UInt8) :=
 (app buf_4 p_2).bind fun l14 =>
 some ((p_2.length:Int),(),l14)
end Go.Y
namespace Go.Y
open Go.Wk Go.Xt
def pr_type  (p_1:TType):Option (List UInt8) :=
 if p_1.Kind=1 then
  some [110,117,109]
 else
  if p_1.Kind=2 then
   some [98,111,111,108]
  else
   some p_1.Gen
def pr_tight_l1 (p_1:Int) (r1:List TSynLevel):Nat→Int→Option (List UInt8×Int)
 | 0,_=>none
 | n+1,i27 =>
  if i27<(r1.length:Int) then
   (at_ r1 i27).bind fun x50 =>
   (mfind x50.signs p_1).bind fun o68 =>
   if o68.isSome=true then
    (i64 (i27+1)).bind fun i87 =>
    some ((o68.getD ([],0)).1,i87)
   else
    (i64 (i27+1)).bind fun i89 =>
    pr_tight_l1 p_1 r1 n i89
  else
   if p_1=4 then
    some ([45],6)
   else
    if p_1=5 then
     some ([110,111,116],6)
    else
     some ([],7)
def pr_tight  (p_1:Int):Option (List UInt8×Int) :=
 (p_levels ).bind fun r1 =>
 pr_tight_l1 p_1 r1 (r1.length+1) 0
def pw_putd_j1 (i51:Int) (x97:List UInt8) (k_pw_putd_l1:Int→(List UInt8)→Option (List UInt8)) (l112:List UInt8):Option (List UInt8) :=
 (bd_str l112 x97).bind fun r126 =>
 (i64 (i51+1)).bind fun i134 =>
 k_pw_putd_l1 i134 r126.2.2
def pw_putd_l1 (p_2:List (List UInt8)):Nat→Int→(List UInt8)→Option (List UInt8)
 | 0,_,_=>none
 | n+1,i51,l56 =>
  if i51<(p_2.length:Int) then
   (at_ p_2 i51).bind fun x97 =>
   (bd_len l56).bind fun r105 =>
   if (0:Int)<r105 then
    (bd_byte l56 32).bind fun r115 =>
    pw_putd_j1 i51 x97 (pw_putd_l1 p_2 n) r115.2
   else
    pw_putd_j1 i51 x97 (pw_putd_l1 p_2 n) l56
  else
   some l56
def pw_putd  (buf_4:List UInt8) (p_2:List (List UInt8)):Option (List UInt8) :=
 pw_putd_l1 p_2 (p_2.length+1) 0 buf_4
def pw_put_j1 (i51:Int) (x97:List UInt8) (k_pw_put_l1:Int→(List UInt8)→Option (List UInt8)) (l112:List UInt8):Option (List UInt8) :=
 (bd_str l112 x97).bind fun r126 =>
 (i64 (i51+1)).bind fun i134 =>
 k_pw_put_l1 i134 r126.2.2
def pw_put_l1 (p_2:List (List UInt8)):Nat→Int→(List UInt8)→Option (List UInt8)
 | 0,_,_=>none
 | n+1,i51,l56 =>
  if i51<(p_2.length:Int) then
   (at_ p_2 i51).bind fun x97 =>
   (bd_len l56).bind fun r105 =>
   if (0:Int)<r105 then
    (bd_byte l56 32).bind fun r115 =>
    pw_put_j1 i51 x97 (pw_put_l1 p_2 n) r115.2
   else
    pw_put_j1 i51 x97 (pw_put_l1 p_2 n) l56
  else
   some l56
def pw_put  (buf_4:List UInt8) (p_2:List (List UInt8)):Option (List UInt8) :=
 pw_put_l1 p_2 (p_2.length+1) 0 buf_4
structure PrE where
 pw_expr:(List UInt8)→TExpr→Int→Option (List UInt8)
 pw_args:(List UInt8)→(List TExpr)→Option (List UInt8)
def pw_expr_j2 (self:PrE) (p_2:TExpr) (r19:List UInt8×Int) (r27:List UInt8) (i343:Int):Option (List UInt8) :=
 (at_ p_2.Kids 0).bind fun x348 =>
 (self.pw_expr r27 x348 i343).bind fun r359 =>
 (pw_put r359 [r19.1]).bind fun r371 =>
 (at_ p_2.Kids 1).bind fun x379 =>
 (i64 (r19.2+1)).bind fun i390 =>
 (self.pw_expr r371 x379 i390).bind fun r392 =>
 (pw_putd r392 [[41]]).bind fun r402 =>
 some r402
def pw_expr_j1 (self:PrE) (p_2:TExpr) (r19:List UInt8×Int) (r27:List UInt8) (b120:Bool):Option (List UInt8) :=
 if b120=true then
  (pw_put r27 [r19.1]).bind fun r128 =>
  (at_ p_2.Kids 0).bind fun x136 =>
  (self.pw_expr r128 x136 6).bind fun r147 =>
  (pw_putd r147 [[41]]).bind fun r157 =>
  some r157
 else
  if p_2.Kind=20 then
   (pw_put r27 [[114,101,99,118],[40],p_2.Name,[41]]).bind fun r170 =>
   (pw_putd r170 [[41]]).bind fun r180 =>
   some r180
  else
   if p_2.Kind=21 then
    (pw_put r27 [[121,105,101,108,100]]).bind fun r193 =>
    (self.pw_args r193 p_2.Kids).bind fun r201 =>
    (pw_putd r201 [[41]]).bind fun r211 =>
    some r211
   else
    if p_2.Kind=23 then
     (pw_put r27 [[114,101,115,117,109,101]]).bind fun r224 =>
     (self.pw_args r224 p_2.Kids).bind fun r232 =>
     (pw_putd r232 [[41]]).bind fun r242 =>
     some r242
    else
     if p_2.Kind=24 then
      (pw_put r27 [[97,108,105,118,101]]).bind fun r255 =>
      (self.pw_args r255 p_2.Kids).bind fun r263 =>
      (pw_putd r263 [[41]]).bind fun r273 =>
      some r273
     else
      if p_2.Kind=22 then
       (pw_put r27 [[115,116,97,114,116],p_2.Name]).bind fun r286 =>
       (self.pw_args r286 p_2.Kids).bind fun r294 =>
       (pw_putd r294 [[41]]).bind fun r304 =>
       some r304
      else
       if p_2.Kind=19 then
        (pw_put r27 [p_2.Name]).bind fun r317 =>
        (self.pw_args r317 p_2.Kids).bind fun r325 =>
        (pw_putd r325 [[41]]).bind fun r335 =>
        some r335
       else
        if r19.2=3 then
         (i64 (r19.2+1)).bind fun i345 =>
         pw_expr_j2 self p_2 r19 r27 i345
        else
         pw_expr_j2 self p_2 r19 r27 r19.2
def pw_expr_j4 (self:PrE) (p_2:TExpr) (buf_4:List UInt8) (r19:List UInt8×Int) (i616:Int):Option (List UInt8) :=
 (at_ p_2.Kids 0).bind fun x621 =>
 (self.pw_expr buf_4 x621 i616).bind fun r632 =>
 (pw_put r632 [r19.1]).bind fun r644 =>
 (at_ p_2.Kids 1).bind fun x652 =>
 (i64 (r19.2+1)).bind fun i663 =>
 (self.pw_expr r644 x652 i663).bind fun r665 =>
 some r665
def pw_expr_j3 (self:PrE) (p_2:TExpr) (buf_4:List UInt8) (r19:List UInt8×Int) (b463:Bool):Option (List UInt8) :=
 if b463=true then
  (pw_put buf_4 [r19.1]).bind fun r471 =>
  (at_ p_2.Kids 0).bind fun x479 =>
  (self.pw_expr r471 x479 6).bind fun r490 =>
  some r490
 else
  if p_2.Kind=20 then
   (pw_put buf_4 [[114,101,99,118],[40],p_2.Name,[41]]).bind fun r503 =>
   some r503
  else
   if p_2.Kind=21 then
    (pw_put buf_4 [[121,105,101,108,100]]).bind fun r516 =>
    (self.pw_args r516 p_2.Kids).bind fun r524 =>
    some r524
   else
    if p_2.Kind=23 then
     (pw_put buf_4 [[114,101,115,117,109,101]]).bind fun r537 =>
     (self.pw_args r537 p_2.Kids).bind fun r545 =>
     some r545
    else
     if p_2.Kind=24 then
      (pw_put buf_4 [[97,108,105,118,101]]).bind fun r558 =>
      (self.pw_args r558 p_2.Kids).bind fun r566 =>
      some r566
     else
      if p_2.Kind=22 then
       (pw_put buf_4 [[115,116,97,114,116],p_2.Name]).bind fun r579 =>
       (self.pw_args r579 p_2.Kids).bind fun r587 =>
       some r587
      else
       if p_2.Kind=19 then
        (pw_put buf_4 [p_2.Name]).bind fun r600 =>
        (self.pw_args r600 p_2.Kids).bind fun r608 =>
        some r608
       else
        if r19.2=3 then
         (i64 (r19.2+1)).bind fun i618 =>
         pw_expr_j4 self p_2 buf_4 r19 i618
        else
         pw_expr_j4 self p_2 buf_4 r19 r19.2
def pw_expr (self:PrE) (buf_4:List UInt8) (p_2:TExpr) (p_3:Int):Option (List UInt8) :=
 (pr_tight p_2.Kind).bind fun r19 =>
 if r19.2<p_3 then
  (pw_put buf_4 [[40]]).bind fun r27 =>
  if p_2.Kind=1 then
   (fmt10 p_2.N).bind fun s38 =>
   (pw_put r27 [s38]).bind fun r44 =>
   (pw_putd r44 [[41]]).bind fun r54 =>
   some r54
  else
   if p_2.Kind=2 then
    (at_ [[102,97,108,115,101],[116,114,117,101]] p_2.N).bind fun x67 =>
    (pw_put r27 [x67]).bind fun r79 =>
    (pw_putd r79 [[41]]).bind fun r89 =>
    some r89
   else
    if p_2.Kind=3 then
     (pw_put r27 [p_2.Name]).bind fun r102 =>
     (pw_putd r102 [[41]]).bind fun r112 =>
     some r112
    else
     if p_2.Kind=4 then
      pw_expr_j1 self p_2 r19 r27 (decide (p_2.Kind=4))
     else
      pw_expr_j1 self p_2 r19 r27 (decide (p_2.Kind=5))
 else
  if p_2.Kind=1 then
   (fmt10 p_2.N).bind fun s411 =>
   (pw_put buf_4 [s411]).bind fun r417 =>
   some r417
  else
   if p_2.Kind=2 then
    (at_ [[102,97,108,115,101],[116,114,117,101]] p_2.N).bind fun x430 =>
    (pw_put buf_4 [x430]).bind fun r442 =>
    some r442
   else
    if p_2.Kind=3 then
     (pw_put buf_4 [p_2.Name]).bind fun r455 =>
     some r455
    else
     if p_2.Kind=4 then
      pw_expr_j3 self p_2 buf_4 r19 (decide (p_2.Kind=4))
     else
      pw_expr_j3 self p_2 buf_4 r19 (decide (p_2.Kind=5))
def pw_args_j1 (self:PrE) (p_2:List TExpr) (i67:Int) (k_pw_args_l1:Int→(List UInt8)→Option (List UInt8)) (l121:List UInt8):Option (List UInt8) :=
 (at_ p_2 i67).bind fun x139 =>
 (self.pw_expr l121 x139 1).bind fun r150 =>
 (i64 (i67+1)).bind fun i158 =>
 k_pw_args_l1 i158 r150
def pw_args_l1 (self:PrE) (p_2:List TExpr):Nat→Int→(List UInt8)→Option (List UInt8)
 | 0,_,_=>none
 | n+1,i67,l72 =>
  if i67<(p_2.length:Int) then
   if (0:Int)<i67 then
    (pw_put l72 [[44]]).bind fun r128 =>
    pw_args_j1 self p_2 i67 (pw_args_l1 self p_2 n) r128
   else
    pw_args_j1 self p_2 i67 (pw_args_l1 self p_2 n) l72
  else
   (pw_put l72 [[41]]).bind fun r164 =>
   some r164
def pw_args (self:PrE) (buf_4:List UInt8) (p_2:List TExpr):Option (List UInt8) :=
 (pw_put buf_4 [[40]]).bind fun r20 =>
 pw_args_l1 self p_2 (p_2.length+1) 0 r20
def PrE_run:Nat→PrE
 | 0=>⟨fun _ _ _=>none,fun _ _=>none⟩
 | n+1=>⟨pw_expr (PrE_run n),pw_args (PrE_run n)⟩
structure PrS where
 pw_body:(List UInt8)→(List TStat)→Option (List UInt8)
 pw_stat:(List UInt8)→TStat→Option (List UInt8)
def pw_body_l1 (self:PrS) (p_2:List TStat):Nat→Int→(List UInt8)→Option (List UInt8)
 | 0,_,_=>none
 | n+1,i55,l60 =>
  if i55<(p_2.length:Int) then
   (at_ p_2 i55).bind fun x93 =>
   (self.pw_stat l60 x93).bind fun r110 =>
   (i64 (i55+1)).bind fun i118 =>
   pw_body_l1 self p_2 n i118 r110
  else
   (pw_put l60 [[125]]).bind fun r124 =>
   some r124
def pw_body (self:PrS) (buf_4:List UInt8) (p_2:List TStat):Option (List UInt8) :=
 (pw_put buf_4 [[123]]).bind fun r20 =>
 pw_body_l1 self p_2 (p_2.length+1) 0 r20
def pw_stat_j4  (l171:List UInt8):Option (List UInt8) :=
 (pw_put l171 [[59]]).bind fun r189 =>
 some r189
def pw_stat_j1 (fu:Nat) (p_2:TStat) (l29:List UInt8):Option (List UInt8) :=
 if p_2.Kind≠6 then
  ((PrE_run fu).pw_expr l29 p_2.X 1).bind fun r174 =>
  pw_stat_j4 r174
 else
  pw_stat_j4 l29
def pw_stat_j3 (self:PrS) (p_2:TStat) (r65:List UInt8) (b73:Bool):Option (List UInt8) :=
 if b73=true then
  (pw_put r65 [[101,108,115,101]]).bind fun r81 =>
  (self.pw_body r81 p_2.Else).bind fun r89 =>
  some r89
 else
  some r65
def pw_stat_j2 (fu:Nat) (self:PrS) (p_2:TStat) (buf_4:List UInt8) (b31:Bool):Option (List UInt8) :=
 if b31=true then
  (pw_put buf_4 [((mget (mput (mput ([]:List (Int×List UInt8)) 3 [105,102]) 4 [119,104,105,108,101]) p_2.Kind).getD [])]).bind fun r49 =>
  ((PrE_run fu).pw_expr r49 p_2.X 1).bind fun r57 =>
  (self.pw_body r57 p_2.Body).bind fun r65 =>
  if p_2.Kind=3 then
   pw_stat_j3 self p_2 r65 (decide ((0:Int)<(p_2.Else.length:Int)))
  else
   pw_stat_j3 self p_2 r65 false
 else
  if p_2.Kind=1 then
   (pw_put buf_4 [[108,101,116],p_2.Name,[61]]).bind fun r102 =>
   pw_stat_j1 fu p_2 r102
  else
   if p_2.Kind=2 then
    (pw_put buf_4 [p_2.Name,[61]]).bind fun r115 =>
    pw_stat_j1 fu p_2 r115
   else
    if p_2.Kind=7 then
     (pw_put buf_4 [[115,101,110,100],p_2.Name]).bind fun r128 =>
     pw_stat_j1 fu p_2 r128
    else
     (pw_put buf_4 [((mget (mput (mput (mput (mput ([]:List (Int×List UInt8)) 5 [114,101,116,117,114,110]) 6 [115,116,111,112]) 8 [111,117,116]) 9 [100,111]) p_2.Kind).getD [])]).bind fun r156 =>
     pw_stat_j1 fu p_2 r156
def pw_stat (fu:Nat) (self:PrS) (buf_4:List UInt8) (p_2:TStat):Option (List UInt8) :=
 if p_2.Kind=3 then
  pw_stat_j2 fu self p_2 buf_4 (decide (p_2.Kind=3))
 else
  pw_stat_j2 fu self p_2 buf_4 (decide (p_2.Kind=4))
def PrS_run:Nat→PrS
 | 0=>⟨fun _ _=>none,fun _ _=>none⟩
 | n+1=>⟨pw_body (PrS_run n),pw_stat n (PrS_run n)⟩
def pw_def_j1 (fu:Nat) (p_2:TDef) (l26:List UInt8):Option (List UInt8) :=
 ((PrS_run fu).pw_body l26 p_2.Body).bind fun r331 =>
 some r331
def pw_def_j2  (l33:List UInt8):Option (List UInt8) :=
 some l33
def pw_def_j5 (i162:Int) (k_pw_def_l1:Int→(List UInt8)→Option (List UInt8)) (l254:List UInt8):Option (List UInt8) :=
 (i64 (i162+1)).bind fun i274 =>
 k_pw_def_l1 i274 l254
def pw_def_j4 (i162:Int) (x218:TParam) (k_pw_def_l1:Int→(List UInt8)→Option (List UInt8)) (l232:List UInt8):Option (List UInt8) :=
 (pr_type x218.Typ).bind fun r256 =>
 (pw_put l232 [x218.Name,r256]).bind fun r263 =>
 pw_def_j5 i162 k_pw_def_l1 r263
def pw_def_j6 (fu:Nat) (p_2:TDef) (l292:List UInt8):Option (List UInt8) :=
 (pr_type p_2.Typ).bind fun r313 =>
 (pw_put l292 [r313]).bind fun r320 =>
 pw_def_j1 fu p_2 r320
def pw_def_l1 (fu:Nat) (p_2:TDef):Nat→Int→(List UInt8)→Option (List UInt8)
 | 0,_,_=>none
 | n+1,i162,l167 =>
  if i162<(p_2.Params.length:Int) then
   (at_ p_2.Params i162).bind fun x218 =>
   if (0:Int)<i162 then
    (pw_put l167 [[44]]).bind fun r239 =>
    pw_def_j4 i162 x218 (pw_def_l1 fu p_2 n) r239
   else
    pw_def_j4 i162 x218 (pw_def_l1 fu p_2 n) l167
  else
   (pw_put l167 [[41]]).bind fun r280 =>
   if p_2.Kind=3 then
    (pr_type p_2.Takes).bind fun r295 =>
    (pw_put r280 [[116,97,107,101,115],r295,[121,105,101,108,100,115]]).bind fun r302 =>
    pw_def_j6 fu p_2 r302
   else
    pw_def_j6 fu p_2 r280
def pw_def_j3 (fu:Nat) (p_2:TDef) (l72:List UInt8):Option (List UInt8) :=
 pw_def_l1 fu p_2 (p_2.Params.length+1) 0 l72
def pw_def (fu:Nat)  (buf_4:List UInt8) (p_2:TDef):Option (List UInt8) :=
 if p_2.Kind=1 then
  (pr_type p_2.Typ).bind fun r35 =>
  (fmt10 p_2.Cap).bind fun s38 =>
  (pw_put buf_4 [[98,111,120],p_2.Name,r35,s38,[59]]).bind fun r44 =>
  pw_def_j2 r44
 else
  if p_2.Kind=4 then
   (pw_put buf_4 [[116,97,115,107],p_2.Name]).bind fun r60 =>
   pw_def_j1 fu p_2 r60
  else
   (pw_put buf_4 [((mget (mput (mput ([]:List (Int×List UInt8)) 2 [102,110]) 3 [103,101,110]) p_2.Kind).getD []),p_2.Name,[40]]).bind fun r88 =>
   pw_def_j3 fu p_2 r88
def syn_print_l1 (fu:Nat) (p_1:List TDef):Nat→Int→(List UInt8)→Option (List UInt8×TFault)
 | 0,_,_=>none
 | n+1,i39,l44 =>
  if i39<(p_1.length:Int) then
   (at_ p_1 i39).bind fun x74 =>
   (pw_def fu l44 x74).bind fun r88 =>
   (i64 (i39+1)).bind fun i96 =>
   syn_print_l1 fu p_1 n i96 r88
  else
   (bd_len l44).bind fun r98 =>
   if (6000:Int)<r98 then
    some ([],(TFault.mk 4 0))
   else
    some (l44,(TFault.mk 0 0))
def syn_print (fu:Nat)  (p_1:List TDef):Option (List UInt8×TFault) :=
 (syn_wrong fu p_1).bind fun r6 =>
 if r6.Err≠0 then
  some ([],r6)
 else
  syn_print_l1 fu p_1 (p_1.length+1) 0 []
end Go.Y
namespace Go.Y
open Go.Wk Go.Xt
def law_semaw (fu:Nat)  (p_1:List TDef):Option Bool :=
 (l3_alive fu).bind fun r4 =>
 if r4=true then
  (syn_print fu p_1).bind fun r8 =>
  if r8.2.Err≠0 then
   some true
  else
   (syn_read fu r8.1).bind fun r14 =>
   if r14.2.Err=0 then
    (sema_check fu r14.1).bind fun r21 =>
    (sema_check fu p_1).bind fun r24 =>
    some (andL [(decide (r21.Err=r24.Err)),(decide (r21.At=r24.At))])
   else
    some false
 else
  some false
end Go.Y
namespace Go.Y
open Go.Wk Go.Xt
theorem i64_ok {n:Int} (h:-9223372036854775808≤n∧n≤9223372036854775807):i64 n=some n:=if_pos h
theorem bS {α β:Type} {x:α} {f:α→Option β}:Option.bind (some x) f=f x:=rfl
theorem at_nat {α:Type} {l:List α} {i:Nat}:at_ l (i:Int)=l[i]?:=by simp [at_]
theorem at_0 {α:Type} {l:List α} (h:0<l.length):at_ l 0=some l[0]:=by simp [at_,h]
theorem at_1 {α:Type} {l:List α} (h:1<l.length):at_ l 1=some l[1]:=by simp [at_,h]
theorem lx_letter_t (c:UInt8):∃ b,lx_letter c=some b:=by
 unfold lx_letter
 split
 ·split <;> exact ⟨_,rfl⟩
 ·exact ⟨_,rfl⟩
theorem lx_digit_t (c:UInt8):∃ b,lx_digit c=some b:=by
 unfold lx_digit
 split <;> exact ⟨_,rfl⟩
theorem lx_n1_t (c:UInt8):∃ b,lx_n1 c=some b:=by
 obtain ⟨a,ha⟩:=lx_letter_t c
 obtain ⟨b,hb⟩:=lx_digit_t c
 unfold lx_n1
 rw [ha,bS,hb,bS]
 split <;> exact ⟨_,rfl⟩
theorem lx_while_t (l:List UInt8) (p:UInt8→Option Bool) (hp:∀ c,∃ b,p c=some b) (hl:l.length≤65536):∀ (n i:Nat),i≤l.length→l.length<n+i→∃ r,lx_while_l1 l p n (i:Int)=some r
 | 0,i,h1,h2=>by omega
 | n+1,i,h1,h2=>by
  rw [lx_while_l1]
  by_cases c:i<l.length
  ·obtain ⟨b,hb⟩:=hp l[i]
   rw [if_pos (by omega),at_nat,List.getElem?_eq_getElem c,bS,hb,bS]
   cases b with
   | true=>rw [lx_while_j1,if_pos rfl,i64_ok (by omega),bS]; exact lx_while_t l p hp hl n (i+1) c (by omega)
   | false=>exact ⟨_,rfl⟩
  ·rw [if_neg (by omega)]
   exact ⟨_,rfl⟩
theorem lex_named_t (fu:Nat) (hf:20≤fu) (s:List UInt8):∃ b,lex_named fu s=some b:=by
 have hj:∀ b,(b=true∨s.length≤12)→∃ r,lex_named_j1 fu s b=some r:=by
  intro b hb
  cases b with
  | true=>exact ⟨_,rfl⟩
  | false =>
   have hs:s.length≤12:=by simpa using hb
   obtain ⟨r,hr⟩:=lx_while_t s lx_n1 lx_n1_t (by omega) fu 0 (by omega) (by omega)
   have hr2:lx_while fu s lx_n1=some r:=hr
   exact ⟨_,by rw [lex_named_j1,if_neg (by decide),hr2,bS]⟩
 rw [lex_named]
 by_cases h1:(s.length:Int)<1
 ·rw [if_pos h1]; exact hj _ (.inl rfl)
 ·rw [if_neg h1]
  by_cases h2:(12:Int)<s.length
  ·rw [if_pos h2]; exact hj _ (.inl rfl)
  ·have h0:0<s.length:=by omega
   obtain ⟨b,hb⟩:=lx_letter_t s[0]
   rw [if_neg h2,at_0 h0,bS,hb,bS]
   cases b with
   | false=>rw [if_neg (by decide)]; exact hj _ (.inl rfl)
   | true =>
    rw [if_pos rfl,cat,if_pos (by simp; omega),bS,cat,if_pos (by simp; omega),bS,scont,if_pos (by decide +kernel),bS]
    exact hj _ (.inr (by omega))
def kidN (k:Int):Int:=if k≤3∨k=20 then 0 else if k≤5∨k=21∨k=24 then 1 else if k≤18∨k=23 then 2 else -1
theorem syn_kids_t (k:Int):syn_kids k=some (kidN k):=by
 unfold syn_kids kidN
 by_cases h1:k≤3
 ·rw [if_pos h1,if_pos (.inl h1)]; rfl
 ·rw [if_neg h1]
  by_cases h2:k=20
  ·rw [decide_eq_true h2,if_pos (.inr h2)]; rfl
  ·rw [decide_eq_false h2,syn_kids_j1,if_neg (by decide),if_neg (show ¬ (k≤3∨k=20) by omega)]
   by_cases h3:k≤5
   ·rw [if_pos h3,if_pos (.inl h3)]; rfl
   ·rw [if_neg h3]
    by_cases h4:k=21
    ·rw [if_pos h4,if_pos (.inr (.inl h4))]; rfl
    ·rw [if_neg h4]
     by_cases h5:k=24
     ·rw [decide_eq_true h5,if_pos (.inr (.inr h5))]; rfl
     ·rw [decide_eq_false h5,syn_kids_j2,if_neg (by decide),if_neg (show ¬ (k≤5∨k=21∨k=24) by omega)]
      by_cases h6:k≤18
      ·rw [if_pos h6,if_pos (.inl h6)]; rfl
      ·rw [if_neg h6]
       by_cases h7:k=23
       ·rw [decide_eq_true h7,if_pos (.inr h7)]; rfl
       ·rw [decide_eq_false h7,if_neg (show ¬ (k≤18∨k=23) by omega)]; rfl
theorem syn_node_t (node d:Int) (h0:0≤node) (h1:node≤4294967296):∃ e,syn_node node d=some (e,node+1)∧(e=0→node+1≤2000∧d≤40):=by
 unfold syn_node
 rw [i64_ok (by omega),bS]
 by_cases c:2000<node+1
 ·rw [if_pos c]; exact ⟨4,rfl,fun h=>absurd h (by decide)⟩
 ·rw [if_neg c]
  by_cases e:40<d
  ·rw [decide_eq_true e]; exact ⟨4,rfl,fun h=>absurd h (by decide)⟩
  ·rw [decide_eq_false e]; exact ⟨0,rfl,fun _=>⟨by omega,by omega⟩⟩
structure KidsOk (x:TExpr):Prop where
 eq:0≤kidN x.Kind→(x.Kids.length:Int)=kidN x.Kind
 le:x.Kids.length≤6
def OkE:Nat→TExpr→Prop
 | 0,_=>False
 | k+1,x=>1≤x.Kind∧x.Kind≤24∧KidsOk x∧∀ y ∈ x.Kids,OkE k y
def nE:Nat→TExpr→Nat
 | 0,_=>0
 | k+1,x=>1+(x.Kids.map (nE k)).sum
theorem kidN_le (k:Int):kidN k≤2:=by
 unfold kidN
 split
 ·decide
 ·split
  ·decide
  ·split <;> decide
theorem syn_expr_t:∀ (n:Nat) (x:TExpr) (d node:Int),62≤n+d→0≤d→d≤41→0≤node→node≤2000 →
  ∃ e k,(SynExpr_run n).syn_expr node x d=some (e,k)∧node≤k∧(e=0→k≤2000∧OkE (41 - d).toNat x∧k=node+(nE (41 - d).toNat x:Nat)):=by
 intro n
 induction n with
 | zero=>intro x d node h0 h1 h2; omega
 | succ n ih =>
  intro x d node h0 h1 h2 h3 h4
  show ∃ e k,syn_expr n (SynExpr_run n) node x d=some (e,k)∧_
  obtain ⟨b,hb⟩:=lex_named_t n (by omega) x.Name
  obtain ⟨e,hn,he⟩:=syn_node_t node d h3 (by omega)
  rw [syn_expr,hn,bS]
  by_cases c:e=0
  ·subst c
   obtain ⟨hk,hd⟩:=he rfl
   rw [if_neg (by simp)]
   have hD:(41 - d).toNat=(40 - d).toNat+1:=by omega
   rw [hD]
   generalize hP:(fun o:Option (Int×Int)=>∃ e k,o=some (e,k)∧node≤k∧(e=0→k≤2000∧OkE ((40 - d).toNat+1) x∧k=node+(nE ((40 - d).toNat+1) x:Nat)))=P
   have bad:∀ e:Int,e≠0→P (some (e,node+1)):=fun e h=>by rw [← hP]; exact ⟨e,_,rfl,by omega,fun h'=>absurd h' h⟩
   have L:x.Kids.length≤6→∀ (m i:Nat) (c:Int),i≤x.Kids.length→x.Kids.length<m+i→0≤c→c≤2000 →
     ∃ e k,syn_expr_l1 (SynExpr_run n) x d m i c=some (e,k)∧c≤k∧(e=0→k≤2000∧(∀ y ∈ x.Kids.drop i,OkE (40 - d).toNat y)∧k=c+(((x.Kids.drop i).map (nE (40 - d).toNat)).sum:Nat)):=by
    intro hl m
    induction m with
    | zero=>intro i c h1 h2; omega
    | succ m ihm =>
     intro i c g1 g2 g3 g4
     rw [syn_expr_l1]
     by_cases q:i<x.Kids.length
     ·obtain ⟨e,k,e1,e2,e3⟩:=ih x.Kids[i] (d+1) c (by omega) (by omega) (by omega) g3 g4
      rw [if_pos (by omega),at_nat,List.getElem?_eq_getElem q,bS,i64_ok (by omega),bS,e1,bS]
      by_cases z:e=0
      ·subst z
       obtain ⟨f1,f2,f3⟩:=e3 rfl
       rw [if_neg (by simp),i64_ok (by omega),bS]
       obtain ⟨e',k',r1,r2,r3⟩:=ihm (i+1) k q (by omega) (by omega) f1
       refine ⟨e',k',r1,by omega,fun hz=>?_⟩
       obtain ⟨s1,s2,s3⟩:=r3 hz
       have hd':(41 - (d+1)).toNat=(40 - d).toNat:=by omega
       rw [hd'] at f2 f3
       refine ⟨s1,fun y hy=>?_,?_⟩
       ·rw [List.drop_eq_getElem_cons q] at hy
        rcases List.mem_cons.1 hy with rfl | hy
        ·exact f2
        ·exact s2 y hy
       ·rw [List.drop_eq_getElem_cons q,List.map_cons,List.sum_cons]
        omega
      ·rw [if_pos z]
       exact ⟨e,k,rfl,e2,fun h=>absurd h z⟩
     ·rw [if_neg (by omega),List.drop_eq_nil_of_le (by omega)]
      exact ⟨0,c,rfl,by omega,fun _=>⟨g4,by simp,by simp⟩⟩
   by_cases kd:1≤x.Kind∧x.Kind≤24
   ·have J6:∀ b,(b=false→KidsOk x)→P (syn_expr_j6 (SynExpr_run n) x d (0,node+1) b):=by
     intro b h
     cases b with
     | true=>exact bad 5 (by decide)
     | false =>
      have hk':=h rfl
      rw [syn_expr_j6,if_neg (by decide),← hP]
      obtain ⟨e,k,r1,r2,r3⟩:=L hk'.le (x.Kids.length+1) 0 (node+1) (by omega) (by omega) (by omega) (by omega)
      refine ⟨e,k,r1,by omega,fun hz=>?_⟩
      obtain ⟨s1,s2,s3⟩:=r3 hz
      rw [List.drop_zero] at s2 s3
      exact ⟨s1,⟨kd.1,kd.2,hk',s2⟩,by rw [nE]; omega⟩
    have kl:=kidN_le x.Kind
    have J5:∀ b,(b=false→0≤kidN x.Kind→(x.Kids.length:Int)=kidN x.Kind)→P (syn_expr_j5 (SynExpr_run n) x d (0,node+1) (kidN x.Kind) b):=by
     intro b h
     cases b with
     | true=>rw [syn_expr_j5,if_pos rfl]; exact J6 _ (fun h=>absurd h (by decide))
     | false =>
      rw [syn_expr_j5,if_neg (by decide)]
      by_cases q:kidN x.Kind<0
      ·rw [if_pos q]
       exact J6 _ fun hd=>⟨h rfl,by have:=of_decide_eq_false hd; omega⟩
      ·rw [if_neg q]
       exact J6 _ fun _=>⟨h rfl,by have:=h rfl (by omega); omega⟩
    have J4:∀ b,P (syn_expr_j4 (SynExpr_run n) x d (0,node+1) (kidN x.Kind) b):=by
     intro b
     cases b with
     | true=>exact bad 7 (by decide)
     | false =>
      rw [syn_expr_j4,if_neg (by decide)]
      by_cases q:0≤kidN x.Kind
      ·rw [if_pos q]
       exact J5 _ fun hd _=>by have:=of_decide_eq_false hd; omega
      ·rw [if_neg q]
       exact J5 _ fun _ h=>absurd h q
    have J3:∀ b,P (syn_expr_j3 n (SynExpr_run n) x d (0,node+1) (kidN x.Kind) b):=by
     intro b'
     cases b' with
     | true=>exact bad 3 (by decide)
     | false =>
      rw [syn_expr_j3,if_neg (by decide),hb]
      simp only [bS]
      split
      ·exact J4 _
      ·split
       ·exact J4 _
       ·split <;> exact J4 _
    have J2:∀ b,P (syn_expr_j2 n (SynExpr_run n) x d (0,node+1) (kidN x.Kind) b):=by
     intro b'
     unfold syn_expr_j2
     split
     ·exact J3 _
     ·split
      ·split <;> exact J3 _
      ·exact J3 _
    have J1:∀ b,P (syn_expr_j1 n (SynExpr_run n) x d (0,node+1) b):=by
     intro b'
     cases b' with
     | true=>exact bad 1 (by decide)
     | false =>
      rw [syn_expr_j1,if_neg (by decide),syn_kids_t,bS]
      split
      ·split <;> exact J2 _
      ·exact J2 _
    have G:P (if x.Kind<1 then syn_expr_j1 n (SynExpr_run n) x d (0,node+1) true else syn_expr_j1 n (SynExpr_run n) x d (0,node+1) (decide ((24:Int)<x.Kind))):=by
     split <;> exact J1 _
    rw [← hP] at G
    exact G
   ·have G:P (if x.Kind<1 then syn_expr_j1 n (SynExpr_run n) x d (0,node+1) true else syn_expr_j1 n (SynExpr_run n) x d (0,node+1) (decide ((24:Int)<x.Kind))):=by
     split
     ·exact bad 1 (by decide)
     ·rw [decide_eq_true (show 24<x.Kind by omega)]
      exact bad 1 (by decide)
    rw [← hP] at G
    exact G
  ·rw [if_pos c]
   exact ⟨e,_,rfl,by omega,fun h=>absurd h c⟩
def OkS:Nat→TStat→Prop
 | 0,_=>False
 | k+1,s=>1≤s.Kind∧s.Kind≤9∧(s.Kind≠6→OkE k s.X)∧((s.Kind=3∨s.Kind=4)→s.Body.length≤50∧∀ y ∈ s.Body,OkS k y)∧(s.Kind=3→s.Else.length≤50∧∀ y ∈ s.Else,OkS k y)
def nS:Nat→TStat→Nat
 | 0,_=>0
 | k+1,s=>1+(if s.Kind=6 then 0 else nE k s.X)+(if s.Kind=3∨s.Kind=4 then (s.Body.map (nS k)).sum else 0)+(if s.Kind=3 then (s.Else.map (nS k)).sum else 0)
theorem syn_stat_t:∀ (n:Nat),(∀ (l:List TStat) (d node:Int),2*(42 - d)+65≤n→0≤d→d≤41→0≤node→node≤2000 →
   ∃ e k,(SynStat_run n).syn_stats node l d=some (e,k)∧node≤k∧(e=0→k≤2000∧(l.length≤50∧∀ y ∈ l,OkS (41 - d).toNat y)∧k=node+((l.map (nS (41 - d).toNat)).sum:Nat))) ∧
  (∀ (x:TStat) (d node:Int),2*(42 - d)+64≤n→0≤d→d≤41→0≤node→node≤2000 →
   ∃ e k,(SynStat_run n).syn_stat node x d=some (e,k)∧node≤k∧(e=0→k≤2000∧OkS (41 - d).toNat x∧k=node+(nS (41 - d).toNat x:Nat))):=by
 intro n
 induction n with
 | zero=>exact ⟨fun l d node h0 h1 h2=>by omega,fun l d node h0 h1 h2=>by omega⟩
 | succ n ih =>
  obtain ⟨ihl,ihs⟩:=ih
  refine ⟨fun l d node h0 h1 h2 h3 h4=>?_,fun x d node h0 h1 h2 h3 h4=>?_⟩
  ·show ∃ e k,syn_stats (SynStat_run n) node l d=some (e,k)∧_
   rw [syn_stats]
   by_cases hl:(50:Int)<l.length
   ·rw [if_pos hl]; exact ⟨5,node,rfl,by omega,fun h=>absurd h (by decide)⟩
   ·rw [if_neg hl]
    have L:∀ (m i:Nat) (c:Int),i≤l.length→l.length<m+i→0≤c→c≤2000 →
      ∃ e k,syn_stats_l1 (SynStat_run n) l d m i c=some (e,k)∧c≤k∧(e=0→k≤2000∧(∀ y ∈ l.drop i,OkS (41 - d).toNat y)∧k=c+(((l.drop i).map (nS (41 - d).toNat)).sum:Nat)):=by
     intro m
     induction m with
     | zero=>intro i c h1 h2; omega
     | succ m ihm =>
      intro i c g1 g2 g3 g4
      rw [syn_stats_l1]
      by_cases q:i<l.length
      ·obtain ⟨e,k,e1,e2,e3⟩:=ihs l[i] d c (by omega) h1 h2 g3 g4
       rw [if_pos (by omega),at_nat,List.getElem?_eq_getElem q,bS,e1,bS]
       by_cases z:e=0
       ·subst z
        obtain ⟨f1,f2,f3⟩:=e3 rfl
        rw [if_neg (by simp),i64_ok (by omega),bS]
        obtain ⟨e',k',r1,r2,r3⟩:=ihm (i+1) k q (by omega) (by omega) f1
        refine ⟨e',k',r1,by omega,fun hz=>?_⟩
        obtain ⟨s1,s2,s3⟩:=r3 hz
        refine ⟨s1,fun y hy=>?_,?_⟩
        ·rw [List.drop_eq_getElem_cons q] at hy
         rcases List.mem_cons.1 hy with rfl | hy
         ·exact f2
         ·exact s2 y hy
        ·rw [List.drop_eq_getElem_cons q,List.map_cons,List.sum_cons]
         omega
       ·rw [if_pos z]
        exact ⟨e,k,rfl,e2,fun h=>absurd h z⟩
      ·rw [if_neg (by omega),List.drop_eq_nil_of_le (by omega)]
       exact ⟨0,c,rfl,by omega,fun _=>⟨g4,by simp,by simp⟩⟩
    obtain ⟨e,k,r1,r2,r3⟩:=L (l.length+1) 0 node (by omega) (by omega) h3 h4
    refine ⟨e,k,r1,r2,fun hz=>?_⟩
    obtain ⟨s1,s2,s3⟩:=r3 hz
    rw [List.drop_zero] at s2 s3
    exact ⟨s1,⟨by omega,s2⟩,s3⟩
  ·show ∃ e k,syn_stat n (SynStat_run n) node x d=some (e,k)∧_
   obtain ⟨b,hb⟩:=lex_named_t n (by omega) x.Name
   obtain ⟨e,hn,he⟩:=syn_node_t node d h3 (by omega)
   rw [syn_stat,hn,bS]
   by_cases c:e=0
   ·subst c
    obtain ⟨hk,hd⟩:=he rfl
    rw [if_neg (by simp)]
    have hD:(41 - d).toNat=(40 - d).toNat+1:=by omega
    have hD':(41 - (d+1)).toNat=(40 - d).toNat:=by omega
    rw [hD]
    generalize hP:(fun o:Option (Int×Int)=>∃ e k,o=some (e,k)∧node≤k∧(e=0→k≤2000∧OkS ((40 - d).toNat+1) x∧k=node+(nS ((40 - d).toNat+1) x:Nat)))=P
    have bad:∀ e c:Int,e≠0→node≤c→P (some (e,c)):=fun e c h hc=>by rw [← hP]; exact ⟨e,_,rfl,hc,fun h'=>absurd h' h⟩
    have kids:=fun (l:List TStat) (c:Int) (hc:node≤c) (hc':c≤2000)=>ihl l (d+1) c (by omega) (by omega) (by omega) (by omega) hc'
    rw [hD'] at kids
    have G:P (if x.Kind<1 then syn_stat_j1 n (SynStat_run n) x d (0,node+1) true else syn_stat_j1 n (SynStat_run n) x d (0,node+1) (decide ((9:Int)<x.Kind))):=by
     by_cases kd:1≤x.Kind∧x.Kind≤9
     ·have J4:∀ (c:Int),node≤c→c≤2000→x.Kind≠6→OkE (40 - d).toNat x.X→((x.Kind=3∨x.Kind=4)→x.Body.length≤50∧∀ y ∈ x.Body,OkS (40 - d).toNat y) →
        c=node+1+(nE (40 - d).toNat x.X:Nat)+((if x.Kind=3∨x.Kind=4 then (x.Body.map (nS (40 - d).toNat)).sum else 0:Nat):Int)→P (syn_stat_j4 (SynStat_run n) x d c):=by
       intro c g1 g2 k6 gx gb gc
       rw [syn_stat_j4]
       by_cases k3:x.Kind=3
       ·obtain ⟨e,k,r1,r2,r3⟩:=kids x.Else c g1 g2
        rw [if_pos k3,i64_ok (by omega),bS,r1,bS]
        rw [← hP]
        refine ⟨e,k,rfl,by omega,fun hz=>?_⟩
        obtain ⟨s1,s2,s3⟩:=r3 hz
        refine ⟨s1,⟨kd.1,kd.2,fun _=>gx,gb,fun _=>s2⟩,?_⟩
        rw [nS,if_neg k6,if_pos k3]
        omega
       ·rw [if_neg k3,← hP]
        refine ⟨0,c,rfl,g1,fun _=>⟨g2,⟨kd.1,kd.2,fun _=>gx,gb,fun h=>absurd h k3⟩,?_⟩⟩
        rw [nS,if_neg k6,if_neg k3]
        omega
      have J3:∀ (c:Int) b,node≤c→c≤2000→x.Kind≠6→OkE (40 - d).toNat x.X→(b=true ↔ x.Kind=3∨x.Kind=4)→c=node+1+(nE (40 - d).toNat x.X:Nat)→P (syn_stat_j3 (SynStat_run n) x d (0,c) b):=by
       intro c b g1 g2 k6 gx gb gc
       rw [syn_stat_j3]
       by_cases q:b=true
       ·obtain ⟨e,k,r1,r2,r3⟩:=kids x.Body c g1 g2
        rw [if_pos q,i64_ok (by omega),bS,r1,bS]
        by_cases z:e=0
        ·subst z
         obtain ⟨s1,s2,s3⟩:=r3 rfl
         rw [if_neg (by simp)]
         exact J4 k (by omega) s1 k6 gx (fun _=>s2) (by rw [if_pos (gb.1 q)]; omega)
        ·rw [if_pos z]
         exact bad e k z (by omega)
       ·rw [if_neg q]
        exact J4 c g1 g2 k6 gx (fun h=>absurd (gb.2 h) q) (by rw [if_neg fun h=>q (gb.2 h)]; omega)
      have J2:∀ b,P (syn_stat_j2 n (SynStat_run n) x d (0,node+1) b):=by
       intro b
       cases b with
       | true=>exact bad 7 _ (by decide) (by omega)
       | false =>
        rw [syn_stat_j2,if_neg (by decide)]
        by_cases k6:x.Kind=6
        ·rw [if_pos k6,← hP]
         refine ⟨0,node+1,rfl,by omega,fun _=>⟨by omega,⟨kd.1,kd.2,fun h=>absurd k6 h,fun h=>by omega,fun h=>by omega⟩,?_⟩⟩
         rw [nS,if_pos k6,if_neg (by omega),if_neg (by omega)]
         omega
        ·obtain ⟨e,k,r1,r2,r3⟩:=syn_expr_t n x.X (d+1) (node+1) (by omega) (by omega) (by omega) (by omega) (by omega)
         rw [hD'] at r3
         rw [if_neg k6,i64_ok (by omega),bS,r1,bS]
         by_cases z:e=0
         ·subst z
          obtain ⟨s1,s2,s3⟩:=r3 rfl
          rw [if_neg (by simp)]
          split
          ·rename_i h3
           exact J3 k true (by omega) s1 k6 s2 (by simp [h3]) (by omega)
          ·rename_i h3
           exact J3 k _ (by omega) s1 k6 s2 (by simp [h3]) (by omega)
         ·rw [if_pos z]
          exact bad e k z (by omega)
      have J1:∀ b,P (syn_stat_j1 n (SynStat_run n) x d (0,node+1) b):=by
       intro b'
       cases b' with
       | true=>exact bad 1 _ (by decide) (by omega)
       | false =>
        rw [syn_stat_j1,if_neg (by decide),hb]
        simp only [bS]
        split
        ·exact J2 _
        ·split
         ·exact J2 _
         ·split <;> exact J2 _
      split <;> exact J1 _
     ·split
      ·exact bad 1 _ (by decide) (by omega)
      ·rw [decide_eq_true (show 9<x.Kind by omega)]
       exact bad 1 _ (by decide) (by omega)
    rw [← hP] at G
    exact G
   ·rw [if_pos c]
    exact ⟨e,_,rfl,by omega,fun h=>absurd h c⟩
def OkT (t:TType):Prop:=1≤t.Kind∧t.Kind≤3
theorem syn_typ_t (fu:Nat) (hf:20≤fu) (t:TType):∃ e,syn_typ fu t=some e∧(e=0→OkT t):=by
 obtain ⟨b,hb⟩:=lex_named_t fu hf t.Gen
 rw [syn_typ]
 by_cases c:1≤t.Kind∧t.Kind≤3
 ·rw [if_neg (by omega),decide_eq_false (by omega),syn_typ_j1,if_neg (by decide),hb]
  simp only [bS]
  have:∀ b,∃ e,syn_typ_j2 b=some e:=fun b=>by cases b <;> exact ⟨_,rfl⟩
  split
  ·obtain ⟨e,he⟩:=this (!b); exact ⟨e,he,fun _=>c⟩
  ·obtain ⟨e,he⟩:=this false; exact ⟨e,he,fun _=>c⟩
 ·split
  ·exact ⟨1,rfl,fun h=>absurd h (by decide)⟩
  ·rw [decide_eq_true (show 3<t.Kind by omega)]
   exact ⟨1,rfl,fun h=>absurd h (by decide)⟩
structure OkD (x:TDef):Prop where
 k1:1≤x.Kind
 k4:x.Kind≤4
 ps:x.Kind=2∨x.Kind=3→x.Params.length≤6∧∀ p ∈ x.Params,OkT p.Typ
 tk:x.Kind=3→OkT x.Takes
 ty:x.Kind≠4→OkT x.Typ
 bl:x.Kind≠1→x.Body.length≤50
 bo:x.Kind≠1→∀ y ∈ x.Body,OkS 39 y
def nD (x:TDef):Nat:=1+if x.Kind≠1 then (x.Body.map (nS 39)).sum else 0
theorem syn_def_t (fu:Nat) (hf:200≤fu) (x:TDef) (node:Int) (h3:0≤node) (h4:node≤2000):∃ e k,syn_def fu node x=some (e,k)∧node≤k∧(e=0→k≤2000∧OkD x∧k=node+(nD x:Nat)):=by
 obtain ⟨b,hb⟩:=lex_named_t fu (by omega) x.Name
 obtain ⟨e,hn,he⟩:=syn_node_t node 1 h3 (by omega)
 rw [syn_def,hn,bS]
 by_cases c:e=0
 ·subst c
  obtain ⟨hk,hd⟩:=he rfl
  rw [if_neg (by simp)]
  generalize hP:(fun o:Option (Int×Int)=>∃ e k,o=some (e,k)∧node≤k∧(e=0→k≤2000∧OkD x∧k=node+(nD x:Nat)))=P
  have bad:∀ e c:Int,e≠0→node≤c→P (some (e,c)):=fun e c h hc=>by rw [← hP]; exact ⟨e,_,rfl,hc,fun h'=>absurd h' h⟩
  have G:P (if x.Kind<1 then syn_def_j1 fu x (0,node+1) true else syn_def_j1 fu x (0,node+1) (decide ((4:Int)<x.Kind))):=by
   by_cases kd:1≤x.Kind∧x.Kind≤4
   ·have J5:(x.Kind=2∨x.Kind=3→x.Params.length≤6∧∀ p ∈ x.Params,OkT p.Typ)→(x.Kind=3→OkT x.Takes)→(x.Kind≠4→OkT x.Typ)→P (syn_def_j5 fu x (0,node+1)):=by
     intro g1 g2 g3
     rw [syn_def_j5]
     by_cases k1:x.Kind=1
     ·rw [if_neg (by simpa using k1)]
      have J6:∀ b,P (syn_def_j6 (0,node+1) b):=by
       intro b
       cases b with
       | true=>exact bad 3 _ (by decide) (by omega)
       | false =>
        rw [← hP]
        exact ⟨0,node+1,rfl,by omega,fun _=>⟨by omega,⟨kd.1,kd.2,g1,g2,g3,fun h=>absurd k1 h,fun h=>absurd k1 h⟩,by rw [nD,if_neg (by simpa using k1)]; omega⟩⟩
      split <;> exact J6 _
     ·obtain ⟨e,k,r1,r2,r3⟩:=(syn_stat_t fu).1 x.Body 2 (node+1) (by omega) (by omega) (by omega) (by omega) (by omega)
      rw [if_pos k1,r1,bS,← hP]
      refine ⟨e,k,rfl,by omega,fun hz=>?_⟩
      obtain ⟨s1,s2,s3⟩:=r3 hz
      exact ⟨s1,⟨kd.1,kd.2,g1,g2,g3,fun _=>s2.1,fun _=>s2.2⟩,by rw [nD,if_pos k1]; rw [show (41 - (2:Int)).toNat=39 from rfl] at s3; omega⟩
    have J4:(x.Kind=2∨x.Kind=3→x.Params.length≤6∧∀ p ∈ x.Params,OkT p.Typ)→(x.Kind=3→OkT x.Takes)→P (syn_def_j4 fu x (0,node+1)):=by
     intro g1 g2
     rw [syn_def_j4]
     by_cases k4:x.Kind=4
     ·rw [if_neg (by simpa using k4)]
      exact J5 g1 g2 fun h=>absurd k4 h
     ·obtain ⟨e,h1,h2⟩:=syn_typ_t fu (by omega) x.Typ
      rw [if_pos k4,h1,bS]
      by_cases z:e=0
      ·rw [if_neg (by simpa using z)]; exact J5 g1 g2 fun _=>h2 z
      ·rw [if_pos z]; exact bad e _ z (by omega)
    have J3:(x.Kind=2∨x.Kind=3→x.Params.length≤6∧∀ p ∈ x.Params,OkT p.Typ)→P (syn_def_j3 fu x (0,node+1)):=by
     intro g1
     rw [syn_def_j3]
     by_cases k3:x.Kind=3
     ·obtain ⟨e,h1,h2⟩:=syn_typ_t fu (by omega) x.Takes
      rw [if_pos k3,h1,bS]
      by_cases z:e=0
      ·rw [if_neg (by simpa using z)]; exact J4 g1 fun _=>h2 z
      ·rw [if_pos z]; exact bad e _ z (by omega)
     ·rw [if_neg k3]
      exact J4 g1 fun h=>absurd h k3
    have L:x.Params.length≤6→∀ (m i:Nat),i≤x.Params.length→x.Params.length<m+i→(∀ p ∈ x.Params.take i,OkT p.Typ)→P (syn_def_l1 fu x (0,node+1) m i):=by
     intro hl m
     induction m with
     | zero=>intro i h1 h2; omega
     | succ m ihm =>
      intro i g1 g2 g3
      rw [syn_def_l1]
      by_cases q:i<x.Params.length
      ·obtain ⟨b',hb'⟩:=lex_named_t fu (by omega) x.Params[i].Name
       obtain ⟨e,h1,h2⟩:=syn_typ_t fu (by omega) x.Params[i].Typ
       rw [if_pos (by omega),at_nat,List.getElem?_eq_getElem q,bS,hb',bS]
       cases b' with
       | false=>rw [if_neg (by decide)]; exact bad 7 _ (by decide) (by omega)
       | true =>
        rw [if_pos rfl,h1,bS]
        by_cases z:e=0
        ·rw [if_neg (by simpa using z),i64_ok (by omega),bS]
         refine ihm (i+1) q (by omega) fun p hp=>?_
         rw [List.take_succ_eq_append_getElem q] at hp
         rcases List.mem_append.1 hp with hp | hp
         ·exact g3 p hp
         ·rw [List.mem_singleton.1 hp]; exact h2 z
        ·rw [if_pos z]; exact bad e _ z (by omega)
      ·rw [if_neg (by omega)]
       rw [List.take_of_length_le (by omega)] at g3
       exact J3 fun _=>⟨hl,g3⟩
    have J2:∀ b,(b=true ↔ x.Kind=2∨x.Kind=3)→P (syn_def_j2 fu x (0,node+1) b):=by
     intro b g
     rw [syn_def_j2]
     by_cases q:b=true
     ·rw [if_pos q]
      by_cases hl:(6:Int)<x.Params.length
      ·rw [if_pos hl]; exact bad 5 _ (by decide) (by omega)
      ·rw [if_neg hl]
       exact L (by omega) (x.Params.length+1) 0 (by omega) (by omega) (by simp)
     ·rw [if_neg q]
      exact J3 fun h=>absurd (g.2 h) q
    have J1:∀ b,P (syn_def_j1 fu x (0,node+1) b):=by
     intro b'
     cases b' with
     | true=>exact bad 1 _ (by decide) (by omega)
     | false =>
      rw [syn_def_j1,if_neg (by decide),hb,bS]
      cases b with
      | false=>rw [if_neg (by decide)]; exact bad 7 _ (by decide) (by omega)
      | true =>
       rw [if_pos rfl]
       split
       ·rename_i h2; exact J2 _ (by simp [h2])
       ·rename_i h2; exact J2 _ (by simp [h2])
    split <;> exact J1 _
   ·split
    ·exact bad 1 _ (by decide) (by omega)
    ·rw [decide_eq_true (show 4<x.Kind by omega)]
     exact bad 1 _ (by decide) (by omega)
  rw [← hP] at G
  exact G
 ·rw [if_pos c]
  exact ⟨e,_,rfl,by omega,fun h=>absurd h c⟩
structure OkP (l:List TDef):Prop where
 le:l.length≤30
 ok:∀ d ∈ l,OkD d
 n:(l.map nD).sum≤2000
theorem syn_wrong_t (fu:Nat) (hf:200≤fu) (l:List TDef):∃ f,syn_wrong fu l=some f∧(f.Err=0→f.At=0∧OkP l):=by
 rw [syn_wrong]
 by_cases hl:(30:Int)<l.length
 ·rw [if_pos hl]; exact ⟨_,rfl,fun h=>absurd h (by decide:(5:Int)≠0)⟩
 ·rw [if_neg hl]
  have L:∀ (m i:Nat) (c:Int),i≤l.length→l.length<m+i→0≤c→c≤2000→(∀ d ∈ l.take i,OkD d)→c=(((l.take i).map nD).sum:Nat)→∃ f,syn_wrong_l1 fu l m i c=some f∧(f.Err=0→f.At=0∧OkP l):=by
   intro m
   induction m with
   | zero=>intro i c h1 h2; omega
   | succ m ihm =>
    intro i c g1 g2 g3 g4 g5 g6
    rw [syn_wrong_l1]
    by_cases q:i<l.length
    ·obtain ⟨e,k,e1,e2,e3⟩:=syn_def_t fu hf l[i] c g3 g4
     rw [if_pos (by omega),at_nat,List.getElem?_eq_getElem q,bS,e1,bS]
     by_cases z:e=0
     ·subst z
      obtain ⟨f1,f2,f3⟩:=e3 rfl
      rw [if_neg (by simp),i64_ok (by omega),bS]
      refine ihm (i+1) k q (by omega) (by omega) f1 (fun p hp=>?_) ?_
      ·rw [List.take_succ_eq_append_getElem q] at hp
       rcases List.mem_append.1 hp with hp | hp
       ·exact g5 p hp
       ·rw [List.mem_singleton.1 hp]; exact f2
      ·rw [List.take_succ_eq_append_getElem q,List.map_append,List.sum_append,List.map_cons,List.map_nil,List.sum_cons,List.sum_nil]
       omega
     ·rw [if_pos z]
      exact ⟨_,rfl,fun h=>absurd h z⟩
    ·rw [if_neg (by omega)]
     rw [List.take_of_length_le (by omega)] at g5 g6
     exact ⟨_,rfl,fun _=>⟨rfl,by omega,g5,by omega⟩⟩
  exact L (l.length+1) 0 0 (by omega) (by omega) (by omega) (by omega) (by simp) (by simp)
end Go.Y
namespace Go.Y
open Go.Wk Go.Xt
abbrev Bl:=List (List (List UInt8×TType))
def bareT (t:TType):TType:=if t.Kind≠3 then ⟨t.Kind,[]⟩ else t
theorem sema_plain_e (t:TType):sema_plain t=some (decide (t.Kind≠3)):=rfl
theorem sema_bare_e (t:TType):sema_bare t=some (bareT t):=by
 rw [sema_bare,sema_plain_e,bS,bareT]
 by_cases c:t.Kind≠3
 ·rw [decide_eq_true c,if_pos rfl,if_pos c]; rfl
 ·rw [decide_eq_false c,if_neg (by decide),if_neg c]; rfl
def isK (o:Option TDef) (k:Int):Bool:=match o with | some d=>decide (d.Kind=k) | none=>false
theorem sema_find_e (p:TSp) (kind:Int) (name:List UInt8):sema_find p kind name=some (mget p.named name,isK (mget p.named name) kind):=by
 rw [sema_find]
 cases h:mget p.named name with
 | none=>rfl
 | some d=>rfl
theorem isK_t {o:Option TDef} {k:Int} (h:isK o k=true):∃ d,o=some d∧d.Kind=k:=by
 cases o with
 | none=>cases h
 | some d=>exact ⟨d,rfl,of_decide_eq_true h⟩
def TyOk (p:TSp) (t:TType):Prop:=t.Kind=3→∃ d,mget p.named t.Gen=some d∧d.Kind=3
theorem TyOk.bare {p:TSp} {t:TType} (h:TyOk p t):TyOk p (bareT t):=by
 unfold bareT
 split
 ·rename_i c; exact fun h3=>absurd h3 c
 ·exact h
theorem TyOk.of {p:TSp} {t:TType} (h:t.Kind≠3):TyOk p t:=fun h3=>absurd h3 h
theorem bareT_kind {t:TType}:(bareT t).Kind=t.Kind:=by
 unfold bareT
 split <;> rfl
structure HeadOk (p:TSp) (d:TDef):Prop where
 ty:d.Kind≠4→d.Typ.Kind≠3
 tk:d.Kind=3→d.Takes.Kind≠3
 ps:d.Kind=2∨d.Kind=3→∀ q ∈ d.Params,TyOk p q.Typ
 pl:d.Kind=2∨d.Kind=3→d.Params.length≤6
def Pg (p:TSp):Prop:=∀ k d,mget p.named k=some d→HeadOk p d
def ScOk (p:TSp) (B:Bl):Prop:=∀ m ∈ B,∀ k t,mget m k=some t→TyOk p t
structure EH (p:TSp) (d:TDef) (B:Bl):Prop where
 pg:Pg p
 hd:HeadOk p d
 sc:ScOk p B
 bl:B.length≤100
theorem sema_look_t {p:TSp} {B:Bl} (hB:ScOk p B) (hl:B.length≤100) (fu:Nat) (hf:110≤fu) (d:TDef) (name:List UInt8):∃ t b,sema_look fu p d B name=some (t,b)∧(b=true→TyOk p t):=by
 have L:∀ (n j:Nat),j≤B.length→j<n→∃ t b,sema_look_l1 name B n ((j:Int) - 1)=some (t,b)∧(b=true→TyOk p t):=by
  intro n
  induction n with
  | zero=>intro j h1 h2; omega
  | succ n ih =>
   intro j h1 h2
   rw [sema_look_l1]
   cases j with
   | zero=>rw [if_neg (by omega)]; exact ⟨_,_,rfl,by simp⟩
   | succ j =>
    have e:((j+1:Nat):Int) - 1=(j:Int):=by omega
    rw [e,if_pos (by omega),at_nat,List.getElem?_eq_getElem (show j<B.length by omega),bS]
    cases h:mget B[j] name with
    | none =>
     rw [if_neg (by simp),i64_ok (by omega),bS]
     exact ih j (by omega) (by omega)
    | some t=>exact ⟨t,true,rfl,fun _=>hB _ (List.getElem_mem _) _ _ h⟩
 rw [sema_look,i64_ok (by omega),bS]
 exact L fu B.length (by omega) (by omega)
def Calls (p:TSp):Nat→TExpr→Prop
 | 0,_=>False
 | k+1,x=>(x.Kind=19→∃ d,mget p.named x.Name=some d∧d.Kind=2)∧(x.Kind=22→∃ d,mget p.named x.Name=some d∧d.Kind=3)∧(x.Kind=20→∃ d,mget p.named x.Name=some d∧d.Kind=1)∧∀ y ∈ x.Kids,Calls p k y
theorem two {α:Type} {l:List α} (h:l.length=2):∃ a b,l=[a,b]:=by
 match l,h with
 | [a,b],_=>exact ⟨a,b,rfl⟩
theorem one {α:Type} {l:List α} (h:l.length=1):∃ a,l=[a]:=by
 match l,h with
 | [a],_=>exact ⟨a,rfl⟩
structure SemaT (n:Nat):Prop where
 typed:∀ (k:Nat) (p:TSp) (d:TDef) (B:Bl) (x:TExpr) (t:TType),EH p d B→OkE k x→3*k+111≤n→∃ e,(SemaE_run n).sema_typed p d B x t=some e∧(e=0→Calls p k x)
 args:∀ (k:Nat) (p:TSp) (d:TDef) (B:Bl) (x:TExpr) (kind:Int),EH p d B→(∀ y ∈ x.Kids,OkE k y)→x.Kids.length≤6→(kind=2∨kind=3)→3*k+112≤n →
  ∃ od e,(SemaE_run n).sema_args p d B x kind=some (od,e)∧(e=0→∃ f,od=some f∧mget p.named x.Name=some f∧f.Kind=kind∧∀ y ∈ x.Kids,Calls p k y)
 both:∀ (k:Nat) (p:TSp) (d:TDef) (B:Bl) (x a b:TExpr),EH p d B→x.Kids=[a,b]→OkE k a→OkE k b→3*k+112≤n→∃ t e,(SemaE_run n).sema_both p d B x=some (t,e)∧(e=0→Calls p k a∧Calls p k b)
 handle:∀ (k:Nat) (p:TSp) (d:TDef) (B:Bl) (x:TExpr),EH p d B→OkE k x→3*k+112≤n→∃ od e,(SemaE_run n).sema_handle p d B x=some (od,e)∧(e=0→(∃ f g,od=some f∧mget p.named g=some f∧f.Kind=3)∧Calls p k x)
 expr:∀ (k:Nat) (p:TSp) (d:TDef) (B:Bl) (x:TExpr),EH p d B→OkE k x→3*k+110≤n→∃ t e,(SemaE_run n).sema_expr p d B x=some (t,e)∧(e=0→TyOk p t∧Calls p k x)
theorem sema_typed_j1_e (r:TType×Int) (b:Bool):sema_typed_j1 r b=some (if b=true then 9 else r.2):=by cases b <;> rfl
theorem sema_both_j1_e (r s:TType×Int) (b:Bool):sema_both_j1 r s b=some (r.1,if b=true then 9 else s.2):=by cases b <;> rfl
theorem sema_t:∀ n,SemaT n:=by
 intro n
 induction n with
 | zero=>exact ⟨fun _ _ _ _ _ _ _ _ h=>by omega,fun _ _ _ _ _ _ _ _ _ _ h=>by omega,fun _ _ _ _ _ _ _ _ _ _ _ h=>by omega,fun _ _ _ _ _ _ _ h=>by omega,fun _ _ _ _ _ _ _ h=>by omega⟩
 | succ n ih =>
  refine ⟨fun k p d B x t H hx hn=>?_,fun k p d B x kind H hx hl hk hn=>?_,fun k p d B x a b H hx ha hb hn=>?_,fun k p d B x H hx hn=>?_,fun k p d B x H hx hn=>?_⟩
  ·show ∃ e,sema_typed (SemaE_run n) p d B x t=some e∧_
   obtain ⟨t',e,h1,h2⟩:=ih.expr k p d B x H hx (by omega)
   rw [sema_typed,h1,bS]
   by_cases z:e=0
   ·rw [if_pos z,sema_bare_e,bS,sema_typed_j1_e]
    exact ⟨_,rfl,fun _=>(h2 z).2⟩
   ·rw [if_neg z,sema_typed_j1_e]
    exact ⟨e,rfl,fun h=>absurd h z⟩
  ·show ∃ od e,sema_args (SemaE_run n) p d B x kind=some (od,e)∧_
   rw [sema_args,sema_find_e,bS]
   by_cases c:isK (mget p.named x.Name) kind=true
   ·obtain ⟨f,hf,fk⟩:=isK_t c
    rw [if_pos c,hf]
    simp only [bS]
    have hp:=H.pg _ _ hf
    have hpl:=hp.pl (by omega)
    by_cases q:(f.Params.length:Int)≠x.Kids.length
    ·rw [decide_eq_true q]; exact ⟨none,5,rfl,fun h=>absurd h (by decide)⟩
    ·rw [decide_eq_false q,sema_args_j1,if_neg (by decide)]
     simp only [bS]
     have L:∀ (m i:Nat),i≤f.Params.length→f.Params.length<m+i→∃ od e,sema_args_l1 (SemaE_run n) x p d B (some f,isK (some f) kind) f m i=some (od,e)∧(e=0→od=some f∧∀ y ∈ x.Kids.drop i,Calls p k y):=by
      intro m
      induction m with
      | zero=>intro i h1 h2; omega
      | succ m ihm =>
       intro i h1 h2
       rw [sema_args_l1]
       by_cases c:i<f.Params.length
       ·have hi:i<x.Kids.length:=by omega
        obtain ⟨e,e1,e2⟩:=ih.typed k p d B x.Kids[i] f.Params[i].Typ H (hx _ (List.getElem_mem _)) (by omega)
        rw [if_pos (by omega),at_nat,List.getElem?_eq_getElem c,bS,at_nat,List.getElem?_eq_getElem hi,bS,e1,bS]
        by_cases z:e=0
        ·rw [if_neg (by simpa using z),i64_ok (by omega),bS]
         obtain ⟨od,e',r1,r2⟩:=ihm (i+1) c (by omega)
         refine ⟨od,e',r1,fun hz=>⟨(r2 hz).1,fun y hy=>?_⟩⟩
         rw [List.drop_eq_getElem_cons hi] at hy
         rcases List.mem_cons.1 hy with rfl | hy
         ·exact e2 z
         ·exact (r2 hz).2 y hy
        ·rw [if_pos z]; exact ⟨none,e,rfl,fun h=>absurd h z⟩
       ·rw [if_neg (by omega),List.drop_eq_nil_of_le (by omega)]
        exact ⟨some f,0,rfl,fun _=>⟨rfl,by simp⟩⟩
     obtain ⟨od,e,r1,r2⟩:=L (f.Params.length+1) 0 (by omega) (by omega)
     refine ⟨od,e,r1,fun hz=>?_⟩
     obtain ⟨s1,s2⟩:=r2 hz
     rw [List.drop_zero] at s2
     exact ⟨f,s1,rfl,fk,s2⟩
   ·rw [if_neg c]
    exact ⟨none,7,rfl,fun h=>absurd h (by decide)⟩
  ·show ∃ t e,sema_both (SemaE_run n) p d B x=some (t,e)∧_
   obtain ⟨t1,e1,h1,h2⟩:=ih.expr k p d B a H ha (by omega)
   obtain ⟨t2,e2,g1,g2⟩:=ih.expr k p d B b H hb (by omega)
   have k0:at_ x.Kids 0=some a:=by rw [hx]; rfl
   have k1:at_ x.Kids 1=some b:=by rw [hx]; rfl
   rw [sema_both,k0,bS,h1,bS]
   by_cases z:e1=0
   ·rw [if_neg (by simpa using z),k1,bS,g1,bS]
    by_cases z2:e2=0
    ·have fin:∀ b',∃ t e,sema_both_j1 (t1,e1) (t2,e2) b'=some (t,e)∧(e=0→Calls p k a∧Calls p k b):=fun b'=>by rw [sema_both_j1_e]; exact ⟨_,_,rfl,fun _=>⟨(h2 z).2,(g2 z2).2⟩⟩
     rw [if_pos z2]
     split
     ·rw [sema_plain_e,bS]; exact fin _
     ·exact fin _
    ·rw [if_neg z2,sema_both_j1_e]
     exact ⟨_,e2,rfl,fun h=>absurd h z2⟩
   ·rw [if_pos z]
    exact ⟨_,e1,rfl,fun h=>absurd h z⟩
  ·show ∃ od e,sema_handle (SemaE_run n) p d B x=some (od,e)∧_
   obtain ⟨t,e,h1,h2⟩:=ih.expr k p d B x H hx (by omega)
   rw [sema_handle,h1,bS]
   by_cases z:e=0
   ·rw [if_neg (by simpa using z),sema_plain_e,bS]
    by_cases q:t.Kind≠3
    ·rw [if_pos (decide_eq_true q)]; exact ⟨none,9,rfl,fun h=>absurd h (by decide)⟩
    ·obtain ⟨f,f1,f2⟩:=(h2 z).1 (Decidable.not_not.1 q)
     rw [if_neg (by simpa using q)]
     exact ⟨_,0,rfl,fun _=>⟨⟨f,t.Gen,f1,f1,f2⟩,(h2 z).2⟩⟩
   ·rw [if_pos z]
    exact ⟨none,e,rfl,fun h=>absurd h z⟩
  ·show ∃ t e,sema_expr n (SemaE_run n) p d B x=some (t,e)∧_
   cases k with
   | zero=>cases hx
   | succ k =>
   obtain ⟨k1,k24,hk,hks⟩:=hx
   have kl:kidN x.Kind=1→∃ a,x.Kids=[a]∧OkE k a:=fun h=>by
    obtain ⟨a,ha⟩:=one (l:=x.Kids) (by have:=hk.eq (by omega); omega)
    exact ⟨a,ha,hks a (by simp [ha])⟩
   have kl2:kidN x.Kind=2→∃ a b,x.Kids=[a,b]∧OkE k a∧OkE k b:=fun h=>by
    obtain ⟨a,b,ha⟩:=two (l:=x.Kids) (by have:=hk.eq (by omega); omega)
    exact ⟨a,b,ha,hks a (by simp [ha]),hks b (by simp [ha])⟩
   have kl0:kidN x.Kind=0→x.Kids=[]:=fun h=>List.length_eq_zero_iff.1 (by have:=hk.eq (by omega); omega)
   have ca:x.Kind≠19→x.Kind≠20→x.Kind≠22→(∀ y ∈ x.Kids,Calls p k y)→Calls p (k+1) x:=fun h1 h2 h3 h4=>⟨fun h=>absurd h h1,fun h=>absurd h h3,fun h=>absurd h h2,h4⟩
   rw [sema_expr]
   by_cases c1:x.Kind=1
   ·rw [if_pos c1]
    exact ⟨_,0,rfl,fun _=>⟨.of (by decide),ca (by omega) (by omega) (by omega) (by rw [kl0 (by rw [c1]; rfl)]; simp)⟩⟩
   rw [if_neg c1]
   by_cases c2:x.Kind=2
   ·rw [if_pos c2]
    exact ⟨_,0,rfl,fun _=>⟨.of (by decide),ca (by omega) (by omega) (by omega) (by rw [kl0 (by rw [c2]; rfl)]; simp)⟩⟩
   rw [if_neg c2]
   by_cases c3:x.Kind=3
   ·obtain ⟨t,b,h1,h2⟩:=sema_look_t H.sc H.bl n (by omega) d x.Name
    rw [if_pos c3,h1,bS]
    cases b with
    | true=>exact ⟨t,0,rfl,fun _=>⟨h2 rfl,ca (by omega) (by omega) (by omega) (by rw [kl0 (by rw [c3]; rfl)]; simp)⟩⟩
    | false=>exact ⟨_,7,rfl,fun h=>absurd h (by decide)⟩
   rw [if_neg c3]
   by_cases c4:x.Kind=4
   ·obtain ⟨a,ha,ho⟩:=kl (by rw [c4]; rfl)
    obtain ⟨e,e1,e2⟩:=ih.typed k p d B a ⟨1,[]⟩ H ho (by omega)
    have k0:at_ x.Kids 0=some a:=by rw [ha]; rfl
    rw [if_pos c4,k0,bS,sema_num,bS,bS,e1,bS]
    exact ⟨_,e,rfl,fun hz=>⟨.of (by decide),ca (by omega) (by omega) (by omega) (by rw [ha]; simpa using e2 hz)⟩⟩
   rw [if_neg c4]
   by_cases c5:x.Kind=5
   ·obtain ⟨a,ha,ho⟩:=kl (by rw [c5]; rfl)
    obtain ⟨e,e1,e2⟩:=ih.typed k p d B a ⟨2,[]⟩ H ho (by omega)
    have k0:at_ x.Kids 0=some a:=by rw [ha]; rfl
    rw [if_pos c5,k0,bS,sema_boolean,bS,bS,e1,bS]
    exact ⟨_,e,rfl,fun hz=>⟨.of (by decide),ca (by omega) (by omega) (by omega) (by rw [ha]; simpa using e2 hz)⟩⟩
   rw [if_neg c5]
   have J3:∀ b,(b=true ↔ x.Kind=11∨x.Kind=12)→∃ t e,sema_expr_j3 (SemaE_run n) x p d B b=some (t,e)∧(e=0→TyOk p t∧Calls p (k+1) x):=by
    intro b hb
    rw [sema_expr_j3]
    by_cases q:b=true
    ·have c:=hb.1 q
     obtain ⟨a,a',ha,o1,o2⟩:=kl2 (by rcases c with c | c <;> rw [c] <;> rfl)
     obtain ⟨t,e,h1,h2⟩:=ih.both k p d B x a a' H ha o1 o2 (by omega)
     rw [if_pos q,h1,bS,sema_boolean,bS]
     exact ⟨_,e,rfl,fun hz=>⟨.of (by decide),ca (by omega) (by omega) (by omega) (by rw [ha]; simpa using h2 hz)⟩⟩
    rw [if_neg q]
    have q1:x.Kind≠11:=fun h=>q (hb.2 (.inl h))
    have q2:x.Kind≠12:=fun h=>q (hb.2 (.inr h))
    by_cases c19:x.Kind=19
    ·obtain ⟨od,e,h1,h2⟩:=ih.args k p d B x 2 H hks hk.le (.inl rfl) (by omega)
     rw [if_pos c19,h1,bS]
     by_cases z:e=0
     ·obtain ⟨f,rfl,g1,g2,g3⟩:=h2 z
      rw [if_neg (by simpa using z)]
      simp only [bS]
      rw [sema_bare_e,bS]
      exact ⟨_,0,rfl,fun _=>⟨.of (by rw [bareT_kind]; exact (H.pg _ _ g1).ty (by omega)),⟨fun _=>⟨f,g1,g2⟩,fun h=>by omega,fun h=>by omega,g3⟩⟩⟩
     ·rw [if_pos z]
      exact ⟨_,e,rfl,fun h=>absurd h z⟩
    rw [if_neg c19]
    by_cases c20:x.Kind=20
    ·rw [if_pos c20,sema_find_e,bS]
     by_cases c:isK (mget p.named x.Name) 1=true
     ·obtain ⟨f,hf,fk⟩:=isK_t c
      rw [if_pos c,hf]
      simp only [bS]
      rw [sema_bare_e,bS]
      exact ⟨_,0,rfl,fun _=>⟨.of (by rw [bareT_kind]; exact (H.pg _ _ hf).ty (by omega)),⟨fun h=>by omega,fun h=>by omega,fun _=>⟨f,hf,fk⟩,by rw [kl0 (by rw [c20]; rfl)]; simp⟩⟩⟩
     ·rw [if_neg c]
      exact ⟨_,7,rfl,fun h=>absurd h (by decide)⟩
    rw [if_neg c20]
    by_cases c21:x.Kind=21
    ·obtain ⟨a,ha,ho⟩:=kl (by rw [c21]; rfl)
     obtain ⟨e,e1,e2⟩:=ih.typed k p d B a d.Typ H ho (by omega)
     have k0:at_ x.Kids 0=some a:=by rw [ha]; rfl
     rw [if_pos c21]
     by_cases cd:d.Kind=3
     ·rw [if_neg (by simpa using cd),k0,bS,sema_bare_e,bS,e1,bS]
      exact ⟨_,e,rfl,fun hz=>⟨.of (by show (bareT d.Takes).Kind≠3; rw [bareT_kind]; exact H.hd.tk cd),ca (by omega) (by omega) (by omega) (by rw [ha]; simpa using e2 hz)⟩⟩
     ·rw [if_pos cd]
      exact ⟨_,8,rfl,fun h=>absurd h (by decide)⟩
    rw [if_neg c21]
    by_cases c22:x.Kind=22
    ·obtain ⟨od,e,h1,h2⟩:=ih.args k p d B x 3 H hks hk.le (.inr rfl) (by omega)
     rw [if_pos c22,h1,bS]
     refine ⟨_,e,rfl,fun hz=>?_⟩
     obtain ⟨f,-,g1,g2,g3⟩:=h2 hz
     exact ⟨fun _=>⟨f,g1,g2⟩,⟨fun h=>by omega,fun _=>⟨f,g1,g2⟩,fun h=>by omega,g3⟩⟩
    rw [if_neg c22]
    by_cases c23:x.Kind=23
    ·obtain ⟨a,a',ha,o1,o2⟩:=kl2 (by rw [c23]; rfl)
     obtain ⟨od,e,h1,h2⟩:=ih.handle k p d B a H o1 (by omega)
     have k0:at_ x.Kids 0=some a:=by rw [ha]; rfl
     have k1:at_ x.Kids 1=some a':=by rw [ha]; rfl
     rw [if_pos c23,k0,bS,h1,bS]
     by_cases z:e=0
     ·obtain ⟨⟨f,g,rfl,g1,g2⟩,g3⟩:=h2 z
      obtain ⟨e',r1,r2⟩:=ih.typed k p d B a' f.Takes H o2 (by omega)
      rw [if_neg (by simpa using z)]
      simp only [bS]
      rw [k1,bS,sema_bare_e,bS,r1,bS]
      exact ⟨_,e',rfl,fun hz=>⟨.of (by show (bareT f.Typ).Kind≠3; rw [bareT_kind]; exact (H.pg _ _ g1).ty (by omega)),ca (by omega) (by omega) (by omega) (by rw [ha]; simpa using ⟨g3,r2 hz⟩)⟩⟩
     ·rw [if_pos z]
      exact ⟨_,e,rfl,fun h=>absurd h z⟩
    rw [if_neg c23]
    by_cases c24:x.Kind=24
    ·obtain ⟨a,ha,ho⟩:=kl (by rw [c24]; rfl)
     obtain ⟨od,e,h1,h2⟩:=ih.handle k p d B a H ho (by omega)
     have k0:at_ x.Kids 0=some a:=by rw [ha]; rfl
     rw [if_pos c24,k0,bS,h1,bS,sema_boolean,bS]
     exact ⟨_,e,rfl,fun hz=>⟨.of (by decide),ca (by omega) (by omega) (by omega) (by rw [ha]; simpa using (h2 hz).2)⟩⟩
    rw [if_neg c24]
    have L:∀ (i1 i2:Int) (s1 s2:List UInt8) (m i:Nat),i≤x.Kids.length→x.Kids.length<m+i→∃ e,sema_expr_l1 (SemaE_run n) x p d B i1 s1 i2 s2 m i=some (⟨i2,s2⟩,e)∧(e=0→∀ y ∈ x.Kids.drop i,Calls p k y):=by
     intro i1 i2 s1 s2 m
     induction m with
     | zero=>intro i h1 h2; omega
     | succ m ihm =>
      intro i h1 h2
      rw [sema_expr_l1]
      by_cases c:i<x.Kids.length
      ·have:=hk.le
       obtain ⟨e,e1,e2⟩:=ih.typed k p d B x.Kids[i] ⟨i1,s1⟩ H (hks _ (List.getElem_mem _)) (by omega)
       rw [if_pos (by omega),at_nat,List.getElem?_eq_getElem c,bS,e1,bS]
       by_cases z:e=0
       ·rw [if_neg (by simpa using z),i64_ok (by omega),bS]
        obtain ⟨e',r1,r2⟩:=ihm (i+1) c (by omega)
        refine ⟨e',r1,fun hz y hy=>?_⟩
        rw [List.drop_eq_getElem_cons c] at hy
        rcases List.mem_cons.1 hy with rfl | hy
        ·exact e2 z
        ·exact r2 hz y hy
       ·rw [if_pos z]; exact ⟨e,rfl,fun h=>absurd h z⟩
      ·rw [if_neg (by omega),List.drop_eq_nil_of_le (by omega)]
       exact ⟨0,rfl,fun _=>by simp⟩
    have J6:∀ (i1 i2:Int) (s1 s2:List UInt8),i2≠3→∃ t e,sema_expr_j6 (SemaE_run n) x p d B i1 s1 i2 s2=some (t,e)∧(e=0→TyOk p t∧Calls p (k+1) x):=by
     intro i1 i2 s1 s2 h
     obtain ⟨e,h1,h2⟩:=L i1 i2 s1 s2 (x.Kids.length+1) 0 (by omega) (by omega)
     exact ⟨_,e,h1,fun hz=>⟨.of h,ca (by omega) (by omega) (by omega) (by simpa using h2 hz)⟩⟩
    rw [sema_num,bS,bS,sema_boolean]
    simp only [bS]
    split
    ·exact J6 _ _ _ _ (by decide)
    ·split
     ·exact J6 _ _ _ _ (by decide)
     ·exact J6 _ _ _ _ (by decide)
   split
   ·rename_i h; exact J3 _ (by simp [h])
   ·rename_i h; exact J3 _ (by simp [h])
end Go.Y
namespace Go.Y
open Go.Wk Go.Xt
theorem mget_mput {κ β:Type} [DecidableEq κ]:∀ (m:List (κ×β)) (k k':κ) (x:β),mget (mput m k x) k'=if k=k' then some x else mget m k'
 | [],k,k',x=>rfl
 | (a,b)::m,k,k',x=>by
  rw [mput]
  by_cases c:a=k
  ·subst c
   rw [if_pos rfl,mget,mget]
   by_cases d:a=k'
   ·rw [if_pos d,if_pos d]
   ·rw [if_neg d,if_neg d,if_neg d]
  ·rw [if_neg c,mget,mget,mget_mput m k k' x]
   by_cases d:a=k'
   ·rw [if_pos d,if_pos d,if_neg fun h=>c (d.trans h.symm)]
   ·rw [if_neg d,if_neg d]
def CallsS (p:TSp):Nat→TStat→Prop
 | 0,_=>False
 | k+1,s=>(s.Kind≠6→Calls p k s.X)∧((s.Kind=3∨s.Kind=4)→∀ y ∈ s.Body,CallsS p k y)∧(s.Kind=3→∀ y ∈ s.Else,CallsS p k y)∧(s.Kind=7→∃ d,mget p.named s.Name=some d∧d.Kind=1)
theorem sema_pop_t (p:TSp) (d:TDef) (B:Bl) (h:0<B.length) (h2:B.length≤100):sema_pop p d B=some (B.take (B.length - 1)):=by
 rw [sema_pop,i64_ok (by omega),bS,cut,if_pos (by omega),bS,sema_pop_j1]
 simp
structure SemaST (n:Nat):Prop where
 stats:∀ (k:Nat) (p:TSp) (d:TDef) (B:Bl) (l:List TStat),EH p d B→l.length≤50→(∀ y ∈ l,OkS k y)→B.length+k≤90→5*k+130≤n →
  ∃ e,(SemaS_run n).sema_stats p d B l=some (e,B)∧(e=0→∀ y ∈ l,CallsS p k y)
 stat:∀ (k:Nat) (p:TSp) (d:TDef) (B:Bl) (s:TStat),EH p d B→0<B.length→OkS k s→B.length+k≤91→5*k+129≤n →
  ∃ e B',(SemaS_run n).sema_stat p d B s=some (e,B')∧B'.length=B.length∧B'.take (B.length - 1)=B.take (B.length - 1)∧ScOk p B'∧(e=0→CallsS p k s)
theorem sema_stat_j4_e (B:Bl) (r:TType×Int) (b:Bool):sema_stat_j4 B r b=some (if b=true then 9 else r.2,B):=by cases b <;> rfl
theorem semaS_t:∀ n,SemaST n:=by
 intro n
 induction n with
 | zero=>exact ⟨fun _ _ _ _ _ _ _ _ _ h=>by omega,fun _ _ _ _ _ _ _ _ _ h=>by omega⟩
 | succ n ih =>
  refine ⟨fun k p d B l H hl hx hB hn=>?_,fun k p d B s H h0 hx hB hn=>?_⟩
  ·show ∃ e,sema_stats (SemaS_run n) p d B l=some (e,B)∧_
   rw [sema_stats,app,if_pos (by simp; omega),bS,sema_stats_j1]
   have L:∀ (m i:Nat) (B':Bl),i≤l.length→l.length<m+i→B'.length=B.length+1→B'.take B.length=B→ScOk p B' →
     ∃ e,sema_stats_l1 (SemaS_run n) l p d m i B'=some (e,B)∧(e=0→∀ y ∈ l.drop i,CallsS p k y):=by
    intro m
    induction m with
    | zero=>intro i B' h1 h2; omega
    | succ m ihm =>
     intro i B' h1 h2 g1 g2 g3
     rw [sema_stats_l1]
     have pop:∀ C:Bl,C.length=B.length+1→C.take B.length=B→sema_pop p d C=some B:=fun C e1 e2=>by
      rw [sema_pop_t p d C (by omega) (by omega),e1,Nat.add_sub_cancel,e2]
     by_cases c:i<l.length
     ·obtain ⟨e,B2,r1,r2,r3,r4,r5⟩:=ih.stat k p d B' l[i] ⟨H.pg,H.hd,g3,by omega⟩ (by omega) (hx _ (List.getElem_mem _)) (by omega) (by omega)
      rw [g1,Nat.add_sub_cancel] at r3
      rw [g1] at r2
      have e2:B2.take B.length=B:=r3.trans g2
      rw [if_pos (by omega),at_nat,List.getElem?_eq_getElem c,bS,r1,bS]
      by_cases z:e=0
      ·rw [if_neg (by simpa using z),i64_ok (by omega),bS]
       obtain ⟨e',s1,s2⟩:=ihm (i+1) B2 c (by omega) r2 e2 r4
       refine ⟨e',s1,fun hz y hy=>?_⟩
       rw [List.drop_eq_getElem_cons c] at hy
       rcases List.mem_cons.1 hy with rfl | hy
       ·exact r5 z
       ·exact s2 hz y hy
      ·rw [if_pos z]
       simp only []
       rw [pop B2 r2 e2,bS]
       exact ⟨e,rfl,fun h=>absurd h z⟩
     ·rw [if_neg (by omega),pop B' g1 g2,bS,List.drop_eq_nil_of_le (by omega)]
      exact ⟨0,rfl,fun _=>by simp⟩
   have:=L (l.length+1) 0 (B++[[]]) (by omega) (by omega) (by simp) (by simp) (fun m hm k' t ht=>by
    rcases List.mem_append.1 hm with hm | hm
    ·exact H.sc m hm k' t ht
    ·rw [List.mem_singleton.1 hm] at ht; cases ht)
   simpa using this
  ·show ∃ e B',sema_stat n (SemaS_run n) p d B s=some (e,B')∧_
   cases k with
   | zero=>cases hx
   | succ k =>
   obtain ⟨k1,k9,hX,hb,he⟩:=hx
   have tt:=(sema_t n).typed k p d B s.X
   have te:=(sema_t n).expr k p d B s.X
   have same:∀ e:Int,(e=0→CallsS p (k+1) s)→∀ o:Option (Int×Bl),o=some (e,B)→∃ e B',o=some (e,B')∧B'.length=B.length∧B'.take (B.length - 1)=B.take (B.length - 1)∧ScOk p B'∧(e=0→CallsS p (k+1) s) :=
    fun e h o ho=>⟨e,B,ho,rfl,rfl,H.sc,h⟩
   have cs:s.Kind≠3→s.Kind≠4→s.Kind≠7→(s.Kind≠6→Calls p k s.X)→CallsS p (k+1) s:=fun h3 h4 h7 h=>⟨h,fun h=>by omega,fun h=>absurd h h3,fun h=>absurd h h7⟩
   rw [sema_stat]
   by_cases c1:s.Kind=1
   ·obtain ⟨t,e,h1,h2⟩:=te H (hX (by omega)) (by omega)
    rw [if_pos c1,h1,bS]
    by_cases z:e=0
    ·obtain ⟨t',b,g1,g2⟩:=sema_look_t H.sc H.bl n (by omega) d s.Name
     rw [if_neg (by simpa using z),g1,bS]
     cases b with
     | true=>exact same 7 (fun h=>absurd h (by decide)) _ rfl
     | false =>
      have hlt:B.length - 1<B.length:=by omega
      have e1:(B.length:Int) - 1=((B.length - 1:Nat):Int):=by omega
      rw [if_neg (by simp),i64_ok (by omega),bS,e1,at_nat,List.getElem?_eq_getElem hlt,bS,sema_stat_j1]
      refine ⟨0,_,rfl,by simp,?_,fun m hm k' u hu=>?_,fun _=>cs (by omega) (by omega) (by omega) fun _=>(h2 z).2⟩
      ·simp [List.take_set_of_le]
      ·rcases List.mem_or_eq_of_mem_set hm with hm | rfl
       ·exact H.sc m hm k' u hu
       ·rw [mget_mput] at hu
        split at hu
        ·obtain rfl:=Option.some.inj hu
         exact (h2 z).1
        ·exact H.sc _ (List.getElem_mem _) k' u hu
    ·rw [if_pos z]
     exact same e (fun h=>absurd h z) _ rfl
   rw [if_neg c1]
   by_cases c2:s.Kind=2
   ·obtain ⟨t',b,g1,g2⟩:=sema_look_t H.sc H.bl n (by omega) d s.Name
    rw [if_pos c2,g1,bS]
    cases b with
    | false=>exact same 7 (fun h=>absurd h (by decide)) _ rfl
    | true =>
     obtain ⟨e,h1,h2⟩:=tt t' H (hX (by omega)) (by omega)
     rw [if_pos rfl,h1,bS]
     exact same e (fun hz=>cs (by omega) (by omega) (by omega) fun _=>h2 hz) _ rfl
   rw [if_neg c2]
   have J2:∀ b,(b=true ↔ s.Kind=3∨s.Kind=4)→∃ e B',sema_stat_j2 n (SemaS_run n) s p d B b=some (e,B')∧B'.length=B.length∧B'.take (B.length - 1)=B.take (B.length - 1)∧ScOk p B'∧(e=0→CallsS p (k+1) s):=by
    intro b hb'
    rw [sema_stat_j2]
    by_cases q:b=true
    ·have c:=hb'.1 q
     obtain ⟨e,h1,h2⟩:=tt ⟨2,[]⟩ H (hX (by omega)) (by omega)
     rw [if_pos q,sema_boolean,bS,h1,bS]
     by_cases z:e=0
     ·rw [if_neg (by simpa using z)]
      obtain ⟨e2,g1,g2⟩:=ih.stats k p d B s.Body H (hb c).1 (hb c).2 (by omega) (by omega)
      rw [g1,bS]
      by_cases z2:e2=0
      ·rw [if_neg (by simpa using z2)]
       by_cases c4:s.Kind=4
       ·rw [decide_eq_true c4]
        exact same e2 (fun _=>⟨fun _=>h2 z,fun _=>g2 z2,fun h=>by omega,fun h=>by omega⟩) _ rfl
       ·have c3:s.Kind=3:=by omega
        obtain ⟨e3,f1,f2⟩:=ih.stats k p d B s.Else H (he c3).1 (he c3).2 (by omega) (by omega)
        rw [decide_eq_false c4,sema_stat_j3,if_neg (by decide)]
        simp only []
        rw [f1,bS]
        exact same e3 (fun hz=>⟨fun _=>h2 z,fun _=>g2 z2,fun _=>f2 hz,fun h=>by omega⟩) _ rfl
      ·rw [if_pos z2]
       exact same e2 (fun h=>absurd h z2) _ rfl
     ·rw [if_pos z]
      exact same e (fun h=>absurd h z) _ rfl
    rw [if_neg q]
    have q3:s.Kind≠3:=fun h=>q (hb'.2 (.inl h))
    have q4:s.Kind≠4:=fun h=>q (hb'.2 (.inr h))
    by_cases c5:s.Kind=5
    ·rw [if_pos c5]
     split
     ·exact same 8 (fun h=>absurd h (by decide)) _ rfl
     ·obtain ⟨e,h1,h2⟩:=tt d.Typ H (hX (by omega)) (by omega)
      rw [h1,bS]
      exact same e (fun hz=>cs q3 q4 (by omega) fun _=>h2 hz) _ rfl
    rw [if_neg c5]
    by_cases c6:s.Kind=6
    ·rw [if_pos c6]
     split
     ·exact same 8 (fun h=>absurd h (by decide)) _ rfl
     ·exact same 0 (fun hz=>cs q3 q4 (by omega) fun h=>absurd c6 h) _ rfl
    rw [if_neg c6]
    by_cases c7:s.Kind=7
    ·rw [if_pos c7,sema_find_e,bS]
     by_cases c:isK (mget p.named s.Name) 1=true
     ·obtain ⟨f,hf,fk⟩:=isK_t c
      obtain ⟨e,h1,h2⟩:=tt f.Typ H (hX (by omega)) (by omega)
      rw [if_pos c,hf]
      simp only [bS]
      rw [h1,bS]
      exact same e (fun hz=>⟨fun _=>h2 hz,fun h=>by omega,fun h=>by omega,fun _=>⟨f,hf,fk⟩⟩) _ rfl
     ·rw [if_neg c]
      exact same 7 (fun h=>absurd h (by decide)) _ rfl
    rw [if_neg c7]
    by_cases c8:s.Kind=8
    ·obtain ⟨t,e,h1,h2⟩:=te H (hX (by omega)) (by omega)
     rw [if_pos c8,h1,bS]
     by_cases z:e=0
     ·rw [if_pos z,sema_plain_e,bS,sema_stat_j4_e]
      exact same _ (fun _=>cs q3 q4 (by omega) fun _=>(h2 z).2) _ rfl
     ·rw [if_neg z,sema_stat_j4_e]
      exact same e (fun h=>absurd h z) _ rfl
    rw [if_neg c8]
    by_cases c9:s.Kind=9
    ·obtain ⟨t,e,h1,h2⟩:=te H (hX (by omega)) (by omega)
     rw [if_pos c9,h1,bS]
     exact same e (fun hz=>cs q3 q4 (by omega) fun _=>(h2 hz).2) _ rfl
    ·omega
   split
   ·rename_i h; exact J2 _ (by simp [h])
   ·rename_i h; exact J2 _ (by simp [h])
theorem sema_typ_t (p:TSp) (t:TType):∃ e,sema_typ p t=some e∧(e=0→TyOk p t):=by
 rw [sema_typ,sema_plain_e,bS]
 by_cases c:t.Kind≠3
 ·rw [if_pos (decide_eq_true c)]; exact ⟨0,rfl,fun _=>.of c⟩
 ·rw [if_neg (by simpa using c),sema_find_e,bS]
  by_cases q:isK (mget p.named t.Gen) 3=true
  ·rw [if_pos q]; exact ⟨0,rfl,fun _ _=>isK_t q⟩
  ·rw [if_neg q]; exact ⟨7,rfl,fun h=>absurd h (by decide)⟩
theorem sema_head_t (p:TSp) (d:TDef) (hd:OkD d):∃ e,sema_head p d=some e∧(e=0→HeadOk p d):=by
 have j3:∀ b,sema_head_j3 b=some (if b=true then 9 else 0):=fun b=>by cases b <;> rfl
 have J2:(d.Kind=2∨d.Kind=3→∀ q ∈ d.Params,TyOk p q.Typ)→∃ e,sema_head_j2 d=some e∧(e=0→HeadOk p d):=by
  intro g
  rw [sema_head_j2]
  have hpl:d.Kind=2∨d.Kind=3→d.Params.length≤6:=fun h=>(hd.ps h).1
  by_cases c3:d.Kind=3
  ·rw [if_pos c3,sema_plain_e,bS]
   by_cases q:d.Takes.Kind≠3
   ·rw [if_pos (decide_eq_true q),if_pos (by omega),sema_plain_e,bS,j3]
    refine ⟨_,rfl,fun hz=>⟨fun _ h=>?_,fun _=>q,g,hpl⟩⟩
    simp [h] at hz
   ·rw [if_neg (by simpa using q),j3]
    exact ⟨9,rfl,fun h=>absurd h (by decide)⟩
  ·rw [if_neg c3]
   by_cases c4:d.Kind=4
   ·rw [if_neg (by simpa using c4),j3]
    exact ⟨0,rfl,fun _=>⟨fun h=>absurd c4 h,fun h=>absurd h c3,g,hpl⟩⟩
   ·rw [if_pos c4,sema_plain_e,bS,j3]
    refine ⟨_,rfl,fun hz=>⟨fun _ h=>?_,fun h=>absurd h c3,g,hpl⟩⟩
    simp [h] at hz
 have J1:∀ b,(b=true ↔ d.Kind=2∨d.Kind=3)→∃ e,sema_head_j1 p d b=some e∧(e=0→HeadOk p d):=by
  intro b hb
  rw [sema_head_j1]
  by_cases q:b=true
  ·rw [if_pos q]
   have hp:=hd.ps (hb.1 q)
   have L:∀ (m i:Nat) (S:List (List UInt8×Int)),i≤d.Params.length→d.Params.length<m+i→(∀ k c,mget S k=some c→0≤c∧c≤1)→(∀ q ∈ d.Params.take i,TyOk p q.Typ)→∃ e,sema_head_l1 p d m i S=some e∧(e=0→HeadOk p d):=by
    intro m
    induction m with
    | zero=>intro i S h1 h2; omega
    | succ m ihm =>
     intro i S h1 h2 g1 g2
     rw [sema_head_l1]
     by_cases c:i<d.Params.length
     ·have hc:0≤(mget S d.Params[i].Name).getD 0∧(mget S d.Params[i].Name).getD 0≤1:=by
       cases h:mget S d.Params[i].Name with
       | none=>decide
       | some v=>exact g1 _ _ h
      rw [if_pos (by omega),at_nat,List.getElem?_eq_getElem c,bS,i64_ok (by omega),bS,mget_mput,if_pos rfl]
      simp only [Option.getD_some]
      by_cases w:(1:Int)<(mget S d.Params[i].Name).getD 0+1
      ·rw [if_pos w]; exact ⟨7,rfl,fun h=>absurd h (by decide)⟩
      ·obtain ⟨e,e1,e2⟩:=sema_typ_t p d.Params[i].Typ
       rw [if_neg w,e1,bS]
       by_cases z:e=0
       ·rw [if_neg (by simpa using z),i64_ok (by omega),bS]
        refine ihm (i+1) _ c (by omega) (fun k v hv=>?_) fun y hy=>?_
        ·rw [mget_mput] at hv
         split at hv
         ·obtain rfl:=Option.some.inj hv
          omega
         ·exact g1 _ _ hv
        ·rw [List.take_succ_eq_append_getElem c] at hy
         rcases List.mem_append.1 hy with hy | hy
         ·exact g2 y hy
         ·rw [List.mem_singleton.1 hy]; exact e2 z
       ·rw [if_pos z]; exact ⟨e,rfl,fun h=>absurd h z⟩
     ·rw [if_neg (by omega)]
      rw [List.take_of_length_le (by omega)] at g2
      exact J2 fun _=>g2
   exact L (d.Params.length+1) 0 [] (by omega) (by omega) (fun k c h=>by cases h) (by simp)
  ·rw [if_neg q]
   exact J2 fun h=>absurd (hb.2 h) q
 rw [sema_head]
 split
 ·rename_i h; exact J1 _ (by simp [h])
 ·rename_i h; exact J1 _ (by simp [h])
theorem sema_body_t (fu:Nat) (hf:500≤fu) (p:TSp) (d:TDef) (hp:Pg p) (hh:HeadOk p d) (hd:OkD d):∃ e,sema_body fu p d=some e∧(e=0→d.Kind≠1→∀ y ∈ d.Body,CallsS p 39 y):=by
 rw [sema_body]
 by_cases c1:d.Kind=1
 ·rw [if_pos c1]; exact ⟨0,rfl,fun _ h=>absurd c1 h⟩
 ·rw [if_neg c1]
  have J1:∀ B:Bl,B.length=1→ScOk p B→∃ e,sema_body_j1 fu p d B=some e∧(e=0→d.Kind≠1→∀ y ∈ d.Body,CallsS p 39 y):=by
   intro B h1 h2
   obtain ⟨e,r1,r2⟩:=(semaS_t fu).stats 39 p d B d.Body ⟨hp,hh,h2,by omega⟩ (hd.bl c1) (hd.bo c1) (by omega) (by omega)
   rw [sema_body_j1,r1,bS]
   exact ⟨e,rfl,fun hz _=>r2 hz⟩
  by_cases c4:d.Kind=4
  ·rw [if_neg (by simpa using c4)]
   exact J1 _ rfl (fun m hm k t ht=>by rw [List.mem_singleton.1 hm] at ht; cases ht)
  ·rw [if_pos c4]
   have k23:d.Kind=2∨d.Kind=3:=by have:=hd.k1; have:=hd.k4; omega
   have hpl:=hh.pl k23
   have L:∀ (m i:Nat) (B:Bl),i≤d.Params.length→d.Params.length<m+i→B.length=1→ScOk p B→∃ e,sema_body_l1 fu p d m i B=some e∧(e=0→d.Kind≠1→∀ y ∈ d.Body,CallsS p 39 y):=by
    intro m
    induction m with
    | zero=>intro i B h1 h2; omega
    | succ m ihm =>
     intro i B h1 h2 g1 g2
     rw [sema_body_l1]
     by_cases c:i<d.Params.length
     ·have h0:0<B.length:=by omega
      rw [if_pos (by omega),at_nat,List.getElem?_eq_getElem c,bS,at_0 h0,bS,sema_bare_e,bS,sema_body_j2,i64_ok (by omega),bS]
      refine ihm (i+1) _ c (by omega) (by simpa using g1) fun m' hm' k t ht=>?_
      rcases List.mem_or_eq_of_mem_set hm' with hm' | rfl
      ·exact g2 m' hm' k t ht
      ·rw [mget_mput] at ht
       split at ht
       ·obtain rfl:=Option.some.inj ht
        exact (hh.ps k23 _ (List.getElem_mem _)).bare
       ·exact g2 _ (List.getElem_mem _) k t ht
     ·rw [if_neg (by omega)]
      exact J1 B g1 g2
   exact L (d.Params.length+1) 0 _ (by omega) (by omega) rfl (fun m hm k t ht=>by rw [List.mem_singleton.1 hm] at ht; cases ht)
structure Right (p:TSp) (l:List TDef):Prop where
 ok:OkP l
 nm:∀ d ∈ l,mget p.named d.Name=some d
 only:∀ k d,mget p.named k=some d→d ∈ l∧d.Name=k
 nd:l.Pairwise fun a b=>a.Name≠b.Name
 tk:∃ d ∈ l,d.Kind=4
 hd:∀ d ∈ l,HeadOk p d
 cs:∀ d ∈ l,d.Kind≠1→∀ y ∈ d.Body,CallsS p 39 y
theorem sema_named_t (fu:Nat) (hf:500≤fu) (l:List TDef):∃ p f,sema_named fu l=some (p,f)∧(f.Err=0→Right p l):=by
 obtain ⟨f,h1,h2⟩:=syn_wrong_t fu (by omega) l
 rw [sema_named,h1,bS]
 by_cases z:f.Err=0
 ·obtain ⟨-,ok⟩:=h2 z
  have hl:=ok.le
  rw [if_neg (by simpa using z)]
  have L3:∀ (N:List (List UInt8×TDef)),(∀ d ∈ l,mget N d.Name=some d)→(∀ k d,mget N k=some d→d ∈ l∧d.Name=k)→l.Pairwise (fun a b=>a.Name≠b.Name)→(∃ d ∈ l,d.Kind=4)→(∀ d ∈ l,HeadOk ⟨l,N⟩ d) →
    ∀ (m i:Nat),i≤l.length→l.length<m+i→(∀ d ∈ l.take i,d.Kind≠1→∀ y ∈ d.Body,CallsS ⟨l,N⟩ 39 y)→∃ p f,sema_named_l3 fu l N m i=some (p,f)∧(f.Err=0→Right p l):=by
   intro N n1 n2 n3 n4 n5 m
   induction m with
   | zero=>intro i h1 h2; omega
   | succ m ihm =>
    intro i h1 h2 g
    rw [sema_named_l3]
    by_cases c:i<l.length
    ·obtain ⟨e,e1,e2⟩:=sema_body_t fu hf ⟨l,N⟩ l[i] (fun k d hd=>n5 d (n2 k d hd).1) (n5 _ (List.getElem_mem _)) (ok.ok _ (List.getElem_mem _))
     rw [if_pos (by omega),at_nat,List.getElem?_eq_getElem c,bS,e1,bS]
     by_cases z:e=0
     ·rw [if_neg (by simpa using z),i64_ok (by omega),bS]
      refine ihm (i+1) c (by omega) fun d hd=>?_
      rw [List.take_succ_eq_append_getElem c] at hd
      rcases List.mem_append.1 hd with hd | hd
      ·exact g d hd
      ·rw [List.mem_singleton.1 hd]; exact e2 z
     ·rw [if_pos z]; exact ⟨_,_,rfl,fun h=>absurd h z⟩
    ·rw [if_neg (by omega)]
     rw [List.take_of_length_le (by omega)] at g
     exact ⟨_,_,rfl,fun _=>⟨ok,n1,n2,n3,n4,n5,g⟩⟩
  have L2:∀ (N:List (List UInt8×TDef)),(∀ d ∈ l,mget N d.Name=some d)→(∀ k d,mget N k=some d→d ∈ l∧d.Name=k)→l.Pairwise (fun a b=>a.Name≠b.Name)→(∃ d ∈ l,d.Kind=4) →
    ∀ (m i:Nat),i≤l.length→l.length<m+i→(∀ d ∈ l.take i,HeadOk ⟨l,N⟩ d)→∃ p f,sema_named_l2 fu l N m i=some (p,f)∧(f.Err=0→Right p l):=by
   intro N n1 n2 n3 n4 m
   induction m with
   | zero=>intro i h1 h2; omega
   | succ m ihm =>
    intro i h1 h2 g
    rw [sema_named_l2]
    by_cases c:i<l.length
    ·obtain ⟨e,e1,e2⟩:=sema_head_t ⟨l,N⟩ l[i] (ok.ok _ (List.getElem_mem _))
     rw [if_pos (by omega),at_nat,List.getElem?_eq_getElem c,bS,e1,bS]
     by_cases z:e=0
     ·rw [if_neg (by simpa using z),i64_ok (by omega),bS]
      refine ihm (i+1) c (by omega) fun d hd=>?_
      rw [List.take_succ_eq_append_getElem c] at hd
      rcases List.mem_append.1 hd with hd | hd
      ·exact g d hd
      ·rw [List.mem_singleton.1 hd]; exact e2 z
     ·rw [if_pos z]; exact ⟨_,_,rfl,fun h=>absurd h z⟩
    ·rw [if_neg (by omega)]
     rw [List.take_of_length_le (by omega)] at g
     exact L3 N n1 n2 n3 n4 g (l.length+1) 0 (by omega) (by omega) (by simp)
  have L1:∀ (m i:Nat) (t:Int) (N:List (List UInt8×TDef)),i≤l.length→l.length<m+i→0≤t→t≤i→(t≠0→∃ d ∈ l,d.Kind=4)→(∀ d ∈ l.take i,mget N d.Name=some d)→(∀ k d,mget N k=some d→d ∈ l.take i∧d.Name=k)→(l.take i).Pairwise (fun a b=>a.Name≠b.Name) →
    ∃ p f,sema_named_l1 fu l m t i N=some (p,f)∧(f.Err=0→Right p l):=by
   intro m
   induction m with
   | zero=>intro i t N h1 h2; omega
   | succ m ihm =>
    intro i t N h1 h2 g1 g2 g3 g4 g5 g6
    rw [sema_named_l1]
    by_cases c:i<l.length
    ·have e0:at_ l (i:Int)=some l[i]:=by rw [at_nat,List.getElem?_eq_getElem c]
     rw [if_pos (by omega),e0,bS]
     cases h:mget N l[i].Name with
     | some v=>rw [if_pos (by simp)]; exact ⟨_,_,rfl,fun h=>absurd h (by decide:(7:Int)≠0)⟩
     | none =>
      rw [if_neg (by simp)]
      simp only [bS]
      have hm:l[i] ∈ l:=List.getElem_mem _
      have tk:=List.take_succ_eq_append_getElem c
      have nn:∀ d ∈ l.take i,d.Name≠l[i].Name:=fun d hd he=>by
       have:=g4 d hd
       rw [he,h] at this
       cases this
      have q1:∀ d ∈ l.take (i+1),mget (mput N l[i].Name l[i]) d.Name=some d:=by
       intro d hd
       rw [tk] at hd
       rw [mget_mput]
       rcases List.mem_append.1 hd with hd | hd
       ·rw [if_neg fun he=>nn d hd he.symm]; exact g4 d hd
       ·rw [List.mem_singleton.1 hd,if_pos rfl]
      have q2:∀ k d,mget (mput N l[i].Name l[i]) k=some d→d ∈ l.take (i+1)∧d.Name=k:=by
       intro k d hd
       rw [mget_mput] at hd
       rw [tk]
       split at hd
       ·rename_i hk
        obtain rfl:=Option.some.inj hd
        exact ⟨List.mem_append.2 (.inr (List.mem_singleton.2 rfl)),hk⟩
       ·obtain ⟨r1,r2⟩:=g5 k d hd
        exact ⟨List.mem_append.2 (.inl r1),r2⟩
      have q3:(l.take (i+1)).Pairwise (fun a b=>a.Name≠b.Name):=by
       rw [tk,List.pairwise_append]
       refine ⟨g6,List.pairwise_singleton _ _,fun a ha b hb=>?_⟩
       rw [List.mem_singleton.1 hb]
       exact nn a ha
      by_cases k4:l[i].Kind=4
      ·rw [if_pos k4,i64_ok (by omega),bS,i64_ok (by omega),bS]
       exact ihm (i+1) (t+1) _ c (by omega) (by omega) (by omega) (fun _=>⟨_,hm,k4⟩) q1 q2 q3
      ·rw [if_neg k4,i64_ok (by omega),bS]
       exact ihm (i+1) t _ c (by omega) g1 (by omega) g3 q1 q2 q3
    ·rw [if_neg (by omega)]
     rw [List.take_of_length_le (by omega)] at g4 g5 g6
     by_cases t0:t=0
     ·rw [if_pos t0]; exact ⟨_,_,rfl,fun h=>absurd h (by decide:(6:Int)≠0)⟩
     ·rw [if_neg t0]
      exact L2 N g4 g5 g6 (g3 t0) (l.length+1) 0 (by omega) (by omega) (by simp)
  exact L1 (l.length+1) 0 0 [] (by omega) (by omega) (by omega) (by omega) (fun h=>absurd rfl h) (by simp) (fun k d h=>by cases h) (by simp)
 ·rw [if_pos z]
  exact ⟨_,_,rfl,fun h=>absurd h z⟩
end Go.Y
namespace Go.Y
open Go.Wk Go.Xt
abbrev Nm:=List UInt8
def cE:Nat→TExpr→List Nm
 | 0,_=>[]
 | k+1,x=>(if x.Kind=19∨x.Kind=22 then [x.Name] else [])++(x.Kids.map (cE k)).flatten
def rE:Nat→TExpr→List Nm
 | 0,_=>[]
 | k+1,x=>(if x.Kind=20 then [x.Name] else [])++(x.Kids.map (rE k)).flatten
def cS:Nat→TStat→List Nm
 | 0,_=>[]
 | k+1,s=>(if s.Kind=6 then [] else cE k s.X)++(if s.Kind=3∨s.Kind=4 then (s.Body.map (cS k)).flatten else [])++(if s.Kind=3 then (s.Else.map (cS k)).flatten else [])
def rS:Nat→TStat→List Nm
 | 0,_=>[]
 | k+1,s=>(if s.Kind=6 then [] else rE k s.X)++(if s.Kind=3∨s.Kind=4 then (s.Body.map (rS k)).flatten else [])++(if s.Kind=3 then (s.Else.map (rS k)).flatten else [])
def sS:Nat→TStat→List Nm
 | 0,_=>[]
 | k+1,s=>(if s.Kind=7 then [s.Name] else [])++(if s.Kind=3∨s.Kind=4 then (s.Body.map (sS k)).flatten else [])++(if s.Kind=3 then (s.Else.map (sS k)).flatten else [])
theorem flat_le {α β:Type} (f:α→List β) (g:α→Nat) (h:∀ x,(f x).length≤g x):∀ l:List α,(l.map f).flatten.length≤(l.map g).sum
 | []=>by simp
 | x::l=>by
  have:=flat_le f g h l
  have:=h x
  simp only [List.map_cons,List.flatten_cons,List.length_append,List.sum_cons]
  omega
theorem le_sum {α:Type} (g:α→Nat):∀ (l:List α) (x:α),x ∈ l→g x≤(l.map g).sum
 | y::l,x,h=>by
  rw [List.map_cons,List.sum_cons]
  rcases List.mem_cons.1 h with rfl | h
  ·omega
  ·have:=le_sum g l x h; omega
theorem cE_le:∀ (k:Nat) (x:TExpr),(cE k x).length≤nE k x
 | 0,x=>by simp [cE]
 | k+1,x=>by
  have:=flat_le (cE k) (nE k) (cE_le k) x.Kids
  rw [cE,nE,List.length_append]
  split <;> simp only [List.length_cons,List.length_nil] <;> omega
theorem rE_le:∀ (k:Nat) (x:TExpr),(rE k x).length≤nE k x
 | 0,x=>by simp [rE]
 | k+1,x=>by
  have:=flat_le (rE k) (nE k) (rE_le k) x.Kids
  rw [rE,nE,List.length_append]
  split <;> simp only [List.length_cons,List.length_nil] <;> omega
theorem cS_le:∀ (k:Nat) (x:TStat),(cS k x).length≤nS k x
 | 0,x=>by simp [cS]
 | k+1,x=>by
  have:=flat_le (cS k) (nS k) (cS_le k) x.Body
  have:=flat_le (cS k) (nS k) (cS_le k) x.Else
  have:=cE_le k x.X
  rw [cS,nS,List.length_append,List.length_append]
  split <;> split <;> split <;> (try simp only [List.length_nil]) <;> omega
theorem rS_le:∀ (k:Nat) (x:TStat),(rS k x).length≤nS k x
 | 0,x=>by simp [rS]
 | k+1,x=>by
  have:=flat_le (rS k) (nS k) (rS_le k) x.Body
  have:=flat_le (rS k) (nS k) (rS_le k) x.Else
  have:=rE_le k x.X
  rw [rS,nS,List.length_append,List.length_append]
  split <;> split <;> split <;> (try simp only [List.length_nil]) <;> omega
theorem sS_le:∀ (k:Nat) (x:TStat),(sS k x).length≤nS k x
 | 0,x=>by simp [sS]
 | k+1,x=>by
  have:=flat_le (sS k) (nS k) (sS_le k) x.Body
  have:=flat_le (sS k) (nS k) (sS_le k) x.Else
  rw [sS,nS,List.length_append,List.length_append]
  by_cases h7:x.Kind=7
  ·rw [if_pos h7,if_neg (by omega),if_neg (by omega),if_neg (by omega),if_neg (by omega),if_neg (by omega)]
   simp
  ·rw [if_neg h7]
   split <;> split <;> split <;> (try simp only [List.length_nil]) <;> omega
theorem app_ok {α:Type} {l xs:List α} (h:l.length+xs.length≤4294967296):app l xs=some (l++xs):=if_pos h
theorem uses_expr_t:∀ (n k:Nat) (x:TExpr) (c s r:List Nm),k≤n→OkE k x→c.length+nE k x≤1000000→r.length+nE k x≤1000000→(SemaU_run n).uses_expr c s r x=some (c++cE k x,s,r++rE k x):=by
 intro n
 induction n with
 | zero =>
  intro k x c s r h1 h2
  obtain rfl:k=0:=by omega
  cases h2
 | succ n ih =>
  intro k x c s r h1 h2 h3 h4
  cases k with
  | zero=>cases h2
  | succ k =>
  obtain ⟨k1,k24,hk,hks⟩:=h2
  show uses_expr (SemaU_run n) c s r x=_
  have L:∀ (m i:Nat) (c r:List Nm),i≤x.Kids.length→x.Kids.length<m+i→c.length+((x.Kids.drop i).map (nE k)).sum≤1000000→r.length+((x.Kids.drop i).map (nE k)).sum≤1000000 →
    uses_expr_l1 (SemaU_run n) x m i c s r=some (c++((x.Kids.drop i).map (cE k)).flatten,s,r++((x.Kids.drop i).map (rE k)).flatten):=by
   intro m
   induction m with
   | zero=>intro i c r h1 h2; omega
   | succ m ihm =>
    intro i c r g1 g2 g3 g4
    rw [uses_expr_l1]
    have hl:=hk.le
    by_cases q:i<x.Kids.length
    ·rw [List.drop_eq_getElem_cons q,List.map_cons,List.sum_cons] at g3 g4
     have b1:=cE_le k x.Kids[i]
     have b2:=rE_le k x.Kids[i]
     rw [if_pos (by omega),at_nat,List.getElem?_eq_getElem q,bS,ih k x.Kids[i] c s r (by omega) (hks _ (List.getElem_mem _)) (by omega) (by omega),bS,i64_ok (by omega),bS]
     refine (ihm (i+1) _ _ q (by omega) (by simp only [List.length_append]; omega) (by simp only [List.length_append]; omega)).trans ?_
     rw [List.drop_eq_getElem_cons q]
     simp only [List.map_cons,List.flatten_cons,List.append_assoc]
    ·rw [if_neg (by omega),List.drop_eq_nil_of_le (by omega)]
     simp
  have J1:∀ c r:List Nm,c.length+(x.Kids.map (nE k)).sum≤1000000→r.length+(x.Kids.map (nE k)).sum≤1000000→uses_expr_j1 (SemaU_run n) x s c r=some (c++(x.Kids.map (cE k)).flatten,s,r++(x.Kids.map (rE k)).flatten):=by
   intro c r g1 g2
   have:=L (x.Kids.length+1) 0 c r (by omega) (by omega) (by simpa using g1) (by simpa using g2)
   simpa [uses_expr_j1] using this
  rw [nE] at h3 h4
  have J2:∀ b,(b=true ↔ x.Kind=19∨x.Kind=22)→uses_expr_j2 (SemaU_run n) c x s r b=some (c++cE (k+1) x,s,r++rE (k+1) x):=by
   intro b hb
   rw [uses_expr_j2,cE,rE]
   by_cases q:b=true
   ·have:=hb.1 q
    rw [if_pos q,app_ok (by simp; omega),bS,uses_expr_j3,J1 _ _ (by simp; omega) (by omega),if_pos this,if_neg (by omega)]
    simp
   ·rw [if_neg q]
    have hn:¬ (x.Kind=19∨x.Kind=22):=fun h=>q (hb.2 h)
    by_cases c20:x.Kind=20
    ·rw [if_pos c20,app_ok (by simp; omega),bS,uses_expr_j4,J1 _ _ (by omega) (by simp; omega),if_neg hn,if_pos c20]
     simp
    ·rw [if_neg c20,J1 _ _ (by omega) (by omega),if_neg hn,if_neg c20]
     simp
  rw [uses_expr]
  split
  ·rename_i h; exact J2 _ (by simp [h])
  ·rename_i h; exact J2 _ (by simp [h])
theorem uses_stats_t:∀ (n k:Nat) (l:List TStat) (c s r:List Nm),k+1≤n→l.length≤50→(∀ y ∈ l,OkS k y)→c.length+(l.map (nS k)).sum≤1000000→s.length+(l.map (nS k)).sum≤1000000→r.length+(l.map (nS k)).sum≤1000000 →
  (SemaV_run n).uses_stats c s r l=some (c++(l.map (cS k)).flatten,s++(l.map (sS k)).flatten,r++(l.map (rS k)).flatten):=by
 intro n
 induction n with
 | zero=>intro k l c s r h1; omega
 | succ n ih =>
  intro k l c s r h1 hl hx h3 h4 h5
  show uses_stats n (SemaV_run n) c s r l=_
  have L:∀ (m i:Nat) (c s r:List Nm),i≤l.length→l.length<m+i→c.length+((l.drop i).map (nS k)).sum≤1000000→s.length+((l.drop i).map (nS k)).sum≤1000000→r.length+((l.drop i).map (nS k)).sum≤1000000 →
    uses_stats_l1 n (SemaV_run n) l m i c s r=some (c++((l.drop i).map (cS k)).flatten,s++((l.drop i).map (sS k)).flatten,r++((l.drop i).map (rS k)).flatten):=by
   intro m
   induction m with
   | zero=>intro i c s r h1 h2; omega
   | succ m ihm =>
    intro i c s r g1 g2 g3 g4 g5
    rw [uses_stats_l1]
    by_cases q:i<l.length
    ·rw [List.drop_eq_getElem_cons q,List.map_cons,List.sum_cons] at g3 g4 g5
     rw [if_pos (by omega),at_nat,List.getElem?_eq_getElem q,bS]
     have hy:=hx _ (List.getElem_mem q)
     have b1:=cS_le k l[i]
     have b2:=sS_le k l[i]
     have b3:=rS_le k l[i]
     have nx:=fun c' s' r' (e1:c'=c++cS k l[i]) (e2:s'=s++sS k l[i]) (e3:r'=r++rS k l[i]) =>
      (ihm (i+1) c' s' r' q (by omega) (by rw [e1,List.length_append]; omega) (by rw [e2,List.length_append]; omega) (by rw [e3,List.length_append]; omega)).trans
       (show _=some (c++((l.drop i).map (cS k)).flatten,s++((l.drop i).map (sS k)).flatten,r++((l.drop i).map (rS k)).flatten) by
        rw [List.drop_eq_getElem_cons q,e1,e2,e3]
        simp only [List.map_cons,List.flatten_cons,List.append_assoc])
     generalize l[i]=y at *
     cases k with
     | zero=>cases hy
     | succ k =>
     obtain ⟨k1,k9,oX,oB,oE⟩:=hy
     rw [nS] at g3 g4 g5
     rw [cS] at b1 nx
     rw [sS] at b2 nx
     rw [rS] at b3 nx
     have J5:∀ c' s' r',(y.Kind=3→c'.length+(y.Else.map (nS k)).sum≤1000000∧s'.length+(y.Else.map (nS k)).sum≤1000000∧r'.length+(y.Else.map (nS k)).sum≤1000000) →
       c'=c++((if y.Kind=6 then [] else cE k y.X)++(if y.Kind=3∨y.Kind=4 then (y.Body.map (cS k)).flatten else []))→s'=s++((if y.Kind=7 then [y.Name] else [])++(if y.Kind=3∨y.Kind=4 then (y.Body.map (sS k)).flatten else [])) →
       r'=r++((if y.Kind=6 then [] else rE k y.X)++(if y.Kind=3∨y.Kind=4 then (y.Body.map (rS k)).flatten else [])) →
       uses_stats_j5 (SemaV_run n) i y (uses_stats_l1 n (SemaV_run n) l m) c' s' r'=some (c++((l.drop i).map (cS (k+1))).flatten,s++((l.drop i).map (sS (k+1))).flatten,r++((l.drop i).map (rS (k+1))).flatten):=by
      intro c' s' r' hb e1 e2 e3
      rw [uses_stats_j5]
      by_cases c3:y.Kind=3
      ·obtain ⟨z1,z2,z3⟩:=hb c3
       rw [if_pos c3,ih k y.Else c' s' r' (by omega) (oE c3).1 (oE c3).2 z1 z2 z3,bS,i64_ok (by omega),bS]
       refine nx _ _ _ ?_ ?_ ?_
       ·rw [e1]; simp only [if_pos c3,List.append_assoc]
       ·rw [e2]; simp only [if_pos c3,List.append_assoc]
       ·rw [e3]; simp only [if_pos c3,List.append_assoc]
      ·rw [if_neg c3,i64_ok (by omega),bS]
       refine nx _ _ _ ?_ ?_ ?_
       ·rw [e1]; simp only [if_neg c3,List.append_nil]
       ·rw [e2]; simp only [if_neg c3,List.append_nil]
       ·rw [e3]; simp only [if_neg c3,List.append_nil]
     have J4:∀ c' s' r' b,(b=true ↔ y.Kind=3∨y.Kind=4)→c'=c++(if y.Kind=6 then [] else cE k y.X)→s'=s++(if y.Kind=7 then [y.Name] else [])→r'=r++(if y.Kind=6 then [] else rE k y.X) →
       uses_stats_j4 (SemaV_run n) i y c' s' r' (uses_stats_l1 n (SemaV_run n) l m) b=some (c++((l.drop i).map (cS (k+1))).flatten,s++((l.drop i).map (sS (k+1))).flatten,r++((l.drop i).map (rS (k+1))).flatten):=by
      intro c' s' r' b hb e1 e2 e3
      rw [uses_stats_j4]
      have y1:=cE_le k y.X
      have y2:=rE_le k y.X
      have y3:=flat_le (cS k) (nS k) (cS_le k) y.Body
      have y4:=flat_le (sS k) (nS k) (sS_le k) y.Body
      have y5:=flat_le (rS k) (nS k) (rS_le k) y.Body
      by_cases q:b=true
      ·have c34:=hb.1 q
       rw [if_neg (show y.Kind≠6 by omega),if_pos c34] at g3 g4 g5
       rw [if_neg (show y.Kind≠6 by omega)] at e1 e3
       rw [if_neg (show y.Kind≠7 by omega)] at e2
       have l1:c'.length=c.length+(cE k y.X).length:=by rw [e1,List.length_append]
       have l2:s'.length=s.length:=by rw [e2]; simp
       have l3:r'.length=r.length+(rE k y.X).length:=by rw [e3,List.length_append]
       rw [if_pos q,ih k y.Body c' s' r' (by omega) (oB c34).1 (oB c34).2 (by omega) (by omega) (by omega),bS]
       refine J5 _ _ _ (fun h3=>?_) ?_ ?_ ?_
       ·rw [if_pos h3] at g3 g4 g5
        simp only [List.length_append]
        omega
       ·rw [e1,if_neg (show y.Kind≠6 by omega),if_pos c34,List.append_assoc]
       ·rw [e2,if_neg (show y.Kind≠7 by omega),if_pos c34,List.append_assoc]
       ·rw [e3,if_neg (show y.Kind≠6 by omega),if_pos c34,List.append_assoc]
      ·have hn:¬ (y.Kind=3∨y.Kind=4):=fun h=>q (hb.2 h)
       rw [if_neg q]
       refine J5 _ _ _ (fun h3=>absurd (.inl h3) hn) ?_ ?_ ?_
       ·rw [e1,if_neg hn,List.append_nil]
       ·rw [e2,if_neg hn,List.append_nil]
       ·rw [e3,if_neg hn,List.append_nil]
     have J1:∀ s',s'=s++(if y.Kind=7 then [y.Name] else [])→uses_stats_j1 n (SemaV_run n) i c r y (uses_stats_l1 n (SemaV_run n) l m) s'=some (c++((l.drop i).map (cS (k+1))).flatten,s++((l.drop i).map (sS (k+1))).flatten,r++((l.drop i).map (rS (k+1))).flatten):=by
      intro s' e2
      have J3:∀ c' r',c'=c++(if y.Kind=6 then [] else cE k y.X)→r'=r++(if y.Kind=6 then [] else rE k y.X)→uses_stats_j3 (SemaV_run n) i y (uses_stats_l1 n (SemaV_run n) l m) c' s' r'=some (c++((l.drop i).map (cS (k+1))).flatten,s++((l.drop i).map (sS (k+1))).flatten,r++((l.drop i).map (rS (k+1))).flatten):=by
       intro c' r' e1 e3
       rw [uses_stats_j3]
       split
       ·rename_i h; exact J4 _ _ _ _ (by simp [h]) e1 e2 e3
       ·rename_i h; exact J4 _ _ _ _ (by simp [h]) e1 e2 e3
      rw [uses_stats_j1]
      by_cases c6:y.Kind=6
      ·rw [if_neg (by simpa using c6)]
       exact J3 _ _ (by rw [if_pos c6,List.append_nil]) (by rw [if_pos c6,List.append_nil])
      ·rw [if_neg c6] at g3 g4 g5
       rw [if_pos c6,uses_expr_t n k y.X c s' r (by omega) (oX c6) (by omega) (by omega),bS]
       exact J3 _ _ (by rw [if_neg c6]) (by rw [if_neg c6])
     by_cases c7:y.Kind=7
     ·rw [if_pos c7,app_ok (by simp; omega),bS,uses_stats_j2]
      exact J1 _ (by rw [if_pos c7])
     ·rw [if_neg c7]
      exact J1 _ (by rw [if_neg c7,List.append_nil])
    ·rw [if_neg (by omega),List.drop_eq_nil_of_le (by omega)]
     simp
  rw [uses_stats]
  have:=L (l.length+1) 0 c s r (by omega) (by omega) (by simpa using h3) (by simpa using h4) (by simpa using h5)
  simpa using this
end Go.Y
namespace Go.Y
open Go.Wk Go.Xt
theorem mem_flat {α β:Type} {f:α→List β} {l:List α} {b:β} (h:b ∈ (l.map f).flatten):∃ a ∈ l,b ∈ f a:=by
 obtain ⟨q,hq,hb⟩:=List.mem_flatten.1 h
 obtain ⟨a,ha,rfl⟩:=List.mem_map.1 hq
 exact ⟨a,ha,hb⟩
theorem mem_ite {β:Type} {c:Prop} [Decidable c] {l m:List β} {b:β} (h:b ∈ (if c then l else m)):(c∧b ∈ l)∨(¬ c∧b ∈ m):=by
 by_cases q:c
 ·rw [if_pos q] at h; exact .inl ⟨q,h⟩
 ·rw [if_neg q] at h; exact .inr ⟨q,h⟩
theorem calls_c {p:TSp}:∀ (k:Nat) (x:TExpr),Calls p k x→∀ c ∈ cE k x,∃ d,mget p.named c=some d∧(d.Kind=2∨d.Kind=3)
 | 0,x,h=>by cases h
 | k+1,x,h=>by
  obtain ⟨h1,h2,h3,h4⟩:=h
  intro c hc
  rw [cE] at hc
  rcases List.mem_append.1 hc with hc | hc
  ·rcases mem_ite hc with ⟨q,hc⟩ | ⟨q,hc⟩
   ·rw [List.mem_singleton.1 hc]
    rcases q with q | q
    ·obtain ⟨d,e1,e2⟩:=h1 q; exact ⟨d,e1,.inl e2⟩
    ·obtain ⟨d,e1,e2⟩:=h2 q; exact ⟨d,e1,.inr e2⟩
   ·cases hc
  ·obtain ⟨a,ha,hb⟩:=mem_flat hc
   exact calls_c k a (h4 a ha) c hb
theorem callsS_c {p:TSp}:∀ (k:Nat) (x:TStat),CallsS p k x→∀ c ∈ cS k x,∃ d,mget p.named c=some d∧(d.Kind=2∨d.Kind=3)
 | 0,x,h=>by cases h
 | k+1,x,h=>by
  obtain ⟨h1,h2,h3,h4⟩:=h
  intro c hc
  rw [cS] at hc
  rcases List.mem_append.1 hc with hc | hc
  ·rcases List.mem_append.1 hc with hc | hc
   ·rcases mem_ite hc with ⟨q,hc⟩ | ⟨q,hc⟩
    ·cases hc
    ·exact calls_c k _ (h1 q) c hc
   ·rcases mem_ite hc with ⟨q,hc⟩ | ⟨q,hc⟩
    ·obtain ⟨a,ha,hb⟩:=mem_flat hc
     exact callsS_c k a (h2 q a ha) c hb
    ·cases hc
  ·rcases mem_ite hc with ⟨q,hc⟩ | ⟨q,hc⟩
   ·obtain ⟨a,ha,hb⟩:=mem_flat hc
    exact callsS_c k a (h3 q a ha) c hb
   ·cases hc
def cD (d:TDef):List Nm:=(d.Body.map (cS 39)).flatten
def sD (d:TDef):List Nm:=(d.Body.map (sS 39)).flatten
def rD (d:TDef):List Nm:=(d.Body.map (rS 39)).flatten
def addC (N:List (Nm×TDef)):List Nm→List Nm→List (Option TDef)→List Nm×List (Option TDef)
 | [],had,todo=>(had,todo)
 | c::cs,had,todo=>if had.contains c=true then addC N cs had todo else addC N cs (had++[c]) (todo++[mget N c])
def rch (N:List (Nm×TDef)):Nat→List Nm→List (Option TDef)→List Nm→List Nm→Option TSemaUses
 | 0,_,_,_,_=>none
 | n+1,had,[],s,r=>some ⟨[],s,r⟩
 | n+1,had,none::t,s,r=>none
 | n+1,had,some d::t,s,r=>rch N n (addC N (cD d) had t).1 (addC N (cD d) had t).2 (s++sD d) (r++rD d)
def rem_ (l:List TDef) (had:List Nm):Nat:=(l.filter fun d=>!had.contains d.Name).length
theorem filter_le {α:Type} (P Q:α→Bool) (h:∀ x,Q x=true→P x=true):∀ l:List α,(l.filter Q).length≤(l.filter P).length
 | []=>by simp
 | x::l=>by
  have ih:=filter_le P Q h l
  rw [List.filter_cons,List.filter_cons]
  by_cases q:Q x=true
  ·rw [if_pos q,if_pos (h x q),List.length_cons,List.length_cons]; omega
  ·rw [if_neg q]
   split
   ·rw [List.length_cons]; omega
   ·exact ih
theorem filter_lt {α:Type} (P Q:α→Bool) (h:∀ x,Q x=true→P x=true):∀ (l:List α) (x:α),x ∈ l→P x=true→Q x=false→(l.filter Q).length<(l.filter P).length
 | y::l,x,hx,hp,hq=>by
  have le:=filter_le P Q h l
  rw [List.filter_cons,List.filter_cons]
  rcases List.mem_cons.1 hx with rfl | hx
  ·rw [if_pos hp,if_neg (by simp [hq]),List.length_cons]; omega
  ·have ih:=filter_lt P Q h l x hx hp hq
   by_cases q:Q y=true
   ·rw [if_pos q,if_pos (h y q),List.length_cons,List.length_cons]; omega
   ·rw [if_neg q]
    split
    ·rw [List.length_cons]; omega
    ·exact ih
theorem rem_add (l:List TDef) (had:List Nm) (d:TDef) (hd:d ∈ l) (h:had.contains d.Name=false):rem_ l (had++[d.Name])<rem_ l had:=by
 refine filter_lt _ _ (fun x hx=>?_) l d hd (by simpa using h) (by simp)
 simp only [Bool.not_eq_true',List.contains_eq_mem,List.mem_append,decide_eq_false_iff_not] at hx ⊢
 exact fun h=>hx (.inl h)
structure Todo (p:TSp) (l:List TDef) (had:List Nm) (todo:List (Option TDef)) (q:Nat):Prop where
 hl:had.length+rem_ l had≤30
 td:∀ o ∈ todo,∃ d ∈ l,o=some d∧d.Kind≠1
 q:rem_ l had+todo.length≤q
theorem addC_ok {p:TSp} {l:List TDef} (R:Right p l):∀ (cs:List Nm) (had:List Nm) (todo:List (Option TDef)) (q:Nat),(∀ c ∈ cs,∃ d,mget p.named c=some d∧(d.Kind=2∨d.Kind=3))→Todo p l had todo q→Todo p l (addC p.named cs had todo).1 (addC p.named cs had todo).2 q
 | [],had,todo,q,h,T=>T
 | c::cs,had,todo,q,h,T=>by
  rw [addC]
  have h':∀ c ∈ cs,∃ d,mget p.named c=some d∧(d.Kind=2∨d.Kind=3):=fun c hc=>h c (List.mem_cons_of_mem _ hc)
  by_cases k:had.contains c=true
  ·rw [if_pos k]; exact addC_ok R cs had todo q h' T
  ·rw [if_neg k]
   obtain ⟨d,e1,e2⟩:=h c (List.mem_cons_self ..)
   obtain ⟨m1,m2⟩:=R.only _ _ e1
   have hr:=rem_add l had d m1 (by rw [m2]; simpa using k)
   rw [m2] at hr
   refine addC_ok R cs _ _ q h' ⟨?_,fun o ho=>?_,?_⟩
   ·rw [List.length_append,List.length_singleton]; have:=T.hl; omega
   ·rcases List.mem_append.1 ho with ho | ho
    ·exact T.td o ho
    ·rw [List.mem_singleton.1 ho]; exact ⟨d,m1,e1,by omega⟩
   ·rw [List.length_append,List.length_singleton]; have:=T.q; omega
theorem reach_l2_e {p:TSp} {l:List TDef} (R:Right p l) (u:List Nm×List Nm×List Nm) (s r:List Nm) (K:List Nm→List (Option TDef)→List Nm→List Nm→Option TSemaUses) (hu:∀ c ∈ u.1,∃ d,mget p.named c=some d∧(d.Kind=2∨d.Kind=3)) (hl:u.1.length≤1000000) :
  ∀ (m i:Nat) (had:List Nm) (todo:List (Option TDef)) (q:Nat),i≤u.1.length→u.1.length<m+i→q≤1000→Todo p l had todo q →
   sema_reach_l2 p u s r K m i had todo=K (addC p.named (u.1.drop i) had todo).1 (addC p.named (u.1.drop i) had todo).2 s r:=by
 intro m
 induction m with
 | zero=>intro i had todo q h1 h2; omega
 | succ m ih =>
  intro i had todo q h1 h2 hq T
  rw [sema_reach_l2]
  by_cases c:i<u.1.length
  ·rw [if_pos (by omega),at_nat,List.getElem?_eq_getElem c,bS,List.drop_eq_getElem_cons c,addC]
   have hc:=hu _ (List.getElem_mem c)
   by_cases k:had.contains u.1[i]=true
   ·rw [if_pos k,if_pos k,i64_ok (by omega),bS]
    exact ih (i+1) had todo q c (by omega) hq T
   ·have T1:=T.hl
    have T2:=T.q
    have T':=addC_ok R [u.1[i]] had todo q (fun c hc'=>by rw [List.mem_singleton.1 hc']; exact hc) T
    rw [addC,if_neg k,addC] at T'
    rw [if_neg k,if_neg k,app_ok (by simp; omega),bS,app_ok (by simp; omega),bS,i64_ok (by omega),bS]
    exact ih (i+1) _ _ q c (by omega) hq T'
  ·rw [if_neg (by omega),List.drop_eq_nil_of_le (by omega)]
   rfl
theorem uses_body {p:TSp} {l:List TDef} (R:Right p l) (fu:Nat) (hf:500≤fu) (d:TDef) (hd:d ∈ l) (h1:d.Kind≠1):(SemaV_run fu).uses_stats [] [] [] d.Body=some (cD d,sD d,rD d)∧(cD d).length≤2000∧(sD d).length≤2000∧(rD d).length≤2000:=by
 have ok:=R.ok.ok d hd
 have hn:nD d≤2000:=Nat.le_trans (le_sum nD l d hd) R.ok.n
 rw [nD,if_pos h1] at hn
 have:=uses_stats_t fu 39 d.Body [] [] [] (by omega) (ok.bl h1) (ok.bo h1) (by simp; omega) (by simp; omega) (by simp; omega)
 have a1:=flat_le (cS 39) (nS 39) (cS_le 39) d.Body
 have a2:=flat_le (sS 39) (nS 39) (sS_le 39) d.Body
 have a3:=flat_le (rS 39) (nS 39) (rS_le 39) d.Body
 exact ⟨by rw [this]; rfl,by rw [cD]; omega,by rw [sD]; omega,by rw [rD]; omega⟩
theorem reach_l1_e {p:TSp} {l:List TDef} (R:Right p l) (fu:Nat) (hf:500≤fu):∀ (n q:Nat) (had:List Nm) (todo:List (Option TDef)) (s r:List Nm),q<n→q≤1000→Todo p l had todo q→s.length+2000*q≤1000000000→r.length+2000*q≤1000000000 →
  sema_reach_l1 fu p n had todo s r=rch p.named n had todo s r∧(∃ u,rch p.named n had todo s r=some u∧u.calls=[]):=by
 intro n
 induction n with
 | zero=>intro q had todo s r h1; omega
 | succ n ih =>
  intro q had todo s r h1 h2 T b1 b2
  rw [sema_reach_l1]
  cases todo with
  | nil=>exact ⟨by rw [if_neg (by simp)]; rfl,_,rfl,rfl⟩
  | cons o t =>
   obtain ⟨d,hd,rfl,k1⟩:=T.td o (List.mem_cons_self ..)
   obtain ⟨u1,u2,u3,u4⟩:=uses_body R fu hf d hd k1
   have T2:=T.q
   have T1:=T.hl
   rw [List.length_cons] at T2
   have e1:at_ (some d::t) 0=some (some d):=rfl
   have e2:cut (some d::t) 1 ((some d::t).length:Int)=some t:=by
    rw [cut,if_pos (by simp; omega)]
    simp
   have hc:∀ c ∈ cD d,∃ d',mget p.named c=some d'∧(d'.Kind=2∨d'.Kind=3):=fun c hc=>by
    obtain ⟨a,ha,hb⟩:=mem_flat hc
    exact callsS_c 39 a (R.cs d hd k1 a ha) c hb
   have T':Todo p l had t (q - 1):=⟨T1,fun o ho=>T.td o (List.mem_cons_of_mem _ ho),by omega⟩
   have T3:=addC_ok R (cD d) had t (q - 1) hc T'
   rw [if_pos (by simp),e1,bS,e2,bS,bS,u1,bS,app_ok (by simp only []; omega),bS,app_ok (by simp only []; omega),bS,sema_reach_j1]
   rw [show ((0:Int))=((0:Nat):Int) from rfl,reach_l2_e R (cD d,sD d,rD d) _ _ _ hc (by simp only []; omega) _ 0 had t (q - 1) (by omega) (by simp only []; omega) (by omega) T',List.drop_zero]
   rw [rch]
   exact ih (q - 1) _ _ (s++sD d) (r++rD d) (by omega) (by omega) T3 (by rw [List.length_append]; omega) (by rw [List.length_append]; omega)
theorem reach_e {p:TSp} {l:List TDef} (R:Right p l) (fu:Nat) (hf:500≤fu) (d:TDef) (hd:d ∈ l) (h1:d.Kind≠1):sema_reach fu p d=rch p.named fu [] [some d] [] []∧(∃ u,rch p.named fu [] [some d] [] []=some u∧u.calls=[]):=by
 have hr:rem_ l []≤30:=Nat.le_trans (List.length_filter_le _ _) R.ok.le
 exact reach_l1_e R fu hf fu 31 [] [some d] [] [] (by omega) (by omega) ⟨by simpa using hr,fun o ho=>by rw [List.mem_singleton.1 ho]; exact ⟨d,hd,rfl,h1⟩,by simp; omega⟩ (by simp) (by simp)
def noU:TSemaUses:=⟨[],[],[]⟩
def own3 (L:List (Nm×TSemaUses)) (b:Nm):List TDef→Nm→Nm→Option (Nm×Nm)
 | [],w,r=>some (w,r)
 | t::ts,w,r=>if t.Kind≠4 then own3 L b ts w r else
   if ((mget L t.Name).getD noU).sends.contains b=true∧w≠[] then none else
   if ((mget L t.Name).getD noU).recvs.contains b=true∧r≠[] then none else
   own3 L b ts (if ((mget L t.Name).getD noU).sends.contains b=true then t.Name else w) (if ((mget L t.Name).getD noU).recvs.contains b=true then t.Name else r)
def own2 (L:List (Nm×TSemaUses)) (l:List TDef):List TDef→Int→List TOwner→List TOwner×TFault
 | [],i,acc=>(acc,⟨0,0⟩)
 | x::xs,i,acc=>if x.Kind≠1 then own2 L l xs (i+1) acc else
   match own3 L x.Name l [] [] with
   | none=>([],⟨8,i⟩)
   | some (w,r)=>own2 L l xs (i+1) (acc++[⟨x.Name,w,r⟩])
def own1 (N:List (Nm×TDef)) (fu:Nat):List TDef→List (Nm×TSemaUses)→List (Nm×TSemaUses)
 | [],L=>L
 | d::ds,L=>if d.Kind=4 then own1 N fu ds (mput L d.Name ((rch N fu [] [some d] [] []).getD noU)) else own1 N fu ds L
theorem own_l3_e (l:List TDef) (hl:l.length≤30) (L:List (Nm×TSemaUses)) (i:Int) (acc:List TOwner) (x:TDef) (K:Int→List TOwner→Option (List TOwner×TFault)) (hi:0≤i∧i≤1000) (ha:acc.length≤1000) :
  ∀ (m j:Nat) (w r:Nm),j≤l.length→l.length<m+j→sema_owners_l3 l L i acc x K m j w r=match own3 L x.Name (l.drop j) w r with | none=>some ([],⟨8,i⟩) | some (w',r')=>K (i+1) (acc++[⟨x.Name,w',r'⟩]):=by
 intro m
 induction m with
 | zero=>intro j w r h1 h2; omega
 | succ m ih =>
  intro j w r h1 h2
  rw [sema_owners_l3]
  by_cases c:j<l.length
  ·rw [if_pos (by omega),at_nat,List.getElem?_eq_getElem c,bS,List.drop_eq_getElem_cons c,own3]
   have e0:(TSemaUses.mk [] [] [])=noU:=rfl
   have nx:=fun w r=>ih (j+1) w r c (by omega)
   generalize l[j]=t at *
   by_cases k4:t.Kind≠4
   ·rw [if_pos k4,if_pos k4,i64_ok (by omega),bS]
    exact nx w r
   ·rw [if_neg k4,if_neg k4,e0]
    have J2:∀ w',sema_owners_j2 L i x j r t (sema_owners_l3 l L i acc x K m) w'=if ((mget L t.Name).getD noU).recvs.contains x.Name=true∧r≠[] then some ([],⟨8,i⟩) else
      match own3 L x.Name (l.drop (j+1)) w' (if ((mget L t.Name).getD noU).recvs.contains x.Name=true then t.Name else r) with | none=>some ([],⟨8,i⟩) | some (w',r')=>K (i+1) (acc++[⟨x.Name,w',r'⟩]):=by
     intro w'
     rw [sema_owners_j2,e0]
     by_cases q:((mget L t.Name).getD noU).recvs.contains x.Name=true
     ·rw [if_pos q]
      by_cases z:r≠[]
      ·rw [if_pos z,if_pos ⟨q,z⟩]
      ·rw [if_neg z,if_neg (fun h=>z h.2),if_pos q,sema_owners_j3,i64_ok (by omega),bS]
       exact nx _ _
     ·rw [if_neg q,if_neg (fun h=>q h.1),if_neg q,sema_owners_j3,i64_ok (by omega),bS]
      exact nx _ _
    by_cases q:((mget L t.Name).getD noU).sends.contains x.Name=true
    ·rw [if_pos q]
     by_cases z:w≠[]
     ·rw [if_pos z,if_pos ⟨q,z⟩]
     ·rw [if_neg z,if_neg (fun h=>z h.2),if_pos q,J2]
      split <;> rfl
    ·rw [if_neg q,if_neg (fun h=>q h.1),if_neg q,J2]
     split <;> rfl
  ·rw [if_neg (by omega),List.drop_eq_nil_of_le (by omega),app_ok (by simp; omega),bS,i64_ok (by omega),bS]
   rfl
theorem own_l2_e (l:List TDef) (hl:l.length≤30) (L:List (Nm×TSemaUses)):∀ (m i:Nat) (acc:List TOwner),i≤l.length→l.length<m+i→acc.length≤i→sema_owners_l2 l L m i acc=some (own2 L l (l.drop i) i acc):=by
 intro m
 induction m with
 | zero=>intro i acc h1 h2; omega
 | succ m ih =>
  intro i acc h1 h2 h3
  rw [sema_owners_l2]
  by_cases c:i<l.length
  ·rw [if_pos (by omega),at_nat,List.getElem?_eq_getElem c,bS,List.drop_eq_getElem_cons c,own2]
   by_cases k1:l[i].Kind≠1
   ·rw [if_pos k1,if_pos k1,i64_ok (by omega),bS]
    exact ih (i+1) acc c (by omega) (by omega)
   ·rw [if_neg k1,if_neg k1,show ((0:Int))=((0:Nat):Int) from rfl,own_l3_e l hl L i acc l[i] _ (by omega) (by omega) _ 0 [] [] (by omega) (by omega),List.drop_zero]
    cases h:own3 L l[i].Name l [] [] with
    | none=>rfl
    | some v=>exact ih (i+1) _ c (by omega) (by simp; omega)
  ·rw [if_neg (by omega),List.drop_eq_nil_of_le (by omega)]
   rfl
theorem own_l1_e {p:TSp} {l:List TDef} (R:Right p l) (fu:Nat) (hf:500≤fu) (f:TFault):∀ (m i:Nat) (L:List (Nm×TSemaUses)),i≤l.length→l.length<m+i→sema_owners_l1 fu l (p,f) m i L=some (own2 (own1 p.named fu (l.drop i) L) l l 0 []):=by
 have hl:=R.ok.le
 intro m
 induction m with
 | zero=>intro i L h1 h2; omega
 | succ m ih =>
  intro i L h1 h2
  rw [sema_owners_l1]
  by_cases c:i<l.length
  ·have e0:at_ l (i:Int)=some l[i]:=by rw [at_nat,List.getElem?_eq_getElem c]
   rw [if_pos (by omega),e0,bS,List.drop_eq_getElem_cons c,own1]
   by_cases k4:l[i].Kind=4
   ·obtain ⟨h1',u,h2',-⟩:=reach_e R fu hf l[i] (List.getElem_mem _) (by omega)
    rw [if_pos k4,if_pos k4]
    simp only [bS]
    rw [h1',h2',bS,sema_owners_j1,i64_ok (by omega),bS]
    exact ih (i+1) _ c (by omega)
   ·rw [if_neg k4,if_neg k4,i64_ok (by omega),bS]
    exact ih (i+1) L c (by omega)
  ·rw [if_neg (by omega),List.drop_eq_nil_of_le (by omega)]
   exact own_l2_e l hl L (l.length+1) 0 [] (by omega) (by omega) (by simp)
theorem sema_owners_t (fu:Nat) (hf:500≤fu) (l:List TDef):∃ p f,sema_named fu l=some (p,f)∧((f.Err≠0∧sema_owners fu l=some ([],f))∨(f.Err=0∧Right p l∧sema_owners fu l=some (own2 (own1 p.named fu l []) l l 0 []))):=by
 obtain ⟨p,f,h1,h2⟩:=sema_named_t fu hf l
 refine ⟨p,f,h1,?_⟩
 rw [sema_owners,h1,bS]
 by_cases z:f.Err=0
 ·rw [if_neg (by simpa using z)]
  exact .inr ⟨z,h2 z,own_l1_e (h2 z) fu hf f (l.length+1) 0 [] (by omega) (by omega)⟩
 ·rw [if_pos z]
  exact .inl ⟨z,rfl⟩
end Go.Y
namespace Go.Y
def SzE:Nat→TExpr→Prop
 | 0,_=>False
 | k+1,x=>x.Kids.length≤2513169434916∧∀ y ∈ x.Kids,SzE k y
def SzS:Nat→TStat→Prop
 | 0,_=>False
 | k+1,s=>SzE k s.X∧(s.Body.length≤1099511627776∧∀ y ∈ s.Body,SzS k y)∧(s.Else.length≤1099511627776∧∀ y ∈ s.Else,SzS k y)
def SzD (k:Nat) (d:TDef):Prop:=d.Params.length≤3518437208883∧d.Body.length≤1099511627776∧∀ y ∈ d.Body,SzS k y
def SzP (k:Nat) (l:List TDef):Prop:=l.length≤1099511627776∧∀ d ∈ l,SzD k d
end Go.Y
namespace Go.Y
open Go.Wk Go.Xt
structure DS (d d':TDef):Prop where
 kind:d'.Kind=d.Kind
 typ:d.Kind≠4→bareT d'.Typ=bareT d.Typ
 tk:d.Kind=3→bareT d'.Takes=bareT d.Takes
 ps:d.Kind=2∨d.Kind=3→d'.Params.map (fun q=>(q.Name,bareT q.Typ))=d.Params.map (fun q=>(q.Name,bareT q.Typ))
theorem DS.len {d d':TDef} (h:DS d d') (k:d.Kind=2∨d.Kind=3):d'.Params.length=d.Params.length:=by
 have:=congrArg List.length (h.ps k)
 simpa using this
theorem DS.at {d d':TDef} (h:DS d d') (k:d.Kind=2∨d.Kind=3) {i:Nat} (h1:i<d.Params.length) (h2:i<d'.Params.length):d'.Params[i].Name=d.Params[i].Name∧bareT d'.Params[i].Typ=bareT d.Params[i].Typ:=by
 have:=congrArg (fun l=>l[i]?) (h.ps k)
 simp only [List.getElem?_map,List.getElem?_eq_getElem h1,List.getElem?_eq_getElem h2,Option.map_some,Option.some.injEq,Prod.mk.injEq] at this
 exact this
def Ag (p p':TSp) (n:List UInt8):Prop:=(mget p.named n=none∧mget p'.named n=none)∨∃ d d',mget p.named n=some d∧mget p'.named n=some d'∧DS d d'
def PS (p p':TSp):Prop:=∀ n d,mget p.named n=some d→Ag p p' n
theorem Ag.isK {p p':TSp} {n:List UInt8} (h:Ag p p' n) (k:Int):isK (mget p'.named n) k=isK (mget p.named n) k:=by
 rcases h with ⟨h1,h2⟩ | ⟨d,d',h1,h2,h3⟩
 ·rw [h1,h2]
 ·rw [h1,h2]
  show decide (d'.Kind=k)=decide (d.Kind=k)
  rw [h3.kind]
theorem Ag.get {p p':TSp} {n:List UInt8} {d:TDef} (h:Ag p p' n) (hd:mget p.named n=some d):∃ d',mget p'.named n=some d'∧DS d d':=by
 rcases h with ⟨h1,-⟩ | ⟨e,d',h1,h2,h3⟩
 ·rw [h1] at hd; cases hd
 ·rw [h1] at hd
  obtain rfl:=Option.some.inj hd
  exact ⟨d',h2,h3⟩
def KS {α:Type} (R:α→α→Prop) (l l':List α):Prop:=l'.length=l.length∧∀ (i:Nat) (y:α),l[i]?=some y→∃ y',l'[i]?=some y'∧R y y'
theorem KS.at {α:Type} {R:α→α→Prop} {l l':List α} (h:KS R l l') {i:Nat} (h1:i<l.length):∃ h2:i<l'.length,R l[i] l'[i]:=by
 have h2:i<l'.length:=by rw [h.1]; exact h1
 obtain ⟨y',e,r⟩:=h.2 i _ (List.getElem?_eq_getElem h1)
 rw [List.getElem?_eq_getElem h2] at e
 obtain rfl:=Option.some.inj e
 exact ⟨h2,r⟩
theorem KS.one {α:Type} {R:α→α→Prop} {l l':List α} {a:α} (h:KS R l l') (hl:l=[a]):∃ a',l'=[a']∧R a a':=by
 subst hl
 obtain ⟨a',ha⟩:=Go.Y.one (l:=l') h.1
 subst ha
 obtain ⟨y,e,r⟩:=h.2 0 a rfl
 cases e
 exact ⟨a',rfl,r⟩
theorem KS.two {α:Type} {R:α→α→Prop} {l l':List α} {a b:α} (h:KS R l l') (hl:l=[a,b]):∃ a' b',l'=[a',b']∧R a a'∧R b b':=by
 subst hl
 obtain ⟨a',b',ha⟩:=Go.Y.two (l:=l') h.1
 subst ha
 obtain ⟨y,e,r⟩:=h.2 0 a rfl
 obtain ⟨z,e2,r2⟩:=h.2 1 b rfl
 cases e; cases e2
 exact ⟨a',b',rfl,r,r2⟩
def ES (p p':TSp):Nat→TExpr→TExpr→Prop
 | 0,_,_=>True
 | k+1,x,x'=>x'.Kind=x.Kind∧(x.Kind=3→x'.Name=x.Name)∧(x.Kind=19∨x.Kind=20∨x.Kind=22→x'.Name=x.Name∧Ag p p' x.Name)∧KS (ES p p' k) x.Kids x'.Kids
structure SimE (n:Nat):Prop where
 typed:∀ (k:Nat) (p p':TSp) (d d':TDef) (B:Bl) (x x':TExpr) (t t':TType),PS p p'→EH p d B→DS d d'→OkE k x→ES p p' k x x'→bareT t'=bareT t→3*k+111≤n→(SemaE_run n).sema_typed p' d' B x' t'=(SemaE_run n).sema_typed p d B x t
 args:∀ (k:Nat) (p p':TSp) (d d':TDef) (B:Bl) (x x':TExpr) (kind:Int),PS p p'→EH p d B→DS d d'→(∀ y ∈ x.Kids,OkE k y)→x.Kids.length≤6→(kind=2∨kind=3)→x'.Name=x.Name→Ag p p' x.Name→KS (ES p p' k) x.Kids x'.Kids→3*k+112≤n →
  ∃ od od' e,(SemaE_run n).sema_args p d B x kind=some (od,e)∧(SemaE_run n).sema_args p' d' B x' kind=some (od',e)∧(e=0→∃ f f',od=some f∧od'=some f'∧DS f f'∧f.Kind=kind)
 both:∀ (k:Nat) (p p':TSp) (d d':TDef) (B:Bl) (x x' a b a' b':TExpr),PS p p'→EH p d B→DS d d'→x.Kids=[a,b]→x'.Kids=[a',b']→OkE k a→OkE k b→ES p p' k a a'→ES p p' k b b'→3*k+112≤n→(SemaE_run n).sema_both p' d' B x'=(SemaE_run n).sema_both p d B x
 handle:∀ (k:Nat) (p p':TSp) (d d':TDef) (B:Bl) (x x':TExpr),PS p p'→EH p d B→DS d d'→OkE k x→ES p p' k x x'→3*k+112≤n →
  ∃ od od' e,(SemaE_run n).sema_handle p d B x=some (od,e)∧(SemaE_run n).sema_handle p' d' B x'=some (od',e)∧(e=0→∃ f f',od=some f∧od'=some f'∧DS f f'∧f.Kind=3)
 expr:∀ (k:Nat) (p p':TSp) (d d':TDef) (B:Bl) (x x':TExpr),PS p p'→EH p d B→DS d d'→OkE k x→ES p p' k x x'→3*k+110≤n→(SemaE_run n).sema_expr p' d' B x'=(SemaE_run n).sema_expr p d B x
theorem look_same (fu:Nat) (p p':TSp) (d d':TDef) (B:Bl) (n:List UInt8):sema_look fu p' d' B n=sema_look fu p d B n:=rfl
theorem simE:∀ n,SimE n:=by
 intro n
 induction n with
 | zero=>exact ⟨fun _ _ _ _ _ _ _ _ _ _ _ _ _ _ _ _ h=>by omega,fun _ _ _ _ _ _ _ _ _ _ _ _ _ _ _ _ _ _ h=>by omega,fun _ _ _ _ _ _ _ _ _ _ _ _ _ _ _ _ _ _ _ _ _ h=>by omega,fun _ _ _ _ _ _ _ _ _ _ _ _ _ h=>by omega,fun _ _ _ _ _ _ _ _ _ _ _ _ _ h=>by omega⟩
 | succ n ih =>
  refine ⟨fun k p p' d d' B x x' t t' hP H hD hx hE ht hn=>?_,fun k p p' d d' B x x' kind hP H hD hx hl hk hN hA hK hn=>?_,fun k p p' d d' B x x' a b a' b' hP H hD hx hx' ha hb ea eb hn=>?_,fun k p p' d d' B x x' hP H hD hx hE hn=>?_,fun k p p' d d' B x x' hP H hD hx hE hn=>?_⟩
  ·show sema_typed (SemaE_run n) p' d' B x' t'=sema_typed (SemaE_run n) p d B x t
   rw [sema_typed,sema_typed,ih.expr k p p' d d' B x x' hP H hD hx hE (by omega),sema_bare_e,sema_bare_e,ht]
  ·show ∃ od od' e,sema_args (SemaE_run n) p d B x kind=some (od,e)∧sema_args (SemaE_run n) p' d' B x' kind=some (od',e)∧_
   have hi:=hA.isK kind
   rw [sema_args,sema_args,sema_find_e,sema_find_e,hN,bS,bS,hi]
   by_cases c:isK (mget p.named x.Name) kind=true
   ·obtain ⟨f,hf,fk⟩:=isK_t c
    obtain ⟨f',hf',fs⟩:=hA.get hf
    have fk23:f.Kind=2∨f.Kind=3:=by omega
    have fl:=fs.len fk23
    rw [if_pos c,if_pos c,hf,hf']
    simp only [bS]
    rw [fl,hK.1]
    have hpl:=(H.pg _ _ hf).pl fk23
    by_cases q:(f.Params.length:Int)≠x.Kids.length
    ·rw [decide_eq_true q]
     exact ⟨none,none,5,rfl,rfl,fun h=>absurd h (by decide)⟩
    ·rw [decide_eq_false q,sema_args_j1,sema_args_j1,if_neg (by decide),if_neg (by decide)]
     simp only [bS]
     have L:∀ (m i:Nat),i≤f.Params.length→f.Params.length<m+i→∃ od od' e,sema_args_l1 (SemaE_run n) x p d B (some f,isK (some f) kind) f m i=some (od,e)∧sema_args_l1 (SemaE_run n) x' p' d' B (some f',isK (some f) kind) f' m i=some (od',e)∧(e=0→od=some f∧od'=some f'):=by
      intro m
      induction m with
      | zero=>intro i h1 h2; omega
      | succ m ihm =>
       intro i h1 h2
       rw [sema_args_l1,sema_args_l1,fl]
       by_cases c:i<f.Params.length
       ·have hi:i<x.Kids.length:=by omega
        have c':i<f'.Params.length:=by omega
        obtain ⟨hi',er⟩:=hK.at hi
        obtain ⟨e,e1,-⟩:=(sema_t n).typed k p d B x.Kids[i] f.Params[i].Typ H (hx _ (List.getElem_mem _)) (by omega)
        have e2:=ih.typed k p p' d d' B x.Kids[i] x'.Kids[i] f.Params[i].Typ f'.Params[i].Typ hP H hD (hx _ (List.getElem_mem _)) er (fs.at fk23 c c').2 (by omega)
        rw [if_pos (by omega),if_pos (by omega),at_nat,List.getElem?_eq_getElem c,bS,at_nat,List.getElem?_eq_getElem hi,bS,e1,bS,at_nat,List.getElem?_eq_getElem c',bS,at_nat,List.getElem?_eq_getElem hi',bS,e2,e1,bS]
        by_cases z:e=0
        ·rw [if_neg (by simpa using z),if_neg (by simpa using z),i64_ok (by omega),bS,bS]
         exact ihm (i+1) c (by omega)
        ·rw [if_pos z,if_pos z]
         exact ⟨none,none,e,rfl,rfl,fun h=>absurd h z⟩
       ·rw [if_neg (by omega),if_neg (by omega)]
        exact ⟨some f,some f',0,rfl,rfl,fun _=>⟨rfl,rfl⟩⟩
     obtain ⟨od,od',e,r1,r2,r3⟩:=L (f.Params.length+1) 0 (by omega) (by omega)
     refine ⟨od,od',e,r1,?_,fun hz=>⟨f,f',(r3 hz).1,(r3 hz).2,fs,fk⟩⟩
     rw [fl]
     exact r2
   ·rw [if_neg c,if_neg c]
    exact ⟨none,none,7,rfl,rfl,fun h=>absurd h (by decide)⟩
  ·show sema_both (SemaE_run n) p' d' B x'=sema_both (SemaE_run n) p d B x
   have k0:at_ x.Kids 0=some a:=by rw [hx]; rfl
   have k1:at_ x.Kids 1=some b:=by rw [hx]; rfl
   have k0':at_ x'.Kids 0=some a':=by rw [hx']; rfl
   have k1':at_ x'.Kids 1=some b':=by rw [hx']; rfl
   rw [sema_both,sema_both,k0,k0',bS,bS,k1,k1']
   simp only [bS]
   rw [ih.expr k p p' d d' B a a' hP H hD ha ea (by omega),ih.expr k p p' d d' B b b' hP H hD hb eb (by omega)]
  ·show ∃ od od' e,sema_handle (SemaE_run n) p d B x=some (od,e)∧sema_handle (SemaE_run n) p' d' B x'=some (od',e)∧_
   obtain ⟨t,e,h1,h2⟩:=(sema_t n).expr k p d B x H hx (by omega)
   have h3:=ih.expr k p p' d d' B x x' hP H hD hx hE (by omega)
   rw [sema_handle,sema_handle,h3,h1,bS,bS]
   by_cases z:e=0
   ·rw [if_neg (by simpa using z),if_neg (by simpa using z),sema_plain_e,bS,bS]
    by_cases q:t.Kind≠3
    ·rw [if_pos (decide_eq_true q),if_pos (decide_eq_true q)]
     exact ⟨none,none,9,rfl,rfl,fun h=>absurd h (by decide)⟩
    ·obtain ⟨f,f1,f2⟩:=(h2 z).1 (Decidable.not_not.1 q)
     obtain ⟨f',f3,f4⟩:=(hP _ _ f1).get f1
     rw [if_neg (by simpa using q),if_neg (by simpa using q)]
     exact ⟨_,_,0,rfl,rfl,fun _=>⟨f,f',f1,f3,f4,f2⟩⟩
   ·rw [if_pos z,if_pos z]
    exact ⟨none,none,e,rfl,rfl,fun h=>absurd h z⟩
  ·show sema_expr n (SemaE_run n) p' d' B x'=sema_expr n (SemaE_run n) p d B x
   cases k with
   | zero=>cases hx
   | succ k =>
   obtain ⟨hK,h3,hc,hks⟩:=hE
   obtain ⟨k1,k24,hk,hko⟩:=hx
   have kl:kidN x.Kind=1→∃ a a',x.Kids=[a]∧x'.Kids=[a']∧OkE k a∧ES p p' k a a':=fun h=>by
    obtain ⟨a,ha⟩:=one (l:=x.Kids) (by have:=hk.eq (by omega); omega)
    obtain ⟨a',ha',r⟩:=hks.one ha
    exact ⟨a,a',ha,ha',hko a (by simp [ha]),r⟩
   have kl2:kidN x.Kind=2→∃ a b a' b',x.Kids=[a,b]∧x'.Kids=[a',b']∧OkE k a∧OkE k b∧ES p p' k a a'∧ES p p' k b b':=fun h=>by
    obtain ⟨a,b,ha⟩:=two (l:=x.Kids) (by have:=hk.eq (by omega); omega)
    obtain ⟨a',b',ha',r,r'⟩:=hks.two ha
    exact ⟨a,b,a',b',ha,ha',hko a (by simp [ha]),hko b (by simp [ha]),r,r'⟩
   rw [sema_expr,sema_expr,hK]
   by_cases c1:x.Kind=1
   ·rw [if_pos c1,if_pos c1]
   rw [if_neg c1,if_neg c1]
   by_cases c2:x.Kind=2
   ·rw [if_pos c2,if_pos c2]
   rw [if_neg c2,if_neg c2]
   by_cases c3:x.Kind=3
   ·rw [if_pos c3,if_pos c3,h3 c3,look_same n p p' d d']
   rw [if_neg c3,if_neg c3]
   have one':∀ (a a':TExpr) (t:TType),OkE k a→ES p p' k a a'→(SemaE_run n).sema_typed p' d' B a' t=(SemaE_run n).sema_typed p d B a t:=fun a a' t ho he=>ih.typed k p p' d d' B a a' t t hP H hD ho he rfl (by omega)
   by_cases c4:x.Kind=4
   ·obtain ⟨a,a',ha,ha',ho,he⟩:=kl (by rw [c4]; rfl)
    have k0:at_ x.Kids 0=some a:=by rw [ha]; rfl
    have k0':at_ x'.Kids 0=some a':=by rw [ha']; rfl
    rw [if_pos c4,if_pos c4,k0,k0']
    simp only [sema_num,bS]
    rw [one' a a' _ ho he]
   rw [if_neg c4,if_neg c4]
   by_cases c5:x.Kind=5
   ·obtain ⟨a,a',ha,ha',ho,he⟩:=kl (by rw [c5]; rfl)
    have k0:at_ x.Kids 0=some a:=by rw [ha]; rfl
    have k0':at_ x'.Kids 0=some a':=by rw [ha']; rfl
    rw [if_pos c5,if_pos c5,k0,k0']
    simp only [sema_boolean,bS]
    rw [one' a a' _ ho he]
   rw [if_neg c5,if_neg c5]
   have J3:∀ b,(b=true ↔ x.Kind=11∨x.Kind=12)→sema_expr_j3 (SemaE_run n) x' p' d' B b=sema_expr_j3 (SemaE_run n) x p d B b:=by
    intro b hb
    rw [sema_expr_j3,sema_expr_j3,hK]
    by_cases q:b=true
    ·have c:=hb.1 q
     obtain ⟨a,b',a2,b2,ha,ha',o1,o2,e1,e2⟩:=kl2 (by rcases c with c | c <;> rw [c] <;> rfl)
     rw [if_pos q,if_pos q,ih.both k p p' d d' B x x' a b' a2 b2 hP H hD ha ha' o1 o2 e1 e2 (by omega)]
    rw [if_neg q,if_neg q]
    have q1:x.Kind≠11:=fun h=>q (hb.2 (.inl h))
    have q2:x.Kind≠12:=fun h=>q (hb.2 (.inr h))
    by_cases c19:x.Kind=19
    ·obtain ⟨hN,hA⟩:=hc (.inl c19)
     obtain ⟨od,od',e,h1,h2,h3⟩:=ih.args k p p' d d' B x x' 2 hP H hD hko hk.le (.inl rfl) hN hA hks (by omega)
     rw [if_pos c19,if_pos c19,h1,h2,bS,bS]
     by_cases z:e=0
     ·obtain ⟨f,f',rfl,rfl,g1,g2⟩:=h3 z
      rw [if_neg (by simpa using z),if_neg (by simpa using z)]
      simp only [bS]
      rw [sema_bare_e,sema_bare_e,g1.typ (by omega)]
     ·rw [if_pos z,if_pos z]
    rw [if_neg c19,if_neg c19]
    by_cases c20:x.Kind=20
    ·obtain ⟨hN,hA⟩:=hc (.inr (.inl c20))
     rw [if_pos c20,if_pos c20,sema_find_e,sema_find_e,hN,bS,bS,hA.isK]
     by_cases c:isK (mget p.named x.Name) 1=true
     ·obtain ⟨f,hf,fk⟩:=isK_t c
      obtain ⟨f',hf',fs⟩:=hA.get hf
      rw [if_pos c,if_pos c,hf,hf']
      simp only [bS]
      rw [sema_bare_e,sema_bare_e,fs.typ (by omega)]
     ·rw [if_neg c,if_neg c]
    rw [if_neg c20,if_neg c20]
    by_cases c21:x.Kind=21
    ·obtain ⟨a,a',ha,ha',ho,he⟩:=kl (by rw [c21]; rfl)
     have k0:at_ x.Kids 0=some a:=by rw [ha]; rfl
     have k0':at_ x'.Kids 0=some a':=by rw [ha']; rfl
     rw [if_pos c21,if_pos c21,hD.kind]
     by_cases cd:d.Kind=3
     ·rw [if_neg (by simpa using cd),if_neg (by simpa using cd),k0,k0',sema_bare_e,sema_bare_e,hD.tk cd]
      simp only [bS]
      rw [ih.typed k p p' d d' B a a' d.Typ d'.Typ hP H hD ho he (hD.typ (by omega)) (by omega)]
     ·rw [if_pos cd,if_pos cd]
    rw [if_neg c21,if_neg c21]
    by_cases c22:x.Kind=22
    ·obtain ⟨hN,hA⟩:=hc (.inr (.inr c22))
     obtain ⟨od,od',e,h1,h2,h3⟩:=ih.args k p p' d d' B x x' 3 hP H hD hko hk.le (.inr rfl) hN hA hks (by omega)
     rw [if_pos c22,if_pos c22,h1,h2,hN]
     rfl
    rw [if_neg c22,if_neg c22]
    by_cases c23:x.Kind=23
    ·obtain ⟨a,b',a2,b2,ha,ha',o1,o2,e1,e2⟩:=kl2 (by rw [c23]; rfl)
     obtain ⟨od,od',e,h1,h2,h3⟩:=ih.handle k p p' d d' B a a2 hP H hD o1 e1 (by omega)
     have k0:at_ x.Kids 0=some a:=by rw [ha]; rfl
     have k1:at_ x.Kids 1=some b':=by rw [ha]; rfl
     have k0':at_ x'.Kids 0=some a2:=by rw [ha']; rfl
     have k1':at_ x'.Kids 1=some b2:=by rw [ha']; rfl
     rw [if_pos c23,if_pos c23,k0,k0',bS,bS,h1,h2,bS,bS]
     by_cases z:e=0
     ·obtain ⟨f,f',rfl,rfl,g1,g2⟩:=h3 z
      rw [if_neg (by simpa using z),if_neg (by simpa using z)]
      simp only [bS]
      rw [sema_bare_e,sema_bare_e,g1.typ (by omega),k1,k1']
      simp only [bS]
      rw [ih.typed k p p' d d' B b' b2 f.Takes f'.Takes hP H hD o2 e2 (g1.tk g2) (by omega)]
     ·rw [if_pos z,if_pos z]
    rw [if_neg c23,if_neg c23]
    by_cases c24:x.Kind=24
    ·obtain ⟨a,a',ha,ha',ho,he⟩:=kl (by rw [c24]; rfl)
     obtain ⟨od,od',e,h1,h2,h3⟩:=ih.handle k p p' d d' B a a' hP H hD ho he (by omega)
     have k0:at_ x.Kids 0=some a:=by rw [ha]; rfl
     have k0':at_ x'.Kids 0=some a':=by rw [ha']; rfl
     rw [if_pos c24,if_pos c24,k0,k0',bS,bS,h1,h2]
     rfl
    rw [if_neg c24,if_neg c24]
    have L:∀ (i1 i2:Int) (s1 s2:List UInt8) (m i:Nat),i≤x.Kids.length→x.Kids.length<m+i→sema_expr_l1 (SemaE_run n) x' p' d' B i1 s1 i2 s2 m i=sema_expr_l1 (SemaE_run n) x p d B i1 s1 i2 s2 m i:=by
     intro i1 i2 s1 s2 m
     induction m with
     | zero=>intro i h1 h2; omega
     | succ m ihm =>
      intro i h1 h2
      rw [sema_expr_l1,sema_expr_l1,hks.1]
      by_cases c:i<x.Kids.length
      ·have:=hk.le
       obtain ⟨c',er⟩:=hks.at c
       obtain ⟨e,e1,-⟩:=(sema_t n).typed k p d B x.Kids[i] ⟨i1,s1⟩ H (hko _ (List.getElem_mem _)) (by omega)
       rw [if_pos (by omega),if_pos (by omega),at_nat,List.getElem?_eq_getElem c',bS,one' _ _ _ (hko _ (List.getElem_mem c)) er,e1,bS,at_nat,List.getElem?_eq_getElem c,bS,e1,bS]
       by_cases z:e=0
       ·rw [if_neg (by simpa using z),if_neg (by simpa using z),i64_ok (by omega),bS,bS]
        exact ihm (i+1) c (by omega)
       ·rw [if_pos z,if_pos z]
      ·rw [if_neg (by omega),if_neg (by omega)]
    have J6:∀ (i1 i2:Int) (s1 s2:List UInt8),sema_expr_j6 (SemaE_run n) x' p' d' B i1 s1 i2 s2=sema_expr_j6 (SemaE_run n) x p d B i1 s1 i2 s2:=by
     intro i1 i2 s1 s2
     rw [sema_expr_j6,sema_expr_j6,hks.1]
     exact L i1 i2 s1 s2 (x.Kids.length+1) 0 (by omega) (by omega)
    simp only [sema_num,sema_boolean,bS,J6]
   by_cases c11:x.Kind=11
   ·rw [if_pos c11,if_pos c11]; exact J3 _ (by simp [c11])
   ·rw [if_neg c11,if_neg c11]; exact J3 _ (by simp [c11])
end Go.Y
namespace Go.Y
open Go.Wk Go.Xt
def SS (p p':TSp):Nat→TStat→TStat→Prop
 | 0,_,_=>True
 | k+1,s,s'=>s'.Kind=s.Kind∧(s.Kind=1∨s.Kind=2→s'.Name=s.Name)∧(s.Kind=7→s'.Name=s.Name∧Ag p p' s.Name)∧(s.Kind≠6→ES p p' k s.X s'.X) ∧
   ((s.Kind=3∨s.Kind=4)→KS (SS p p' k) s.Body s'.Body)∧(s.Kind=3→KS (SS p p' k) s.Else s'.Else)
theorem bN {α β:Type} {f:α→Option β}:Option.bind (none:Option α) f=none:=rfl
theorem pop_same (p p':TSp) (d d':TDef) (B:Bl):sema_pop p' d' B=sema_pop p d B:=rfl
structure SimS (n:Nat):Prop where
 stats:∀ (k:Nat) (p p':TSp) (d d':TDef) (B:Bl) (l l':List TStat),PS p p'→EH p d B→DS d d'→l.length≤50→(∀ y ∈ l,OkS k y)→KS (SS p p' k) l l'→B.length+k≤90→5*k+130≤n→(SemaS_run n).sema_stats p' d' B l'=(SemaS_run n).sema_stats p d B l
 stat:∀ (k:Nat) (p p':TSp) (d d':TDef) (B:Bl) (s s':TStat),PS p p'→EH p d B→DS d d'→0<B.length→OkS k s→SS p p' k s s'→B.length+k≤91→5*k+129≤n→(SemaS_run n).sema_stat p' d' B s'=(SemaS_run n).sema_stat p d B s
theorem simS:∀ n,SimS n:=by
 intro n
 induction n with
 | zero=>exact ⟨fun _ _ _ _ _ _ _ _ _ _ _ _ _ _ _ h=>by omega,fun _ _ _ _ _ _ _ _ _ _ _ _ _ _ _ h=>by omega⟩
 | succ n ih =>
  refine ⟨fun k p p' d d' B l l' hP H hD hl hx hK hB hn=>?_,fun k p p' d d' B s s' hP H hD h0 hx hE hB hn=>?_⟩
  ·show sema_stats (SemaS_run n) p' d' B l'=sema_stats (SemaS_run n) p d B l
   rw [sema_stats,sema_stats,app,if_pos (by simp; omega),bS,bS,sema_stats_j1,sema_stats_j1,hK.1]
   have L:∀ (m i:Nat) (B':Bl),i≤l.length→l.length<m+i→B'.length=B.length+1→B'.take B.length=B→ScOk p B'→sema_stats_l1 (SemaS_run n) l' p' d' m i B'=sema_stats_l1 (SemaS_run n) l p d m i B':=by
    intro m
    induction m with
    | zero=>intro i B' h1 h2; omega
    | succ m ihm =>
     intro i B' h1 h2 g1 g2 g3
     rw [sema_stats_l1,sema_stats_l1,hK.1]
     by_cases c:i<l.length
     ·obtain ⟨c',er⟩:=hK.at c
      have H':EH p d B':=⟨H.pg,H.hd,g3,by omega⟩
      obtain ⟨e,B2,r1,r2,r3,r4,-⟩:=(semaS_t n).stat k p d B' l[i] H' (by omega) (hx _ (List.getElem_mem _)) (by omega) (by omega)
      have e2:=ih.stat k p p' d d' B' l[i] l'[i] hP H' hD (by omega) (hx _ (List.getElem_mem _)) er (by omega) (by omega)
      rw [g1,Nat.add_sub_cancel] at r3
      rw [g1] at r2
      rw [if_pos (by omega),if_pos (by omega),at_nat,List.getElem?_eq_getElem c',bS,e2,r1,bS,at_nat,List.getElem?_eq_getElem c,bS,r1,bS]
      by_cases z:e=0
      ·rw [if_neg (by simpa using z),if_neg (by simpa using z),i64_ok (by omega),bS,bS]
       exact ihm (i+1) B2 c (by omega) r2 (r3.trans g2) r4
      ·rw [if_pos z,if_pos z,pop_same p p' d d']
     ·rw [if_neg (by omega),if_neg (by omega),pop_same p p' d d']
   have:=L (l.length+1) 0 (B++[[]]) (by omega) (by omega) (by simp) (by simp) (fun m hm k' t ht=>by
    rcases List.mem_append.1 hm with hm | hm
    ·exact H.sc m hm k' t ht
    ·rw [List.mem_singleton.1 hm] at ht; cases ht)
   simpa using this
  ·show sema_stat n (SemaS_run n) p' d' B s'=sema_stat n (SemaS_run n) p d B s
   cases k with
   | zero=>cases hx
   | succ k =>
   obtain ⟨hK,hN,h7,hX,hb,he⟩:=hE
   obtain ⟨k1,k9,oX,ob,oe⟩:=hx
   have tt:∀ (t t':TType),s.Kind≠6→bareT t'=bareT t→(SemaE_run n).sema_typed p' d' B s'.X t'=(SemaE_run n).sema_typed p d B s.X t:=fun t t' h6 ht=>(simE n).typed k p p' d d' B s.X s'.X t t' hP H hD (oX h6) (hX h6) ht (by omega)
   have te:s.Kind≠6→(SemaE_run n).sema_expr p' d' B s'.X=(SemaE_run n).sema_expr p d B s.X:=fun h6=>(simE n).expr k p p' d d' B s.X s'.X hP H hD (oX h6) (hX h6) (by omega)
   rw [sema_stat,sema_stat,hK]
   by_cases c1:s.Kind=1
   ·rw [if_pos c1,if_pos c1,te (by omega),hN (.inl c1)]
    rfl
   rw [if_neg c1,if_neg c1]
   by_cases c2:s.Kind=2
   ·rw [if_pos c2,if_pos c2,hN (.inr c2),look_same n p p' d d']
    obtain ⟨t',b,g1,-⟩:=sema_look_t H.sc H.bl n (by omega) d s.Name
    rw [g1,bS,bS]
    cases b with
    | false=>rw [if_neg (by simp),if_neg (by simp)]
    | true=>rw [if_pos rfl,if_pos rfl,tt t' t' (by omega) rfl]
   rw [if_neg c2,if_neg c2]
   have J2:∀ b,(b=true ↔ s.Kind=3∨s.Kind=4)→sema_stat_j2 n (SemaS_run n) s' p' d' B b=sema_stat_j2 n (SemaS_run n) s p d B b:=by
    intro b hb'
    rw [sema_stat_j2,sema_stat_j2,hK,hD.kind]
    by_cases q:b=true
    ·have c:=hb'.1 q
     rw [if_pos q,if_pos q,sema_boolean,bS,bS,tt _ _ (by omega) rfl]
     obtain ⟨e,h1,-⟩:=(sema_t n).typed k p d B s.X ⟨2,[]⟩ H (oX (by omega)) (by omega)
     rw [h1,bS,bS]
     by_cases z:e=0
     ·rw [if_neg (by simpa using z),if_neg (by simpa using z),ih.stats k p p' d d' B s.Body s'.Body hP H hD (ob c).1 (ob c).2 (hb c) (by omega) (by omega)]
      obtain ⟨e2,g1,-⟩:=(semaS_t n).stats k p d B s.Body H (ob c).1 (ob c).2 (by omega) (by omega)
      rw [g1,bS,bS]
      have J3:∀ b2,(s.Kind=4→b2=true)→sema_stat_j3 (SemaS_run n) s' p' d' (e2,B) b2=sema_stat_j3 (SemaS_run n) s p d (e2,B) b2:=by
       intro b2 h4
       rw [sema_stat_j3,sema_stat_j3]
       by_cases q2:b2=true
       ·rw [if_pos q2,if_pos q2]
       ·have c3:s.Kind=3:=by
         rcases c with c | c
         ·exact c
         ·exact absurd (h4 c) q2
        rw [if_neg q2,if_neg q2]
        simp only []
        rw [ih.stats k p p' d d' B s.Else s'.Else hP H hD (oe c3).1 (oe c3).2 (he c3) (by omega) (by omega)]
      by_cases z2:e2=0
      ·rw [if_neg (by simpa using z2),if_neg (by simpa using z2),J3 _ (fun h=>by simp [h])]
      ·rw [if_pos z2,if_pos z2,J3 _ (fun _=>rfl)]
     ·rw [if_pos z,if_pos z]
    rw [if_neg q,if_neg q]
    have q3:s.Kind≠3:=fun h=>q (hb'.2 (.inl h))
    have q4:s.Kind≠4:=fun h=>q (hb'.2 (.inr h))
    by_cases c5:s.Kind=5
    ·rw [if_pos c5,if_pos c5]
     by_cases cd:d.Kind≠2
     ·rw [if_pos cd,if_pos cd]
     ·rw [if_neg cd,if_neg cd,tt d.Typ d'.Typ (by omega) (hD.typ (by omega))]
    rw [if_neg c5,if_neg c5]
    by_cases c6:s.Kind=6
    ·rw [if_pos c6,if_pos c6]
    rw [if_neg c6,if_neg c6]
    by_cases c7:s.Kind=7
    ·obtain ⟨hN',hA⟩:=h7 c7
     rw [if_pos c7,if_pos c7,sema_find_e,sema_find_e,hN',bS,bS,hA.isK]
     by_cases c:isK (mget p.named s.Name) 1=true
     ·obtain ⟨f,hf,fk⟩:=isK_t c
      obtain ⟨f',hf',fs⟩:=hA.get hf
      rw [if_pos c,if_pos c,hf,hf']
      simp only [bS]
      rw [tt f.Typ f'.Typ (by omega) (fs.typ (by omega))]
     ·rw [if_neg c,if_neg c]
    rw [if_neg c7,if_neg c7,te c6]
   by_cases c3:s.Kind=3
   ·rw [if_pos c3,if_pos c3]; exact J2 _ (by simp [c3])
   ·rw [if_neg c3,if_neg c3]; exact J2 _ (by simp [c3])
theorem head_same (p p':TSp) (d d':TDef) (hd:OkD d) (hD:DS d d') (hA:d.Kind=2∨d.Kind=3→∀ q ∈ d.Params,q.Typ.Kind=3→Ag p p' q.Typ.Gen):sema_head p' d'=sema_head p d:=by
 have bk:∀ (t t':TType),bareT t'=bareT t→t'.Kind=t.Kind:=fun t t' h=>by
  have:=congrArg TType.Kind h
  rwa [bareT_kind,bareT_kind] at this
 have J2:sema_head_j2 d'=sema_head_j2 d:=by
  rw [sema_head_j2,sema_head_j2,hD.kind]
  simp only [sema_plain_e,bS]
  by_cases c3:d.Kind=3
  ·rw [if_pos c3,if_pos c3,bk _ _ (hD.tk c3),bk _ _ (hD.typ (by omega))]
  ·rw [if_neg c3,if_neg c3]
   by_cases c4:d.Kind≠4
   ·rw [if_pos c4,if_pos c4,bk _ _ (hD.typ c4)]
   ·rw [if_neg c4,if_neg c4]
 have J1:∀ b,(b=true→d.Kind=2∨d.Kind=3)→sema_head_j1 p' d' b=sema_head_j1 p d b:=by
  intro b hb
  rw [sema_head_j1,sema_head_j1]
  by_cases q:b=true
  ·have k23:=hb q
   have fl:=hD.len k23
   have hpl:=(hd.ps k23).1
   rw [if_pos q,if_pos q,fl]
   have L:∀ (m i:Nat) (S:List (List UInt8×Int)),i≤d.Params.length→d.Params.length<m+i→sema_head_l1 p' d' m i S=sema_head_l1 p d m i S:=by
    intro m
    induction m with
    | zero=>intro i S h1 h2; omega
    | succ m ihm =>
     intro i S h1 h2
     rw [sema_head_l1,sema_head_l1,fl]
     by_cases c:i<d.Params.length
     ·have c':i<d'.Params.length:=by omega
      obtain ⟨e1,e2⟩:=hD.at k23 c c'
      have et:sema_typ p' d'.Params[i].Typ=sema_typ p d.Params[i].Typ:=by
       rw [sema_typ,sema_typ,sema_plain_e,sema_plain_e,bk _ _ e2,bS,bS]
       by_cases k:d.Params[i].Typ.Kind≠3
       ·rw [if_pos (decide_eq_true k),if_pos (decide_eq_true k)]
       ·have k3:d.Params[i].Typ.Kind=3:=Decidable.not_not.1 k
        have eg:d'.Params[i].Typ.Gen=d.Params[i].Typ.Gen:=by
         have k3':=bk _ _ e2
         rw [k3] at k3'
         rw [bareT,bareT,if_neg (by simpa using k3'),if_neg (by simpa using k3)] at e2
         rw [e2]
        rw [if_neg (by simpa using k),if_neg (by simpa using k),sema_find_e,sema_find_e,eg,(hA k23 _ (List.getElem_mem c) k3).isK]
        rfl
      rw [if_pos (by omega),if_pos (by omega),at_nat,List.getElem?_eq_getElem c',bS,at_nat,List.getElem?_eq_getElem c,bS,e1]
      generalize i64 ((mget S d.Params[i].Name).getD 0+1)=o
      cases o with
      | none=>rw [bN,bN]
      | some v =>
       rw [bS,bS,et]
       by_cases w:(1:Int)<(mget (mput S d.Params[i].Name v) d.Params[i].Name).getD 0
       ·rw [if_pos w,if_pos w]
       ·rw [if_neg w,if_neg w]
        generalize sema_typ p d.Params[i].Typ=o
        cases o with
        | none=>rw [bN,bN]
        | some r =>
         rw [bS,bS]
         by_cases z:r≠0
         ·rw [if_pos z,if_pos z]
         ·rw [if_neg z,if_neg z,i64_ok (by omega),bS,bS]
          exact ihm (i+1) _ c (by omega)
     ·rw [if_neg (by omega),if_neg (by omega),J2]
   exact L (d.Params.length+1) 0 [] (by omega) (by omega)
  ·rw [if_neg q,if_neg q,J2]
 rw [sema_head,sema_head,hD.kind]
 by_cases c:d.Kind=2
 ·rw [if_pos c,if_pos c]; exact J1 _ fun _=>.inl c
 ·rw [if_neg c,if_neg c]; exact J1 _ fun h=>.inr (of_decide_eq_true h)
theorem body_same (fu:Nat) (hf:500≤fu) (p p':TSp) (d d':TDef) (hP:PS p p') (hp:Pg p) (hh:HeadOk p d) (hd:OkD d) (hD:DS d d') (hB:d.Kind≠1→KS (SS p p' 39) d.Body d'.Body):sema_body fu p' d'=sema_body fu p d:=by
 rw [sema_body,sema_body,hD.kind]
 by_cases c1:d.Kind=1
 ·rw [if_pos c1,if_pos c1]
 ·rw [if_neg c1,if_neg c1]
  have J1:∀ B:Bl,B.length=1→ScOk p B→sema_body_j1 fu p' d' B=sema_body_j1 fu p d B:=by
   intro B h1 h2
   rw [sema_body_j1,sema_body_j1,(simS fu).stats 39 p p' d d' B d.Body d'.Body hP ⟨hp,hh,h2,by omega⟩ hD (hd.bl c1) (hd.bo c1) (hB c1) (by omega) (by omega)]
  by_cases c4:d.Kind=4
  ·rw [if_neg (by simpa using c4),if_neg (by simpa using c4)]
   exact J1 _ rfl (fun m hm k t ht=>by rw [List.mem_singleton.1 hm] at ht; cases ht)
  ·rw [if_pos c4,if_pos c4]
   have k23:d.Kind=2∨d.Kind=3:=by have:=hd.k1; have:=hd.k4; omega
   have hpl:=hh.pl k23
   have fl:=hD.len k23
   rw [fl]
   have L:∀ (m i:Nat) (B:Bl),i≤d.Params.length→d.Params.length<m+i→B.length=1→ScOk p B→sema_body_l1 fu p' d' m i B=sema_body_l1 fu p d m i B:=by
    intro m
    induction m with
    | zero=>intro i B h1 h2; omega
    | succ m ihm =>
     intro i B h1 h2 g1 g2
     rw [sema_body_l1,sema_body_l1,fl]
     by_cases c:i<d.Params.length
     ·have c':i<d'.Params.length:=by omega
      obtain ⟨e1,e2⟩:=hD.at k23 c c'
      have h0:0<B.length:=by omega
      rw [if_pos (by omega),if_pos (by omega),at_nat,List.getElem?_eq_getElem c',bS,at_nat,List.getElem?_eq_getElem c,bS,at_0 h0,bS,bS,sema_bare_e,sema_bare_e,bS,bS,e1,e2,sema_body_j2,sema_body_j2,i64_ok (by omega),bS,bS]
      refine ihm (i+1) _ c (by omega) (by simpa using g1) fun m' hm' k t ht=>?_
      rcases List.mem_or_eq_of_mem_set hm' with hm' | rfl
      ·exact g2 m' hm' k t ht
      ·rw [mget_mput] at ht
       split at ht
       ·obtain rfl:=Option.some.inj ht
        exact (hh.ps k23 _ (List.getElem_mem _)).bare
       ·exact g2 _ (List.getElem_mem _) k t ht
     ·rw [if_neg (by omega),if_neg (by omega)]
      exact J1 B g1 g2
   exact L (d.Params.length+1) 0 _ (by omega) (by omega) rfl (fun m hm k t ht=>by rw [List.mem_singleton.1 hm] at ht; cases ht)
end Go.Y
namespace Go.Y
open Go.Wk Go.Xt
theorem l3_alive_gen (k:Nat):l3_alive (k+60001)=some true:=by kernel_rfl
def bareE:Nat→TExpr→TExpr
 | 0,x=>x
 | k+1,x=>TExpr.mk x.Kind (if x.Kind=1∨x.Kind=2 then x.N else 0) (if x.Kind=3∨x.Kind=20∨x.Kind=19∨x.Kind=22 then x.Name else []) (x.Kids.map (bareE k))
def bareS:Nat→TStat→TStat
 | 0,s=>s
 | k+1,s=>TStat.mk s.Kind (if s.Kind=1∨s.Kind=2∨s.Kind=7 then s.Name else []) (if s.Kind≠6 then bareE k s.X else TExpr.mk 0 0 [] []) (if s.Kind=3∨s.Kind=4 then s.Body.map (bareS k) else []) (if s.Kind=3 then s.Else.map (bareS k) else [])
def bareD (k:Nat) (d:TDef):TDef:=TDef.mk d.Kind d.Name (if d.Kind≠4 then bareT d.Typ else TType.mk 0 []) (if d.Kind=3 then bareT d.Takes else TType.mk 0 []) (if d.Kind=1 then d.Cap else 0)
 (if d.Kind=2∨d.Kind=3 then d.Params.map (fun q=>TParam.mk q.Name (bareT q.Typ)) else []) (if d.Kind=1 then [] else d.Body.map (bareS k))
def BE:Nat→TExpr→TExpr→Prop
 | 0,_,_=>False
 | k+1,x,x'=>x'.Kind=x.Kind∧(x.Kind=1∨x.Kind=2→x'.N=x.N)∧(x.Kind=3∨x.Kind=20∨x.Kind=19∨x.Kind=22→x'.Name=x.Name)∧KS (BE k) x.Kids x'.Kids
def BS:Nat→TStat→TStat→Prop
 | 0,_,_=>False
 | k+1,s,s'=>s'.Kind=s.Kind∧(s.Kind=1∨s.Kind=2∨s.Kind=7→s'.Name=s.Name)∧(s.Kind≠6→BE k s.X s'.X)∧(s.Kind=3∨s.Kind=4→KS (BS k) s.Body s'.Body)∧(s.Kind=3→KS (BS k) s.Else s'.Else)
theorem KS.map {α:Type} {R:α→α→Prop} {f:α→α} {l:List α} (h:∀ y ∈ l,R y (f y)):KS R l (l.map f) :=
 ⟨by simp,fun i y hy=>⟨f y,by rw [List.getElem?_map,hy]; rfl,h y (List.mem_of_getElem? hy)⟩⟩
theorem bareE_BE:∀ (k:Nat) (x:TExpr),SzE k x→BE k x (bareE k x)
 | 0,x,h=>by cases h
 | k+1,x,h=>⟨rfl,fun c=>by simp only [bareE]; rw [if_pos c],fun c=>by simp only [bareE]; rw [if_pos c],KS.map fun y hy=>bareE_BE k y (h.2 y hy)⟩
theorem bareS_BS:∀ (k:Nat) (x:TStat),SzS k x→BS k x (bareS k x)
 | 0,x,h=>by cases h
 | k+1,x,h=>⟨rfl,fun c=>by simp only [bareS]; rw [if_pos c],fun c=>by simp only [bareS]; rw [if_pos c]; exact bareE_BE k _ h.1,fun c=>by simp only [bareS]; rw [if_pos c]; exact KS.map fun y hy=>bareS_BS k y (h.2.1.2 y hy),fun c=>by simp only [bareS]; rw [if_pos c]; exact KS.map fun y hy=>bareS_BS k y (h.2.2.2 y hy)⟩
theorem synE_same:∀ (n k:Nat) (x x':TExpr) (d node:Int),BE k x x'→(SynExpr_run n).syn_expr node x' d=(SynExpr_run n).syn_expr node x d:=by
 intro n
 induction n with
 | zero=>intro k x x' d node h; rfl
 | succ n ih =>
  intro k x x' d node h
  cases k with
  | zero=>cases h
  | succ k =>
  obtain ⟨hK,hN,hM,hks⟩:=h
  show syn_expr n (SynExpr_run n) node x' d=syn_expr n (SynExpr_run n) node x d
  have L:∀ (m i:Nat) (c:Int),syn_expr_l1 (SynExpr_run n) x' d m i c=syn_expr_l1 (SynExpr_run n) x d m i c:=by
   intro m
   induction m with
   | zero=>intro i c; rfl
   | succ m ihm =>
    intro i c
    rw [syn_expr_l1,syn_expr_l1,hks.1]
    by_cases q:i<x.Kids.length
    ·obtain ⟨q',r⟩:=hks.at q
     rw [if_pos (by omega),if_pos (by omega),at_nat,List.getElem?_eq_getElem q',bS,at_nat,List.getElem?_eq_getElem q,bS]
     generalize i64 (d+1)=o
     cases o with
     | none=>rw [bN,bN]
     | some d' =>
      rw [bS,bS,ih k x.Kids[i] x'.Kids[i] d' c r]
      generalize (SynExpr_run n).syn_expr c x.Kids[i] d'=o
      cases o with
      | none=>rw [bN,bN]
      | some e =>
       rw [bS,bS]
       by_cases z:e.1≠0
       ·rw [if_pos z,if_pos z]
       ·rw [if_neg z,if_neg z]
        by_cases w:(i:Int)+1≤9223372036854775807
        ·rw [i64_ok (by omega),bS,bS]
         exact ihm (i+1) e.2
        ·rw [i64,if_neg (by omega),bN,bN]
    ·rw [if_neg (by omega),if_neg (by omega)]
  have J6:∀ (r:Int×Int) b,syn_expr_j6 (SynExpr_run n) x' d r b=syn_expr_j6 (SynExpr_run n) x d r b:=by
   intro r b
   rw [syn_expr_j6,syn_expr_j6,hks.1]
   have:=L (x.Kids.length+1) 0 r.2
   rw [show ((0:Nat):Int)=0 from rfl] at this
   rw [this]
  have J5:∀ (r:Int×Int) (q:Int) b,syn_expr_j5 (SynExpr_run n) x' d r q b=syn_expr_j5 (SynExpr_run n) x d r q b:=by
   intro r q b
   rw [syn_expr_j5,syn_expr_j5,hks.1,J6,J6,J6]
  have J4:∀ (r:Int×Int) (q:Int) b,syn_expr_j4 (SynExpr_run n) x' d r q b=syn_expr_j4 (SynExpr_run n) x d r q b:=by
   intro r q b
   rw [syn_expr_j4,syn_expr_j4,hks.1,J5,J5]
  have J3:∀ (r:Int×Int) b,1≤x.Kind→x.Kind≤24→syn_expr_j3 n (SynExpr_run n) x' d r (kidN x.Kind) b=syn_expr_j3 n (SynExpr_run n) x d r (kidN x.Kind) b:=by
   intro r b k1 k24
   rw [syn_expr_j3,syn_expr_j3,hK]
   simp only [J4]
   by_cases q:b=true
   ·rw [if_pos q,if_pos q]
   rw [if_neg q,if_neg q]
   by_cases c3:x.Kind=3
   ·rw [if_pos c3,if_pos c3,hM (.inl c3)]
   rw [if_neg c3,if_neg c3]
   by_cases c20:x.Kind=20
   ·rw [if_pos c20,if_pos c20,hM (.inr (.inl c20))]
   rw [if_neg c20,if_neg c20]
   by_cases c:kidN x.Kind<0
   ·rw [if_pos c,if_pos c,hM (.inr (.inr ?_))]
    unfold kidN at c
    split at c
    ·omega
    ·split at c
     ·omega
     ·split at c
      ·omega
      ·omega
   ·rw [if_neg c,if_neg c]
  have J2:∀ (r:Int×Int) b,1≤x.Kind→x.Kind≤24→syn_expr_j2 n (SynExpr_run n) x' d r (kidN x.Kind) b=syn_expr_j2 n (SynExpr_run n) x d r (kidN x.Kind) b:=by
   intro r b k1 k24
   rw [syn_expr_j2,syn_expr_j2,hK]
   simp only [J3 _ _ k1 k24]
   by_cases q:b=true
   ·rw [if_pos q,if_pos q]
   rw [if_neg q,if_neg q]
   by_cases c2:x.Kind=2
   ·rw [if_pos c2,if_pos c2,hN (.inr c2)]
   ·rw [if_neg c2,if_neg c2]
  have J1:∀ (r:Int×Int) b,(b=false→1≤x.Kind∧x.Kind≤24)→syn_expr_j1 n (SynExpr_run n) x' d r b=syn_expr_j1 n (SynExpr_run n) x d r b:=by
   intro r b hb
   rw [syn_expr_j1,syn_expr_j1,hK,syn_kids_t]
   by_cases q:b=true
   ·rw [if_pos q,if_pos q]
   ·obtain ⟨k1,k24⟩:=hb (by simpa using q)
    rw [if_neg q,if_neg q,bS,bS]
    simp only [J2 _ _ k1 k24]
    by_cases c1:x.Kind=1
    ·rw [if_pos c1,if_pos c1,hN (.inl c1)]
    ·rw [if_neg c1,if_neg c1]
  rw [syn_expr,syn_expr,hK]
  congr 1
  funext r
  by_cases z:r.1≠0
  ·rw [if_pos z,if_pos z]
  ·rw [if_neg z,if_neg z]
   by_cases c:x.Kind<1
   ·rw [if_pos c,if_pos c,J1 r true fun h=>by cases h]
   ·rw [if_neg c,if_neg c,J1 r _ fun h=>⟨by omega,by have:=of_decide_eq_false h; omega⟩]
theorem synS_same:∀ (n:Nat),(∀ (k:Nat) (l l':List TStat) (d node:Int),KS (BS k) l l'→(SynStat_run n).syn_stats node l' d=(SynStat_run n).syn_stats node l d)∧(∀ (k:Nat) (x x':TStat) (d node:Int),BS k x x'→(SynStat_run n).syn_stat node x' d=(SynStat_run n).syn_stat node x d):=by
 intro n
 induction n with
 | zero=>exact ⟨fun _ _ _ _ _ _=>rfl,fun _ _ _ _ _ _=>rfl⟩
 | succ n ih =>
  obtain ⟨ihl,ihs⟩:=ih
  refine ⟨fun k l l' d node h=>?_,fun k x x' d node h=>?_⟩
  ·show syn_stats (SynStat_run n) node l' d=syn_stats (SynStat_run n) node l d
   have L:∀ (m i:Nat) (c:Int),syn_stats_l1 (SynStat_run n) l' d m i c=syn_stats_l1 (SynStat_run n) l d m i c:=by
    intro m
    induction m with
    | zero=>intro i c; rfl
    | succ m ihm =>
     intro i c
     rw [syn_stats_l1,syn_stats_l1,h.1]
     by_cases q:i<l.length
     ·obtain ⟨q',r⟩:=h.at q
      rw [if_pos (by omega),if_pos (by omega),at_nat,List.getElem?_eq_getElem q',bS,at_nat,List.getElem?_eq_getElem q,bS,ihs k l[i] l'[i] d c r]
      generalize (SynStat_run n).syn_stat c l[i] d=o
      cases o with
      | none=>rw [bN,bN]
      | some e =>
       rw [bS,bS]
       by_cases z:e.1≠0
       ·rw [if_pos z,if_pos z]
       ·rw [if_neg z,if_neg z]
        by_cases w:(i:Int)+1≤9223372036854775807
        ·rw [i64_ok (by omega),bS,bS]
         exact ihm (i+1) e.2
        ·rw [i64,if_neg (by omega),bN,bN]
     ·rw [if_neg (by omega),if_neg (by omega)]
   rw [syn_stats,syn_stats,h.1]
   have:=L (l.length+1) 0 node
   rw [show ((0:Nat):Int)=0 from rfl] at this
   rw [this]
  ·show syn_stat n (SynStat_run n) node x' d=syn_stat n (SynStat_run n) node x d
   cases k with
   | zero=>cases h
   | succ k =>
   obtain ⟨hK,hM,hX,hB,hE⟩:=h
   have J4:∀ c,syn_stat_j4 (SynStat_run n) x' d c=syn_stat_j4 (SynStat_run n) x d c:=by
    intro c
    rw [syn_stat_j4,syn_stat_j4,hK]
    by_cases c3:x.Kind=3
    ·rw [if_pos c3,if_pos c3]
     generalize i64 (d+1)=o
     cases o with
     | none=>rw [bN,bN]
     | some d'=>rw [bS,bS,ihl k x.Else x'.Else d' c (hE c3)]
    ·rw [if_neg c3,if_neg c3]
   have J3:∀ (r:Int×Int) b,(b=true→x.Kind=3∨x.Kind=4)→syn_stat_j3 (SynStat_run n) x' d r b=syn_stat_j3 (SynStat_run n) x d r b:=by
    intro r b hb
    rw [syn_stat_j3,syn_stat_j3]
    simp only [J4]
    by_cases q:b=true
    ·rw [if_pos q,if_pos q]
     generalize i64 (d+1)=o
     cases o with
     | none=>rw [bN,bN]
     | some d'=>rw [bS,bS,ihl k x.Body x'.Body d' r.2 (hB (hb q))]
    ·rw [if_neg q,if_neg q]
   have J2:∀ (r:Int×Int) b,syn_stat_j2 n (SynStat_run n) x' d r b=syn_stat_j2 n (SynStat_run n) x d r b:=by
    intro r b
    rw [syn_stat_j2,syn_stat_j2,hK]
    by_cases q:b=true
    ·rw [if_pos q,if_pos q]
    rw [if_neg q,if_neg q]
    by_cases c6:x.Kind=6
    ·rw [if_pos c6,if_pos c6]
    rw [if_neg c6,if_neg c6]
    generalize i64 (d+1)=o
    cases o with
    | none=>rw [bN,bN]
    | some d' =>
     rw [bS,bS,synE_same n k x.X x'.X d' r.2 (hX c6)]
     generalize (SynExpr_run n).syn_expr r.2 x.X d'=o
     cases o with
     | none=>rw [bN,bN]
     | some e =>
      rw [bS,bS]
      by_cases z:e.1≠0
      ·rw [if_pos z,if_pos z]
      rw [if_neg z,if_neg z]
      by_cases c3:x.Kind=3
      ·rw [if_pos c3,if_pos c3,J3 e true fun _=>.inl c3]
      ·rw [if_neg c3,if_neg c3,J3 e _ fun h=>.inr (of_decide_eq_true h)]
   have J1:∀ (r:Int×Int) b,syn_stat_j1 n (SynStat_run n) x' d r b=syn_stat_j1 n (SynStat_run n) x d r b:=by
    intro r b
    rw [syn_stat_j1,syn_stat_j1,hK]
    simp only [J2]
    by_cases q:b=true
    ·rw [if_pos q,if_pos q]
    rw [if_neg q,if_neg q]
    by_cases c1:x.Kind=1
    ·rw [if_pos c1,if_pos c1,hM (.inl c1)]
    rw [if_neg c1,if_neg c1]
    by_cases c2:x.Kind=2
    ·rw [if_pos c2,if_pos c2,hM (.inr (.inl c2))]
    rw [if_neg c2,if_neg c2]
    by_cases c7:x.Kind=7
    ·rw [if_pos c7,if_pos c7,hM (.inr (.inr c7))]
    ·rw [if_neg c7,if_neg c7]
   rw [syn_stat,syn_stat,hK]
   simp only [J1]
theorem bareT_bareT (t:TType):bareT (bareT t)=bareT t:=by
 unfold bareT
 by_cases c:t.Kind≠3
 ·simp [c]
 ·simp [c]
theorem typ_same (fu:Nat) (t:TType):syn_typ fu (bareT t)=syn_typ fu t:=by
 have hk:=bareT_kind (t:=t)
 have:∀ b,syn_typ_j1 fu (bareT t) b=syn_typ_j1 fu t b:=by
  intro b
  rw [syn_typ_j1,syn_typ_j1,hk]
  by_cases c:t.Kind=3
  ·have e:bareT t=t:=by rw [bareT,if_neg (by simpa using c)]
   rw [e]
  ·rw [if_neg c,if_neg c]
 rw [syn_typ,syn_typ,hk,this,this]
theorem def_same (fu k:Nat) (d:TDef) (node:Int) (hd:SzD k d):syn_def fu node (bareD k d)=syn_def fu node d:=by
 have hK:(bareD k d).Kind=d.Kind:=rfl
 have hN:(bareD k d).Name=d.Name:=rfl
 have J5:∀ r:Int×Int,syn_def_j5 fu (bareD k d) r=syn_def_j5 fu d r:=by
  intro r
  rw [syn_def_j5,syn_def_j5,hK]
  by_cases c:d.Kind≠1
  ·have hb:KS (BS k) d.Body (bareD k d).Body:=by
    show KS (BS k) d.Body (if d.Kind=1 then [] else d.Body.map (bareS k))
    rw [if_neg c]
    exact KS.map fun y hy=>bareS_BS k y (hd.2.2 y hy)
   rw [if_pos c,if_pos c,(synS_same fu).1 k d.Body (bareD k d).Body 2 r.2 hb]
  ·have hc:(bareD k d).Cap=d.Cap:=by
    show (if d.Kind=1 then d.Cap else 0)=d.Cap
    rw [if_pos (Decidable.not_not.1 c)]
   rw [if_neg c,if_neg c,hc]
 have J4:∀ r:Int×Int,syn_def_j4 fu (bareD k d) r=syn_def_j4 fu d r:=by
  intro r
  rw [syn_def_j4,syn_def_j4,hK]
  simp only [J5]
  by_cases c:d.Kind≠4
  ·have ht:(bareD k d).Typ=bareT d.Typ:=by
    show (if d.Kind≠4 then bareT d.Typ else _)=_
    rw [if_pos c]
   rw [if_pos c,if_pos c,ht,typ_same]
  ·rw [if_neg c,if_neg c]
 have J3:∀ r:Int×Int,syn_def_j3 fu (bareD k d) r=syn_def_j3 fu d r:=by
  intro r
  rw [syn_def_j3,syn_def_j3,hK]
  simp only [J4]
  by_cases c:d.Kind=3
  ·have ht:(bareD k d).Takes=bareT d.Takes:=by
    show (if d.Kind=3 then bareT d.Takes else _)=_
    rw [if_pos c]
   rw [if_pos c,if_pos c,ht,typ_same]
  ·rw [if_neg c,if_neg c]
 have J2:∀ (r:Int×Int) b,(b=true→d.Kind=2∨d.Kind=3)→syn_def_j2 fu (bareD k d) r b=syn_def_j2 fu d r b:=by
  intro r b hb
  rw [syn_def_j2,syn_def_j2]
  simp only [J3]
  by_cases q:b=true
  ·have hp:(bareD k d).Params=d.Params.map (fun q=>TParam.mk q.Name (bareT q.Typ)):=by
    show (if d.Kind=2∨d.Kind=3 then _ else _)=_
    rw [if_pos (hb q)]
   have L:∀ (m i:Nat),syn_def_l1 fu (bareD k d) r m i=syn_def_l1 fu d r m i:=by
    intro m
    induction m with
    | zero=>intro i; rfl
    | succ m ihm =>
     intro i
     rw [syn_def_l1,syn_def_l1,hp,List.length_map]
     by_cases w:i<d.Params.length
     ·rw [if_pos (by omega),if_pos (by omega),at_nat,List.getElem?_map,List.getElem?_eq_getElem w,at_nat,List.getElem?_eq_getElem w,bS]
      simp only [Option.map_some,bS]
      rw [typ_same]
      generalize lex_named fu d.Params[i].Name=o
      cases o with
      | none=>rw [bN,bN]
      | some v =>
       rw [bS,bS]
       by_cases y:v=true
       ·rw [if_pos y,if_pos y]
        generalize syn_typ fu d.Params[i].Typ=o
        cases o with
        | none=>rw [bN,bN]
        | some e =>
         rw [bS,bS]
         by_cases z:e≠0
         ·rw [if_pos z,if_pos z]
         ·rw [if_neg z,if_neg z]
          have hle:=hd.1
          rw [i64_ok (by omega),bS,bS]
          exact ihm (i+1)
       ·rw [if_neg y,if_neg y]
     ·rw [if_neg (by omega),if_neg (by omega),J3]
   have e:=L (d.Params.length+1) 0
   rw [show ((0:Nat):Int)=0 from rfl] at e
   rw [if_pos q,if_pos q,hp,List.length_map,e]
  ·rw [if_neg q,if_neg q]
 have J1:∀ (r:Int×Int) b,syn_def_j1 fu (bareD k d) r b=syn_def_j1 fu d r b:=by
  intro r b
  rw [syn_def_j1,syn_def_j1,hK,hN]
  by_cases c2:d.Kind=2
  ·rw [if_pos c2,if_pos c2,J2 r true fun _=>.inl c2]
  ·rw [if_neg c2,if_neg c2,J2 r _ fun h=>.inr (of_decide_eq_true h)]
 rw [syn_def,syn_def,hK]
 simp only [J1]
theorem wrong_same (fu k:Nat) (l:List TDef) (hl:SzP k l):syn_wrong fu (l.map (bareD k))=syn_wrong fu l:=by
 have L:∀ (m i:Nat) (c:Int),syn_wrong_l1 fu (l.map (bareD k)) m i c=syn_wrong_l1 fu l m i c:=by
  intro m
  induction m with
  | zero=>intro i c; rfl
  | succ m ihm =>
   intro i c
   rw [syn_wrong_l1,syn_wrong_l1,List.length_map]
   by_cases w:i<l.length
   ·rw [if_pos (by omega),if_pos (by omega),at_nat,List.getElem?_map,List.getElem?_eq_getElem w,at_nat,List.getElem?_eq_getElem w,bS]
    simp only [Option.map_some,bS]
    rw [def_same fu k _ c (hl.2 _ (List.getElem_mem w))]
    generalize syn_def fu c l[i]=o
    cases o with
    | none=>rw [bN,bN]
    | some e =>
     rw [bS,bS]
     by_cases z:e.1≠0
     ·rw [if_pos z,if_pos z]
     ·have:=hl.1
      rw [if_neg z,if_neg z,i64_ok (by omega),bS,bS]
      exact ihm (i+1) e.2
   ·rw [if_neg (by omega),if_neg (by omega)]
 rw [syn_wrong,syn_wrong,List.length_map]
 have:=L (l.length+1) 0 0
 rw [show ((0:Nat):Int)=0 from rfl] at this
 rw [this]
end Go.Y
namespace Go.Y
open Go.Wk Go.Xt
theorem bareD_DS (k:Nat) (d:TDef):DS d (bareD k d):=by
 refine ⟨rfl,fun h=>?_,fun h=>?_,fun h=>?_⟩
 ·show bareT (if d.Kind≠4 then bareT d.Typ else _)=_
  rw [if_pos h,bareT_bareT]
 ·show bareT (if d.Kind=3 then bareT d.Takes else _)=_
  rw [if_pos h,bareT_bareT]
 ·show (if d.Kind=2∨d.Kind=3 then d.Params.map (fun q=>TParam.mk q.Name (bareT q.Typ)) else []).map (fun q=>(q.Name,bareT q.Typ))=_
  rw [if_pos h,List.map_map]
  apply List.map_congr_left
  intro q _
  simp [bareT_bareT]
def bareN (k:Nat) (N:List (Nm×TDef)):List (Nm×TDef):=N.map fun x=>(x.1,bareD k x.2)
theorem mget_bareN (k:Nat):∀ (N:List (Nm×TDef)) (n:Nm),mget (bareN k N) n=(mget N n).map (bareD k)
 | [],n=>rfl
 | (a,d)::N,n=>by
  show mget ((a,bareD k d)::bareN k N) n=_
  rw [mget,mget]
  by_cases c:a=n
  ·rw [if_pos c,if_pos c]; rfl
  ·rw [if_neg c,if_neg c,mget_bareN k N n]
theorem mput_bareN (k:Nat):∀ (N:List (Nm×TDef)) (n:Nm) (d:TDef),mput (bareN k N) n (bareD k d)=bareN k (mput N n d)
 | [],n,d=>rfl
 | (a,e)::N,n,d=>by
  show mput ((a,bareD k e)::bareN k N) n (bareD k d)=_
  rw [mput,mput]
  by_cases c:a=n
  ·rw [if_pos c,if_pos c]; rfl
  ·rw [if_neg c,if_neg c,mput_bareN k N n d]; rfl
theorem bare_ag (k:Nat) (l l':List TDef) (N:List (Nm×TDef)) (n:Nm):Ag ⟨l,N⟩ ⟨l',bareN k N⟩ n:=by
 have h:=mget_bareN k N n
 cases e:mget N n with
 | none=>rw [e] at h; exact .inl ⟨e,h⟩
 | some d=>rw [e] at h; exact .inr ⟨d,_,e,h,bareD_DS k d⟩
theorem be_es {p p':TSp} (hA:∀ n,Ag p p' n):∀ (k:Nat) (x x':TExpr) (m:Nat),BE k x x'→ES p p' m x x'
 | 0,x,x',m,h=>by cases h
 | k+1,x,x',0,h=>trivial
 | k+1,x,x',m+1,h=>by
  obtain ⟨h1,h2,h3,h4⟩:=h
  refine ⟨h1,fun c=>h3 (.inl c),fun c=>⟨h3 (by rcases c with c | c | c <;> simp [c]),hA _⟩,h4.1,fun i y hy=>?_⟩
  obtain ⟨y',e,r⟩:=h4.2 i y hy
  exact ⟨y',e,be_es hA k y y' m r⟩
theorem bs_ss {p p':TSp} (hA:∀ n,Ag p p' n):∀ (k:Nat) (x x':TStat) (m:Nat),BS k x x'→SS p p' m x x'
 | 0,x,x',m,h=>by cases h
 | k+1,x,x',0,h=>trivial
 | k+1,x,x',m+1,h=>by
  obtain ⟨h1,h2,h3,h4,h5⟩:=h
  refine ⟨h1,fun c=>h2 (by rcases c with c | c <;> simp [c]),fun c=>⟨h2 (by simp [c]),hA _⟩,fun c=>be_es hA k _ _ m (h3 c),fun c=>⟨(h4 c).1,fun i y hy=>?_⟩,fun c=>⟨(h5 c).1,fun i y hy=>?_⟩⟩
  ·obtain ⟨y',e,r⟩:=(h4 c).2 i y hy
   exact ⟨y',e,bs_ss hA k y y' m r⟩
  ·obtain ⟨y',e,r⟩:=(h5 c).2 i y hy
   exact ⟨y',e,bs_ss hA k y y' m r⟩
theorem bare_body (k m:Nat) {p p':TSp} (hA:∀ n,Ag p p' n) (d:TDef) (hd:SzD k d) (k1:d.Kind≠1):KS (SS p p' m) d.Body (bareD k d).Body:=by
 show KS (SS p p' m) d.Body (if d.Kind=1 then [] else d.Body.map (bareS k))
 rw [if_neg k1]
 exact KS.map fun y hy=>bs_ss hA k y _ m (bareS_BS k y (hd.2.2 y hy))
section
variable {fu k:Nat} {l:List TDef}
theorem l3_bare (hf:500≤fu) (ok:OkP l) (hl:SzP k l) (N:List (Nm×TDef)) (hN:∀ n d,mget N n=some d→d ∈ l) (hh:∀ d ∈ l,HeadOk ⟨l,N⟩ d):∀ (m i:Nat),sema_named_l3 fu (l.map (bareD k)) (bareN k N) m i=(sema_named_l3 fu l N m i).map fun r=>(⟨l.map (bareD k),bareN k r.1.named⟩,r.2):=by
 have hle:=ok.le
 intro m
 induction m with
 | zero=>intro i; rfl
 | succ m ih =>
  intro i
  rw [sema_named_l3,sema_named_l3,List.length_map]
  by_cases c:i<l.length
  ·have hA:=bare_ag k l (l.map (bareD k)) N
   have hm:l[i] ∈ l:=List.getElem_mem c
   have e:=body_same fu hf ⟨l,N⟩ ⟨l.map (bareD k),bareN k N⟩ l[i] (bareD k l[i]) (fun n d _=>hA n) (fun n d hd=>hh d (hN n d hd)) (hh _ hm) (ok.ok _ hm) (bareD_DS k _) fun k1=>bare_body k 39 hA _ (hl.2 _ hm) k1
   rw [if_pos (by omega),if_pos (by omega),at_nat,List.getElem?_map,List.getElem?_eq_getElem c,at_nat,List.getElem?_eq_getElem c,bS]
   simp only [Option.map_some,bS]
   rw [e]
   generalize sema_body fu ⟨l,N⟩ l[i]=o
   cases o with
   | none=>rw [bN,bN]; rfl
   | some r =>
    rw [bS,bS]
    by_cases z:r≠0
    ·rw [if_pos z,if_pos z]; rfl
    ·rw [if_neg z,if_neg z,i64_ok (by omega),bS,bS]
     exact ih (i+1)
  ·rw [if_neg (by omega),if_neg (by omega)]; rfl
theorem l2_bare (hf:500≤fu) (ok:OkP l) (hl:SzP k l) (N:List (Nm×TDef)) (hN:∀ n d,mget N n=some d→d ∈ l):∀ (m i:Nat),i≤l.length→(∀ d ∈ l.take i,HeadOk ⟨l,N⟩ d)→sema_named_l2 fu (l.map (bareD k)) (bareN k N) m i=(sema_named_l2 fu l N m i).map fun r=>(⟨l.map (bareD k),bareN k r.1.named⟩,r.2):=by
 have hle:=ok.le
 intro m
 induction m with
 | zero=>intro i _ _; rfl
 | succ m ih =>
  intro i hi g
  rw [sema_named_l2,sema_named_l2,List.length_map]
  by_cases c:i<l.length
  ·have hA:=bare_ag k l (l.map (bareD k)) N
   have hm:l[i] ∈ l:=List.getElem_mem c
   have e:=head_same ⟨l,N⟩ ⟨l.map (bareD k),bareN k N⟩ l[i] (bareD k l[i]) (ok.ok _ hm) (bareD_DS k _) fun _ q _ _=>hA _
   obtain ⟨r,e1,e2⟩:=sema_head_t ⟨l,N⟩ l[i] (ok.ok _ hm)
   rw [if_pos (by omega),if_pos (by omega),at_nat,List.getElem?_map,List.getElem?_eq_getElem c,at_nat,List.getElem?_eq_getElem c,bS]
   simp only [Option.map_some,bS]
   rw [e,e1,bS,bS]
   by_cases z:r≠0
   ·rw [if_pos z,if_pos z]; rfl
   ·rw [if_neg z,if_neg z,i64_ok (by omega),bS,bS]
    refine ih (i+1) c fun d hd=>?_
    rw [List.take_succ_eq_append_getElem c] at hd
    rcases List.mem_append.1 hd with hd | hd
    ·exact g d hd
    ·rw [List.mem_singleton.1 hd]; exact e2 (Decidable.not_not.1 z)
  ·rw [if_neg (by omega),if_neg (by omega)]
   rw [List.take_of_length_le (by omega)] at g
   exact l3_bare hf ok hl N hN g _ 0
theorem l1_bare (hf:500≤fu) (ok:OkP l) (hl:SzP k l):∀ (m i:Nat) (t:Int) (N:List (Nm×TDef)),(∀ n d,mget N n=some d→d ∈ l)→sema_named_l1 fu (l.map (bareD k)) m t i (bareN k N)=(sema_named_l1 fu l m t i N).map fun r=>(⟨l.map (bareD k),bareN k r.1.named⟩,r.2):=by
 have hle:=ok.le
 intro m
 induction m with
 | zero=>intro i t N _; rfl
 | succ m ih =>
  intro i t N hN
  rw [sema_named_l1,sema_named_l1,List.length_map]
  by_cases c:i<l.length
  ·have e0:at_ l (i:Int)=some l[i]:=by rw [at_nat,List.getElem?_eq_getElem c]
   have e1:at_ (l.map (bareD k)) (i:Int)=some (bareD k l[i]):=by rw [at_nat,List.getElem?_map,List.getElem?_eq_getElem c]; rfl
   have hs:(mget (bareN k N) l[i].Name).isSome=(mget N l[i].Name).isSome:=by rw [mget_bareN,Option.isSome_map]
   have hN':∀ n d,mget (mput N l[i].Name l[i]) n=some d→d ∈ l:=by
    intro n d hd
    rw [mget_mput] at hd
    split at hd
    ·obtain rfl:=Option.some.inj hd; exact List.getElem_mem c
    ·exact hN n d hd
   rw [if_pos (by omega),if_pos (by omega),e0,e1,bS,bS,bS,bS,bS,bS,bS,bS]
   show (if (mget (bareN k N) l[i].Name).isSome=true then _ else _)=_
   rw [hs]
   by_cases q:(mget N l[i].Name).isSome=true
   ·rw [if_pos q,if_pos q]; rfl
   ·rw [if_neg q,if_neg q]
    show (if l[i].Kind=4 then _ else _)=_
    have hp:mput (bareN k N) (bareD k l[i]).Name (bareD k l[i])=bareN k (mput N l[i].Name l[i]):=mput_bareN k N l[i].Name l[i]
    rw [hp]
    by_cases k4:l[i].Kind=4
    ·rw [if_pos k4,if_pos k4]
     generalize i64 (t+1)=o
     cases o with
     | none=>rw [bN,bN]; rfl
     | some t' =>
      rw [bS,bS,i64_ok (by omega),bS,bS]
      exact ih (i+1) t' _ hN'
    ·rw [if_neg k4,if_neg k4,i64_ok (by omega),bS,bS]
     exact ih (i+1) t _ hN'
  ·have c':¬ (i:Int)<(l.length:Int):=by omega
   rw [if_neg c',if_neg c']
   by_cases t0:t=0
   ·rw [if_pos t0,if_pos t0]; rfl
   ·rw [if_neg t0,if_neg t0]
    exact l2_bare hf ok hl N hN _ 0 (by omega) (by simp)
theorem named_bare (hf:500≤fu) (hl:SzP k l):sema_named fu (l.map (bareD k))=(sema_named fu l).map fun r=>(⟨l.map (bareD k),bareN k r.1.named⟩,r.2):=by
 obtain ⟨f,h1,h2⟩:=syn_wrong_t fu (by omega) l
 rw [sema_named,sema_named,wrong_same fu k l hl,h1,bS,bS]
 by_cases z:f.Err≠0
 ·rw [if_pos z,if_pos z]; rfl
 ·obtain ⟨-,ok⟩:=h2 (Decidable.not_not.1 z)
  rw [if_neg z,if_neg z,List.length_map]
  exact l1_bare hf ok hl _ 0 0 [] fun n d h=>by cases h
end
theorem ks_map {α β:Type} {R:α→α→Prop} (f:α→β) (hf:∀ y y',R y y'→f y'=f y) {l l':List α} (h:KS R l l'):l'.map f=l.map f:=by
 apply List.ext_getElem?
 intro i
 rw [List.getElem?_map,List.getElem?_map]
 cases e:l[i]? with
 | none =>
  have hi:l.length≤i:=List.getElem?_eq_none_iff.1 e
  rw [List.getElem?_eq_none (by rw [h.1]; exact hi)]
 | some y =>
  obtain ⟨y',e',r⟩:=h.2 i y e
  rw [e']
  exact congrArg some (hf y y' r)
theorem cE_bare:∀ (m k:Nat) (x x':TExpr),BE k x x'→cE m x'=cE m x∧rE m x'=rE m x
 | 0,k,x,x',h=>⟨rfl,rfl⟩
 | m+1,0,x,x',h=>by cases h
 | m+1,k+1,x,x',h=>by
  obtain ⟨h1,h2,h3,h4⟩:=h
  rw [cE,cE,rE,rE,h1,ks_map (cE m) (fun y y' r=>(cE_bare m k y y' r).1) h4,ks_map (rE m) (fun y y' r=>(cE_bare m k y y' r).2) h4]
  constructor
  ·by_cases c:x.Kind=19∨x.Kind=22
   ·rw [if_pos c,if_pos c,h3 (by rcases c with c | c <;> simp [c])]
   ·rw [if_neg c,if_neg c]
  ·by_cases c:x.Kind=20
   ·rw [if_pos c,if_pos c,h3 (by simp [c])]
   ·rw [if_neg c,if_neg c]
theorem cS_bare:∀ (m k:Nat) (x x':TStat),BS k x x'→cS m x'=cS m x∧rS m x'=rS m x∧sS m x'=sS m x
 | 0,k,x,x',h=>⟨rfl,rfl,rfl⟩
 | m+1,0,x,x',h=>by cases h
 | m+1,k+1,x,x',h=>by
  obtain ⟨h1,h2,h3,h4,h5⟩:=h
  have a1:(if x.Kind=6 then [] else cE m x'.X)=(if x.Kind=6 then [] else cE m x.X)∧(if x.Kind=6 then [] else rE m x'.X)=(if x.Kind=6 then [] else rE m x.X):=by
   by_cases c:x.Kind=6
   ·rw [if_pos c,if_pos c,if_pos c,if_pos c]; exact ⟨rfl,rfl⟩
   ·rw [if_neg c,if_neg c,if_neg c,if_neg c,(cE_bare m k _ _ (h3 c)).1,(cE_bare m k _ _ (h3 c)).2]; exact ⟨rfl,rfl⟩
  have a2:∀ f:TStat→List Nm,(∀ y y',BS k y y'→f y'=f y)→(if x.Kind=3∨x.Kind=4 then (x'.Body.map f).flatten else [])=(if x.Kind=3∨x.Kind=4 then (x.Body.map f).flatten else []):=by
   intro f hf
   by_cases c:x.Kind=3∨x.Kind=4
   ·rw [if_pos c,if_pos c,ks_map f hf (h4 c)]
   ·rw [if_neg c,if_neg c]
  have a3:∀ f:TStat→List Nm,(∀ y y',BS k y y'→f y'=f y)→(if x.Kind=3 then (x'.Else.map f).flatten else [])=(if x.Kind=3 then (x.Else.map f).flatten else []):=by
   intro f hf
   by_cases c:x.Kind=3
   ·rw [if_pos c,if_pos c,ks_map f hf (h5 c)]
   ·rw [if_neg c,if_neg c]
  have a4:(if x.Kind=7 then [x'.Name] else [])=(if x.Kind=7 then [x.Name] else []):=by
   by_cases c:x.Kind=7
   ·rw [if_pos c,if_pos c,h2 (by simp [c])]
   ·rw [if_neg c,if_neg c]
  have f1:=fun y y' r=>(cS_bare m k y y' r).1
  have f2:=fun y y' r=>(cS_bare m k y y' r).2.1
  have f3:=fun y y' r=>(cS_bare m k y y' r).2.2
  rw [cS,cS,rS,rS,sS,sS,h1,a1.1,a1.2,a2 _ f1,a2 _ f2,a2 _ f3,a3 _ f1,a3 _ f2,a3 _ f3,a4]
  exact ⟨rfl,rfl,rfl⟩
theorem cD_bare (k:Nat) (d:TDef) (hd:SzD k d) (k1:d.Kind≠1):cD (bareD k d)=cD d∧rD (bareD k d)=rD d∧sD (bareD k d)=sD d:=by
 have hb:KS (BS k) d.Body (bareD k d).Body:=by
  show KS (BS k) d.Body (if d.Kind=1 then [] else d.Body.map (bareS k))
  rw [if_neg k1]
  exact KS.map fun y hy=>bareS_BS k y (hd.2.2 y hy)
 refine ⟨?_,?_,?_⟩
 ·rw [cD,cD,ks_map _ (fun y y' r=>(cS_bare 39 k y y' r).1) hb]
 ·rw [rD,rD,ks_map _ (fun y y' r=>(cS_bare 39 k y y' r).2.1) hb]
 ·rw [sD,sD,ks_map _ (fun y y' r=>(cS_bare 39 k y y' r).2.2) hb]
theorem addC_bare (k:Nat) (N:List (Nm×TDef)):∀ (cs had:List Nm) (todo:List (Option TDef)),addC (bareN k N) cs had (todo.map (Option.map (bareD k)))=((addC N cs had todo).1,(addC N cs had todo).2.map (Option.map (bareD k)))
 | [],had,todo=>rfl
 | c::cs,had,todo=>by
  rw [addC,addC]
  split
  ·exact addC_bare k N cs had todo
  ·rw [mget_bareN]
   have:=addC_bare k N cs (had++[c]) (todo++[mget N c])
   rw [List.map_append,List.map_singleton] at this
   exact this
theorem rch_bare {p:TSp} {l:List TDef} (R:Right p l) (k:Nat) (hl:SzP k l):∀ (n:Nat) (had:List Nm) (todo:List (Option TDef)) (s r:List Nm),(∀ o ∈ todo,∃ d ∈ l,o=some d∧d.Kind≠1)→rch (bareN k p.named) n had (todo.map (Option.map (bareD k))) s r=rch p.named n had todo s r
 | 0,had,todo,s,r,g=>by cases todo <;> rfl
 | n+1,had,[],s,r,g=>rfl
 | n+1,had,none::t,s,r,g=>rfl
 | n+1,had,some d::t,s,r,g=>by
  obtain ⟨d',hd,e,k1⟩:=g _ (List.mem_cons_self ..)
  obtain rfl:=Option.some.inj e
  obtain ⟨c1,c2,c3⟩:=cD_bare k d (hl.2 d hd) k1
  show rch (bareN k p.named) (n+1) had (some (bareD k d)::t.map (Option.map (bareD k))) s r=_
  rw [rch,rch,c1,c2,c3,addC_bare]
  refine rch_bare R k hl n _ _ _ _ ?_
  have hc:∀ c ∈ cD d,∃ d',mget p.named c=some d'∧(d'.Kind=2∨d'.Kind=3):=fun c hc=>by
   obtain ⟨a,ha,hb⟩:=mem_flat hc
   exact callsS_c 39 a (R.cs d hd k1 a ha) c hb
  have gd:∀ (cs had:List Nm) (todo:List (Option TDef)),(∀ c ∈ cs,∃ d,mget p.named c=some d∧(d.Kind=2∨d.Kind=3))→(∀ o ∈ todo,∃ d ∈ l,o=some d∧d.Kind≠1)→∀ o ∈ (addC p.named cs had todo).2,∃ d ∈ l,o=some d∧d.Kind≠1:=by
   intro cs
   induction cs with
   | nil=>intro had todo _ g; exact g
   | cons c cs ih =>
    intro had todo h g
    have h':∀ c ∈ cs,∃ d,mget p.named c=some d∧(d.Kind=2∨d.Kind=3):=fun x hx=>h x (List.mem_cons_of_mem _ hx)
    rw [addC]
    split
    ·exact ih had todo h' g
    ·refine ih _ _ h' fun o ho=>?_
     rcases List.mem_append.1 ho with ho | ho
     ·exact g o ho
     ·obtain ⟨d,e1,e2⟩:=h c (List.mem_cons_self ..)
      rw [List.mem_singleton.1 ho]
      exact ⟨d,(R.only _ _ e1).1,e1,by omega⟩
  exact gd _ _ _ hc fun o ho=>g o (List.mem_cons_of_mem _ ho)
theorem own1_bare {p:TSp} {l:List TDef} (R:Right p l) (k:Nat) (hl:SzP k l) (fu:Nat):∀ (xs:List TDef) (L:List (Nm×TSemaUses)),(∀ x ∈ xs,x ∈ l)→own1 (bareN k p.named) fu (xs.map (bareD k)) L=own1 p.named fu xs L
 | [],L,h=>rfl
 | x::xs,L,h=>by
  have h':∀ x ∈ xs,x ∈ l:=fun y hy=>h y (List.mem_cons_of_mem _ hy)
  rw [List.map_cons,own1,own1]
  show (if x.Kind=4 then _ else _)=_
  by_cases c:x.Kind=4
  ·have e:=rch_bare R k hl fu [] [some x] [] [] fun o ho=>⟨x,h x (List.mem_cons_self ..),List.mem_singleton.1 ho,by omega⟩
   have e':rch (bareN k p.named) fu [] [some (bareD k x)] [] []=rch p.named fu [] [some x] [] []:=e
   rw [if_pos c,if_pos c,e']
   exact own1_bare R k hl fu xs _ h'
  ·rw [if_neg c,if_neg c]
   exact own1_bare R k hl fu xs _ h'
theorem own3_bare (k:Nat) (L:List (Nm×TSemaUses)) (b:Nm):∀ (ts:List TDef) (w r:Nm),own3 L b (ts.map (bareD k)) w r=own3 L b ts w r
 | [],w,r=>rfl
 | t::ts,w,r=>by
  rw [List.map_cons,own3,own3]
  show (if t.Kind≠4 then own3 L b (ts.map (bareD k)) w r else if ((mget L t.Name).getD noU).sends.contains b=true∧w≠[] then none else if ((mget L t.Name).getD noU).recvs.contains b=true∧r≠[] then none else own3 L b (ts.map (bareD k)) (if ((mget L t.Name).getD noU).sends.contains b=true then t.Name else w) (if ((mget L t.Name).getD noU).recvs.contains b=true then t.Name else r))=_
  rw [own3_bare k L b ts,own3_bare k L b ts]
theorem own2_bare (k:Nat) (L:List (Nm×TSemaUses)) (l:List TDef):∀ (xs:List TDef) (i:Int) (acc:List TOwner),own2 L (l.map (bareD k)) (xs.map (bareD k)) i acc=own2 L l xs i acc
 | [],i,acc=>rfl
 | x::xs,i,acc=>by
  rw [List.map_cons,own2,own2,own3_bare]
  show (if x.Kind≠1 then own2 L (l.map (bareD k)) (xs.map (bareD k)) (i+1) acc else match own3 L x.Name l [] [] with | none=>([],⟨8,i⟩) | some (w,r)=>own2 L (l.map (bareD k)) (xs.map (bareD k)) (i+1) (acc++[⟨x.Name,w,r⟩]))=_
  rw [own2_bare k L l xs]
  split
  ·rfl
  ·cases own3 L x.Name l [] [] with
   | none=>rfl
   | some v=>exact own2_bare k L l xs _ _
theorem owners_bare (fu k:Nat) (hf:500≤fu) (l:List TDef) (hl:SzP k l):sema_owners fu (l.map (bareD k))=sema_owners fu l∧∃ r,sema_owners fu l=some r:=by
 obtain ⟨p,f,h1,h2⟩:=sema_owners_t fu hf l
 obtain ⟨p',f',g1,g2⟩:=sema_owners_t fu hf (l.map (bareD k))
 rw [named_bare hf hl,h1] at g1
 obtain ⟨rfl,rfl⟩:=Prod.mk.inj (Option.some.inj g1)
 rcases h2 with ⟨z,h⟩ | ⟨z,R,h⟩
 ·rcases g2 with ⟨-,g⟩ | ⟨z',-⟩
  ·exact ⟨g.trans h.symm,_,h⟩
  ·exact absurd z' z
 ·rcases g2 with ⟨z',-⟩ | ⟨-,-,g⟩
  ·exact absurd z z'
  ·refine ⟨?_,_,h⟩
   rw [g,h]
   simp only []
   rw [own1_bare R k hl fu l [] fun x h=>h,own2_bare]
end Go.Y
namespace Go.Y
open Go.Wk Go.Xt
abbrev Wd:=List UInt8
def isLet (c:UInt8):Bool:=decide (97≤c.toNat∧c.toNat≤122∨c.toNat=95)
def isDig (c:UInt8):Bool:=decide (48≤c.toNat∧c.toNat≤57)
def kindOf:Wd→Int
 | []=>3
 | c::_=>if isLet c=true then 1 else if isDig c=true then 2 else 3
structure Tok1 (t:TToken) (w:Wd):Prop where
 tx:t.Text=w
 kd:t.Kind=kindOf w
 nm:kindOf w=2→pint w=some t.Num
def Tks:List TToken→List Wd→Prop
 | [],[]=>True
 | t::ts,w::ws=>Tok1 t w∧Tks ts ws
 | _,_=>False
theorem Tks.nil {A:List TToken} (h:Tks A []):A=[]:=by
 cases A with
 | nil=>rfl
 | cons t A=>cases h
theorem Tks.cons {A:List TToken} {w:Wd} {ws:List Wd} (h:Tks A (w::ws)):∃ t A',A=t::A'∧Tok1 t w∧Tks A' ws:=by
 cases A with
 | nil=>cases h
 | cons t A=>exact ⟨t,A,rfl,h.1,h.2⟩
theorem Tks.app:∀ {u v:List Wd} {A:List TToken},Tks A (u++v)→∃ A1 A2,A=A1++A2∧Tks A1 u∧Tks A2 v
 | [],v,A,h=>⟨[],A,rfl,trivial,h⟩
 | w::u,v,A,h=>by
  obtain ⟨t,A',rfl,h1,h2⟩:=Tks.cons h
  obtain ⟨A1,A2,rfl,h3,h4⟩:=Tks.app h2
  exact ⟨t::A1,A2,rfl,⟨h1,h3⟩,h4⟩
theorem cut_tail {α:Type} (t:α) (B:List α):cut (t::B) 1 ((t::B).length:Int)=some B:=by
 rw [cut,if_pos ⟨by omega,by simp; omega,by omega⟩]
 simp
theorem is_hit {t:TToken} {B:List TToken} {e d:Int} {w:Wd} (h:t.Text=w):p_is (t::B) e d w=some (true,B,e,d):=by
 rw [p_is,p_sees,if_pos (by simp),at_0 (by simp),bS,bS]
 show (if (decide (t.Text=w))=true then _ else _)=_
 rw [if_pos (by simpa using h),cut_tail,bS]
theorem is_miss {t:TToken} {B:List TToken} {e d:Int} {w:Wd} (h:t.Text≠w):p_is (t::B) e d w=some (false,t::B,e,d):=by
 rw [p_is,p_sees,if_pos (by simp),at_0 (by simp),bS,bS]
 show (if (decide (t.Text=w))=true then _ else _)=_
 rw [if_neg (by simpa using h)]
theorem is_nil {e d:Int} {w:Wd}:p_is [] e d w=some (false,[],e,d):=by
 rw [p_is,p_sees,if_neg (by simp),bS,if_neg (by simp)]
theorem need_hit {t:TToken} {B:List TToken} {e d:Int} {w:Wd} (h:t.Text=w):p_need (t::B) e d [w]=some (B,e,d):=by
 rw [p_need,p_need_l1,if_pos (by simp),at_0 (by simp),bS]
 show Option.bind (p_is (t::B) e d w) _=_
 rw [is_hit h,bS,if_pos rfl,i64_ok (by omega),bS]
 show p_need_l1 [w] 1 1 B e d=_
 rw [p_need_l1,if_neg (by simp)]
def Nmd (w:Wd):Prop:=∀ fu,20≤fu→lex_named fu w=some true
theorem Nmd.let1 {w:Wd} (h:Nmd w):kindOf w=1:=by
 have h:=h 20 (Nat.le_refl _)
 cases w with
 | nil=>exact absurd h (by decide)
 | cons c w =>
  rw [lex_named,if_neg (by simp; omega)] at h
  have bad:∀ o:Option Bool,lex_named_j1 20 (c::w) true≠some true:=fun _ h=>by cases h
  split at h
  ·exact absurd h (bad none)
  ·rw [at_0 (by simp),bS] at h
   have e:lx_letter c=some (isLet c):=by
    rw [lx_letter,isLet]
    split
    ·split
     ·exact congrArg some (decide_eq_true (by omega)).symm
     ·exact congrArg some (decide_eq_decide.2 (by omega))
    ·exact congrArg some (decide_eq_decide.2 (by omega))
   show kindOf (c::w)=1
   rw [kindOf]
   by_cases q:isLet c=true
   ·rw [if_pos q]
   ·exfalso
    change Option.bind (lx_letter c) _=_ at h
    rw [e,bS,if_neg q] at h
    exact bad none h
theorem name_ok {fu:Nat} (hf:20≤fu) {t:TToken} {w:Wd} {B:List TToken} {e d:Int} (h:Tok1 t w) (hn:Nmd w):p_name fu (t::B) e d=some (w,B,e,d):=by
 have hk:=h.kd
 rw [hn.let1] at hk
 rw [p_name,if_neg (by simp; omega),at_0 (by simp),bS]
 show p_name_j1 fu (t::B) e d (decide (t.Kind≠1))=_
 rw [decide_eq_false (by simpa using hk),p_name_j1,if_neg (by decide),at_0 (by simp),bS]
 show Option.bind (lex_named fu t.Text) _=_
 rw [h.tx,hn fu hf,bS,if_pos rfl,cut_tail,bS]
 show some (t.Text,B,e,d)=_
 rw [h.tx]
theorem Nmd.ne {w:Wd} (h:Nmd w) {k:Wd} (hk:scont tx_0 ([32]++k++[32])=some true):w≠k:=by
 rintro rfl
 have h:=h 20 (Nat.le_refl _)
 rw [lex_named] at h
 have bad:lex_named_j1 20 w true≠some true:=fun h=>by cases h
 split at h
 ·exact bad h
 ·split at h
  ·exact bad h
  ·rename_i h1 h2
   have h0:0<w.length:=by omega
   rw [at_0 h0,bS] at h
   cases e:lx_letter w[0] with
   | none=>rw [e,bN] at h; cases h
   | some b =>
    rw [e,bS] at h
    cases b with
    | false=>rw [if_neg (by decide)] at h; exact bad h
    | true =>
     have c1:cat [32] w=some ([32]++w):=if_pos (by simp; omega)
     have c2:cat ([32]++w) [32]=some ([32]++w++[32]):=if_pos (by simp; omega)
     rw [if_pos rfl,c1,bS,c2,bS,hk,bS] at h
     exact bad h
theorem Nmd.ne_sign {w:Wd} (h:Nmd w) {k:Wd} (hk:kindOf k≠1):w≠k:=by
 rintro rfl
 exact hk h.let1
def own (k:Int):Nat:=if k=18 then 1 else if k=17 then 2 else if 11≤k∧k≤16 then 3 else if k=6∨k=7 then 4 else if 8≤k∧k≤10 then 5 else if k=4∨k=5 then 6 else 7
def sgn (k:Int):Wd:=if k=18 then [111,114] else if k=17 then [97,110,100] else if k=11 then [61,61] else if k=12 then [33,61] else if k=13 then [60] else if k=14 then [60,61] else if k=15 then [62] else if k=16 then [62,61] else if k=6 then [43] else if k=7 then [45] else if k=8 then [42] else if k=9 then [47] else if k=10 then [37] else if k=4 then [45] else [110,111,116]
def wT (f:TExpr→List Wd) (l:List TExpr):List Wd:=(l.map fun x=>[44]::f x).flatten
def wA (f:TExpr→List Wd):List TExpr→List Wd
 | []=>[[40],[41]]
 | x::l=>[40]::(f x++(wT f l++[[41]]))
def wC (f:Nat→TExpr→List Wd) (x:TExpr):List Wd :=
 if x.Kind=1 then [Lib.itoa x.N]
 else if x.Kind=2 then [if x.N=1 then [116,114,117,101] else [102,97,108,115,101]]
 else if x.Kind=3 then [x.Name]
 else if x.Kind=4∨x.Kind=5 then sgn x.Kind::(match x.Kids with | a::_=>f 6 a | _=>[])
 else if x.Kind≤18 then (match x.Kids with | a::b::_=>f (if own x.Kind=3 then 4 else own x.Kind) a++sgn x.Kind::f (own x.Kind+1) b | _=>[])
 else if x.Kind=19 then x.Name::wA (f 1) x.Kids
 else if x.Kind=20 then [[114,101,99,118],[40],x.Name,[41]]
 else if x.Kind=21 then [121,105,101,108,100]::wA (f 1) x.Kids
 else if x.Kind=22 then [115,116,97,114,116]::x.Name::wA (f 1) x.Kids
 else if x.Kind=23 then [114,101,115,117,109,101]::wA (f 1) x.Kids
 else [97,108,105,118,101]::wA (f 1) x.Kids
def wE:Nat→Nat→TExpr→List Wd
 | 0,need,x=>[]
 | k+1,need,x=>if own x.Kind<need then [40]::(wC (wE k) x++[[41]]) else wC (wE k) x
def FmE:Nat→TExpr→Prop
 | 0,_=>False
 | k+1,x=>1≤x.Kind∧x.Kind≤24∧KidsOk x∧(x.Kind=1→0≤x.N∧x.N≤999999999999999)∧(x.Kind=2→x.N=0∨x.N=1)∧((x.Kind=3∨x.Kind=20∨x.Kind=19∨x.Kind=22)→Nmd x.Name)∧∀ y ∈ x.Kids,FmE k y
def LV:List TSynLevel:=[(TSynLevel.mk (mput ([]:List (List UInt8×Int)) [111,114] 18) false),(TSynLevel.mk (mput ([]:List (List UInt8×Int)) [97,110,100] 17) false),(TSynLevel.mk (mput (mput (mput (mput (mput (mput ([]:List (List UInt8×Int)) [61,61] 11) [33,61] 12) [60] 13) [60,61] 14) [62] 15) [62,61] 16) true),(TSynLevel.mk (mput (mput ([]:List (List UInt8×Int)) [43] 6) [45] 7) false),(TSynLevel.mk (mput (mput (mput ([]:List (List UInt8×Int)) [42] 8) [47] 9) [37] 10) false)]
theorem levels_e:p_levels=some LV:=rfl
def sg (q:Nat) (w:Wd):Int:=((LV[q]?).map fun l=>(mget l.signs w).getD 0).getD 0
def once (q:Nat):Bool:=q == 2
def Fol (q:Nat) (B:List TToken):Prop:=∀ t B',B=t::B'→t.Text≠[40]∧∀ m,q≤m→m<5→sg m t.Text=0
theorem Fol.up {q q':Nat} {B:List TToken} (h:Fol q B) (hq:q≤q'):Fol q' B:=fun t B' e=>⟨(h t B' e).1,fun m h1 h2=>(h t B' e).2 m (by omega) h2⟩
def run (n:Nat) (q:Nat) (A:List TToken) (e d:Int):Option (TExpr×List TToken×Int×Int) :=
 if q=7 then (ParE_run n).p_primary A e d else if q=6 then (ParE_run n).p_unary A e d else (ParE_run n).p_level A e d q
def C (N D:Nat) (q:Nat) (ws:List Wd) (r:TExpr):Prop:=∀ (n:Nat) (A B:List TToken) (e d:Int),N≤n→0≤d→d+D≤200→Tks A ws→Fol q B→run n q (A++B) e d=some (r,B,e,d)
def loopE (n m q:Nat) (B:List TToken) (e d:Int) (r:TExpr):Option (TExpr×List TToken×Int×Int):=p_level_l1 (ParE_run n) q LV m B e d r.Kind r.N r.Name r.Kids
def Sp (N D c:Nat) (q:Nat) (ws:List Wd) (r:TExpr):Prop:=∀ (n:Nat) (A B:List TToken) (e d:Int),N≤n→0≤d→d+D≤200→Tks A ws→Fol (q+1) B→∃ m,n≤m+c∧run (n+1) q (A++B) e d=loopE n m q B e d r
theorem lv_at {q:Nat} (h:q<5):∃ l,LV[q]?=some l∧at_ LV (q:Int)=some l∧l.once=once q∧∀ w,sg q w=(mget l.signs w).getD 0:=by
 have hl:LV.length=5:=rfl
 have e:LV[q]?=some LV[q]:=List.getElem?_eq_getElem (by omega)
 refine ⟨LV[q],e,by rw [at_nat,e],?_,fun w=>by rw [sg,e]; rfl⟩
 match q,h with
 | 0,_=>rfl
 | 1,_=>rfl
 | 2,_=>rfl
 | 3,_=>rfl
 | 4,_=>rfl
theorem run_level {n q:Nat} (hq:q<5) (A:List TToken) (e d:Int):run (n+1) q A e d=(run n (q+1) A e d).bind fun r=>loopE n n q r.2.1 r.2.2.1 r.2.2.2 r.1:=by
 have L:∀ m:Nat,m<5→p_level n (ParE_run n) A e d (m:Int)=((ParE_run n).p_level A e d ((m+1:Nat):Int)).bind fun r=>p_level_l1 (ParE_run n) (m:Int) LV n r.2.1 r.2.2.1 r.2.2.2 r.1.Kind r.1.N r.1.Name r.1.Kids:=by
  intro m hm
  have hl:LV.length=5:=rfl
  rw [p_level,levels_e,bS,if_neg (by rw [hl]; omega),i64_ok (by omega),bS]
  rfl
 rw [run,if_neg (by omega),if_neg (by omega)]
 show p_level n (ParE_run n) A e d (q:Int)=_
 rw [L q hq,run,if_neg (by omega),if_neg (by omega)]
 rfl
theorem eta4 {o:Option (TExpr×List TToken×Int×Int)}:Option.bind o (fun r=>some (r.1,r.2.1,r.2.2.1,r.2.2.2))=o:=by cases o <;> rfl
theorem run_five {n:Nat} (A:List TToken) (e d:Int):run (n+1) 5 A e d=run n 6 A e d:=by
 show p_level n (ParE_run n) A e d 5=(ParE_run n).p_unary A e d
 rw [p_level,levels_e,bS,if_pos (by rfl)]
 exact eta4
theorem loop_end {n m q:Nat} {B:List TToken} {e d:Int} {r:TExpr} (hq:q<5) (h:Fol q B):loopE n (m+1) q B e d r=some (r,B,e,d):=by
 obtain ⟨l,-,h1,-,h2⟩:=lv_at hq
 rw [loopE,p_level_l1]
 cases B with
 | nil=>rw [if_neg (by simp),p_level_j1]; cases r; rfl
 | cons t B =>
  have h3:=(h t B rfl).2 q (Nat.le_refl _) hq
  rw [h2] at h3
  rw [if_pos (by simp),h1,bS,at_0 (by simp),bS]
  show (if (mget l.signs t.Text).getD 0=0 then _ else _)=_
  rw [if_pos h3,p_level_j1]
  cases r; rfl
theorem C.lift {N D q:Nat} {ws:List Wd} {r:TExpr} (hq:q<5) (h:C N D (q+1) ws r):C (N+1) D q ws r:=by
 intro n A B e d hn h0 hd hA hB
 obtain ⟨n,rfl⟩:∃ n',n=n'+1:=⟨n - 1,by omega⟩
 rw [run_level hq,h n A B e d (by omega) h0 hd hA (hB.up (by omega)),bS]
 cases n with
 | zero =>
  exfalso
  have:=h 0 A B e d (by omega) h0 hd hA (hB.up (by omega))
  rw [run,if_neg (by omega)] at this
  split at this <;> cases this
 | succ n=>exact loop_end hq hB
theorem C.lift5 {N D:Nat} {ws:List Wd} {r:TExpr} (h:C N D 6 ws r):C (N+1) D 5 ws r:=by
 intro n A B e d hn h0 hd hA hB
 obtain ⟨n,rfl⟩:∃ n',n=n'+1:=⟨n - 1,by omega⟩
 rw [run_five]
 exact h n A B e d (by omega) h0 hd hA (hB.up (by omega))
theorem C.lift6 {N D:Nat} {w:Wd} {ws:List Wd} {r:TExpr} (h1:w≠[45]) (h2:w≠[110,111,116]) (h:C N D 7 (w::ws) r):C (N+1) D 6 (w::ws) r:=by
 intro n A B e d hn h0 hd hA hB
 obtain ⟨n,rfl⟩:∃ n',n=n'+1:=⟨n - 1,by omega⟩
 have h':=h n A B e d (by omega) h0 hd hA (hB.up (by omega))
 obtain ⟨t,A',rfl,ht,-⟩:=Tks.cons hA
 show p_unary (ParE_run n) (t::A'++B) e d=_
 rw [p_unary,List.cons_append,is_miss (by rw [ht.tx]; exact h1),bS]
 simp only [Bool.false_eq_true,if_false]
 rw [is_miss (by rw [ht.tx]; exact h2),bS]
 simp only [Bool.false_eq_true,if_false]
 have h'':(ParE_run n).p_primary (t::(A'++B)) e d=some (r,B,e,d):=h'
 rw [h'',bS]
theorem C.more {N N' D D' q:Nat} {ws:List Wd} {r:TExpr} (h:C N D q ws r) (hN:N≤N') (hD:D≤D'):C N' D' q ws r:=fun n A B e d h1 h2 h3=>h n A B e d (by omega) h2 (by omega)
theorem C.down {N D q:Nat} {ws:List Wd} {r:TExpr} (hq:q≤5) (h:C N D q ws r):∀ (j:Nat),j≤q→C (N+j) D (q - j) ws r
 | 0,_=>h
 | j+1,hj=>by
  have h1:=C.down hq h j (by omega)
  have e:q - j=(q - (j+1))+1:=by omega
  rw [e] at h1
  exact C.lift (by omega) h1
theorem Sp.of {N D q:Nat} {ws:List Wd} {r:TExpr} (hq:q<5) (h:C N D (q+1) ws r):Sp N D 0 q ws r:=by
 intro n A B e d hn h0 hd hA hB
 exact ⟨n,by omega,by rw [run_level hq,h n A B e d hn h0 hd hA hB,bS]⟩
theorem Sp.to {N D c q:Nat} {ws:List Wd} {r:TExpr} (hq:q<5) (h:Sp N D c q ws r):C (N+c+2) D q ws r:=by
 intro n A B e d hn h0 hd hA hB
 obtain ⟨n,rfl⟩:∃ n',n=n'+1:=⟨n - 1,by omega⟩
 obtain ⟨m,h1,h2⟩:=h n A B e d (by omega) h0 hd hA (hB.up (by omega))
 rw [h2]
 obtain ⟨m,rfl⟩:∃ m',m=m'+1:=⟨m - 1,by omega⟩
 exact loop_end hq hB
theorem Sp.more {N N' D D' c c' q:Nat} {ws:List Wd} {r:TExpr} (h:Sp N D c q ws r) (hN:N≤N') (hD:D≤D') (hc:c≤c'):Sp N' D' c' q ws r:=fun n A B e d h1 h2 h3 h4 h5=>by
 obtain ⟨m,e1,e2⟩:=h n A B e d (by omega) h2 (by omega) h4 h5
 exact ⟨m,by omega,e2⟩
theorem sgn_lv {k:Int} (h:6≤k∧k≤18):∃ q:Nat,own k=q+1∧q<5∧sg q (sgn k)=k∧(∀ m,m<5→m≠q→sg m (sgn k)=0)∧sgn k≠[40]:=by
 have:k=6∨k=7∨k=8∨k=9∨k=10∨k=11∨k=12∨k=13∨k=14∨k=15∨k=16∨k=17∨k=18:=by omega
 rcases this with rfl | rfl | rfl | rfl | rfl | rfl | rfl | rfl | rfl | rfl | rfl | rfl | rfl
 ·exact ⟨3,by decide,by decide,by decide,by decide,by decide⟩
 ·exact ⟨3,by decide,by decide,by decide,by decide,by decide⟩
 ·exact ⟨4,by decide,by decide,by decide,by decide,by decide⟩
 ·exact ⟨4,by decide,by decide,by decide,by decide,by decide⟩
 ·exact ⟨4,by decide,by decide,by decide,by decide,by decide⟩
 ·exact ⟨2,by decide,by decide,by decide,by decide,by decide⟩
 ·exact ⟨2,by decide,by decide,by decide,by decide,by decide⟩
 ·exact ⟨2,by decide,by decide,by decide,by decide,by decide⟩
 ·exact ⟨2,by decide,by decide,by decide,by decide,by decide⟩
 ·exact ⟨2,by decide,by decide,by decide,by decide,by decide⟩
 ·exact ⟨2,by decide,by decide,by decide,by decide,by decide⟩
 ·exact ⟨1,by decide,by decide,by decide,by decide,by decide⟩
 ·exact ⟨0,by decide,by decide,by decide,by decide,by decide⟩
theorem loop_step {N D q:Nat} {wb:List Wd} {a b:TExpr} {k:Int} (hq:q<5) (hk:6≤k∧k≤18) (ho:own k=q+1) (hb:C N D (q+1) wb b) {n m:Nat} {A B:List TToken} {e d:Int} (hn:N≤n) (h0:0≤d) (hd:d+D≤200) (hA:Tks A (sgn k::wb)) (hB:Fol (q+1) B) :
  loopE n (m+1) q (A++B) e d a=if once q=true then some (⟨k,0,[],[a,b]⟩,B,e,d) else loopE n m q B e d ⟨k,0,[],[a,b]⟩:=by
 obtain ⟨l,h1,h2,h3,h4⟩:=lv_at hq
 obtain ⟨q',o1,o2,o3,o4,o5⟩:=sgn_lv hk
 obtain rfl:q'=q:=by omega
 obtain ⟨t,A',rfl,ht,hA'⟩:=Tks.cons hA
 have hs:(mget l.signs t.Text).getD 0=k:=by rw [ht.tx,← h4]; exact o3
 have hr:=hb n A' B e d hn h0 hd hA' hB
 rw [run,if_neg (by omega),if_neg (by omega)] at hr
 rw [loopE,p_level_l1,List.cons_append,if_pos (by simp; omega),h2,bS,at_0 (by simp),bS]
 show (if (mget l.signs t.Text).getD 0=0 then _ else _)=_
 rw [hs,if_neg (by omega),cut_tail,bS,i64_ok (by omega),bS]
 have hr':(ParE_run n).p_level (A'++B) e d ((q':Int)+1)=some (b,B,e,d):=hr
 rw [hr',bS,p_level_j2,h2,bS,h3]
 show (if once q'=true then p_level_j1 B e d ((mget l.signs t.Text).getD 0) 0 [] _ else p_level_l1 _ _ _ _ B e d ((mget l.signs t.Text).getD 0) 0 [] _)=_
 rw [hs]
 cases a
 rfl
theorem Sp.bin {N D c q:Nat} {wa wb:List Wd} {a b:TExpr} {k:Int} (hq:q<5) (hk:6≤k∧k≤18) (ho:own k=q+1) (h2:q≠2) (ha:Sp N D c q wa a) (hb:C N D (q+1) wb b) (hc:c<N):Sp N D (c+1) q (wa++sgn k::wb) ⟨k,0,[],[a,b]⟩:=by
 intro n A B e d hn h0 hd hA hB
 obtain ⟨A1,A2,rfl,hA1,hA2⟩:=Tks.app hA
 obtain ⟨q',o1,o2,o3,o4,o5⟩:=sgn_lv hk
 obtain rfl:q'=q:=by omega
 have hF:Fol (q'+1) (A2++B):=by
  obtain ⟨t,A',rfl,ht,-⟩:=Tks.cons hA2
  intro t' B' e'
  rw [List.cons_append] at e'
  obtain ⟨rfl,-⟩:=List.cons.inj e'
  rw [ht.tx]
  exact ⟨o5,fun m h1 h2=>o4 m h2 (by omega)⟩
 obtain ⟨m,e1,e2⟩:=ha n A1 (A2++B) e d hn h0 hd hA1 hF
 obtain ⟨m,rfl⟩:∃ m',m=m'+1:=⟨m - 1,by omega⟩
 refine ⟨m,by omega,?_⟩
 rw [List.append_assoc,e2,loop_step hq hk ho hb hn h0 hd hA2 hB,if_neg (by simpa [once] using h2)]
theorem C.bin2 {N D:Nat} {wa wb:List Wd} {a b:TExpr} {k:Int} (hk:6≤k∧k≤18) (ho:own k=3) (ha:C N D 3 wa a) (hb:C N D 3 wb b):C (N+2) D 2 (wa++sgn k::wb) ⟨k,0,[],[a,b]⟩:=by
 intro n A B e d hn h0 hd hA hB
 obtain ⟨A1,A2,rfl,hA1,hA2⟩:=Tks.app hA
 obtain ⟨q',o1,o2,o3,o4,o5⟩:=sgn_lv hk
 obtain rfl:q'=2:=by omega
 have hF:Fol 3 (A2++B):=by
  obtain ⟨t,A',rfl,ht,-⟩:=Tks.cons hA2
  intro t' B' e'
  rw [List.cons_append] at e'
  obtain ⟨rfl,-⟩:=List.cons.inj e'
  rw [ht.tx]
  exact ⟨o5,fun m h1 h2=>o4 m h2 (by omega)⟩
 obtain ⟨n,rfl⟩:∃ n',n=n'+1:=⟨n - 1,by omega⟩
 rw [List.append_assoc,run_level (by decide),ha n A1 (A2++B) e d (by omega) h0 hd hA1 hF,bS]
 obtain ⟨n,rfl⟩:∃ n',n=n'+1:=⟨n - 1,by omega⟩
 show loopE (n+1) (n+1) 2 (A2++B) e d a=_
 rw [loop_step (by decide) hk ho hb (by omega) h0 hd hA2 (hB.up (by omega)),if_pos (show once 2=true from rfl)]
theorem C.brackets {N D:Nat} {ws:List Wd} {r:TExpr} (h:C N D 0 ws r):C (N+2) (D+1) 7 ([40]::(ws++[[41]])) r:=by
 intro n A B e d hn h0 hd hA hB
 obtain ⟨n,rfl⟩:∃ n',n=n'+2:=⟨n - 2,by omega⟩
 obtain ⟨t,A',rfl,ht,hA'⟩:=Tks.cons hA
 obtain ⟨A1,A2,rfl,hA1,hA2⟩:=Tks.app hA'
 obtain ⟨t2,A3,rfl,ht2,hA3⟩:=Tks.cons hA2
 have:=Tks.nil hA3
 subst this
 have hF:Fol 0 (t2::B):=by
  intro t' B' e'
  obtain ⟨rfl,-⟩:=List.cons.inj e'
  rw [ht2.tx]
  exact ⟨by decide,fun m _ h=>(by decide:∀ m,m<5→sg m [41]=0) m h⟩
 have hr:=h n A1 (t2::B) e (d+1) (by omega) (by omega) (by omega) hA1 hF
 have hr':(ParE_run n).p_level (A1++t2::B) e (d+1) 0=some (r,t2::B,e,d+1):=hr
 have he:(ParE_run (n+1)).p_expr (A1++t2::B) e d=some (r,t2::B,e,d):=by
  show p_expr (ParE_run n) (A1++t2::B) e d=_
  rw [p_expr,p_into,i64_ok (by omega),bS,if_neg (by omega),bS]
  simp only []
  rw [hr',bS]
  simp only []
  rw [p_out,i64_ok (by omega),bS,bS]
  simp
 have hk:t.Kind=3:=by rw [ht.kd]; decide
 show p_primary (n+1) (ParE_run (n+1)) (t::(A1++[t2])++B) e d=_
 rw [p_primary,List.cons_append,if_pos (by simp; omega),at_0 (by simp),bS]
 show p_primary_j1 (n+1) (ParE_run (n+1)) (t::(A1++[t2]++B)) e d (decide (t.Kind=2))=_
 rw [decide_eq_false (by omega),p_primary_j1,if_neg (by decide),is_miss (by rw [ht.tx]; decide),bS]
 simp only [Bool.false_eq_true,if_false]
 rw [is_miss (by rw [ht.tx]; decide),bS]
 simp only [Bool.false_eq_true,if_false]
 rw [is_hit ht.tx,bS]
 simp only [if_true]
 rw [show A1++[t2]++B=A1++t2::B by simp,he,bS]
 simp only []
 rw [need_hit ht2.tx,bS]
theorem C.expr {N D:Nat} {ws:List Wd} {r:TExpr} (h:C N D 0 ws r) (n:Nat) (A B:List TToken) (e d:Int) (hn:N+1≤n) (h0:0≤d) (hd:d+D+1≤200) (hA:Tks A ws) (hB:Fol 0 B):(ParE_run n).p_expr (A++B) e d=some (r,B,e,d):=by
 obtain ⟨n,rfl⟩:∃ n',n=n'+1:=⟨n - 1,by omega⟩
 have hr:=h n A B e (d+1) (by omega) (by omega) (by omega) hA hB
 have hr':(ParE_run n).p_level (A++B) e (d+1) 0=some (r,B,e,d+1):=hr
 show p_expr (ParE_run n) (A++B) e d=_
 rw [p_expr,p_into,i64_ok (by omega),bS,if_neg (by omega),bS]
 simp only []
 rw [hr',bS]
 simp only []
 rw [p_out,i64_ok (by omega),bS,bS]
 simp
theorem C.un {N D:Nat} {ws:List Wd} {r:TExpr} {k:Int} (hk:k=4∨k=5) (h:C N D 6 ws r):C (N+1) (D+1) 6 (sgn k::ws) ⟨k,0,[],[r]⟩:=by
 intro n A B e d hn h0 hd hA hB
 obtain ⟨n,rfl⟩:∃ n',n=n'+1:=⟨n - 1,by omega⟩
 obtain ⟨t,A',rfl,ht,hA'⟩:=Tks.cons hA
 have hr:=h n A' B e (d+1) (by omega) (by omega) (by omega) hA' hB
 have hr':(ParE_run n).p_unary (A'++B) e (d+1)=some (r,B,e,d+1):=hr
 have e1:p_into (A'++B) e d=some (A'++B,e,d+1):=by rw [p_into,i64_ok (by omega),bS,if_neg (by omega)]
 have e2:p_out B e (d+1)=some (B,e,d):=by rw [p_out,i64_ok (by omega),bS]; simp
 show p_unary (ParE_run n) (t::A'++B) e d=_
 rcases hk with rfl | rfl
 ·rw [p_unary,List.cons_append,is_hit (by rw [ht.tx]; decide),bS,if_pos rfl]
  simp only []
  rw [e1,bS]
  simp only []
  rw [hr',bS]
  simp only []
  rw [e2,bS]
 ·rw [p_unary,List.cons_append,is_miss (by rw [ht.tx]; decide),bS]
  simp only [Bool.false_eq_true,if_false]
  rw [is_hit (by rw [ht.tx]; decide),bS,if_pos rfl]
  simp only []
  rw [e1,bS]
  simp only []
  rw [hr',bS]
  simp only []
  rw [e2,bS]
end Go.Y
namespace Go.Y
open Go.Wk Go.Xt
theorem fol_word {w:Wd} (h:(w≠[40])∧(∀ m,m<5→sg m w=0)) {t:TToken} (ht:t.Text=w) (B:List TToken) (q:Nat):Fol q (t::B):=by
 intro t' B' e'
 obtain ⟨rfl,-⟩:=List.cons.inj e'
 rw [ht]
 exact ⟨h.1,fun m _ hm=>h.2 m hm⟩
theorem fw41:([41]:Wd)≠[40]∧∀ m,m<5→sg m [41]=0:=by decide
theorem fw44:([44]:Wd)≠[40]∧∀ m,m<5→sg m [44]=0:=by decide
section
variable {f:TExpr→List Wd} {g:TExpr→TExpr} {N D:Nat}
theorem fol_wT {l:List TExpr} {A B:List TToken} (h:Tks A (wT f l++[[41]])):Fol 0 (A++B):=by
 cases l with
 | nil =>
  obtain ⟨t,A',rfl,ht,-⟩:=Tks.cons h
  exact fol_word fw41 ht.tx _ 0
 | cons x l =>
  obtain ⟨t,A',rfl,ht,-⟩:=Tks.cons h
  exact fol_word fw44 ht.tx _ 0
theorem args_l1_t {n:Nat} (hn:N+1≤n) {e d:Int} (h0:0≤d) (hd:d+D+1≤200) (B:List TToken):∀ (l:List TExpr) (acc:List TExpr) (m:Nat) (A:List TToken),(∀ y ∈ l,C N D 0 (f y) (g y))→l.length<m→0<acc.length→acc.length+l.length≤6→Tks A (wT f l++[[41]]) →
  p_args_l1 (ParE_run n) m (A++B) e d acc=some (acc++l.map g,B,e,d):=by
 intro l
 induction l with
 | nil =>
  intro acc m A hC hm ha hl hA
  obtain ⟨m,rfl⟩:∃ m',m=m'+1:=⟨m - 1,by simp at hm; omega⟩
  obtain ⟨t,A',rfl,ht,hA'⟩:=Tks.cons hA
  have:=Tks.nil hA'
  subst this
  rw [p_args_l1,List.cons_append,is_hit ht.tx,bS,if_pos rfl]
  simp
 | cons x l ih =>
  intro acc m A hC hm ha hl hA
  rw [List.length_cons] at hm hl
  obtain ⟨m,rfl⟩:∃ m',m=m'+1:=⟨m - 1,by omega⟩
  have e1:wT f (x::l)++[[41]]=[44]::(f x++(wT f l++[[41]])):=by simp [wT]
  rw [e1] at hA
  obtain ⟨t,A',rfl,ht,hA'⟩:=Tks.cons hA
  obtain ⟨A1,A2,rfl,hA1,hA2⟩:=Tks.app hA'
  have hx:=(hC x (List.mem_cons_self ..)).expr n A1 (A2++B) e d hn h0 hd hA1 (fol_wT hA2)
  rw [p_args_l1,List.cons_append,is_miss (by rw [ht.tx]; decide),bS]
  simp only [Bool.false_eq_true,if_false]
  rw [if_pos (by omega)]
  rw [need_hit ht.tx,bS,p_args_j1,if_neg (by omega)]
  simp only []
  rw [List.append_assoc,hx,bS]
  simp only []
  rw [app_ok (by simp; omega),bS,ih (acc++[g x]) m A2 (fun y hy=>hC y (List.mem_cons_of_mem _ hy)) (by omega) (by simp) (by simp; omega) hA2]
  simp
theorem args_t {l:List TExpr} {n:Nat} (hn:N+10≤n) {e d:Int} (h0:0≤d) (hd:d+D+1≤200) {A B:List TToken} (hC:∀ y ∈ l,C N D 0 (f y) (g y)) (hh:∀ y ∈ l,∃ w ws,f y=w::ws∧w≠[41]) (hl:l.length≤6) (hA:Tks A (wA f l)):(ParE_run n).p_args (A++B) e d=some (l.map g,B,e,d):=by
 obtain ⟨n,rfl⟩:∃ n',n=n'+1:=⟨n - 1,by omega⟩
 show p_args n (ParE_run n) (A++B) e d=_
 rw [p_args]
 cases l with
 | nil =>
  obtain ⟨t,A',rfl,ht,hA'⟩:=Tks.cons hA
  obtain ⟨t2,A2,rfl,ht2,hA2⟩:=Tks.cons hA'
  have:=Tks.nil hA2
  subst this
  rw [List.cons_append,need_hit ht.tx,bS]
  simp only []
  obtain ⟨n,rfl⟩:∃ n',n=n'+1:=⟨n - 1,by omega⟩
  rw [p_args_l1,List.cons_append,is_hit ht2.tx,bS,if_pos rfl]
  simp
 | cons x l =>
  rw [List.length_cons] at hl
  obtain ⟨t,A',rfl,ht,hA'⟩:=Tks.cons hA
  obtain ⟨A1,A2,rfl,hA1,hA2⟩:=Tks.app hA'
  have hx:=(hC x (List.mem_cons_self ..)).expr n A1 (A2++B) e d (by omega) h0 hd hA1 (fol_wT hA2)
  obtain ⟨w,ws,hw,hne⟩:=hh x (List.mem_cons_self ..)
  rw [List.cons_append,need_hit ht.tx,bS]
  simp only []
  obtain ⟨m,hm⟩:∃ m',n=m'+1:=⟨n - 1,by omega⟩
  have step:p_args_l1 (ParE_run n) (m+1) (A1++A2++B) e d []=some ((x::l).map g,B,e,d):=by
   have hA1':=hA1
   rw [hw] at hA1'
   obtain ⟨t3,A3,rfl,ht3,-⟩:=Tks.cons hA1'
   rw [p_args_l1,List.cons_append,List.cons_append,is_miss (by rw [ht3.tx]; exact hne),bS]
   simp only [Bool.false_eq_true,if_false]
   rw [if_neg (by simp),p_args_j1,if_neg (by simp)]
   have e2:t3::(A3++A2++B)=t3::A3++(A2++B):=by simp
   rw [e2,hx,bS]
   simp only []
   rw [app_ok (by simp),bS,args_l1_t (show N+1≤n by omega) h0 hd B l ([]++[g x]) m A2 (fun y hy=>hC y (List.mem_cons_of_mem _ hy)) (by omega) (by simp) (by simp; omega) hA2]
   simp
  rw [← hm] at step
  exact step
theorem fixed_l1_t {n:Nat} (hn:N+1≤n) {e d:Int} (h0:0≤d) (hd:d+D+1≤200) (B:List TToken) (kd:Int) (M:Nat) (hM:M≤6):∀ (l:List TExpr) (acc:List TExpr) (i m:Nat) (A:List TToken),(∀ y ∈ l,C N D 0 (f y) (g y))→l.length<m→0<i→i+l.length=M→acc.length≤i→Tks A (wT f l++[[41]]) →
  p_fixed_l1 (ParE_run n) kd M m i (A++B) e d acc=some (⟨kd,0,[],acc++l.map g⟩,B,e,d):=by
 intro l
 induction l with
 | nil =>
  intro acc i m A hC hm hi hM ha hA
  rw [List.length_nil] at hm hM
  obtain ⟨m,rfl⟩:∃ m',m=m'+1:=⟨m - 1,by omega⟩
  obtain ⟨t,A',rfl,ht,hA'⟩:=Tks.cons hA
  have:=Tks.nil hA'
  subst this
  rw [p_fixed_l1,if_neg (by omega),List.cons_append,need_hit ht.tx,bS]
  simp
 | cons x l ih =>
  intro acc i m A hC hm hi hM ha hA
  rw [List.length_cons] at hm hM
  obtain ⟨m,rfl⟩:∃ m',m=m'+1:=⟨m - 1,by omega⟩
  have e1:wT f (x::l)++[[41]]=[44]::(f x++(wT f l++[[41]])):=by simp [wT]
  rw [e1] at hA
  obtain ⟨t,A',rfl,ht,hA'⟩:=Tks.cons hA
  obtain ⟨A1,A2,rfl,hA1,hA2⟩:=Tks.app hA'
  have hx:=(hC x (List.mem_cons_self ..)).expr n A1 (A2++B) e d hn h0 hd hA1 (fol_wT hA2)
  rw [p_fixed_l1,if_pos (by omega),if_pos (by omega),List.cons_append,need_hit ht.tx,bS,p_fixed_j1]
  simp only []
  rw [List.append_assoc,hx,bS]
  simp only []
  rw [app_ok (by simp; omega),bS,p_fixed_j2,i64_ok (by omega),bS]
  have:=ih (acc++[g x]) (i+1) m A2 (fun y hy=>hC y (List.mem_cons_of_mem _ hy)) (by omega) (by omega) (by omega) (by simp; omega) hA2
  refine this.trans ?_
  simp
theorem fixed_t {l:List TExpr} {n:Nat} (hn:N+10≤n) {e d:Int} (h0:0≤d) (hd:d+D+1≤200) {A B:List TToken} (kd:Int) (hC:∀ y ∈ l,C N D 0 (f y) (g y)) (hl:l.length≤6) (hp:0<l.length) (hA:Tks A (wA f l)):(ParE_run n).p_fixed (A++B) e d kd (l.length:Int)=some (⟨kd,0,[],l.map g⟩,B,e,d):=by
 obtain ⟨n,rfl⟩:∃ n',n=n'+1:=⟨n - 1,by omega⟩
 show p_fixed (ParE_run n) (A++B) e d kd (l.length:Int)=_
 rw [p_fixed]
 cases l with
 | nil=>simp at hp
 | cons x l =>
  rw [List.length_cons] at hl
  obtain ⟨t,A',rfl,ht,hA'⟩:=Tks.cons hA
  obtain ⟨A1,A2,rfl,hA1,hA2⟩:=Tks.app hA'
  have hx:=(hC x (List.mem_cons_self ..)).expr n A1 (A2++B) e d (by omega) h0 hd hA1 (fol_wT hA2)
  rw [List.cons_append,need_hit ht.tx,bS]
  simp only []
  have hm:((((x::l).length:Nat):Int) - 0).toNat+1=(l.length+1)+1:=by simp
  rw [hm,p_fixed_l1,if_pos (by simp),if_neg (by decide),p_fixed_j1,List.append_assoc,hx,bS]
  simp only []
  rw [app_ok (by simp),bS,p_fixed_j2,i64_ok (by omega),bS]
  have:=fixed_l1_t (e:=e) (show N+1≤n by omega) h0 hd B kd (x::l).length (by simp; omega) l ([]++[g x]) 1 (l.length+1) A2 (fun y hy=>hC y (List.mem_cons_of_mem _ hy)) (by omega) (by omega) (by simp; omega) (by simp) hA2
  refine Eq.trans this ?_
  simp
end
end Go.Y
