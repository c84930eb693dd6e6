/- Texts of Md. -/
import Derived.Test.YtnjpnifbgldmiaaDoorCXu
import Derived.Lib.ParseIntB
import Derived.Lib.ItoaNum
import Derived.Lib.Split
import Derived.Lib.SlicesS
import Derived.Lib.Strings
set_option linter.unusedSimpArgs false
set_option linter.unusedVariables false
set_option linter.unusedSectionVars false
namespace Go.Y
open Go.Wk Go.Xt
structure TBi where
  Typ:Int
  Cap:Int
  deriving DecidableEq,Inhabited,Repr
instance:Mo TBi where
  sz:=2
  pos:=by decide
  cs μ l x:=l=[.int .i64 x.Typ,.int .i64 x.Cap]
  ln h:=by obtain rfl:=h; rfl
  up le h:=by exact h
  cv h:=by obtain rfl:=h; rfl
structure TInstr where
  Op:Int
  A:Int
  N:Int
  deriving DecidableEq,Inhabited,Repr
instance:Mo TInstr where
  sz:=3
  pos:=by decide
  cs μ l x:=l=[.int .i64 x.Op,.int .i64 x.A,.int .i64 x.N]
  ln h:=by obtain rfl:=h; rfl
  up le h:=by exact h
  cv h:=by obtain rfl:=h; rfl
structure TUnit where
  Kind:Int
  Params:Int
  Locals:List Int
  Result:Int
  Takes:Int
  Code:List TInstr
  deriving DecidableEq,Inhabited,Repr
instance:Mo TUnit where
  sz:=6
  pos:=by decide
  cs μ l x:=∃ a1 c1 a2 c2,l=[.int .i64 x.Kind,.int .i64 x.Params,.slice a1 x.Locals.length c1,.int .i64 x.Result,.int .i64 x.Takes,.slice a2 x.Code.length c2]∧Sl μ a1 c1 x.Locals∧Sl μ a2 c2 x.Code
  ln h:=by obtain ⟨a1,c1,a2,c2,rfl,m1,m2⟩:=h; rfl
  up le h:=by obtain ⟨a1,c1,a2,c2,rfl,m1,m2⟩:=h; exact ⟨a1,c1,a2,c2,rfl,m1.up le,m2.up le⟩
  cv h:=by obtain ⟨a1,c1,a2,c2,rfl,m1,m2⟩:=h; rfl
theorem TUnit.i {μ:M} {l:List Value} {x:TUnit} (h:∃ a1 c1 a2 c2,l=[.int .i64 x.Kind,.int .i64 x.Params,.slice a1 x.Locals.length c1,.int .i64 x.Result,.int .i64 x.Takes,.slice a2 x.Code.length c2]∧Sl μ a1 c1 x.Locals∧Sl μ a2 c2 x.Code):Mo.cs μ l x:=h
structure TModule where
  Boxes:List TBi
  Units:List TUnit
  deriving DecidableEq,Inhabited,Repr
structure TWhere where
  Err:Int
  Unit:Int
  At:Int
  deriving DecidableEq,Inhabited,Repr
structure TFault where
  Err:Int
  At:Int
  deriving DecidableEq,Inhabited,Repr
end Go.Y
namespace Go.Y
def R64 (n : Int) : Prop := -9223372036854775808 ≤ n ∧ n ≤ 9223372036854775807
def MzB (x : TBi) : Prop := R64 x.Typ ∧ R64 x.Cap
def MzC (x : TInstr) : Prop := R64 x.Op ∧ R64 x.A ∧ R64 x.N
def MzU (x : TUnit) : Prop := R64 x.Kind ∧ R64 x.Params ∧ R64 x.Result ∧ R64 x.Takes ∧ (x.Locals.length ≤ 1048576 ∧ ∀ y ∈ x.Locals, R64 y) ∧ x.Code.length ≤ 1048576 ∧ ∀ y ∈ x.Code, MzC y
def MzM (m : TModule) : Prop := (m.Boxes.length ≤ 1048576 ∧ ∀ y ∈ m.Boxes, MzB y) ∧ m.Units.length ≤ 1048576 ∧ ∀ y ∈ m.Units, MzU y
end Go.Y
namespace Go.Y
open Go.Wk Go.Xt
def s_cut (a b : List UInt8) : Option (List UInt8 × List UInt8 × Bool) := if a.length < 4294967281 then some (Lib.cut a b) else none
def s_pre (a b : List UInt8) : Option (List UInt8 × Bool) := some (Lib.trimPrefix a b, Lib.hasPrefix a b)
def s_split (a b : List UInt8) : Option (List (List UInt8)) := if a.length < 4294967281 ∧ 1 ≤ b.length then some ((Lib.splitB ⟨⟨b⟩⟩ 0 (Lib.countB ⟨⟨a⟩⟩ ⟨⟨b⟩⟩) ⟨⟨a⟩⟩).map (·.data.toList)) else none
def s_idx (l : List (List UInt8)) (x : List UInt8) : Option Int := some (Lib.idxOfS (l.map fun y => ⟨⟨y⟩⟩) ⟨⟨x⟩⟩)
def asm_number (s : List UInt8) : Option (Int × Bool) := if s.length ≤ 281474976710656 then some (match Lib.parseIntB 64 s with | .ok v => (v, decide (Lib.itoa v = s)) | .range => (Lib.intSat 64 s, false) | _ => (0, false)) else none
instance : Lc TUnit TInstr where
  code := TUnit.Code
  set x ys := { x with Code := ys }
  hd μ l x := ∃ a1 c1, l = [.int .i64 x.Kind, .int .i64 x.Params, .slice a1 x.Locals.length c1, .int .i64 x.Result, .int .i64 x.Takes] ∧ Sl μ a1 c1 x.Locals
  up le h := by obtain ⟨a, c, rfl, m⟩ := h; exact ⟨a, c, rfl, m.up le⟩
  ln h := by obtain ⟨a, c, rfl, m⟩ := h; rfl
  wr h k := by obtain ⟨a, c, rfl, m⟩ := h; exact ⟨a, c, _, _, rfl, m, k⟩
  st h := h
  sc := rfl
  cs := rfl
end Go.Y
namespace Go.Y
open Go.Wk Go.Xt
def asm_units  :Option (List (List UInt8)) :=
  some [[102,110],[103,101,110],[116,97,115,107]]
def asm_mnem  :Option (List (List UInt8)) :=
  some [[112,117,115,104],[116,114,117,116,104],[108,111,97,100],[115,116,111,114,101],[100,114,111,112],[110,101,103],[110,111,116],[97,100,100],[115,117,98],[109,117,108],[100,105,118],[109,111,100],[101,113],[110,101],[108,116],[108,101],[103,116],[103,101],[97,110,100],[111,114],[106,117,109,112],[101,108,115,101],[99,97,108,108],[114,101,116],[101,110,100],[115,101,110,100],[114,101,99,118],[111,117,116],[115,116,97,114,116],[114,101,115,117,109,101],[121,105,101,108,100],[97,108,105,118,101]]
def asm_has_j1 (p_1:Int) (b1:Bool):Option (Bool×Bool) :=
  if b1=true then
    some (false,true)
  else
    some (decide (p_1=1),false)
def asm_has  (p_1:Int):Option (Bool×Bool) :=
  if p_1=2 then
    asm_has_j1 p_1 (decide (p_1=2))
  else
    if p_1=3 then
      asm_has_j1 p_1 (decide (p_1=3))
    else
      if p_1=4 then
        asm_has_j1 p_1 (decide (p_1=4))
      else
        if p_1=21 then
          asm_has_j1 p_1 (decide (p_1=21))
        else
          if p_1=22 then
            asm_has_j1 p_1 (decide (p_1=22))
          else
            if p_1=23 then
              asm_has_j1 p_1 (decide (p_1=23))
            else
              if p_1=26 then
                asm_has_j1 p_1 (decide (p_1=26))
              else
                if p_1=27 then
                  asm_has_j1 p_1 (decide (p_1=27))
                else
                  asm_has_j1 p_1 (decide (p_1=29))
def asm_numbers_l1 (p_1:List (List UInt8)):Nat→Int→(List Int)→Option (List Int×Bool)
  | 0,_,_=>none
  | n+1,i27,l30 =>
    if i27<(p_1.length:Int) then
      (at_ p_1 i27).bind fun x54 =>
      (asm_number x54).bind fun r62 =>
      if r62.2=true then
        (app l30 [r62.1]).bind fun l69 =>
        (i64 (i27+1)).bind fun i72 =>
        asm_numbers_l1 p_1 n i72 l69
      else
        some (([]:List Int),false)
    else
      some (l30,true)
def asm_numbers  (p_1:List (List UInt8)):Option (List Int×Bool) :=
  asm_numbers_l1 p_1 (p_1.length+1) 0 []
def asm_instr_j5 (i10:Int) (r62:Int×Bool) (i65:Int) (i66:Int):Option (TInstr×Bool) :=
  some ((TInstr.mk i10 i65 i66),r62.2)
def asm_instr_j4 (l3:List (List UInt8)) (i10:Int) (r40:Bool×Bool) (i46:Int) (b49:Bool):Option (TInstr×Bool) :=
  if b49=true then
    some ((TInstr.mk i10 0 0),false)
  else
    if i46=1 then
      some ((TInstr.mk i10 0 0),true)
    else
      (at_ l3 1).bind fun x54 =>
      (asm_number x54).bind fun r62 =>
      if r40.1=true then
        asm_instr_j5 i10 r62 0 r62.1
      else
        asm_instr_j5 i10 r62 r62.1 0
def asm_instr_j3 (l3:List (List UInt8)) (i10:Int) (r40:Bool×Bool) (i46:Int):Option (TInstr×Bool) :=
  if i10=0 then
    asm_instr_j4 l3 i10 r40 i46 true
  else
    asm_instr_j4 l3 i10 r40 i46 (decide ((l3.length:Int)≠i46))
def asm_instr_j2 (l3:List (List UInt8)) (i10:Int) (r40:Bool×Bool) (b43:Bool):Option (TInstr×Bool) :=
  if b43=true then
    asm_instr_j3 l3 i10 r40 2
  else
    asm_instr_j3 l3 i10 r40 1
def asm_instr_j1 (l3:List (List UInt8)) (i10:Int):Option (TInstr×Bool) :=
  (asm_has i10).bind fun r40 =>
  if r40.1=true then
    asm_instr_j2 l3 i10 r40 true
  else
    asm_instr_j2 l3 i10 r40 r40.2
def asm_instr  (p_1:List UInt8):Option (TInstr×Bool) :=
  (s_split p_1 [32]).bind fun l3 =>
  (at_ l3 0).bind fun x11 =>
  (asm_mnem ).bind fun r19 =>
  (s_idx r19 x11).bind fun r25 =>
  (i64 (r25+1)).bind fun i27 =>
  asm_instr_j1 l3 i27
def asm_head_j2 (unit_6:List TUnit) (l54:List TBi):Option (Bool×List TBi×List TUnit) :=
  some (true,l54,unit_6)
def asm_head_j1 (boxe_2:List TBi) (unit_6:List TUnit) (r32:List Int×Bool) (b48:Bool):Option (Bool×List TBi×List TUnit) :=
  if b48=true then
    some (false,boxe_2,unit_6)
  else
    (at_ r32.1 0).bind fun x56 =>
    (at_ r32.1 1).bind fun x64 =>
    (app boxe_2 [(TBi.mk x56 x64)]).bind fun l76 =>
    asm_head_j2 unit_6 l76
def asm_head_j5 (boxe_2:List TBi) (l107:List TUnit):Option (Bool×List TBi×List TUnit) :=
  some (true,boxe_2,l107)
def asm_head_j4 (boxe_2:List TBi) (unit_6:List TUnit) (r32:List Int×Bool) (i81:Int) (b99:Bool):Option (Bool×List TBi×List TUnit) :=
  if b99=true then
    some (false,boxe_2,unit_6)
  else
    (i64 (2+i81)).bind fun i109 =>
    (at_ r32.1 0).bind fun x111 =>
    (at_ r32.1 1).bind fun x119 =>
    (at_ r32.1 2).bind fun x127 =>
    (cut r32.1 3 r32.1.length).bind fun l135 =>
    (app unit_6 [(TUnit.mk i109 x111 l135 x119 x127 ([]:List TInstr))]).bind fun l147 =>
    asm_head_j5 boxe_2 l147
def asm_head_j3 (boxe_2:List TBi) (unit_6:List TUnit) (r32:List Int×Bool) (i81:Int):Option (Bool×List TBi×List TUnit) :=
  if i81<0 then
    asm_head_j4 boxe_2 unit_6 r32 i81 true
  else
    asm_head_j4 boxe_2 unit_6 r32 i81 (decide ((r32.1.length:Int)<3))
def asm_head  (boxe_2:List TBi) (unit_6:List TUnit) (p_2:List UInt8):Option (Bool×List TBi×List TUnit) :=
  (s_split p_2 [32]).bind fun l20 =>
  (cut l20 1 l20.length).bind fun l26 =>
  (asm_numbers l26).bind fun r32 =>
  if r32.2=true then
    (at_ l20 0).bind fun x39 =>
    if x39=[98,111,120] then
      if (r32.1.length:Int)≠2 then
        asm_head_j1 boxe_2 unit_6 r32 true
      else
        asm_head_j1 boxe_2 unit_6 r32 (decide ((0:Int)<(unit_6.length:Int)))
    else
      (at_ l20 0).bind fun x82 =>
      (asm_units ).bind fun r90 =>
      (s_idx r90 x82).bind fun r96 =>
      asm_head_j3 boxe_2 unit_6 r32 r96
  else
    some (false,boxe_2,unit_6)
def asm_read_j1 (i79:Int) (r157:List UInt8×List UInt8×Bool) (k_asm_read_l1:(List UInt8)→Int→(List TUnit)→(List TBi)→Option (TModule×TFault)) (b159:Bool) (l164:List TUnit) (l168:List TBi):Option (TModule×TFault) :=
  if b159=true then
    (i64 (i79+1)).bind fun i234 =>
    k_asm_read_l1 r157.2.1 i234 l164 l168
  else
    some ((TModule.mk ([]:List TBi) ([]:List TUnit)),(TFault.mk 2 i79))
def asm_read_j3 (i79:Int) (l88:List TBi) (r157:List UInt8×List UInt8×Bool) (r176:TInstr×Bool) (k_asm_read_l1:(List UInt8)→Int→(List TUnit)→(List TBi)→Option (TModule×TFault)) (l204:List TUnit):Option (TModule×TFault) :=
  asm_read_j1 i79 r157 k_asm_read_l1 r176.2 l204 l88
def asm_read_j2 (i79:Int) (l84:List TUnit) (l88:List TBi) (r157:List UInt8×List UInt8×Bool) (r176:TInstr×Bool) (k_asm_read_l1:(List UInt8)→Int→(List TUnit)→(List TBi)→Option (TModule×TFault)) (b179:Bool):Option (TModule×TFault) :=
  if b179=true then
    (i64 ((l84.length:Int) - 1)).bind fun i183 =>
    (at_ l84 i183).bind fun x185 =>
    (app x185.Code [r176.1]).bind fun l210 =>
    asm_read_j3 i79 l88 r157 r176 k_asm_read_l1 (uset l84 l210)
  else
    asm_read_j1 i79 r157 k_asm_read_l1 false l84 l88
def asm_read_l1 :Nat→(List UInt8)→Int→(List TUnit)→(List TBi)→Option (TModule×TFault)
  | 0,_,_,_,_=>none
  | n+1,s78,i79,l84,l88 =>
    if s78≠[] then
      (s_cut s78 [10]).bind fun r157 =>
      if r157.2.2=true then
        (s_pre r157.1 [9]).bind fun r171 =>
        if r171.2=true then
          (asm_instr r171.1).bind fun r176 =>
          if r176.2=true then
            asm_read_j2 i79 l84 l88 r157 r176 (asm_read_l1 n) (decide ((0:Int)<(l84.length:Int)))
          else
            asm_read_j2 i79 l84 l88 r157 r176 (asm_read_l1 n) false
        else
          (asm_head l88 l84 r157.1).bind fun r219 =>
          asm_read_j1 i79 r157 (asm_read_l1 n) r219.1 r219.2.2 r219.2.1
      else
        asm_read_j1 i79 r157 (asm_read_l1 n) r157.2.2 l84 l88
    else
      some ((TModule.mk l88 l84),(TFault.mk 0 0))
def asm_read (fu:Nat)  (p_1:List UInt8):Option (TModule×TFault) :=
  if (60000:Int)<(p_1.length:Int) then
    some ((TModule.mk ([]:List TBi) ([]:List TUnit)),(TFault.mk 4 0))
  else
    asm_read_l1 fu p_1 0 ([]:List TUnit) []
def r6_ints_l1 (p_1:List Int) (p_2:List Int):Nat→Int→Option Bool
  | 0,_=>none
  | n+1,i26 =>
    if i26<(p_1.length:Int) then
      (at_ p_1 i26).bind fun x47 =>
      (at_ p_2 i26).bind fun x55 =>
      if x47≠x55 then
        some false
      else
        (i64 (i26+1)).bind fun i65 =>
        r6_ints_l1 p_1 p_2 n i65
    else
      some true
def r6_ints  (p_1:List Int) (p_2:List Int):Option Bool :=
  if (p_1.length:Int)≠(p_2.length:Int) then
    some false
  else
    r6_ints_l1 p_1 p_2 (p_1.length+1) 0
def r6_same_l3 (i177:Int) (l289:List TInstr) (l302:List TInstr) (k_r6_same_l2:Int→Option Bool):Nat→Int→Option Bool
  | 0,_=>none
  | n+1,i374 =>
    if i374<(l289.length:Int) then
      (at_ l289 i374).bind fun x395 =>
      (at_ l302 i374).bind fun x403 =>
      if (andL [(decide (x395.Op=x403.Op)),(decide (x395.A=x403.A)),(decide (x395.N=x403.N))])=true then
        (i64 (i374+1)).bind fun i412 =>
        r6_same_l3 i177 l289 l302 k_r6_same_l2 n i412
      else
        some false
    else
      (i64 (i177+1)).bind fun i414 =>
      k_r6_same_l2 i414
def r6_same_j3 (i177:Int) (l289:List TInstr) (l302:List TInstr) (k_r6_same_l2:Int→Option Bool) (b345:Bool):Option Bool :=
  if b345=true then
    some false
  else
    r6_same_l3 i177 l289 l302 k_r6_same_l2 (l289.length+1) 0
def r6_same_j2 (i177:Int) (k_r6_same_l2:Int→Option Bool) (i279:Int) (i280:Int) (l283:List Int) (i285:Int) (i286:Int) (l289:List TInstr) (i292:Int) (i293:Int) (l296:List Int) (i298:Int) (i299:Int) (l302:List TInstr):Option Bool :=
  if i279≠i292 then
    r6_same_j3 i177 l289 l302 k_r6_same_l2 true
  else
    if i280≠i293 then
      r6_same_j3 i177 l289 l302 k_r6_same_l2 true
    else
      if i285≠i298 then
        r6_same_j3 i177 l289 l302 k_r6_same_l2 true
      else
        if i286≠i299 then
          r6_same_j3 i177 l289 l302 k_r6_same_l2 true
        else
          (r6_ints l283 l296).bind fun r350 =>
          if r350=true then
            r6_same_j3 i177 l289 l302 k_r6_same_l2 (decide ((l289.length:Int)≠(l302.length:Int)))
          else
            r6_same_j3 i177 l289 l302 k_r6_same_l2 true
def r6_same_l2 (p_1:TModule) (p_2:TModule):Nat→Int→Option Bool
  | 0,_=>none
  | n+1,i177 =>
    if i177<(p_1.Units.length:Int) then
      (at_ p_1.Units i177).bind fun x304 =>
      (at_ p_2.Units i177).bind fun x318 =>
      r6_same_j2 i177 (r6_same_l2 p_1 p_2 n) x304.Kind x304.Params x304.Locals x304.Result x304.Takes x304.Code x318.Kind x318.Params x318.Locals x318.Result x318.Takes x318.Code
    else
      some true
def r6_same_l1 (p_1:TModule) (p_2:TModule):Nat→Int→Option Bool
  | 0,_=>none
  | n+1,i39 =>
    if i39<(p_1.Boxes.length:Int) then
      (at_ p_1.Boxes i39).bind fun x60 =>
      (at_ p_2.Boxes i39).bind fun x68 =>
      if (andL [(decide (x60.Typ=x68.Typ)),(decide (x60.Cap=x68.Cap))])=true then
        (i64 (i39+1)).bind fun i77 =>
        r6_same_l1 p_1 p_2 n i77
      else
        some false
    else
      r6_same_l2 p_1 p_2 (p_1.Units.length+1) 0
def r6_same_j1 (p_1:TModule) (p_2:TModule) (b17:Bool):Option Bool :=
  if b17=true then
    some false
  else
    r6_same_l1 p_1 p_2 (p_1.Boxes.length+1) 0
def r6_same  (p_1:TModule) (p_2:TModule):Option Bool :=
  if (p_1.Boxes.length:Int)≠(p_2.Boxes.length:Int) then
    r6_same_j1 p_1 p_2 true
  else
    r6_same_j1 p_1 p_2 (decide ((p_1.Units.length:Int)≠(p_2.Units.length:Int)))
end Go.Y
namespace Go.Y
open Go.Wk Go.Xt
def r13_word_j2 (p_1:Int) (i52:Int):Option (List UInt8×Int) :=
  (i64 (p_1 - 1)).bind fun i55 =>
  (at_ [[112,117,115,104],[116,114,117,116,104],[108,111,97,100],[115,116,111,114,101],[100,114,111,112],[110,101,103],[110,111,116],[97,100,100],[115,117,98],[109,117,108],[100,105,118],[109,111,100],[101,113],[110,101],[108,116],[108,101],[103,116],[103,101],[97,110,100],[111,114],[106,117,109,112],[101,108,115,101],[99,97,108,108],[114,101,116],[101,110,100],[115,101,110,100],[114,101,99,118],[111,117,116],[115,116,97,114,116],[114,101,115,117,109,101],[121,105,101,108,100],[97,108,105,118,101]] i55).bind fun x57 =>
  some (x57,i52)
def r13_word_l1 (p_1:Int):Nat→Int→Int→Option (List UInt8×Int)
  | 0,_,_=>none
  | n+1,i24,i25 =>
    if i25<9 then
      (at_ [2,3,4,21,22,23,26,27,29] i25).bind fun x39 =>
      if x39=p_1 then
        (i64 (i25+1)).bind fun i48 =>
        r13_word_l1 p_1 n 1 i48
      else
        (i64 (i25+1)).bind fun i50 =>
        r13_word_l1 p_1 n i24 i50
    else
      if p_1=1 then
        r13_word_j2 p_1 2
      else
        r13_word_j2 p_1 i24
def r13_word_j1 (p_1:Int) (b3:Bool):Option (List UInt8×Int) :=
  if b3=true then
    some ([],0)
  else
    r13_word_l1 p_1 10 0 0
def r13_word  (p_1:Int):Option (List UInt8×Int) :=
  if p_1<1 then
    r13_word_j1 p_1 true
  else
    r13_word_j1 p_1 (decide ((32:Int)<p_1))
end Go.Y
namespace Go.Y
open Go.Wk Go.Xt
def bd_len  (buf_4:List UInt8):Option Int :=
  some (buf_4.length:Int)
def bd_byte  (buf_4:List UInt8) (p_2:UInt8):Option (Unit×List UInt8) :=
  (app buf_4 [p_2]).bind fun l18 =>
  some ((),l18)
def bd_str  (buf_4:List UInt8) (p_2:List UInt8):Option (Int×Unit×List UInt8) :=
  (app buf_4 p_2).bind fun l14 =>
  some ((p_2.length:Int),(),l14)
end Go.Y
namespace Go.Y
open Go.Wk Go.Xt
def pr_line_l1 (p_2:List Int):Nat→Int→(List UInt8)→Option (List UInt8)
  | 0,_,_=>none
  | n+1,i46,l51 =>
    if i46<(p_2.length:Int) then
      (at_ p_2 i46).bind fun x79 =>
      (fmt10 x79).bind fun s87 =>
      (cat [32] s87).bind fun s89 =>
      (bd_str l51 s89).bind fun r91 =>
      (i64 (i46+1)).bind fun i99 =>
      pr_line_l1 p_2 n i99 r91.2.2
    else
      (bd_byte l51 10).bind fun r101 =>
      some r101.2
def pr_line  (p_1:List UInt8) (p_2:List Int) (buf_7:List UInt8):Option (List UInt8) :=
  (bd_str buf_7 p_1).bind fun r16 =>
  pr_line_l1 p_2 (p_2.length+1) 0 r16.2.2
def asm_print_j4 (i882:Int) (l887:List UInt8) (x970:TInstr) (k_asm_print_l3:Int→(List UInt8)→Option (List UInt8×TWhere)) (s984:List UInt8):Option (List UInt8×TWhere) :=
  (asm_has x970.Op).bind fun r1004 =>
  if r1004.1=true then
    (cat s984 [32]).bind fun s1008 =>
    (fmt10 x970.N).bind fun s1010 =>
    (cat s1008 s1010).bind fun s1012 =>
    (cat s1012 [10]).bind fun s1014 =>
    (bd_str l887 s1014).bind fun r1016 =>
    (i64 (i882+1)).bind fun i1024 =>
    k_asm_print_l3 i1024 r1016.2.2
  else
    if r1004.2=true then
      (pr_line s984 [x970.A] l887).bind fun r1031 =>
      (i64 (i882+1)).bind fun i1039 =>
      k_asm_print_l3 i1039 r1031
    else
      (pr_line s984 ([]:List Int) l887).bind fun r1041 =>
      (i64 (i882+1)).bind fun i1049 =>
      k_asm_print_l3 i1049 r1041
def asm_print_j3 (i397:Int) (i882:Int) (l887:List UInt8) (x970:TInstr) (k_asm_print_l3:Int→(List UInt8)→Option (List UInt8×TWhere)) (b980:Bool):Option (List UInt8×TWhere) :=
  if b980=true then
    some ([],(TWhere.mk 1 i397 i882))
  else
    (i64 (x970.Op - 1)).bind fun i985 =>
    (asm_mnem ).bind fun r987 =>
    (at_ r987 i985).bind fun x993 =>
    (cat [9] x993).bind fun s1001 =>
    asm_print_j4 i882 l887 x970 k_asm_print_l3 s1001
def asm_print_l3 (i397:Int) (x708:TUnit) (k_asm_print_l2:Int→(List UInt8)→Option (List UInt8×TWhere)):Nat→Int→(List UInt8)→Option (List UInt8×TWhere)
  | 0,_,_=>none
  | n+1,i882,l887 =>
    if i882<(x708.Code.length:Int) then
      (at_ x708.Code i882).bind fun x970 =>
      if x970.Op<1 then
        asm_print_j3 i397 i882 l887 x970 (asm_print_l3 i397 x708 k_asm_print_l2 n) true
      else
        asm_print_j3 i397 i882 l887 x970 (asm_print_l3 i397 x708 k_asm_print_l2 n) (decide ((32:Int)<x970.Op))
    else
      (bd_len l887).bind fun r1051 =>
      if (60000:Int)<r1051 then
        some ([],(TWhere.mk 4 0 0))
      else
        (i64 (i397+1)).bind fun i1055 =>
        k_asm_print_l2 i1055 l887
def asm_print_j2 (i397:Int) (x708:TUnit) (k_asm_print_l2:Int→(List UInt8)→Option (List UInt8×TWhere)) (l732:List UInt8):Option (List UInt8×TWhere) :=
  asm_print_l3 i397 x708 k_asm_print_l2 (x708.Code.length+1) 0 l732
def asm_print_j1 (i397:Int) (l402:List UInt8) (x708:TUnit) (k_asm_print_l2:Int→(List UInt8)→Option (List UInt8×TWhere)) (b724:Bool):Option (List UInt8×TWhere) :=
  if b724=true then
    some ([],(TWhere.mk 1 i397 0))
  else
    (i64 (x708.Kind - 2)).bind fun i734 =>
    (asm_units ).bind fun r736 =>
    (at_ r736 i734).bind fun x742 =>
    (app ([x708.Params,x708.Result,x708.Takes]:List Int) x708.Locals).bind fun l755 =>
    (pr_line x742 l755 l402).bind fun r765 =>
    asm_print_j2 i397 x708 k_asm_print_l2 r765
def asm_print_l2 (p_1:TModule):Nat→Int→(List UInt8)→Option (List UInt8×TWhere)
  | 0,_,_=>none
  | n+1,i397,l402 =>
    if i397<(p_1.Units.length:Int) then
      (at_ p_1.Units i397).bind fun x708 =>
      if x708.Kind<2 then
        asm_print_j1 i397 l402 x708 (asm_print_l2 p_1 n) true
      else
        asm_print_j1 i397 l402 x708 (asm_print_l2 p_1 n) (decide ((4:Int)<x708.Kind))
    else
      (bd_len l402).bind fun r1057 =>
      if (60000:Int)<r1057 then
        some ([],(TWhere.mk 4 0 0))
      else
        some (l402,(TWhere.mk 0 0 0))
def asm_print_l1 (p_1:TModule):Nat→Int→(List UInt8)→Option (List UInt8×TWhere)
  | 0,_,_=>none
  | n+1,i38,l43 =>
    if i38<(p_1.Boxes.length:Int) then
      (at_ p_1.Boxes i38).bind fun x73 =>
      (pr_line [98,111,120] [x73.Typ,x73.Cap] l43).bind fun r87 =>
      (i64 (i38+1)).bind fun i95 =>
      asm_print_l1 p_1 n i95 r87
    else
      asm_print_l2 p_1 (p_1.Units.length+1) 0 l43
def asm_print  (p_1:TModule):Option (List UInt8×TWhere) :=
  asm_print_l1 p_1 (p_1.Boxes.length+1) 0 []
end Go.Y
namespace Go.Y
open Go.Wk Go.Xt
def tx_0:List UInt8:=[98,111,120,32,49,32,50,10,116,97,115,107,32,48,32,48,32,48,32,49,10,9,112,117,115,104,32,45,55,10,9,101,110,100,10]
def asm_alive (fu:Nat)  :Option Bool :=
  (asm_read fu tx_0).bind fun r1 =>
  if r1.2.Err=0 then
    if (r1.1.Boxes.length:Int)=1 then
      if (r1.1.Units.length:Int)=1 then
        (at_ r1.1.Units 0).bind fun x17 =>
        if (x17.Code.length:Int)=2 then
          (at_ r1.1.Units 0).bind fun x32 =>
          (at_ x32.Code 0).bind fun x46 =>
          some (decide (x46.N=(-7)))
        else
          some false
      else
        some false
    else
      some false
  else
    some false
def r13_bare_j2 (i299:Int) (l302:List TInstr) (x333:TInstr) (i348:Int) (k_r13_bare_l2:Int→(List TInstr)→Option TModule) (i351:Int):Option TModule :=
  (app l302 [(TInstr.mk x333.Op i348 i351)]).bind fun l358 =>
  (i64 (i299+1)).bind fun i361 =>
  k_r13_bare_l2 i361 l358
def r13_bare_j1 (i299:Int) (l302:List TInstr) (x333:TInstr) (r343:List UInt8×Int) (k_r13_bare_l2:Int→(List TInstr)→Option TModule) (i348:Int):Option TModule :=
  if r343.2=2 then
    r13_bare_j2 i299 l302 x333 i348 k_r13_bare_l2 x333.N
  else
    r13_bare_j2 i299 l302 x333 i348 k_r13_bare_l2 0
def r13_bare_l2 (i134:Int) (l137:List TUnit) (x256:TUnit) (k_r13_bare_l1:Int→(List TUnit)→Option TModule):Nat→Int→(List TInstr)→Option TModule
  | 0,_,_=>none
  | n+1,i299,l302 =>
    if i299<(x256.Code.length:Int) then
      (at_ x256.Code i299).bind fun x333 =>
      (r13_word x333.Op).bind fun r343 =>
      if r343.2=1 then
        r13_bare_j1 i299 l302 x333 r343 (r13_bare_l2 i134 l137 x256 k_r13_bare_l1 n) x333.A
      else
        r13_bare_j1 i299 l302 x333 r343 (r13_bare_l2 i134 l137 x256 k_r13_bare_l1 n) 0
    else
      (app l137 [(TUnit.mk x256.Kind x256.Params x256.Locals x256.Result x256.Takes l302)]).bind fun l372 =>
      (i64 (i134+1)).bind fun i375 =>
      k_r13_bare_l1 i375 l372
def r13_bare_l1 (p_1:TModule):Nat→Int→(List TUnit)→Option TModule
  | 0,_,_=>none
  | n+1,i134,l137 =>
    if i134<(p_1.Units.length:Int) then
      (at_ p_1.Units i134).bind fun x256 =>
      r13_bare_l2 i134 l137 x256 (r13_bare_l1 p_1 n) (x256.Code.length+1) 0 []
    else
      some (TModule.mk p_1.Boxes l137)
def r13_bare  (p_1:TModule):Option TModule :=
  r13_bare_l1 p_1 (p_1.Units.length+1) 0 []
def law_asmu_j1 (fu:Nat) (p_2:List UInt8) :Option Bool :=
  (asm_read fu p_2).bind fun r49 =>
  if r49.2.Err≠0 then
    some true
  else
    (asm_print r49.1).bind fun r63 =>
    if r63.2.Err=0 then
      some (decide (r63.1=p_2))
    else
      some false
def law_asmu_j2 (fu:Nat) (p_2:List UInt8) (b32:Bool):Option Bool :=
  if b32=true then
    some false
  else
    law_asmu_j1 fu p_2
def law_asmu (fu:Nat)  (p_1:TModule) (p_2:List UInt8):Option Bool :=
  (asm_alive fu).bind fun r9 =>
  if r9=true then
    (asm_print p_1).bind fun r13 =>
    if r13.2.Err=0 then
      (asm_read fu r13.1).bind fun r19 =>
      if r19.2.Err≠0 then
        law_asmu_j2 fu p_2 true
      else
        (r13_bare p_1).bind fun r34 =>
        (r6_same r19.1 r34).bind fun r43 =>
        law_asmu_j2 fu p_2 (!r43)
    else
      law_asmu_j1 fu p_2
  else
    some false
end Go.Y
