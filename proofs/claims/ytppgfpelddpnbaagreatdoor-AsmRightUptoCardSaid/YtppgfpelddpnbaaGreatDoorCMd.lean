/- Texts of Md. -/
import Derived.Test.YtppgfpelddpnbaaGreatDoorCXu
import Derived.Lib.ParseIntB
import Derived.Lib.ItoaNum
import Derived.Lib.Split
import Derived.Lib.SlicesS
import Derived.Lib.Strings
set_option linter.unusedSimpArgs false
set_option linter.unusedVariables false
set_option linter.unusedSectionVars false
namespace Go.Y
open Go.Wk Go.Xt
structure TBi where
  Typ:Int
  Cap:Int
  deriving DecidableEq,Inhabited,Repr
instance:Mo TBi where
  sz:=2
  pos:=by decide
  cs μ l x:=l=[.int .i64 x.Typ,.int .i64 x.Cap]
  ln h:=by obtain rfl:=h; rfl
  up le h:=by exact h
  cv h:=by obtain rfl:=h; rfl
structure TInstr where
  Op:Int
  A:Int
  N:Int
  deriving DecidableEq,Inhabited,Repr
instance:Mo TInstr where
  sz:=3
  pos:=by decide
  cs μ l x:=l=[.int .i64 x.Op,.int .i64 x.A,.int .i64 x.N]
  ln h:=by obtain rfl:=h; rfl
  up le h:=by exact h
  cv h:=by obtain rfl:=h; rfl
structure TUnit where
  Kind:Int
  Params:Int
  Locals:List Int
  Result:Int
  Takes:Int
  Code:List TInstr
  deriving DecidableEq,Inhabited,Repr
instance:Mo TUnit where
  sz:=6
  pos:=by decide
  cs μ l x:=∃ a1 c1 a2 c2,l=[.int .i64 x.Kind,.int .i64 x.Params,.slice a1 x.Locals.length c1,.int .i64 x.Result,.int .i64 x.Takes,.slice a2 x.Code.length c2]∧Sl μ a1 c1 x.Locals∧Sl μ a2 c2 x.Code
  ln h:=by obtain ⟨a1,c1,a2,c2,rfl,m1,m2⟩:=h; rfl
  up le h:=by obtain ⟨a1,c1,a2,c2,rfl,m1,m2⟩:=h; exact ⟨a1,c1,a2,c2,rfl,m1.up le,m2.up le⟩
  cv h:=by obtain ⟨a1,c1,a2,c2,rfl,m1,m2⟩:=h; rfl
theorem TUnit.i {μ:M} {l:List Value} {x:TUnit} (h:∃ a1 c1 a2 c2,l=[.int .i64 x.Kind,.int .i64 x.Params,.slice a1 x.Locals.length c1,.int .i64 x.Result,.int .i64 x.Takes,.slice a2 x.Code.length c2]∧Sl μ a1 c1 x.Locals∧Sl μ a2 c2 x.Code):Mo.cs μ l x:=h
structure TModule where
  Boxes:List TBi
  Units:List TUnit
  deriving DecidableEq,Inhabited,Repr
instance:Mo TModule where
  sz:=2
  pos:=by decide
  cs μ l x:=∃ a1 c1 a2 c2,l=[.slice a1 x.Boxes.length c1,.slice a2 x.Units.length c2]∧Sl μ a1 c1 x.Boxes∧Sl μ a2 c2 x.Units
  ln h:=by obtain ⟨a1,c1,a2,c2,rfl,m1,m2⟩:=h; rfl
  up le h:=by obtain ⟨a1,c1,a2,c2,rfl,m1,m2⟩:=h; exact ⟨a1,c1,a2,c2,rfl,m1.up le,m2.up le⟩
  cv h:=by obtain ⟨a1,c1,a2,c2,rfl,m1,m2⟩:=h; rfl
theorem TModule.i {μ:M} {l:List Value} {x:TModule} (h:∃ a1 c1 a2 c2,l=[.slice a1 x.Boxes.length c1,.slice a2 x.Units.length c2]∧Sl μ a1 c1 x.Boxes∧Sl μ a2 c2 x.Units):Mo.cs μ l x:=h
structure TWhere where
  Err:Int
  Unit:Int
  At:Int
  deriving DecidableEq,Inhabited,Repr
structure TFault where
  Err:Int
  At:Int
  deriving DecidableEq,Inhabited,Repr
structure TVs where
  stack:List Int
  has:List Bool
  deriving DecidableEq,Inhabited,Repr
structure TVc where
  m:Option TModule
  deriving DecidableEq,Inhabited,Repr
instance:Mo TVc where
  sz:=1
  pos:=by decide
  cs μ l x:=∃ v1,l=[v1]∧Np μ v1 x.m
  ln h:=by obtain ⟨v1,rfl,m1⟩:=h; rfl
  up le h:=by obtain ⟨v1,rfl,m1⟩:=h; exact ⟨v1,rfl,m1.up le⟩
  cv h:=by obtain ⟨v1,rfl,m1⟩:=h; simp [m1.cellV]
theorem TVc.i {μ:M} {l:List Value} {x:TVc} (h:∃ v1,l=[v1]∧Np μ v1 x.m):Mo.cs μ l x:=h
end Go.Y
namespace Go.Y
def R64 (n : Int) : Prop := -9223372036854775808 ≤ n ∧ n ≤ 9223372036854775807
def MzB (x : TBi) : Prop := R64 x.Typ ∧ R64 x.Cap
def MzC (x : TInstr) : Prop := R64 x.Op ∧ R64 x.A ∧ R64 x.N
def MzU (x : TUnit) : Prop := R64 x.Kind ∧ R64 x.Params ∧ R64 x.Result ∧ R64 x.Takes ∧ (x.Locals.length ≤ 1048576 ∧ ∀ y ∈ x.Locals, R64 y) ∧ x.Code.length ≤ 1048576 ∧ ∀ y ∈ x.Code, MzC y
def MzM (m : TModule) : Prop := (m.Boxes.length ≤ 1048576 ∧ ∀ y ∈ m.Boxes, MzB y) ∧ m.Units.length ≤ 1048576 ∧ ∀ y ∈ m.Units, MzU y
end Go.Y
namespace Go.Y
open Go.Wk Go.Xt
def s_cut (a b : List UInt8) : Option (List UInt8 × List UInt8 × Bool) := if a.length < 4294967281 then some (Lib.cut a b) else none
def s_pre (a b : List UInt8) : Option (List UInt8 × Bool) := some (Lib.trimPrefix a b, Lib.hasPrefix a b)
def s_split (a b : List UInt8) : Option (List (List UInt8)) := if a.length < 4294967281 ∧ 1 ≤ b.length then some ((Lib.splitB ⟨⟨b⟩⟩ 0 (Lib.countB ⟨⟨a⟩⟩ ⟨⟨b⟩⟩) ⟨⟨a⟩⟩).map (·.data.toList)) else none
def s_idx (l : List (List UInt8)) (x : List UInt8) : Option Int := some (Lib.idxOfS (l.map fun y => ⟨⟨y⟩⟩) ⟨⟨x⟩⟩)
def asm_number (s : List UInt8) : Option (Int × Bool) := if s.length ≤ 281474976710656 then some (match Lib.parseIntB 64 s with | .ok v => (v, decide (Lib.itoa v = s)) | .range => (Lib.intSat 64 s, false) | _ => (0, false)) else none
instance : Lc TUnit TInstr where
  code := TUnit.Code
  set x ys := { x with Code := ys }
  hd μ l x := ∃ a1 c1, l = [.int .i64 x.Kind, .int .i64 x.Params, .slice a1 x.Locals.length c1, .int .i64 x.Result, .int .i64 x.Takes] ∧ Sl μ a1 c1 x.Locals
  up le h := by obtain ⟨a, c, rfl, m⟩ := h; exact ⟨a, c, rfl, m.up le⟩
  ln h := by obtain ⟨a, c, rfl, m⟩ := h; rfl
  wr h k := by obtain ⟨a, c, rfl, m⟩ := h; exact ⟨a, c, _, _, rfl, m, k⟩
  st h := h
  sc := rfl
  cs := rfl
end Go.Y
namespace Go.Y
open Go.Wk Go.Xt
def asm_units  :Option (List (List UInt8)) :=
  some [[102,110],[103,101,110],[116,97,115,107]]
def asm_mnem  :Option (List (List UInt8)) :=
  some [[112,117,115,104],[116,114,117,116,104],[108,111,97,100],[115,116,111,114,101],[100,114,111,112],[110,101,103],[110,111,116],[97,100,100],[115,117,98],[109,117,108],[100,105,118],[109,111,100],[101,113],[110,101],[108,116],[108,101],[103,116],[103,101],[97,110,100],[111,114],[106,117,109,112],[101,108,115,101],[99,97,108,108],[114,101,116],[101,110,100],[115,101,110,100],[114,101,99,118],[111,117,116],[115,116,97,114,116],[114,101,115,117,109,101],[121,105,101,108,100],[97,108,105,118,101]]
def asm_has_j1 (p_1:Int) (b1:Bool):Option (Bool×Bool) :=
  if b1=true then
    some (false,true)
  else
    some (decide (p_1=1),false)
def asm_has  (p_1:Int):Option (Bool×Bool) :=
  if p_1=2 then
    asm_has_j1 p_1 (decide (p_1=2))
  else
    if p_1=3 then
      asm_has_j1 p_1 (decide (p_1=3))
    else
      if p_1=4 then
        asm_has_j1 p_1 (decide (p_1=4))
      else
        if p_1=21 then
          asm_has_j1 p_1 (decide (p_1=21))
        else
          if p_1=22 then
            asm_has_j1 p_1 (decide (p_1=22))
          else
            if p_1=23 then
              asm_has_j1 p_1 (decide (p_1=23))
            else
              if p_1=26 then
                asm_has_j1 p_1 (decide (p_1=26))
              else
                if p_1=27 then
                  asm_has_j1 p_1 (decide (p_1=27))
                else
                  asm_has_j1 p_1 (decide (p_1=29))
def asm_numbers_l1 (p_1:List (List UInt8)):Nat→Int→(List Int)→Option (List Int×Bool)
  | 0,_,_=>none
  | n+1,i27,l30 =>
    if i27<(p_1.length:Int) then
      (at_ p_1 i27).bind fun x54 =>
      (asm_number x54).bind fun r62 =>
      if r62.2=true then
        (app l30 [r62.1]).bind fun l69 =>
        (i64 (i27+1)).bind fun i72 =>
        asm_numbers_l1 p_1 n i72 l69
      else
        some (([]:List Int),false)
    else
      some (l30,true)
def asm_numbers  (p_1:List (List UInt8)):Option (List Int×Bool) :=
  asm_numbers_l1 p_1 (p_1.length+1) 0 []
def asm_instr_j5 (i10:Int) (r62:Int×Bool) (i65:Int) (i66:Int):Option (TInstr×Bool) :=
  some ((TInstr.mk i10 i65 i66),r62.2)
def asm_instr_j4 (l3:List (List UInt8)) (i10:Int) (r40:Bool×Bool) (i46:Int) (b49:Bool):Option (TInstr×Bool) :=
  if b49=true then
    some ((TInstr.mk i10 0 0),false)
  else
    if i46=1 then
      some ((TInstr.mk i10 0 0),true)
    else
      (at_ l3 1).bind fun x54 =>
      (asm_number x54).bind fun r62 =>
      if r40.1=true then
        asm_instr_j5 i10 r62 0 r62.1
      else
        asm_instr_j5 i10 r62 r62.1 0
def asm_instr_j3 (l3:List (List UInt8)) (i10:Int) (r40:Bool×Bool) (i46:Int):Option (TInstr×Bool) :=
  if i10=0 then
    asm_instr_j4 l3 i10 r40 i46 true
  else
    asm_instr_j4 l3 i10 r40 i46 (decide ((l3.length:Int)≠i46))
def asm_instr_j2 (l3:List (List UInt8)) (i10:Int) (r40:Bool×Bool) (b43:Bool):Option (TInstr×Bool) :=
  if b43=true then
    asm_instr_j3 l3 i10 r40 2
  else
    asm_instr_j3 l3 i10 r40 1
def asm_instr_j1 (l3:List (List UInt8)) (i10:Int):Option (TInstr×Bool) :=
  (asm_has i10).bind fun r40 =>
  if r40.1=true then
    asm_instr_j2 l3 i10 r40 true
  else
    asm_instr_j2 l3 i10 r40 r40.2
def asm_instr  (p_1:List UInt8):Option (TInstr×Bool) :=
  (s_split p_1 [32]).bind fun l3 =>
  (at_ l3 0).bind fun x11 =>
  (asm_mnem ).bind fun r19 =>
  (s_idx r19 x11).bind fun r25 =>
  (i64 (r25+1)).bind fun i27 =>
  asm_instr_j1 l3 i27
def asm_head_j2 (unit_6:List TUnit) (l54:List TBi):Option (Bool×List TBi×List TUnit) :=
  some (true,l54,unit_6)
def asm_head_j1 (boxe_2:List TBi) (unit_6:List TUnit) (r32:List Int×Bool) (b48:Bool):Option (Bool×List TBi×List TUnit) :=
  if b48=true then
    some (false,boxe_2,unit_6)
  else
    (at_ r32.1 0).bind fun x56 =>
    (at_ r32.1 1).bind fun x64 =>
    (app boxe_2 [(TBi.mk x56 x64)]).bind fun l76 =>
    asm_head_j2 unit_6 l76
def asm_head_j5 (boxe_2:List TBi) (l107:List TUnit):Option (Bool×List TBi×List TUnit) :=
  some (true,boxe_2,l107)
def asm_head_j4 (boxe_2:List TBi) (unit_6:List TUnit) (r32:List Int×Bool) (i81:Int) (b99:Bool):Option (Bool×List TBi×List TUnit) :=
  if b99=true then
    some (false,boxe_2,unit_6)
  else
    (i64 (2+i81)).bind fun i109 =>
    (at_ r32.1 0).bind fun x111 =>
    (at_ r32.1 1).bind fun x119 =>
    (at_ r32.1 2).bind fun x127 =>
    (cut r32.1 3 r32.1.length).bind fun l135 =>
    (app unit_6 [(TUnit.mk i109 x111 l135 x119 x127 ([]:List TInstr))]).bind fun l147 =>
    asm_head_j5 boxe_2 l147
def asm_head_j3 (boxe_2:List TBi) (unit_6:List TUnit) (r32:List Int×Bool) (i81:Int):Option (Bool×List TBi×List TUnit) :=
  if i81<0 then
    asm_head_j4 boxe_2 unit_6 r32 i81 true
  else
    asm_head_j4 boxe_2 unit_6 r32 i81 (decide ((r32.1.length:Int)<3))
def asm_head  (boxe_2:List TBi) (unit_6:List TUnit) (p_2:List UInt8):Option (Bool×List TBi×List TUnit) :=
  (s_split p_2 [32]).bind fun l20 =>
  (cut l20 1 l20.length).bind fun l26 =>
  (asm_numbers l26).bind fun r32 =>
  if r32.2=true then
    (at_ l20 0).bind fun x39 =>
    if x39=[98,111,120] then
      if (r32.1.length:Int)≠2 then
        asm_head_j1 boxe_2 unit_6 r32 true
      else
        asm_head_j1 boxe_2 unit_6 r32 (decide ((0:Int)<(unit_6.length:Int)))
    else
      (at_ l20 0).bind fun x82 =>
      (asm_units ).bind fun r90 =>
      (s_idx r90 x82).bind fun r96 =>
      asm_head_j3 boxe_2 unit_6 r32 r96
  else
    some (false,boxe_2,unit_6)
def asm_read_j1 (i79:Int) (r157:List UInt8×List UInt8×Bool) (k_asm_read_l1:(List UInt8)→Int→(List TUnit)→(List TBi)→Option (TModule×TFault)) (b159:Bool) (l164:List TUnit) (l168:List TBi):Option (TModule×TFault) :=
  if b159=true then
    (i64 (i79+1)).bind fun i234 =>
    k_asm_read_l1 r157.2.1 i234 l164 l168
  else
    some ((TModule.mk ([]:List TBi) ([]:List TUnit)),(TFault.mk 2 i79))
def asm_read_j3 (i79:Int) (l88:List TBi) (r157:List UInt8×List UInt8×Bool) (r176:TInstr×Bool) (k_asm_read_l1:(List UInt8)→Int→(List TUnit)→(List TBi)→Option (TModule×TFault)) (l204:List TUnit):Option (TModule×TFault) :=
  asm_read_j1 i79 r157 k_asm_read_l1 r176.2 l204 l88
def asm_read_j2 (i79:Int) (l84:List TUnit) (l88:List TBi) (r157:List UInt8×List UInt8×Bool) (r176:TInstr×Bool) (k_asm_read_l1:(List UInt8)→Int→(List TUnit)→(List TBi)→Option (TModule×TFault)) (b179:Bool):Option (TModule×TFault) :=
  if b179=true then
    (i64 ((l84.length:Int) - 1)).bind fun i183 =>
    (at_ l84 i183).bind fun x185 =>
    (app x185.Code [r176.1]).bind fun l210 =>
    asm_read_j3 i79 l88 r157 r176 k_asm_read_l1 (uset l84 l210)
  else
    asm_read_j1 i79 r157 k_asm_read_l1 false l84 l88
def asm_read_l1 :Nat→(List UInt8)→Int→(List TUnit)→(List TBi)→Option (TModule×TFault)
  | 0,_,_,_,_=>none
  | n+1,s78,i79,l84,l88 =>
    if s78≠[] then
      (s_cut s78 [10]).bind fun r157 =>
      if r157.2.2=true then
        (s_pre r157.1 [9]).bind fun r171 =>
        if r171.2=true then
          (asm_instr r171.1).bind fun r176 =>
          if r176.2=true then
            asm_read_j2 i79 l84 l88 r157 r176 (asm_read_l1 n) (decide ((0:Int)<(l84.length:Int)))
          else
            asm_read_j2 i79 l84 l88 r157 r176 (asm_read_l1 n) false
        else
          (asm_head l88 l84 r157.1).bind fun r219 =>
          asm_read_j1 i79 r157 (asm_read_l1 n) r219.1 r219.2.2 r219.2.1
      else
        asm_read_j1 i79 r157 (asm_read_l1 n) r157.2.2 l84 l88
    else
      some ((TModule.mk l88 l84),(TFault.mk 0 0))
def asm_read (fu:Nat)  (p_1:List UInt8):Option (TModule×TFault) :=
  if (60000:Int)<(p_1.length:Int) then
    some ((TModule.mk ([]:List TBi) ([]:List TUnit)),(TFault.mk 4 0))
  else
    asm_read_l1 fu p_1 0 ([]:List TUnit) []
end Go.Y
namespace Go.Y
open Go.Wk Go.Xt
def r13_word_j2 (p_1:Int) (i52:Int):Option (List UInt8×Int) :=
  (i64 (p_1 - 1)).bind fun i55 =>
  (at_ [[112,117,115,104],[116,114,117,116,104],[108,111,97,100],[115,116,111,114,101],[100,114,111,112],[110,101,103],[110,111,116],[97,100,100],[115,117,98],[109,117,108],[100,105,118],[109,111,100],[101,113],[110,101],[108,116],[108,101],[103,116],[103,101],[97,110,100],[111,114],[106,117,109,112],[101,108,115,101],[99,97,108,108],[114,101,116],[101,110,100],[115,101,110,100],[114,101,99,118],[111,117,116],[115,116,97,114,116],[114,101,115,117,109,101],[121,105,101,108,100],[97,108,105,118,101]] i55).bind fun x57 =>
  some (x57,i52)
def r13_word_l1 (p_1:Int):Nat→Int→Int→Option (List UInt8×Int)
  | 0,_,_=>none
  | n+1,i24,i25 =>
    if i25<9 then
      (at_ [2,3,4,21,22,23,26,27,29] i25).bind fun x39 =>
      if x39=p_1 then
        (i64 (i25+1)).bind fun i48 =>
        r13_word_l1 p_1 n 1 i48
      else
        (i64 (i25+1)).bind fun i50 =>
        r13_word_l1 p_1 n i24 i50
    else
      if p_1=1 then
        r13_word_j2 p_1 2
      else
        r13_word_j2 p_1 i24
def r13_word_j1 (p_1:Int) (b3:Bool):Option (List UInt8×Int) :=
  if b3=true then
    some ([],0)
  else
    r13_word_l1 p_1 10 0 0
def r13_word  (p_1:Int):Option (List UInt8×Int) :=
  if p_1<1 then
    r13_word_j1 p_1 true
  else
    r13_word_j1 p_1 (decide ((32:Int)<p_1))
end Go.Y
namespace Go.Y
open Go.Wk Go.Xt
def bd_len  (buf_4:List UInt8):Option Int :=
  some (buf_4.length:Int)
def bd_byte  (buf_4:List UInt8) (p_2:UInt8):Option (Unit×List UInt8) :=
  (app buf_4 [p_2]).bind fun l18 =>
  some ((),l18)
def bd_str  (buf_4:List UInt8) (p_2:List UInt8):Option (Int×Unit×List UInt8) :=
  (app buf_4 p_2).bind fun l14 =>
  some ((p_2.length:Int),(),l14)
end Go.Y
namespace Go.Y
open Go.Wk Go.Xt
def pr_line_l1 (p_2:List Int):Nat→Int→(List UInt8)→Option (List UInt8)
  | 0,_,_=>none
  | n+1,i46,l51 =>
    if i46<(p_2.length:Int) then
      (at_ p_2 i46).bind fun x79 =>
      (fmt10 x79).bind fun s87 =>
      (cat [32] s87).bind fun s89 =>
      (bd_str l51 s89).bind fun r91 =>
      (i64 (i46+1)).bind fun i99 =>
      pr_line_l1 p_2 n i99 r91.2.2
    else
      (bd_byte l51 10).bind fun r101 =>
      some r101.2
def pr_line  (p_1:List UInt8) (p_2:List Int) (buf_7:List UInt8):Option (List UInt8) :=
  (bd_str buf_7 p_1).bind fun r16 =>
  pr_line_l1 p_2 (p_2.length+1) 0 r16.2.2
def asm_print_j4 (i882:Int) (l887:List UInt8) (x970:TInstr) (k_asm_print_l3:Int→(List UInt8)→Option (List UInt8×TWhere)) (s984:List UInt8):Option (List UInt8×TWhere) :=
  (asm_has x970.Op).bind fun r1004 =>
  if r1004.1=true then
    (cat s984 [32]).bind fun s1008 =>
    (fmt10 x970.N).bind fun s1010 =>
    (cat s1008 s1010).bind fun s1012 =>
    (cat s1012 [10]).bind fun s1014 =>
    (bd_str l887 s1014).bind fun r1016 =>
    (i64 (i882+1)).bind fun i1024 =>
    k_asm_print_l3 i1024 r1016.2.2
  else
    if r1004.2=true then
      (pr_line s984 [x970.A] l887).bind fun r1031 =>
      (i64 (i882+1)).bind fun i1039 =>
      k_asm_print_l3 i1039 r1031
    else
      (pr_line s984 ([]:List Int) l887).bind fun r1041 =>
      (i64 (i882+1)).bind fun i1049 =>
      k_asm_print_l3 i1049 r1041
def asm_print_j3 (i397:Int) (i882:Int) (l887:List UInt8) (x970:TInstr) (k_asm_print_l3:Int→(List UInt8)→Option (List UInt8×TWhere)) (b980:Bool):Option (List UInt8×TWhere) :=
  if b980=true then
    some ([],(TWhere.mk 1 i397 i882))
  else
    (i64 (x970.Op - 1)).bind fun i985 =>
    (asm_mnem ).bind fun r987 =>
    (at_ r987 i985).bind fun x993 =>
    (cat [9] x993).bind fun s1001 =>
    asm_print_j4 i882 l887 x970 k_asm_print_l3 s1001
def asm_print_l3 (i397:Int) (x708:TUnit) (k_asm_print_l2:Int→(List UInt8)→Option (List UInt8×TWhere)):Nat→Int→(List UInt8)→Option (List UInt8×TWhere)
  | 0,_,_=>none
  | n+1,i882,l887 =>
    if i882<(x708.Code.length:Int) then
      (at_ x708.Code i882).bind fun x970 =>
      if x970.Op<1 then
        asm_print_j3 i397 i882 l887 x970 (asm_print_l3 i397 x708 k_asm_print_l2 n) true
      else
        asm_print_j3 i397 i882 l887 x970 (asm_print_l3 i397 x708 k_asm_print_l2 n) (decide ((32:Int)<x970.Op))
    else
      (bd_len l887).bind fun r1051 =>
      if (60000:Int)<r1051 then
        some ([],(TWhere.mk 4 0 0))
      else
        (i64 (i397+1)).bind fun i1055 =>
        k_asm_print_l2 i1055 l887
def asm_print_j2 (i397:Int) (x708:TUnit) (k_asm_print_l2:Int→(List UInt8)→Option (List UInt8×TWhere)) (l732:List UInt8):Option (List UInt8×TWhere) :=
  asm_print_l3 i397 x708 k_asm_print_l2 (x708.Code.length+1) 0 l732
def asm_print_j1 (i397:Int) (l402:List UInt8) (x708:TUnit) (k_asm_print_l2:Int→(List UInt8)→Option (List UInt8×TWhere)) (b724:Bool):Option (List UInt8×TWhere) :=
  if b724=true then
    some ([],(TWhere.mk 1 i397 0))
  else
    (i64 (x708.Kind - 2)).bind fun i734 =>
    (asm_units ).bind fun r736 =>
    (at_ r736 i734).bind fun x742 =>
    (app ([x708.Params,x708.Result,x708.Takes]:List Int) x708.Locals).bind fun l755 =>
    (pr_line x742 l755 l402).bind fun r765 =>
    asm_print_j2 i397 x708 k_asm_print_l2 r765
def asm_print_l2 (p_1:TModule):Nat→Int→(List UInt8)→Option (List UInt8×TWhere)
  | 0,_,_=>none
  | n+1,i397,l402 =>
    if i397<(p_1.Units.length:Int) then
      (at_ p_1.Units i397).bind fun x708 =>
      if x708.Kind<2 then
        asm_print_j1 i397 l402 x708 (asm_print_l2 p_1 n) true
      else
        asm_print_j1 i397 l402 x708 (asm_print_l2 p_1 n) (decide ((4:Int)<x708.Kind))
    else
      (bd_len l402).bind fun r1057 =>
      if (60000:Int)<r1057 then
        some ([],(TWhere.mk 4 0 0))
      else
        some (l402,(TWhere.mk 0 0 0))
def asm_print_l1 (p_1:TModule):Nat→Int→(List UInt8)→Option (List UInt8×TWhere)
  | 0,_,_=>none
  | n+1,i38,l43 =>
    if i38<(p_1.Boxes.length:Int) then
      (at_ p_1.Boxes i38).bind fun x73 =>
      (pr_line [98,111,120] [x73.Typ,x73.Cap] l43).bind fun r87 =>
      (i64 (i38+1)).bind fun i95 =>
      asm_print_l1 p_1 n i95 r87
    else
      asm_print_l2 p_1 (p_1.Units.length+1) 0 l43
def asm_print  (p_1:TModule):Option (List UInt8×TWhere) :=
  asm_print_l1 p_1 (p_1.Boxes.length+1) 0 []
end Go.Y
namespace Go.Y
open Go.Wk Go.Xt
structure TShV where
  stack:List Int
  hv:Value
instance:MV TShV where
  rv μ v x:=∃ a c,v=.agg ⟨[.slice a x.stack.length c,x.hv]⟩∧Sl μ a c x.stack
  up l h:=by obtain ⟨a,c,h1,h2⟩:=h; exact ⟨a,c,h1,h2.up l⟩
abbrev Bits:=List (Value×List Bool)
def pz:Bits→List (Int×TVs)→List (Int×TShV)
  | b::bs,e::m=>(e.1,⟨e.2.stack,b.1⟩)::pz bs m
  | _,_=>[]
structure Pil (μ:M) (es:List MapEntry) (c:Nat) (bs:Bits) (m:List (Int×TVs)):Prop where
  mq:Mq μ es c (pz bs m)
  has:bs.map (·.2)=m.map (·.2.has)
theorem Pil.up {μ μ':M} {es:List MapEntry} {c:Nat} {bs:Bits} {m:List (Int×TVs)} (h:Pil μ es c bs m) (l:Le μ μ'):Pil μ' es c bs m:=⟨h.mq.up l,h.has⟩
theorem Pil.nil {μ:M} {c:Nat}:Pil μ [] c [] []:=⟨Mq.nil,rfl⟩
def bitsRes (T:TypeId) (bs:Bits):List Res:=bs.map fun b=>.row b.1 T 1 b.2.length (b.2.map .bool)
theorem pz_get:∀ (bs:Bits) (m:List (Int×TVs)) (k:Int) (x:TVs),bs.map (·.2)=m.map (·.2.has)→mget m k=some x→∃ b1 v b2,bs=b1++(v,x.has)::b2∧mget (pz bs m) k=some ⟨x.stack,v⟩∧∀ h',pz (b1++(v,h')::b2) (mput m k ⟨x.stack,h'⟩)=pz bs m∧(b1++(v,h')::b2).map (·.2)=(mput m k ⟨x.stack,h'⟩).map (·.2.has)
  | bs,[],k,x,h,g=>by simp [mget] at g
  | [],e::m,k,x,h,g=>by simp at h
  | b::bs,(a,y)::m,k,x,h,g=>by
    simp only [List.map_cons,List.cons.injEq] at h
    obtain ⟨h1,h2⟩:=h
    by_cases e:a=k
    · subst e
      rw [mget,if_pos rfl] at g
      obtain rfl:=Option.some.inj g
      refine ⟨[],b.1,bs,by rw [← h1]; rfl,by rw [pz,mget,if_pos rfl],fun h'=>?_⟩
      rw [mput,if_pos rfl]
      exact ⟨rfl,by simp [h2]⟩
    · rw [mget,if_neg e] at g
      obtain ⟨b1,v,b2,e1,e2,e3⟩:=pz_get bs m k x h2 g
      refine ⟨b::b1,v,b2,by rw [e1]; rfl,by rw [pz,mget,if_neg e,e2],fun h'=>?_⟩
      obtain ⟨q1,q2⟩:=e3 h'
      rw [mput,if_neg e]
      refine ⟨?_,?_⟩
      · show pz (b::(b1++(v,h')::b2)) _=_
        rw [pz,pz,q1]
      · show (b::(b1++(v,h')::b2)).map (·.2)=_
        rw [List.map_cons,q2,List.map_cons,h1]
theorem pz_no:∀ (bs:Bits) (m:List (Int×TVs)) (k:Int),mget m k=none→mget (pz bs m) k=none
  | bs,[],k,g=>by cases bs <;> rfl
  | [],e::m,k,g=>rfl
  | b::bs,(a,y)::m,k,g=>by
    by_cases e:a=k
    · rw [mget,if_pos e] at g; cases g
    · rw [mget,if_neg e] at g
      rw [pz,mget,if_neg e,pz_no bs m k g]
theorem pz_put:∀ (bs:Bits) (m:List (Int×TVs)) (k:Int) (st:List Int) (v:Value) (h:List Bool),bs.map (·.2)=m.map (·.2.has)→mget m k=none →
    mput (pz bs m) k ⟨st,v⟩=pz (bs++[(v,h)]) (mput m k ⟨st,h⟩)∧(bs++[(v,h)]).map (·.2)=(mput m k ⟨st,h⟩).map (·.2.has)
  | [],[],k,st,v,h,e,g=>⟨rfl,rfl⟩
  | b::bs,[],k,st,v,h,e,g=>by simp at e
  | [],e::m,k,st,v,h,e',g=>by simp at e'
  | b::bs,(a,y)::m,k,st,v,h,e,g=>by
    simp only [List.map_cons,List.cons.injEq] at e
    obtain ⟨h1,h2⟩:=e
    by_cases c:a=k
    · rw [mget,if_pos c] at g; cases g
    · rw [mget,if_neg c] at g
      obtain ⟨q1,q2⟩:=pz_put bs m k st v h h2 g
      rw [pz,mput,if_neg c,mput,if_neg c,q1]
      refine ⟨?_,?_⟩
      · show _=pz (b::(bs++[(v,h)])) _
        rw [pz]
      · show (b::(bs++[(v,h)])).map (·.2)=_
        rw [List.map_cons,q2,List.map_cons,h1]
theorem mget_no {m:List (Int×TVs)} {k:Int} (h:¬ (mget m k).isSome=true):mget m k=none:=by
  cases e:mget m k with
  | none=>rfl
  | some x=>rw [e] at h; exact absurd rfl h
theorem Pil.new {μ:M} {es:List MapEntry} {c:Nat} {bs:Bits} {m:List (Int×TVs)} {k:Int} {st:List Int} {v:Value} {h:List Bool} {es':List MapEntry} {c':Nat} {μ0:M} (p:Pil μ0 es c bs m) (g:mget m k=none) (q:Mq μ es' c' (mput (pz bs m) k ⟨st,v⟩)):Pil μ es' c' (bs++[(v,h)]) (mput m k ⟨st,h⟩):=by
  obtain ⟨e1,e2⟩:=pz_put bs m k st v h p.has g
  exact ⟨by rw [← e1]; exact q,e2⟩
theorem Pil.set {μ:M} {es:List MapEntry} {c:Nat} {bs b1 b2:Bits} {v:Value} {m:List (Int×TVs)} {k:Int} {x:TVs} (p:Pil μ es c bs m) (h:∀ h',pz (b1++(v,h')::b2) (mput m k ⟨x.stack,h'⟩)=pz bs m∧(b1++(v,h')::b2).map (·.2)=(mput m k ⟨x.stack,h'⟩).map (·.2.has)) (h':List Bool):Pil μ es c (b1++(v,h')::b2) (mput m k ⟨x.stack,h'⟩):=by
  obtain ⟨e1,e2⟩:=h h'
  exact ⟨by rw [e1]; exact p.mq,e2⟩
theorem np_none {α:Type} [Mo α] {μ:M} {v:Value} {o:Option α} (h:Np μ v o) (k:¬ o.isSome=true):v=.pointer none:=by
  cases o with
  | none=>exact h
  | some x=>exact absurd rfl k
theorem rw_bools {μ:M}:∀ h:List Bool,Rw μ (h.map Value.bool) h
  | []=>rfl
  | b::h=>Rw.cons (cs:=[.bool b]) rfl (rw_bools h)
theorem rw_bools_eq {μ:M}:∀ {h:List Bool} {cells:List Value},Rw μ cells h→cells=h.map Value.bool
  | [],cells,r=>r
  | b::h,cells,r=>by
    obtain ⟨cs,t,rfl,h1,h2⟩:=r
    rw [show cs=[.bool b] from h1,rw_bools_eq h2]; rfl
section
variable {μ:M} {w0 w:World} {T:TypeId} {a p R:List Res} {b1 b2 bs:Bits} {v:Value} {h:List Bool}
theorem sep_bOpen (hS:Sq μ w0 w (a++(bitsRes T (b1++(v,h)::b2)++R))):Sq μ w0 w (.row v T 1 h.length (h.map .bool)::(a++(bitsRes T (b1++b2)++R))) :=
  hS.perm (by
    unfold bitsRes
    simp only [List.map_append,List.map_cons,List.append_assoc,List.cons_append]
    exact (List.perm_middle.append_left a).trans List.perm_middle)
theorem sep_bClose {cells:List Value} (hS:Sq μ w0 w (.row v T 1 h.length cells::(a++(bitsRes T (b1++b2)++R)))) (hr:Rw μ cells h):Sq μ w0 w (a++(bitsRes T (b1++(v,h)::b2)++R)):=by
  rw [rw_bools_eq hr] at hS
  exact hS.perm (by
    unfold bitsRes
    simp only [List.map_append,List.map_cons,List.append_assoc,List.cons_append]
    exact ((List.perm_middle.append_left a).trans List.perm_middle).symm)
theorem sep_bNew {cells:List Value} (hS:Sq μ w0 w (.row v T 1 h.length cells::(a++(bitsRes T bs++R)))) (hr:Rw μ cells h):Sq μ w0 w (a++(bitsRes T (bs++[(v,h)])++R)):=by
  have hS':Sq μ w0 w (.row v T 1 h.length cells::(a++(bitsRes T (bs++[])++R))):=by rw [List.append_nil]; exact hS
  exact sep_bClose hS' hr
theorem sep_bDrop (hS:Sq μ w0 w (a++(bitsRes T bs++R))):Sq μ w0 w (a++R):=by
  have h1:Sq μ w0 w (bitsRes T bs++(a++R)):=hS.perm (by rw [← List.append_assoc,← List.append_assoc]; exact List.Perm.append_right R List.perm_append_comm)
  generalize bitsRes T bs=l at h1
  induction l with
  | nil=>exact h1
  | cons r l ih=>exact ih (h1.drop .z)
end
section
variable {P:Program} {Q:Exit→Act→World→Prop} {K:List Value→List Deferred→World→Prop} {fr fr':List Value} {ds:List Deferred} {w:World}
variable {dst:Option Tmp} {ty:TypeId} {pos:String} {after:Array Edge} {g:Option (Nat×Bool)} {μ:M} {T:TypeId}
variable {x y:Operand} {kt et:TypeId} {b c:Nat} {es:List MapEntry} {m:List (Int×TShV)} {k:Int}
theorem u_ptrneq {x:Operand} {t t' e:TypeId} {a:Addr} (hu:P.underlying t=some (.pointer e)) (hx:Ev fr x (.pointer (some a))):PU P (Oper.mk dst (.binOp .neq t x (.const (.pointer none)) t') ty pos after g) fr (.bool true):=⟨fun ds w=>by
  have h1:=hx ds
  have h2:(F fr ds).eval (.const (.pointer none))=.pointer none:=rfl
  have e3:∀ d:Nat,(Op.equalIn (d+1) t (.pointer (some a)) (.pointer none)).run P w=.ok false w:=fun d=>by
    simp [Op.equalIn,run_underlying hu]
  have e4:(Op.equalIn Op.maxDepth t (.pointer (some a)) (.pointer none)).run P w=.ok false w:=e3 9999
  simp [execOp,h1,h2,eqGuard,binOp,Op.equal,e4]⟩
theorem s_ptrneq {x:Operand} {t t' e:TypeId} {a:Addr} (hu:P.underlying t=some (.pointer e)) (hx:Ev fr x (.pointer (some a))) (hp:Dt fr dst (.bool true) fr') (h:K fr' ds w):OW P (Oper.mk dst (.binOp .neq t x (.const (.pointer none)) t') ty pos after g) fr ds w K Q:=su (u_ptrneq hu hx) hp h
theorem u_nilpneq {x:Operand} {t t' e:TypeId} (hu:P.underlying t=some (.pointer e)) (hx:Ev fr x (.pointer none)):PU P (Oper.mk dst (.binOp .neq t x (.const (.pointer none)) t') ty pos after g) fr (.bool false):=⟨fun ds w=>by
  have h1:=hx ds
  have h2:(F fr ds).eval (.const (.pointer none))=.pointer none:=rfl
  have e3:∀ d:Nat,(Op.equalIn (d+1) t (.pointer none) (.pointer none)).run P w=.ok true w:=fun d=>by
    simp [Op.equalIn,run_underlying hu]
  have e4:(Op.equalIn Op.maxDepth t (.pointer none) (.pointer none)).run P w=.ok true w:=e3 9999
  simp [execOp,h1,h2,eqGuard,binOp,Op.equal,e4]⟩
theorem s_nilpneq {x:Operand} {t t' e:TypeId} (hu:P.underlying t=some (.pointer e)) (hx:Ev fr x (.pointer none)) (hp:Dt fr dst (.bool false) fr') (h:K fr' ds w):OW P (Oper.mk dst (.binOp .neq t x (.const (.pointer none)) t') ty pos after g) fr ds w K Q:=su (u_nilpneq hu hx) hp h
theorem zsh_rv {μ:M}:MV.rv μ (.agg ⟨[.slice none 0 0,.slice none 0 0]⟩) (⟨[],.slice none 0 0⟩:TShV):=⟨none,0,rfl,Sl.nil⟩
theorem s_pget1 {st:List Int} {hv:Value} (hT:P.underlying T=some (.map kt et)) (hk:P.underlying kt=some (Mk.kd (κ:=Int))) (hx:Ev fr x (.map (some b))) (hy:Ev fr y (Mk.key k))
    (hz:∀ w,(zeroValue et).run P w=.ok (.agg ⟨[.slice none 0 0,.slice none 0 0]⟩) w) (hb:w.heap[b]?=some (.map ⟨es⟩ c)) (he:Mq μ es c m) (eg:mget m k=some ⟨st,hv⟩)
    (h:∀ a c,Sl μ a c st→Put fr dst (.agg ⟨[.slice a st.length c,hv]⟩) fun fr'=>K fr' ds w):OW P (Oper.mk dst (.lookup T x y false) ty pos after g) fr ds w K Q :=
  s_mget1 hT hk hx hy hz zsh_rv hb he fun v hv'=>by
    rw [eg] at hv'
    obtain ⟨a,c,rfl,m⟩:=hv'
    exact h a c m
theorem s_pget2 {st:List Int} {hv:Value} (hT:P.underlying T=some (.map kt et)) (hk:P.underlying kt=some (Mk.kd (κ:=Int))) (hx:Ev fr x (.map (some b))) (hy:Ev fr y (Mk.key k))
    (hz:∀ w,(zeroValue et).run P w=.ok (.agg ⟨[.slice none 0 0,.slice none 0 0]⟩) w) (hb:w.heap[b]?=some (.map ⟨es⟩ c)) (he:Mq μ es c m) (eg:mget m k=some ⟨st,hv⟩)
    (h:∀ a c,Sl μ a c st→Put fr dst (.tuple ⟨[.agg ⟨[.slice a st.length c,hv]⟩,.bool true]⟩) fun fr'=>K fr' ds w):OW P (Oper.mk dst (.lookup T x y true) ty pos after g) fr ds w K Q :=
  s_mget2 hT hk hx hy hz zsh_rv hb he fun v hv'=>by
    rw [eg] at hv' ⊢
    obtain ⟨a,c,rfl,m⟩:=hv'
    exact h a c m
theorem s_pget2n (hT:P.underlying T=some (.map kt et)) (hk:P.underlying kt=some (Mk.kd (κ:=Int))) (hx:Ev fr x (.map (some b))) (hy:Ev fr y (Mk.key k))
    (hz:∀ w,(zeroValue et).run P w=.ok (.agg ⟨[.slice none 0 0,.slice none 0 0]⟩) w) (hb:w.heap[b]?=some (.map ⟨es⟩ c)) (he:Mq μ es c m) (eg:mget m k=none)
    (h:Put fr dst (.tuple ⟨[.agg ⟨[.slice none 0 0,.slice none 0 0]⟩,.bool false]⟩) fun fr'=>K fr' ds w):OW P (Oper.mk dst (.lookup T x y true) ty pos after g) fr ds w K Q:=by
  obtain ⟨fr',hd⟩:=dt_ex fr dst (.tuple #[getAt es (Mk.key k) (.agg ⟨[.slice none 0 0,.slice none 0 0]⟩),.bool (hasAt es (Mk.key k))])
  refine s_look2H hT hk hx hy (Mk.kt k) hz hb he.kv.keys hd ?_
  rw [he.kv.has k,eg] at hd
  have hl:=he.kv.look k
  have e:getAt es (Mk.key k) (.agg ⟨[.slice none 0 0,.slice none 0 0]⟩)=.agg ⟨[.slice none 0 0,.slice none 0 0]⟩:=by
    unfold getAt
    rw [entAt_fnd]
    cases hf:fnd (Mk.key k) es with
    | none=>rfl
    | some p=>rw [hf] at hl; obtain ⟨x,h1,h2⟩:=hl; rw [eg] at h1; cases h1
  rw [e] at hd
  exact h fr' hd
end
end Go.Y
namespace Go.Y
open Go.Wk Go.Xt
def vf_plain  (p_1:Int):Option Bool :=
  if p_1=1 then
    some true
  else
    some (decide (p_1=2))
def vf_unit  (p_1:TVc) (p_2:Int) (p_3:Int):Option Bool :=
  if (0:Int)≤p_2 then
    (p_1.m).bind fun x7 =>
    if p_2<(x7.Units.length:Int) then
      (at_ x7.Units p_2).bind fun x21 =>
      some (decide (x21.Kind=p_3))
    else
      some false
  else
    some false
def vf_handle  (p_1:TVc) (p_2:Int):Option Bool :=
  if (10:Int)≤p_2 then
    (i64 (p_2 - 10)).bind fun i7 =>
    (vf_unit p_1 i7 3).bind fun r9 =>
    some r9
  else
    some false
def vf_instr_j1  (b17:Bool):Option Int :=
  if b17=true then
    some 0
  else
    some 3
def vf_instr_j5  (b56:Bool):Option Int :=
  if b56=true then
    some 1
  else
    vf_instr_j1 true
def vf_instr_j4 (p_1:TVc) (p_3:TInstr) (b38:Bool):Option Int :=
  if b38=true then
    if (0:Int)≤p_3.A then
      (p_1.m).bind fun x43 =>
      vf_instr_j1 (decide (p_3.A<(x43.Boxes.length:Int)))
    else
      vf_instr_j1 false
  else
    if p_3.Op<1 then
      vf_instr_j5 true
    else
      vf_instr_j5 (decide ((32:Int)<p_3.Op))
def vf_instr_j3 (p_1:TVc) (p_2:TUnit) (p_3:TInstr) (b25:Bool):Option Int :=
  if b25=true then
    if (0:Int)≤p_3.A then
      vf_instr_j1 (decide (p_3.A<(p_2.Code.length:Int)))
    else
      vf_instr_j1 false
  else
    if p_3.Op=23 then
      (vf_unit p_1 p_3.A 2).bind fun r31 =>
      vf_instr_j1 r31
    else
      if p_3.Op=29 then
        (vf_unit p_1 p_3.A 3).bind fun r35 =>
        vf_instr_j1 r35
      else
        if p_3.Op=26 then
          vf_instr_j4 p_1 p_3 (decide (p_3.Op=26))
        else
          vf_instr_j4 p_1 p_3 (decide (p_3.Op=27))
def vf_instr_j2 (p_1:TVc) (p_2:TUnit) (p_3:TInstr) (b20:Bool):Option Int :=
  if b20=true then
    if (0:Int)≤p_3.A then
      vf_instr_j1 (decide (p_3.A<(p_2.Locals.length:Int)))
    else
      vf_instr_j1 false
  else
    if p_3.Op=21 then
      vf_instr_j3 p_1 p_2 p_3 (decide (p_3.Op=21))
    else
      vf_instr_j3 p_1 p_2 p_3 (decide (p_3.Op=22))
def vf_instr  (p_1:TVc) (p_2:TUnit) (p_3:TInstr):Option Int :=
  if p_3.Op=2 then
    if p_3.A=0 then
      vf_instr_j1 true
    else
      vf_instr_j1 (decide (p_3.A=1))
  else
    if p_3.Op=3 then
      vf_instr_j2 p_1 p_2 p_3 (decide (p_3.Op=3))
    else
      vf_instr_j2 p_1 p_2 p_3 (decide (p_3.Op=4))
def idxf_i_l1 (p_1:List Int) (p_2:Int→Option Bool):Nat→Int→Option Int
  | 0,_=>none
  | n+1,i20 =>
    if i20<(p_1.length:Int) then
      (at_ p_1 i20).bind fun x37 =>
      (p_2 x37).bind fun b45 =>
      if b45=true then
        some i20
      else
        (i64 (i20+1)).bind fun i49 =>
        idxf_i_l1 p_1 p_2 n i49
    else
      some (-1)
def idxf_i  (p_1:List Int) (p_2:Int→Option Bool):Option Int :=
  idxf_i_l1 p_1 p_2 (p_1.length+1) 0
def conf_i  (p_1:List Int) (p_2:Int→Option Bool):Option Bool :=
  (idxf_i p_1 p_2).bind fun r7 =>
  some (decide ((0:Int)≤r7))
def idxf_n_l1 (p_1:List TInstr) (p_2:TInstr→Option Bool):Nat→Int→Option Int
  | 0,_=>none
  | n+1,i20 =>
    if i20<(p_1.length:Int) then
      (at_ p_1 i20).bind fun x37 =>
      (p_2 x37).bind fun b45 =>
      if b45=true then
        some i20
      else
        (i64 (i20+1)).bind fun i49 =>
        idxf_n_l1 p_1 p_2 n i49
    else
      some (-1)
def idxf_n  (p_1:List TInstr) (p_2:TInstr→Option Bool):Option Int :=
  idxf_n_l1 p_1 p_2 (p_1.length+1) 0
def conf_n  (p_1:List TInstr) (p_2:TInstr→Option Bool):Option Bool :=
  (idxf_n p_1 p_2).bind fun r7 =>
  some (decide ((0:Int)≤r7))
def vf_head1  (p_1:Int) (p_2:Option TVc):Option Bool :=
  (vf_plain p_1).bind fun r6 =>
  if r6=true then
    some false
  else
    (p_2).bind fun x10 =>
    (vf_handle x10 p_1).bind fun r19 =>
    some (!r19)
def vf_head_j4 (p_1:TVc) (p_2:TUnit) (b34:Bool):Option Int :=
  if b34=true then
    some 9
  else
    (conf_i p_2.Locals (fun x_=>vf_head1 x_ (some p_1))).bind fun r52 =>
    if r52=true then
      some 9
    else
      some 0
def vf_head_j3 (p_1:TVc) (p_2:TUnit) (b30:Bool):Option Int :=
  if b30=true then
    some 5
  else
    if p_2.Kind≠4 then
      (vf_plain p_2.Result).bind fun r36 =>
      if r36=true then
        if p_2.Kind=3 then
          (vf_plain p_2.Takes).bind fun r41 =>
          vf_head_j4 p_1 p_2 (!r41)
        else
          vf_head_j4 p_1 p_2 false
      else
        vf_head_j4 p_1 p_2 true
    else
      if p_2.Kind=3 then
        (vf_plain p_2.Takes).bind fun r45 =>
        vf_head_j4 p_1 p_2 (!r45)
      else
        vf_head_j4 p_1 p_2 false
def vf_head_j2 (p_1:TVc) (p_2:TUnit) (b22:Bool):Option Int :=
  if b22=true then
    some 5
  else
    if (p_2.Code.length:Int)<1 then
      vf_head_j3 p_1 p_2 true
    else
      vf_head_j3 p_1 p_2 (decide ((4000:Int)<(p_2.Code.length:Int)))
def vf_head_j1 (p_1:TVc) (p_2:TUnit) (b17:Bool):Option Int :=
  if b17=true then
    some 1
  else
    if (200:Int)<(p_2.Locals.length:Int) then
      vf_head_j2 p_1 p_2 true
    else
      if p_2.Params<0 then
        vf_head_j2 p_1 p_2 true
      else
        if (6:Int)<p_2.Params then
          vf_head_j2 p_1 p_2 true
        else
          if (p_2.Locals.length:Int)<p_2.Params then
            vf_head_j2 p_1 p_2 true
          else
            if p_2.Kind=4 then
              vf_head_j2 p_1 p_2 (decide ((0:Int)<p_2.Params))
            else
              vf_head_j2 p_1 p_2 false
def vf_head  (p_1:TVc) (p_2:TUnit):Option Int :=
  if p_2.Kind≠2 then
    if p_2.Kind≠3 then
      vf_head_j1 p_1 p_2 (decide (p_2.Kind≠4))
    else
      vf_head_j1 p_1 p_2 false
  else
    vf_head_j1 p_1 p_2 false
def vf_form_j2 (i55:Int) (k_vf_form_l1:Int→Option TWhere) (b89:Bool):Option TWhere :=
  if b89=true then
    some (TWhere.mk 3 0 i55)
  else
    (i64 (i55+1)).bind fun i93 =>
    k_vf_form_l1 i93
def vf_form_l3 (p_1:TVc) (i163:Int) (i164:Int) (x235:TUnit) (k_vf_form_l2:Int→Int→Option TWhere):Nat→Int→Option TWhere
  | 0,_=>none
  | n+1,i268 =>
    if i268<(x235.Code.length:Int) then
      (at_ x235.Code i268).bind fun x286 =>
      (vf_instr p_1 x235 x286).bind fun r296 =>
      if r296≠0 then
        some (TWhere.mk r296 i164 i268)
      else
        (i64 (i268+1)).bind fun i300 =>
        vf_form_l3 p_1 i163 i164 x235 k_vf_form_l2 n i300
    else
      if x235.Kind=4 then
        (i64 (i163+1)).bind fun i303 =>
        (i64 (i164+1)).bind fun i305 =>
        k_vf_form_l2 i303 i305
      else
        (i64 (i164+1)).bind fun i307 =>
        k_vf_form_l2 i163 i307
def vf_form_l2 (p_1:TVc) (x25:TModule):Nat→Int→Int→Option TWhere
  | 0,_,_=>none
  | n+1,i163,i164 =>
    if i164<(x25.Units.length:Int) then
      (at_ x25.Units i164).bind fun x235 =>
      (vf_head p_1 x235).bind fun r249 =>
      if r249≠0 then
        some (TWhere.mk r249 i164 0)
      else
        vf_form_l3 p_1 i163 i164 x235 (vf_form_l2 p_1 x25 n) (x235.Code.length+1) 0
    else
      if i163=0 then
        some (TWhere.mk 6 0 0)
      else
        some (TWhere.mk 0 0 0)
def vf_form_l1 (p_1:TVc) (x25:TModule):Nat→Int→Option TWhere
  | 0,_=>none
  | n+1,i55 =>
    if i55<(x25.Boxes.length:Int) then
      (at_ x25.Boxes i55).bind fun x75 =>
      (vf_plain x75.Typ).bind fun r85 =>
      if r85=true then
        if x75.Cap<1 then
          vf_form_j2 i55 (vf_form_l1 p_1 x25 n) true
        else
          vf_form_j2 i55 (vf_form_l1 p_1 x25 n) (decide ((20:Int)<x75.Cap))
      else
        some (TWhere.mk 9 0 i55)
    else
      vf_form_l2 p_1 x25 (x25.Units.length+1) 0 0
def vf_form_j1 (p_1:TVc) (b8:Bool):Option TWhere :=
  if b8=true then
    some (TWhere.mk 5 0 0)
  else
    (p_1.m).bind fun x25 =>
    vf_form_l1 p_1 x25 (x25.Boxes.length+1) 0
def vf_form  (p_1:TVc):Option TWhere :=
  (p_1.m).bind fun x9 =>
  if (30:Int)<(x9.Boxes.length:Int) then
    vf_form_j1 p_1 true
  else
    vf_form_j1 p_1 (decide ((30:Int)<(x9.Units.length:Int)))
end Go.Y
namespace Go.Y
open Go.Wk Go.Xt
def vf_copiedr_j1  (l19:List Int) (l23:List Bool):Option TVs :=
  some (TVs.mk l19 l23)
def vf_copiedr  (p_1:TVs):Option TVs :=
  (small p_1.stack).bind fun u25 =>
  (small p_1.has).bind fun u29 =>
  vf_copiedr_j1 p_1.stack p_1.has
def vf_copied1_j1  (l19:List Int) (l23:List Bool):Option TVs :=
  some (TVs.mk l19 l23)
def vf_copied1  (p_1:TVs):Option TVs :=
  (small p_1.stack).bind fun u25 =>
  (small p_1.has).bind fun u29 =>
  vf_copied1_j1 p_1.stack p_1.has
def sl_equal_l1 (p_1:List Int) (p_2:List Int):Nat→Int→Option Bool
  | 0,_=>none
  | n+1,i33 =>
    if i33<(p_1.length:Int) then
      (at_ p_1 i33).bind fun x60 =>
      (at_ p_2 i33).bind fun x68 =>
      if x60≠x68 then
        some false
      else
        (i64 (i33+1)).bind fun i83 =>
        sl_equal_l1 p_1 p_2 n i83
    else
      some true
def sl_equal  (p_1:List Int) (p_2:List Int):Option Bool :=
  if (p_1.length:Int)≠(p_2.length:Int) then
    some false
  else
    sl_equal_l1 p_1 p_2 (p_1.length+1) 0
def vf_fail  (err_8:Int) (p_2:Int):Option Int :=
  if err_8=0 then
    some p_2
  else
    some err_8
def vf_push  (stac_6:List Int) (err_11:Int) (p_2:Int):Option (List Int×Int) :=
  (app stac_6 [p_2]).bind fun l19 =>
  if (300:Int)<(l19.length:Int) then
    (vf_fail err_11 4).bind fun r23 =>
    some (l19,r23)
  else
    some (l19,err_11)
def vf_pop  (stac_6:List Int) (err_11:Int):Option (Int×List Int×Int) :=
  if (stac_6.length:Int)=0 then
    (vf_fail err_11 12).bind fun r16 =>
    some (0,stac_6,r16)
  else
    (i64 ((stac_6.length:Int) - 1)).bind fun i19 =>
    (at_ stac_6 i19).bind fun x21 =>
    (i64 ((stac_6.length:Int) - 1)).bind fun i35 =>
    (cut stac_6 0 i35).bind fun l37 =>
    some (x21,l37,err_11)
def vf_want_l1 (p_2:List Int):Nat→Int→Int→(List Int)→Option (List Int×Int)
  | 0,_,_,_=>none
  | n+1,i40,i41,l44 =>
    if (0:Int)≤i40 then
      (vf_pop l44 i41).bind fun r70 =>
      (at_ p_2 i40).bind fun x76 =>
      if r70.1≠x76 then
        (vf_fail r70.2.2 9).bind fun r85 =>
        (i64 (i40 - 1)).bind fun i88 =>
        vf_want_l1 p_2 n i88 r85 r70.2.1
      else
        (i64 (i40 - 1)).bind fun i90 =>
        vf_want_l1 p_2 n i90 r70.2.2 r70.2.1
    else
      some (l44,i41)
def vf_want (fu:Nat)  (stac_6:List Int) (err_11:Int) (p_2:List Int):Option (List Int×Int) :=
  (i64 ((p_2.length:Int) - 1)).bind fun i18 =>
  vf_want_l1 p_2 fu i18 err_11 stac_6
def vf_to_j2 (p_2:Int) (todo_24:List Int) (stac_28:List Int) (has_32:List Bool) (err_36:Int) (l257:List (Int×TVs)):Option (List (Int×TVs)×List Int×List Int×List Bool×Int) :=
  (app todo_24 [p_2]).bind fun l283 =>
  some (l257,l283,stac_28,has_32,err_36)
def vf_to_j1 (b128:Bool) (i129:Int) (l132:List Bool) (k_vf_to_l1:Bool→Int→(List Bool)→Option (List (Int×TVs)×List Int×List Int×List Bool×Int)) (b189:Bool):Option (List (Int×TVs)×List Int×List Int×List Bool×Int) :=
  if b189=true then
    (at_ l132 i129).bind fun x221 =>
    (i64 (i129+1)).bind fun i236 =>
    k_vf_to_l1 true i236 (l132.set i129.toNat false)
  else
    (i64 (i129+1)).bind fun i238 =>
    k_vf_to_l1 b128 i238 l132
def vf_to_l1 (p_2:Int) (at_18:List (Int×TVs)) (todo_24:List Int) (stac_28:List Int) (has_32:List Bool) (err_36:Int) (x57:TVs):Nat→Bool→Int→(List Bool)→Option (List (Int×TVs)×List Int×List Int×List Bool×Int)
  | 0,_,_,_=>none
  | n+1,b128,i129,l132 =>
    if i129<(x57.has.length:Int) then
      (at_ l132 i129).bind fun x190 =>
      if x190=true then
        (at_ has_32 i129).bind fun x205 =>
        vf_to_j1 b128 i129 l132 (vf_to_l1 p_2 at_18 todo_24 stac_28 has_32 err_36 x57 n) (!x205)
      else
        vf_to_j1 b128 i129 l132 (vf_to_l1 p_2 at_18 todo_24 stac_28 has_32 err_36 x57 n) false
    else
      if b128=true then
        (app todo_24 [p_2]).bind fun l245 =>
        some ((mput at_18 p_2 (TVs.mk x57.stack l132)),l245,stac_28,has_32,err_36)
      else
        some ((mput at_18 p_2 (TVs.mk x57.stack l132)),todo_24,stac_28,has_32,err_36)
def vf_to  (chec_2:TVc) (u_8:TUnit) (at_18:List (Int×TVs)) (todo_24:List Int) (stac_28:List Int) (has_32:List Bool) (err_36:Int) (p_2:Int):Option (List (Int×TVs)×List Int×List Int×List Bool×Int) :=
  if err_36≠0 then
    some (at_18,todo_24,stac_28,has_32,err_36)
  else
    if p_2=(u_8.Code.length:Int) then
      (vf_fail err_36 3).bind fun r52 =>
      some (at_18,todo_24,stac_28,has_32,r52)
    else
      if (mget at_18 p_2).isSome=true then
        (mget at_18 p_2).bind fun x57 =>
        (sl_equal x57.stack stac_28).bind fun r69 =>
        if r69=true then
          vf_to_l1 p_2 at_18 todo_24 stac_28 has_32 err_36 x57 (x57.has.length+1) false 0 x57.has
        else
          (vf_fail err_36 8).bind fun r73 =>
          some (at_18,todo_24,stac_28,has_32,r73)
      else
        (vf_copiedr (TVs.mk stac_28 has_32)).bind fun r259 =>
        vf_to_j2 p_2 todo_24 stac_28 has_32 err_36 (mput at_18 p_2 (TVs.mk r259.stack r259.has))
def vf_args (fu:Nat)  (chec_2:TVc) (stac_11:List Int) (err_16:Int) (p_2:Int):Option (TUnit×List Int×Int) :=
  (chec_2.m).bind fun x29 =>
  (at_ x29.Units p_2).bind fun x42 =>
  (cut x42.Locals 0 x42.Params).bind fun l56 =>
  (vf_want fu stac_11 err_16 l56).bind fun r62 =>
  some (x42,r62.1,r62.2)
def vf_gen  (chec_2:TVc) (stac_11:List Int) (err_16:Int):Option (Option TUnit×List Int×Int) :=
  (vf_pop stac_11 err_16).bind fun r22 =>
  if r22.2.2≠0 then
    some (none,r22.2.1,r22.2.2)
  else
    (vf_handle chec_2 r22.1).bind fun r29 =>
    if r29=true then
      (chec_2.m).bind fun x36 =>
      (i64 (r22.1 - 10)).bind fun i49 =>
      (at_ x36.Units i49).bind fun x51 =>
      some ((some x51),r22.2.1,r22.2.2)
    else
      (vf_fail r22.2.2 9).bind fun r33 =>
      some (none,r22.2.1,r33)
def vf_done_j1 (stac_6:List Int) (i15:Int):Option (Bool×List Int×Int) :=
  some (false,stac_6,i15)
def vf_done  (stac_6:List Int) (err_11:Int):Option (Bool×List Int×Int) :=
  if (0:Int)<(stac_6.length:Int) then
    (vf_fail err_11 12).bind fun r17 =>
    vf_done_j1 stac_6 r17
  else
    vf_done_j1 stac_6 err_11
def vf_special_j1 (at_18:List (Int×TVs)) (todo_24:List Int) (has_32:List Bool) (i52:Int) (l55:List Int):Option (Bool×List (Int×TVs)×List Int×List Int×List Bool×Int) :=
  some (true,at_18,todo_24,l55,has_32,i52)
def vf_special_j2 (fu:Nat) (u_8:TUnit) (at_18:List (Int×TVs)) (todo_24:List Int) (stac_28:List Int) (has_32:List Bool) (i104:Int):Option (Bool×List (Int×TVs)×List Int×List Int×List Bool×Int) :=
  (vf_want fu stac_28 i104 [u_8.Result]).bind fun r114 =>
  (vf_done r114.1 r114.2).bind fun r120 =>
  some (r120.1,at_18,todo_24,r120.2.1,has_32,r120.2.2)
def vf_special_j3 (at_18:List (Int×TVs)) (todo_24:List Int) (stac_28:List Int) (has_32:List Bool) (i127:Int):Option (Bool×List (Int×TVs)×List Int×List Int×List Bool×Int) :=
  (vf_done stac_28 i127).bind fun r133 =>
  some (r133.1,at_18,todo_24,r133.2.1,has_32,r133.2.2)
def vf_special_j4 (at_18:List (Int×TVs)) (todo_24:List Int) (has_32:List Bool) (r200:Int×List Int×Int) (b206:Bool):Option (Bool×List (Int×TVs)×List Int×List Int×List Bool×Int) :=
  if b206=true then
    (vf_fail r200.2.2 9).bind fun r213 =>
    vf_special_j1 at_18 todo_24 has_32 r213 r200.2.1
  else
    vf_special_j1 at_18 todo_24 has_32 r200.2.2 r200.2.1
def vf_special_j5 (at_18:List (Int×TVs)) (todo_24:List Int) (has_32:List Bool) (r223:Option TUnit×List Int×Int) (x232:TUnit) (i245:Int):Option (Bool×List (Int×TVs)×List Int×List Int×List Bool×Int) :=
  (vf_push r223.2.1 i245 x232.Result).bind fun r251 =>
  vf_special_j1 at_18 todo_24 has_32 r251.2 r251.1
def vf_special_j6 (fu:Nat) (u_8:TUnit) (at_18:List (Int×TVs)) (todo_24:List Int) (stac_28:List Int) (has_32:List Bool) (i258:Int):Option (Bool×List (Int×TVs)×List Int×List Int×List Bool×Int) :=
  (vf_want fu stac_28 i258 [u_8.Result]).bind fun r268 =>
  (vf_push r268.1 r268.2 u_8.Takes).bind fun r274 =>
  vf_special_j1 at_18 todo_24 has_32 r274.2 r274.1
def vf_special (fu:Nat)  (chec_2:TVc) (u_8:TUnit) (at_18:List (Int×TVs)) (todo_24:List Int) (stac_28:List Int) (has_32:List Bool) (err_36:Int) (p_2:TInstr):Option (Bool×List (Int×TVs)×List Int×List Int×List Bool×Int) :=
  if p_2.Op=23 then
    (vf_args fu chec_2 stac_28 err_36 p_2.A).bind fun r58 =>
    (vf_push r58.2.1 r58.2.2 r58.1.Result).bind fun r73 =>
    vf_special_j1 at_18 todo_24 has_32 r73.2 r73.1
  else
    if p_2.Op=29 then
      (vf_args fu chec_2 stac_28 err_36 p_2.A).bind fun r80 =>
      (i64 (10+p_2.A)).bind fun i95 =>
      (vf_push r80.2.1 r80.2.2 i95).bind fun r97 =>
      vf_special_j1 at_18 todo_24 has_32 r97.2 r97.1
    else
      if p_2.Op=24 then
        if u_8.Kind≠2 then
          (vf_fail err_36 8).bind fun r106 =>
          vf_special_j2 fu u_8 at_18 todo_24 stac_28 has_32 r106
        else
          vf_special_j2 fu u_8 at_18 todo_24 stac_28 has_32 err_36
      else
        if p_2.Op=25 then
          if u_8.Kind=2 then
            (vf_fail err_36 8).bind fun r129 =>
            vf_special_j3 at_18 todo_24 stac_28 has_32 r129
          else
            vf_special_j3 at_18 todo_24 stac_28 has_32 err_36
        else
          if p_2.Op=26 then
            (chec_2.m).bind fun x140 =>
            (at_ x140.Boxes p_2.A).bind fun x153 =>
            (vf_want fu stac_28 err_36 [x153.Typ]).bind fun r165 =>
            vf_special_j1 at_18 todo_24 has_32 r165.2 r165.1
          else
            if p_2.Op=27 then
              (chec_2.m).bind fun x172 =>
              (at_ x172.Boxes p_2.A).bind fun x185 =>
              (vf_push stac_28 err_36 x185.Typ).bind fun r193 =>
              vf_special_j1 at_18 todo_24 has_32 r193.2 r193.1
            else
              if p_2.Op=28 then
                (vf_pop stac_28 err_36).bind fun r200 =>
                if r200.2.2=0 then
                  (vf_plain r200.1).bind fun r208 =>
                  vf_special_j4 at_18 todo_24 has_32 r200 (!r208)
                else
                  vf_special_j4 at_18 todo_24 has_32 r200 false
              else
                if p_2.Op=30 then
                  (vf_pop stac_28 err_36).bind fun r217 =>
                  (vf_gen chec_2 r217.2.1 r217.2.2).bind fun r223 =>
                  if r223.1.isSome=true then
                    (r223.1).bind fun x232 =>
                    if r217.1≠x232.Takes then
                      (vf_fail r223.2.2 9).bind fun r247 =>
                      vf_special_j5 at_18 todo_24 has_32 r223 x232 r247
                    else
                      vf_special_j5 at_18 todo_24 has_32 r223 x232 r223.2.2
                  else
                    vf_special_j1 at_18 todo_24 has_32 r223.2.2 r223.2.1
                else
                  if p_2.Op=31 then
                    if u_8.Kind≠3 then
                      (vf_fail err_36 8).bind fun r260 =>
                      vf_special_j6 fu u_8 at_18 todo_24 stac_28 has_32 r260
                    else
                      vf_special_j6 fu u_8 at_18 todo_24 stac_28 has_32 err_36
                  else
                    if p_2.Op=32 then
                      (vf_gen chec_2 stac_28 err_36).bind fun r281 =>
                      (vf_push r281.2.1 r281.2.2 2).bind fun r289 =>
                      vf_special_j1 at_18 todo_24 has_32 r289.2 r289.1
                    else
                      vf_special_j1 at_18 todo_24 has_32 err_36 stac_28
def vf_step_j1  (i52:Int) (l55:List Int) (l59:List Int) (l63:List Bool) (l68:List (Int×TVs)):Option (Bool×List (Int×TVs)×List Int×List Int×List Bool×Int) :=
  some (true,l68,l55,l59,l63,i52)
def vf_step_j2 (p_2:TInstr) (u_8:TUnit) (at_18:List (Int×TVs)) (todo_24:List Int) (stac_28:List Int) (has_32:List Bool) (i99:Int):Option (Bool×List (Int×TVs)×List Int×List Int×List Bool×Int) :=
  (at_ u_8.Locals p_2.A).bind fun x105 =>
  (vf_push stac_28 i99 x105).bind fun r113 =>
  vf_step_j1 r113.2 todo_24 r113.1 has_32 at_18
def vf_step_j6 (fu:Nat) (at_18:List (Int×TVs)) (todo_24:List Int) (has_32:List Bool) (r218:Int×List Int×Int) (i227:Int):Option (Bool×List (Int×TVs)×List Int×List Int×List Bool×Int) :=
  (vf_want fu r218.2.1 i227 [r218.1]).bind fun r237 =>
  (vf_push r237.1 r237.2 2).bind fun r243 =>
  vf_step_j1 r243.2 todo_24 r243.1 has_32 at_18
def vf_step_j5 (fu:Nat) (at_18:List (Int×TVs)) (todo_24:List Int) (has_32:List Bool) (r218:Int×List Int×Int) (b224:Bool):Option (Bool×List (Int×TVs)×List Int×List Int×List Bool×Int) :=
  if b224=true then
    (vf_fail r218.2.2 9).bind fun r229 =>
    vf_step_j6 fu at_18 todo_24 has_32 r218 r229
  else
    vf_step_j6 fu at_18 todo_24 has_32 r218 r218.2.2
def vf_step_j8 (fu:Nat) (chec_2:TVc) (p_2:TInstr) (u_8:TUnit) (at_18:List (Int×TVs)) (todo_24:List Int) (stac_28:List Int) (has_32:List Bool) (err_36:Int) (b269:Bool):Option (Bool×List (Int×TVs)×List Int×List Int×List Bool×Int) :=
  if b269=true then
    (vf_want fu stac_28 err_36 [2,2]).bind fun r277 =>
    (vf_push r277.1 r277.2 2).bind fun r283 =>
    vf_step_j1 r283.2 todo_24 r283.1 has_32 at_18
  else
    if p_2.Op=21 then
      (vf_to chec_2 u_8 at_18 todo_24 stac_28 has_32 err_36 p_2.A).bind fun r290 =>
      some (false,r290.1,r290.2.1,r290.2.2.1,r290.2.2.2.1,r290.2.2.2.2)
    else
      if p_2.Op=22 then
        (vf_want fu stac_28 err_36 [2]).bind fun r311 =>
        (vf_to chec_2 u_8 at_18 todo_24 r311.1 has_32 r311.2 p_2.A).bind fun r317 =>
        vf_step_j1 r317.2.2.2.2 r317.2.1 r317.2.2.1 r317.2.2.2.1 r317.1
      else
        (vf_special fu chec_2 u_8 at_18 todo_24 stac_28 has_32 err_36 p_2).bind fun r333 =>
        some (r333.1,r333.2.1,r333.2.2.1,r333.2.2.2.1,r333.2.2.2.2.1,r333.2.2.2.2.2)
def vf_step_j7 (fu:Nat) (chec_2:TVc) (p_2:TInstr) (u_8:TUnit) (at_18:List (Int×TVs)) (todo_24:List Int) (stac_28:List Int) (has_32:List Bool) (err_36:Int) (b249:Bool):Option (Bool×List (Int×TVs)×List Int×List Int×List Bool×Int) :=
  if b249=true then
    (vf_want fu stac_28 err_36 [1,1]).bind fun r257 =>
    (vf_push r257.1 r257.2 2).bind fun r263 =>
    vf_step_j1 r263.2 todo_24 r263.1 has_32 at_18
  else
    if p_2.Op=19 then
      vf_step_j8 fu chec_2 p_2 u_8 at_18 todo_24 stac_28 has_32 err_36 true
    else
      vf_step_j8 fu chec_2 p_2 u_8 at_18 todo_24 stac_28 has_32 err_36 (decide (p_2.Op=20))
def vf_step_j4 (fu:Nat) (chec_2:TVc) (p_2:TInstr) (u_8:TUnit) (at_18:List (Int×TVs)) (todo_24:List Int) (stac_28:List Int) (has_32:List Bool) (err_36:Int) (b214:Bool):Option (Bool×List (Int×TVs)×List Int×List Int×List Bool×Int) :=
  if b214=true then
    (vf_pop stac_28 err_36).bind fun r218 =>
    if r218.1≠1 then
      vf_step_j5 fu at_18 todo_24 has_32 r218 (decide (r218.1≠2))
    else
      vf_step_j5 fu at_18 todo_24 has_32 r218 false
  else
    if (15:Int)≤p_2.Op then
      vf_step_j7 fu chec_2 p_2 u_8 at_18 todo_24 stac_28 has_32 err_36 (decide (p_2.Op≤18))
    else
      vf_step_j7 fu chec_2 p_2 u_8 at_18 todo_24 stac_28 has_32 err_36 false
def vf_step_j3 (fu:Nat) (chec_2:TVc) (p_2:TInstr) (u_8:TUnit) (at_18:List (Int×TVs)) (todo_24:List Int) (stac_28:List Int) (has_32:List Bool) (err_36:Int) (b194:Bool):Option (Bool×List (Int×TVs)×List Int×List Int×List Bool×Int) :=
  if b194=true then
    (vf_want fu stac_28 err_36 [1,1]).bind fun r202 =>
    (vf_push r202.1 r202.2 1).bind fun r208 =>
    vf_step_j1 r208.2 todo_24 r208.1 has_32 at_18
  else
    if p_2.Op=13 then
      vf_step_j4 fu chec_2 p_2 u_8 at_18 todo_24 stac_28 has_32 err_36 true
    else
      vf_step_j4 fu chec_2 p_2 u_8 at_18 todo_24 stac_28 has_32 err_36 (decide (p_2.Op=14))
def vf_step (fu:Nat)  (chec_2:TVc) (u_8:TUnit) (at_18:List (Int×TVs)) (todo_24:List Int) (stac_28:List Int) (has_32:List Bool) (err_36:Int) (p_2:TInstr):Option (Bool×List (Int×TVs)×List Int×List Int×List Bool×Int) :=
  if p_2.Op=1 then
    (vf_push stac_28 err_36 1).bind fun r71 =>
    vf_step_j1 r71.2 todo_24 r71.1 has_32 at_18
  else
    if p_2.Op=2 then
      (vf_push stac_28 err_36 2).bind fun r78 =>
      vf_step_j1 r78.2 todo_24 r78.1 has_32 at_18
    else
      if p_2.Op=3 then
        (at_ has_32 p_2.A).bind fun x85 =>
        if x85=true then
          vf_step_j2 p_2 u_8 at_18 todo_24 stac_28 has_32 err_36
        else
          (vf_fail err_36 11).bind fun r101 =>
          vf_step_j2 p_2 u_8 at_18 todo_24 stac_28 has_32 r101
      else
        if p_2.Op=4 then
          (at_ u_8.Locals p_2.A).bind fun x120 =>
          (vf_want fu stac_28 err_36 [x120]).bind fun r132 =>
          (at_ has_32 p_2.A).bind fun x138 =>
          vf_step_j1 r132.2 todo_24 r132.1 (has_32.set p_2.A.toNat true) at_18
        else
          if p_2.Op=5 then
            (vf_pop stac_28 err_36).bind fun r154 =>
            vf_step_j1 r154.2.2 todo_24 r154.2.1 has_32 at_18
          else
            if p_2.Op=6 then
              (vf_want fu stac_28 err_36 [1]).bind fun r165 =>
              (vf_push r165.1 r165.2 1).bind fun r171 =>
              vf_step_j1 r171.2 todo_24 r171.1 has_32 at_18
            else
              if p_2.Op=7 then
                (vf_want fu stac_28 err_36 [2]).bind fun r182 =>
                (vf_push r182.1 r182.2 2).bind fun r188 =>
                vf_step_j1 r188.2 todo_24 r188.1 has_32 at_18
              else
                if (8:Int)≤p_2.Op then
                  vf_step_j3 fu chec_2 p_2 u_8 at_18 todo_24 stac_28 has_32 err_36 (decide (p_2.Op≤12))
                else
                  vf_step_j3 fu chec_2 p_2 u_8 at_18 todo_24 stac_28 has_32 err_36 false
def vf_code_j1 (p_2:Int) (x350:Int) (k_vf_code_l2:Int→(List Bool)→(List Int)→(List Int)→(List (Int×TVs))→Option TWhere) (i417:Int) (l420:List Bool) (l424:List Int) (l428:List Int) (l433:List (Int×TVs)):Option TWhere :=
  if i417≠0 then
    some (TWhere.mk i417 p_2 x350)
  else
    k_vf_code_l2 i417 l420 l424 l428 l433
def vf_code_l2 (fu:Nat) (p_1:TVc) (p_2:Int) (x21:TUnit):Nat→Int→(List Bool)→(List Int)→(List Int)→(List (Int×TVs))→Option TWhere
  | 0,_,_,_,_,_=>none
  | n+1,i223,l226,l230,l234,l239 =>
    if (0:Int)<(l230.length:Int) then
      (at_ l230 0).bind fun x350 =>
      (cut l230 1 l230.length).bind fun l364 =>
      (mget l239 x350).bind fun x374 =>
      (vf_copied1 x374).bind fun r384 =>
      (at_ x21.Code x350).bind fun x393 =>
      (vf_step fu p_1 x21 l239 l364 r384.stack r384.has i223 x393).bind fun r401 =>
      if r401.1=true then
        (i64 (x350+1)).bind fun i436 =>
        (vf_to p_1 x21 r401.2.1 r401.2.2.1 r401.2.2.2.1 r401.2.2.2.2.1 r401.2.2.2.2.2 i436).bind fun r438 =>
        vf_code_j1 p_2 x350 (vf_code_l2 fu p_1 p_2 x21 n) r438.2.2.2.2 r438.2.2.2.1 r438.2.1 r438.2.2.1 r438.1
      else
        vf_code_j1 p_2 x350 (vf_code_l2 fu p_1 p_2 x21 n) r401.2.2.2.2.2 r401.2.2.2.2.1 r401.2.2.1 r401.2.2.2.1 r401.2.1
    else
      some (TWhere.mk 0 0 0)
def vf_code_l1 (fu:Nat) (p_1:TVc) (p_2:Int) (x21:TUnit):Nat→Int→(List Bool)→Option TWhere
  | 0,_,_=>none
  | n+1,i60,l63 =>
    if i60<x21.Params then
      (at_ l63 i60).bind fun x85 =>
      (i64 (i60+1)).bind fun i100 =>
      vf_code_l1 fu p_1 p_2 x21 n i100 (l63.set i60.toNat true)
    else
      (vf_to p_1 x21 ([]:List (Int×TVs)) ([]:List Int) ([]:List Int) l63 0 0).bind fun r104 =>
      vf_code_l2 fu p_1 p_2 x21 fu r104.2.2.2.2 r104.2.2.2.1 r104.2.1 r104.2.2.1 r104.1
def vf_code (fu:Nat)  (p_1:TVc) (p_2:Int):Option TWhere :=
  (p_1.m).bind fun x8 =>
  (at_ x8.Units p_2).bind fun x21 =>
  (mks (x21.Locals.length:Int)).bind fun k39 =>
  vf_code_l1 fu p_1 p_2 x21 ((x21.Params - 0).toNat+1) 0 (List.replicate k39 (false:Bool))
def vf_reach_j1 (i353:Int) (l356:List Int) (x389:TInstr) (k_vf_reach_l2:Int→(List Int)→Option (List Int)) (b399:Bool):Option (List Int) :=
  if b399=true then
    (app l356 [x389.A]).bind fun l410 =>
    (i64 (i353+1)).bind fun i413 =>
    k_vf_reach_l2 i413 l410
  else
    (i64 (i353+1)).bind fun i415 =>
    k_vf_reach_l2 i415 l356
def vf_reach_l2 (i144:Int) (x311:TUnit) (k_vf_reach_l1:Int→(List Int)→Option (List Int)):Nat→Int→(List Int)→Option (List Int)
  | 0,_,_=>none
  | n+1,i353,l356 =>
    if i353<(x311.Code.length:Int) then
      (at_ x311.Code i353).bind fun x389 =>
      if x389.Op=23 then
        vf_reach_j1 i353 l356 x389 (vf_reach_l2 i144 x311 k_vf_reach_l1 n) (!(l356.contains x389.A))
      else
        if x389.Op=29 then
          vf_reach_j1 i353 l356 x389 (vf_reach_l2 i144 x311 k_vf_reach_l1 n) (!(l356.contains x389.A))
        else
          vf_reach_j1 i353 l356 x389 (vf_reach_l2 i144 x311 k_vf_reach_l1 n) false
    else
      (i64 (i144+1)).bind fun i417 =>
      k_vf_reach_l1 i417 l356
def vf_reach_l1 (p_1:TVc):Nat→Int→(List Int)→Option (List Int)
  | 0,_,_=>none
  | n+1,i144,l147 =>
    if i144<(l147.length:Int) then
      (p_1.m).bind fun x284 =>
      (at_ l147 i144).bind fun x297 =>
      (at_ x284.Units x297).bind fun x311 =>
      vf_reach_l2 i144 x311 (vf_reach_l1 p_1 n) (x311.Code.length+1) 0 l147
    else
      some l147
def vf_reach (fu:Nat)  (p_1:TVc) (p_2:Int):Option (List Int) :=
  vf_reach_l1 p_1 fu 0 ([p_2]:List Int)
def vf_owned11  (p_1:TInstr) (p_2:Int) (p_3:Int):Option Bool :=
  if p_1.Op=p_2 then
    some (decide (p_1.A=p_3))
  else
    some false
def vf_owned1  (p_1:Int) (p_2:Option TVc) (p_3:Int) (p_4:Int):Option Bool :=
  (p_2).bind fun x12 =>
  (x12.m).bind fun x21 =>
  (at_ x21.Units p_1).bind fun x34 =>
  (conf_n x34.Code (fun x_=>vf_owned11 x_ p_3 p_4)).bind fun r48 =>
  some r48
def vf_owned_j1 (i1001:Int) (i1002:Int) (k_vf_owned_l3:Int→Int→Option TWhere) (b1053:Bool):Option TWhere :=
  if b1053=true then
    (i64 (i1001+1)).bind fun i1066 =>
    (i64 (i1002+1)).bind fun i1068 =>
    k_vf_owned_l3 i1066 i1068
  else
    (i64 (i1002+1)).bind fun i1070 =>
    k_vf_owned_l3 i1001 i1070
def vf_owned_l3 (fu:Nat) (p_1:TVc) (x10:TModule) (i372:Int) (i842:Int) (x957:Int) (k_vf_owned_l2:Int→Option TWhere):Nat→Int→Int→Option TWhere
  | 0,_,_=>none
  | n+1,i1001,i1002 =>
    if i1002<(x10.Units.length:Int) then
      (at_ x10.Units i1002).bind fun x1037 =>
      if x1037.Kind=4 then
        (vf_reach fu p_1 i1002).bind fun r1055 =>
        (conf_i r1055 (fun x_=>vf_owned1 x_ (some p_1) x957 i372)).bind fun r1061 =>
        vf_owned_j1 i1001 i1002 (vf_owned_l3 fu p_1 x10 i372 i842 x957 k_vf_owned_l2 n) r1061
      else
        vf_owned_j1 i1001 i1002 (vf_owned_l3 fu p_1 x10 i372 i842 x957 k_vf_owned_l2 n) false
    else
      if (1:Int)<i1001 then
        some (TWhere.mk 8 0 i372)
      else
        (i64 (i842+1)).bind fun i1073 =>
        k_vf_owned_l2 i1073
def vf_owned_l2 (fu:Nat) (p_1:TVc) (x10:TModule) (i372:Int) (k_vf_owned_l1:Int→Option TWhere):Nat→Int→Option TWhere
  | 0,_=>none
  | n+1,i842 =>
    if i842<2 then
      (at_ [26,27] i842).bind fun x957 =>
      vf_owned_l3 fu p_1 x10 i372 i842 x957 (vf_owned_l2 fu p_1 x10 i372 k_vf_owned_l1 n) (x10.Units.length+1) 0 0
    else
      (i64 (i372+1)).bind fun i1075 =>
      k_vf_owned_l1 i1075
def vf_owned_l1 (fu:Nat) (p_1:TVc) (x10:TModule):Nat→Int→Option TWhere
  | 0,_=>none
  | n+1,i372 =>
    if i372<(x10.Boxes.length:Int) then
      vf_owned_l2 fu p_1 x10 i372 (vf_owned_l1 fu p_1 x10 n) 3 0
    else
      some (TWhere.mk 0 0 0)
def vf_owned (fu:Nat)  (p_1:TVc):Option TWhere :=
  (p_1.m).bind fun x10 =>
  vf_owned_l1 fu p_1 x10 (x10.Boxes.length+1) 0
def vf_verify_l1 (fu:Nat) (p_1:TModule):Nat→Int→Option TWhere
  | 0,_=>none
  | n+1,i30 =>
    if i30<(p_1.Units.length:Int) then
      (vf_code fu (TVc.mk (some p_1)) i30).bind fun r40 =>
      if r40.Err≠0 then
        some r40
      else
        (i64 (i30+1)).bind fun i46 =>
        vf_verify_l1 fu p_1 n i46
    else
      (vf_owned fu (TVc.mk (some p_1))).bind fun r48 =>
      some r48
def vf_verify (fu:Nat)  (p_1:TModule):Option TWhere :=
  (vf_form (TVc.mk (some p_1))).bind fun r17 =>
  if r17.Err≠0 then
    some r17
  else
    vf_verify_l1 fu p_1 (p_1.Units.length+1) 0
end Go.Y
namespace Go.Y
open Go.Wk Go.Xt
def tx_0:List UInt8:=[98,111,120,32,49,32,50,10,116,97,115,107,32,48,32,48,32,48,32,49,10,9,112,117,115,104,32,45,55,10,9,101,110,100,10]
def asm_alive (fu:Nat)  :Option Bool :=
  (asm_read fu tx_0).bind fun r1 =>
  if r1.2.Err=0 then
    if (r1.1.Boxes.length:Int)=1 then
      if (r1.1.Units.length:Int)=1 then
        (at_ r1.1.Units 0).bind fun x17 =>
        if (x17.Code.length:Int)=2 then
          (at_ r1.1.Units 0).bind fun x32 =>
          (at_ x32.Code 0).bind fun x46 =>
          some (decide (x46.N=(-7)))
        else
          some false
      else
        some false
    else
      some false
  else
    some false
def law_asmr (fu:Nat)  (p_1:TModule):Option Bool :=
  (asm_alive fu).bind fun r9 =>
  if r9=true then
    (asm_print p_1).bind fun r13 =>
    if r13.2.Err≠0 then
      some true
    else
      (asm_read fu r13.1).bind fun r19 =>
      if r19.2.Err=0 then
        (vf_verify fu r19.1).bind fun r33 =>
        (vf_verify fu p_1).bind fun r36 =>
        some (andL [(decide (r33.Err=r36.Err)),(decide (r33.Unit=r36.Unit)),(decide (r33.At=r36.At))])
      else
        some false
  else
    some false
end Go.Y
