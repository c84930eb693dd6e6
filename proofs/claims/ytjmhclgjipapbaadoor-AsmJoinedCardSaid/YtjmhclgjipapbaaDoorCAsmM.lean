/- Models. -/
import Derived.Test.YtjmhclgjipapbaaDoorCALib
set_option linter.unusedSectionVars false
set_option linter.unusedSimpArgs false
set_option linter.unusedVariables false
namespace Go.Y
open Go.Wk Go.Xt
def asm_units   : Option (List (List UInt8)) :=
  some [[102, 110], [103, 101, 110], [116, 97, 115, 107]]

def asm_mnem   : Option (List (List UInt8)) :=
  some [[112, 117, 115, 104], [116, 114, 117, 116, 104], [108, 111, 97, 100], [115, 116, 111, 114, 101], [100, 114, 111, 112], [110, 101, 103], [110, 111, 116], [97, 100, 100], [115, 117, 98], [109, 117, 108], [100, 105, 118], [109, 111, 100], [101, 113], [110, 101], [108, 116], [108, 101], [103, 116], [103, 101], [97, 110, 100], [111, 114], [106, 117, 109, 112], [101, 108, 115, 101], [99, 97, 108, 108], [114, 101, 116], [101, 110, 100], [115, 101, 110, 100], [114, 101, 99, 118], [111, 117, 116], [115, 116, 97, 114, 116], [114, 101, 115, 117, 109, 101], [121, 105, 101, 108, 100], [97, 108, 105, 118, 101]]

def asm_has_j1 (p_1 : Int) (b1 : Bool) : Option (Bool × Bool) :=
  if b1 = true then
    some (false, true)
  else
    some (decide (p_1 = 1), false)
def asm_has  (p_1 : Int) : Option (Bool × Bool) :=
  if p_1 = 2 then
    asm_has_j1 p_1 (decide (p_1 = 2))
  else
    if p_1 = 3 then
      asm_has_j1 p_1 (decide (p_1 = 3))
    else
      if p_1 = 4 then
        asm_has_j1 p_1 (decide (p_1 = 4))
      else
        if p_1 = 21 then
          asm_has_j1 p_1 (decide (p_1 = 21))
        else
          if p_1 = 22 then
            asm_has_j1 p_1 (decide (p_1 = 22))
          else
            if p_1 = 23 then
              asm_has_j1 p_1 (decide (p_1 = 23))
            else
              if p_1 = 26 then
                asm_has_j1 p_1 (decide (p_1 = 26))
              else
                if p_1 = 27 then
                  asm_has_j1 p_1 (decide (p_1 = 27))
                else
                  asm_has_j1 p_1 (decide (p_1 = 29))

def asm_numbers_l1 (p_1 : List (List UInt8)) : Nat → Int → (List Int) → Option (List Int × Bool)
  | 0, _, _ => none
  | n + 1, i27, l30 =>
    if i27 < (p_1.length : Int) then
      Option.bind (at_ p_1 i27) fun x54 =>
      Option.bind (asm_number x54) fun r62 =>
      if r62.2 = true then
        Option.bind (app l30 [r62.1]) fun l69 =>
        Option.bind (i64 (i27 + 1)) fun i72 =>
        asm_numbers_l1 p_1 n i72 l69
      else
        some (([] : List Int), false)
    else
      some (l30, true)
def asm_numbers  (p_1 : List (List UInt8)) : Option (List Int × Bool) :=
  asm_numbers_l1 p_1 (p_1.length + 1) 0 []

def asm_instr_j5 (i10 : Int) (r81 : Int × Bool) (i83 : Int) (i84 : Int) : Option (TInstr × Bool) :=
  some ((TInstr.mk i10 i83 i84), r81.2)
def asm_instr_j4 (l3 : List (List UInt8)) (i10 : Int) (r58 : Bool × Bool) (i65 : Int) (b68 : Bool) : Option (TInstr × Bool) :=
  if b68 = true then
    some ((TInstr.mk i10 0 0), false)
  else
    if i65 = 1 then
      some ((TInstr.mk i10 0 0), true)
    else
      Option.bind (at_ l3 1) fun x73 =>
      Option.bind (asm_number x73) fun r81 =>
      if r58.1 = true then
        asm_instr_j5 i10 r81 0 r81.1
      else
        asm_instr_j5 i10 r81 r81.1 0
def asm_instr_j3 (l3 : List (List UInt8)) (i10 : Int) (r58 : Bool × Bool) (i65 : Int) : Option (TInstr × Bool) :=
  if i10 = 0 then
    asm_instr_j4 l3 i10 r58 i65 true
  else
    asm_instr_j4 l3 i10 r58 i65 (decide ((l3.length : Int) ≠ i65))
def asm_instr_j2 (l3 : List (List UInt8)) (i10 : Int) (r58 : Bool × Bool) (b61 : Bool) : Option (TInstr × Bool) :=
  if b61 = true then
    asm_instr_j3 l3 i10 r58 2
  else
    asm_instr_j3 l3 i10 r58 1
def asm_instr_j1 (l3 : List (List UInt8)) (i10 : Int) : Option (TInstr × Bool) :=
  Option.bind (asm_has i10) fun r58 =>
  if r58.1 = true then
    asm_instr_j2 l3 i10 r58 true
  else
    asm_instr_j2 l3 i10 r58 r58.2
def asm_instr  (p_1 : List UInt8) : Option (TInstr × Bool) :=
  Option.bind (s_split p_1 [32]) fun l3 =>
  Option.bind (at_ l3 0) fun x11 =>
  Option.bind (asm_mnem ) fun r19 =>
  Option.bind (s_idx r19 x11) fun r25 =>
  Option.bind (i64 (r25 + 1)) fun i27 =>
  asm_instr_j1 l3 i27

def asm_head_j2 (unit_6 : List TUnit) (l54 : List TBoxInfo) : Option (Bool × List TBoxInfo × List TUnit) :=
  some (true, l54, unit_6)
def asm_head_j1 (boxe_2 : List TBoxInfo) (unit_6 : List TUnit) (r32 : List Int × Bool) (b48 : Bool) : Option (Bool × List TBoxInfo × List TUnit) :=
  if b48 = true then
    some (false, boxe_2, unit_6)
  else
    Option.bind (at_ r32.1 0) fun x56 =>
    Option.bind (at_ r32.1 1) fun x64 =>
    Option.bind (app boxe_2 [(TBoxInfo.mk x56 x64)]) fun l76 =>
    asm_head_j2 unit_6 l76
def asm_head_j5 (boxe_2 : List TBoxInfo) (l116 : List TUnit) : Option (Bool × List TBoxInfo × List TUnit) :=
  some (true, boxe_2, l116)
def asm_head_j4 (boxe_2 : List TBoxInfo) (unit_6 : List TUnit) (r32 : List Int × Bool) (i86 : Int) (b108 : Bool) : Option (Bool × List TBoxInfo × List TUnit) :=
  if b108 = true then
    some (false, boxe_2, unit_6)
  else
    Option.bind (i64 (2 + i86)) fun i118 =>
    Option.bind (at_ r32.1 0) fun x120 =>
    Option.bind (at_ r32.1 1) fun x128 =>
    Option.bind (at_ r32.1 2) fun x136 =>
    Option.bind (cut r32.1 3 r32.1.length) fun l144 =>
    Option.bind (app unit_6 [(TUnit.mk i118 x120 l144 x128 x136 ([] : List TInstr))]) fun l156 =>
    asm_head_j5 boxe_2 l156
def asm_head_j3 (boxe_2 : List TBoxInfo) (unit_6 : List TUnit) (r32 : List Int × Bool) (i86 : Int) : Option (Bool × List TBoxInfo × List TUnit) :=
  if i86 < 0 then
    asm_head_j4 boxe_2 unit_6 r32 i86 true
  else
    asm_head_j4 boxe_2 unit_6 r32 i86 (decide ((r32.1.length : Int) < 3))
def asm_head  (boxe_2 : List TBoxInfo) (unit_6 : List TUnit) (p_2 : List UInt8) : Option (Bool × List TBoxInfo × List TUnit) :=
  Option.bind (s_split p_2 [32]) fun l20 =>
  Option.bind (cut l20 1 l20.length) fun l26 =>
  Option.bind (asm_numbers l26) fun r32 =>
  if r32.2 = true then
    Option.bind (at_ l20 0) fun x39 =>
    if x39 = [98, 111, 120] then
      if (r32.1.length : Int) ≠ 2 then
        asm_head_j1 boxe_2 unit_6 r32 true
      else
        asm_head_j1 boxe_2 unit_6 r32 (decide ((0 : Int) < (unit_6.length : Int)))
    else
      Option.bind (at_ l20 0) fun x87 =>
      Option.bind (asm_units ) fun r95 =>
      Option.bind (s_idx r95 x87) fun r101 =>
      asm_head_j3 boxe_2 unit_6 r32 r101
  else
    some (false, boxe_2, unit_6)

def asm_read_j1 (i79 : Int) (r157 : List UInt8 × List UInt8 × Bool) (k_asm_read_l1 : (List UInt8) → Int → (List TUnit) → (List TBoxInfo) → Option (TModule × TFault)) (b159 : Bool) (l164 : List TUnit) (l168 : List TBoxInfo) : Option (TModule × TFault) :=
  if b159 = true then
    Option.bind (i64 (i79 + 1)) fun i243 =>
    k_asm_read_l1 r157.2.1 i243 l164 l168
  else
    some ((TModule.mk ([] : List TBoxInfo) ([] : List TUnit)), (TFault.mk 2 i79))
def asm_read_j3 (i79 : Int) (l88 : List TBoxInfo) (r157 : List UInt8 × List UInt8 × Bool) (r176 : TInstr × Bool) (k_asm_read_l1 : (List UInt8) → Int → (List TUnit) → (List TBoxInfo) → Option (TModule × TFault)) (l204 : List TUnit) : Option (TModule × TFault) :=
  asm_read_j1 i79 r157 k_asm_read_l1 r176.2 l204 l88
def asm_read_j2 (i79 : Int) (l84 : List TUnit) (l88 : List TBoxInfo) (r157 : List UInt8 × List UInt8 × Bool) (r176 : TInstr × Bool) (k_asm_read_l1 : (List UInt8) → Int → (List TUnit) → (List TBoxInfo) → Option (TModule × TFault)) (b179 : Bool) : Option (TModule × TFault) :=
  if b179 = true then
    Option.bind (i64 ((l84.length : Int) - 1)) fun i183 =>
    Option.bind (at_ l84 i183) fun x185 =>
    Option.bind (app x185.Code [r176.1]) fun l210 =>
    asm_read_j3 i79 l88 r157 r176 k_asm_read_l1 (uset l84 l210)
  else
    asm_read_j1 i79 r157 k_asm_read_l1 false l84 l88
def asm_read_l1  : Nat → (List UInt8) → Int → (List TUnit) → (List TBoxInfo) → Option (TModule × TFault)
  | 0, _, _, _, _ => none
  | n + 1, s78, i79, l84, l88 =>
    if s78 ≠ [] then
      Option.bind (s_cut s78 [10]) fun r157 =>
      if r157.2.2 = true then
        Option.bind (s_pre r157.1 [9]) fun r171 =>
        if r171.2 = true then
          Option.bind (asm_instr r171.1) fun r176 =>
          if r176.2 = true then
            asm_read_j2 i79 l84 l88 r157 r176 (asm_read_l1 n) (decide ((0 : Int) < (l84.length : Int)))
          else
            asm_read_j2 i79 l84 l88 r157 r176 (asm_read_l1 n) false
        else
          Option.bind (asm_head l88 l84 r157.1) fun r228 =>
          asm_read_j1 i79 r157 (asm_read_l1 n) r228.1 r228.2.2 r228.2.1
      else
        asm_read_j1 i79 r157 (asm_read_l1 n) r157.2.2 l84 l88
    else
      some ((TModule.mk l88 l84), (TFault.mk 0 0))
def asm_read (fu : Nat)  (p_1 : List UInt8) : Option (TModule × TFault) :=
  if (60000 : Int) < (p_1.length : Int) then
    some ((TModule.mk ([] : List TBoxInfo) ([] : List TUnit)), (TFault.mk 4 0))
  else
    asm_read_l1 fu p_1 0 ([] : List TUnit) []

def r6_sameInts_l1 (p_1 : List Int) (p_2 : List Int) : Nat → Int → Option Bool
  | 0, _ => none
  | n + 1, i26 =>
    if i26 < (p_1.length : Int) then
      Option.bind (at_ p_1 i26) fun x47 =>
      Option.bind (at_ p_2 i26) fun x55 =>
      if x47 ≠ x55 then
        some false
      else
        Option.bind (i64 (i26 + 1)) fun i65 =>
        r6_sameInts_l1 p_1 p_2 n i65
    else
      some true
def r6_sameInts  (p_1 : List Int) (p_2 : List Int) : Option Bool :=
  if (p_1.length : Int) ≠ (p_2.length : Int) then
    some false
  else
    r6_sameInts_l1 p_1 p_2 (p_1.length + 1) 0

def r6_same_l3 (i177 : Int) (l289 : List TInstr) (l302 : List TInstr) (k_r6_same_l2 : Int → Option Bool) : Nat → Int → Option Bool
  | 0, _ => none
  | n + 1, i474 =>
    if i474 < (l289.length : Int) then
      Option.bind (at_ l289 i474) fun x495 =>
      Option.bind (at_ l302 i474) fun x503 =>
      if (andL [(decide (x495.Op = x503.Op)), (decide (x495.A = x503.A)), (decide (x495.N = x503.N))]) = true then
        Option.bind (i64 (i474 + 1)) fun i512 =>
        r6_same_l3 i177 l289 l302 k_r6_same_l2 n i512
      else
        some false
    else
      Option.bind (i64 (i177 + 1)) fun i514 =>
      k_r6_same_l2 i514
def r6_same_j3 (i177 : Int) (l289 : List TInstr) (l302 : List TInstr) (k_r6_same_l2 : Int → Option Bool) (b445 : Bool) : Option Bool :=
  if b445 = true then
    some false
  else
    r6_same_l3 i177 l289 l302 k_r6_same_l2 (l289.length + 1) 0
def r6_same_j2 (i177 : Int) (k_r6_same_l2 : Int → Option Bool) (i279 : Int) (i280 : Int) (l283 : List Int) (i285 : Int) (i286 : Int) (l289 : List TInstr) (i292 : Int) (i293 : Int) (l296 : List Int) (i298 : Int) (i299 : Int) (l302 : List TInstr) : Option Bool :=
  if i279 ≠ i292 then
    r6_same_j3 i177 l289 l302 k_r6_same_l2 true
  else
    if i280 ≠ i293 then
      r6_same_j3 i177 l289 l302 k_r6_same_l2 true
    else
      if i285 ≠ i298 then
        r6_same_j3 i177 l289 l302 k_r6_same_l2 true
      else
        if i286 ≠ i299 then
          r6_same_j3 i177 l289 l302 k_r6_same_l2 true
        else
          Option.bind (r6_sameInts l283 l296) fun r450 =>
          if r450 = true then
            r6_same_j3 i177 l289 l302 k_r6_same_l2 (decide ((l289.length : Int) ≠ (l302.length : Int)))
          else
            r6_same_j3 i177 l289 l302 k_r6_same_l2 true
def r6_same_l2 (p_1 : TModule) (p_2 : TModule) : Nat → Int → Option Bool
  | 0, _ => none
  | n + 1, i177 =>
    if i177 < (p_1.Units.length : Int) then
      Option.bind (at_ p_1.Units i177) fun x304 =>
      Option.bind (at_ p_2.Units i177) fun x318 =>
      r6_same_j2 i177 (r6_same_l2 p_1 p_2 n) x304.Kind x304.Params x304.Locals x304.Result x304.Takes x304.Code x318.Kind x318.Params x318.Locals x318.Result x318.Takes x318.Code
    else
      some true
def r6_same_l1 (p_1 : TModule) (p_2 : TModule) : Nat → Int → Option Bool
  | 0, _ => none
  | n + 1, i39 =>
    if i39 < (p_1.Boxes.length : Int) then
      Option.bind (at_ p_1.Boxes i39) fun x60 =>
      Option.bind (at_ p_2.Boxes i39) fun x68 =>
      if (andL [(decide (x60.Typ = x68.Typ)), (decide (x60.Cap = x68.Cap))]) = true then
        Option.bind (i64 (i39 + 1)) fun i77 =>
        r6_same_l1 p_1 p_2 n i77
      else
        some false
    else
      r6_same_l2 p_1 p_2 (p_1.Units.length + 1) 0
def r6_same_j1 (p_1 : TModule) (p_2 : TModule) (b17 : Bool) : Option Bool :=
  if b17 = true then
    some false
  else
    r6_same_l1 p_1 p_2 (p_1.Boxes.length + 1) 0
def r6_same  (p_1 : TModule) (p_2 : TModule) : Option Bool :=
  if (p_1.Boxes.length : Int) ≠ (p_2.Boxes.length : Int) then
    r6_same_j1 p_1 p_2 true
  else
    r6_same_j1 p_1 p_2 (decide ((p_1.Units.length : Int) ≠ (p_2.Units.length : Int)))

end Go.Y
