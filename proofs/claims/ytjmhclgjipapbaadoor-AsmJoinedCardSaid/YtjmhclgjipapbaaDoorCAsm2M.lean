/- Models. -/
import Derived.Test.YtjmhclgjipapbaaDoorCAsmM
set_option linter.unusedSectionVars false
set_option linter.unusedSimpArgs false
set_option linter.unusedVariables false
namespace Go.Y
open Go.Wk Go.Xt
def asm_alive (fu : Nat)   : Option Bool :=
  Option.bind (asm_read fu [98, 111, 120, 32, 49, 32, 50, 10, 116, 97, 115, 107, 32, 48, 32, 48, 32, 48, 32, 49, 10, 9, 112, 117, 115, 104, 32, 45, 55, 10, 9, 101, 110, 100, 10]) fun r1 =>
  if r1.2.Err = 0 then
    if (r1.1.Boxes.length : Int) = 1 then
      if (r1.1.Units.length : Int) = 1 then
        Option.bind (at_ r1.1.Units 0) fun x17 =>
        if (x17.Code.length : Int) = 2 then
          Option.bind (at_ r1.1.Units 0) fun x32 =>
          Option.bind (at_ x32.Code 0) fun x46 =>
          some (decide (x46.N = (-7)))
        else
          some false
      else
        some false
    else
      some false
  else
    some false

def asm_joined_j1 (fu : Nat) (p_1 : List UInt8) (p_2 : List UInt8) (r5 : TModule × TFault) (r18 : TModule × TFault) (b31 : Bool) : Option Bool :=
  if b31 = true then
    some true
  else
    Option.bind (cat p_1 p_2) fun s39 =>
    Option.bind (asm_read fu s39) fun r41 =>
    if r41.2.Err = 0 then
      Option.bind (app ([] : List TUnit) r5.1.Units) fun l60 =>
      Option.bind (app l60 r18.1.Units) fun l67 =>
      Option.bind (r6_same r41.1 (TModule.mk r5.1.Boxes l67)) fun r77 =>
      some r77
    else
      some false
def asm_joined (fu : Nat)  (p_1 : List UInt8) (p_2 : List UInt8) : Option Bool :=
  Option.bind (asm_alive fu) fun r1 =>
  if r1 = true then
    Option.bind (asm_read fu p_1) fun r5 =>
    Option.bind (asm_read fu p_2) fun r18 =>
    if r5.2.Err ≠ 0 then
      asm_joined_j1 fu p_1 p_2 r5 r18 true
    else
      if r18.2.Err ≠ 0 then
        asm_joined_j1 fu p_1 p_2 r5 r18 true
      else
        if (0 : Int) < (r18.1.Boxes.length : Int) then
          asm_joined_j1 fu p_1 p_2 r5 r18 true
        else
          Option.bind (i64 ((p_1.length : Int) + (p_2.length : Int))) fun i35 =>
          asm_joined_j1 fu p_1 p_2 r5 r18 (decide ((60000 : Int) < i35))
  else
    some false

end Go.Y
