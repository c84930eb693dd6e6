/- What the library answers, in plain. -/
import Derived.Test.YtjmhclgjipapbaaDoorCATypes
import Derived.Test.YtjmhclgjipapbaaDoorCXt3
import Derived.Lib.ParseIntB
import Derived.Lib.ItoaNum
import Derived.Lib.Split
import Derived.Lib.SlicesS
import Derived.Lib.Strings
set_option linter.unusedSectionVars false
set_option linter.unusedSimpArgs false
set_option linter.unusedVariables false
namespace Go.Y
open Go.Wk Go.Xt
def s_cut (a b : List UInt8) : Option (List UInt8 × List UInt8 × Bool) := if a.length < 4294967281 then some (Lib.cut a b) else none
def s_pre (a b : List UInt8) : Option (List UInt8 × Bool) := some (Lib.trimPrefix a b, Lib.hasPrefix a b)
def s_split (a b : List UInt8) : Option (List (List UInt8)) := if a.length < 4294967281 ∧ 1 ≤ b.length then some ((Lib.splitB ⟨⟨b⟩⟩ 0 (Lib.countB ⟨⟨a⟩⟩ ⟨⟨b⟩⟩) ⟨⟨a⟩⟩).map (·.data.toList)) else none
def s_idx (l : List (List UInt8)) (x : List UInt8) : Option Int := some (Lib.idxOfS (l.map fun y => ⟨⟨y⟩⟩) ⟨⟨x⟩⟩)
/-- What a word says, written the shortest way. -/
def asm_number (s : List UInt8) : Option (Int × Bool) := if s.length ≤ 281474976710656 then some (match Lib.parseIntB 64 s with | .ok v => (v, decide (Lib.itoa v = s)) | .range => (Lib.intSat 64 s, false) | _ => (0, false)) else none
instance : Lc TUnit TInstr where
  code := TUnit.Code
  set x ys := { x with Code := ys }
  hd μ l x := ∃ a1 c1, l = [.int .i64 x.Kind, .int .i64 x.Params, .slice a1 x.Locals.length c1, .int .i64 x.Result, .int .i64 x.Takes] ∧ Sl μ a1 c1 x.Locals
  up le h := by obtain ⟨a, c, rfl, m⟩ := h; exact ⟨a, c, rfl, m.up le⟩
  ln h := by obtain ⟨a, c, rfl, m⟩ := h; rfl
  wr h k := by obtain ⟨a, c, rfl, m⟩ := h; exact ⟨a, c, _, _, rfl, m, k⟩
  st h := h
  sc := rfl
  cs := rfl
end Go.Y
