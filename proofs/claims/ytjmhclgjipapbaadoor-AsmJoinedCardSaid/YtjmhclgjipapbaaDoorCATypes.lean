/- The data of the program, in plain. -/
import Derived.Test.YtjmhclgjipapbaaDoorCXt3
set_option linter.unusedSectionVars false
set_option linter.unusedVariables false
set_option linter.unusedSimpArgs false
namespace Go.Y
open Go.Wk Go.Xt
structure TBoxInfo where
  Typ : Int
  Cap : Int
  deriving DecidableEq, Inhabited, Repr
instance : Mo TBoxInfo where
  sz := 2
  pos := by decide
  cs μ l x := l = [.int .i64 x.Typ, .int .i64 x.Cap]
  ln h := by obtain rfl := h; rfl
  up le h := by exact h
  cv h := by obtain rfl := h; rfl
structure TInstr where
  Op : Int
  A : Int
  N : Int
  deriving DecidableEq, Inhabited, Repr
instance : Mo TInstr where
  sz := 3
  pos := by decide
  cs μ l x := l = [.int .i64 x.Op, .int .i64 x.A, .int .i64 x.N]
  ln h := by obtain rfl := h; rfl
  up le h := by exact h
  cv h := by obtain rfl := h; rfl
structure TUnit where
  Kind : Int
  Params : Int
  Locals : List Int
  Result : Int
  Takes : Int
  Code : List TInstr
  deriving DecidableEq, Inhabited, Repr
instance : Mo TUnit where
  sz := 6
  pos := by decide
  cs μ l x := ∃ a1 c1 a2 c2, l = [.int .i64 x.Kind, .int .i64 x.Params, .slice a1 x.Locals.length c1, .int .i64 x.Result, .int .i64 x.Takes, .slice a2 x.Code.length c2] ∧ Sl μ a1 c1 x.Locals ∧ Sl μ a2 c2 x.Code
  ln h := by obtain ⟨a1, c1, a2, c2, rfl, m1, m2⟩ := h; rfl
  up le h := by obtain ⟨a1, c1, a2, c2, rfl, m1, m2⟩ := h; exact ⟨a1, c1, a2, c2, rfl, m1.up le, m2.up le⟩
  cv h := by obtain ⟨a1, c1, a2, c2, rfl, m1, m2⟩ := h; rfl
structure TModule where
  Boxes : List TBoxInfo
  Units : List TUnit
  deriving DecidableEq, Inhabited, Repr
instance : Mo TModule where
  sz := 2
  pos := by decide
  cs μ l x := ∃ a1 c1 a2 c2, l = [.slice a1 x.Boxes.length c1, .slice a2 x.Units.length c2] ∧ Sl μ a1 c1 x.Boxes ∧ Sl μ a2 c2 x.Units
  ln h := by obtain ⟨a1, c1, a2, c2, rfl, m1, m2⟩ := h; rfl
  up le h := by obtain ⟨a1, c1, a2, c2, rfl, m1, m2⟩ := h; exact ⟨a1, c1, a2, c2, rfl, m1.up le, m2.up le⟩
  cv h := by obtain ⟨a1, c1, a2, c2, rfl, m1, m2⟩ := h; rfl
structure TWhere where
  Err : Int
  Unit : Int
  At : Int
  deriving DecidableEq, Inhabited, Repr
instance : Mo TWhere where
  sz := 3
  pos := by decide
  cs μ l x := l = [.int .i64 x.Err, .int .i64 x.Unit, .int .i64 x.At]
  ln h := by obtain rfl := h; rfl
  up le h := by exact h
  cv h := by obtain rfl := h; rfl
structure TFault where
  Err : Int
  At : Int
  deriving DecidableEq, Inhabited, Repr
instance : Mo TFault where
  sz := 2
  pos := by decide
  cs μ l x := l = [.int .i64 x.Err, .int .i64 x.At]
  ln h := by obtain rfl := h; rfl
  up le h := by exact h
  cv h := by obtain rfl := h; rfl
end Go.Y
