/-
  NARROWER THAN 'FOR EVERY INPUT', by the rows' own cells (each row's printed sentence says how): SemaTells: loops · GraphTells: loops · GenMakes: loops.
  DERIVED. THE GIVEN ROWS OF THIS SEAT. 3 by the template 'for every input the law returns true; each argument reads behind the call as it read before'; 0 by the template 'total and deterministic' (their statements: YteiemedhecjgiaaTotals.lean).
  GIVEN WITH THE SEED: the statements are not yours to turn. If you find one false, say at which input.
  Laid BY PROGRAM, IN A SANDBOX (cutbox-rows.mjs): the forced cells as the released guide's own fill.sh prints them over the translation d8262ca8095de61d… (all of the seat's roots in one cut). By AI agents, Wed Nov 11 2026. No macro, syntax, notation, axiom, sorry.
-/
import Derived.Test.YteiemedhecjgiaaChecked
import GoSem.Claim
import GoSem.ClaimJoined
import GoSem.ClaimMapViews
import Derived.JoinedTies
import Derived.KernelRfl
namespace Go.Proofs.Yteiemedhecjgiaa
/- THE CELL 'sum', in the pinned program and in every row, IS THE sha256 OF THE DUMP (.gsa) THAT YteiemedhecjgiaaProg.lean LOADS. Nothing in Lean hashes anything: it is a label: what it is worth is what the hold of that sum in a sandbox is worth. -/
noncomputable def Try.pinned : Pinned := { name := "yteiemedhecjgiaa", sum := "d8262ca8095de61ddf5230b550a0eceb73111c0c480aa0aa9f748309fd514a72", checked := Try.checked }
namespace Rows
def none {H : Type} : Left H := { results := [], args := [] }

/-- 'yieldlaw3.SemaTells': WHATEVER THE INPUT: true; the input reads as it did. -/
def semaTellsSpec : ChangeSpec := { name := "semaTells", fn := fun _ => fun
  | [d] => { results := [.lit (.bool true)], args := [d] }
  | _ => none }
def semaTellsRow : OpenClaim := { program := "yteiemedhecjgiaa", sum := "d8262ca8095de61ddf5230b550a0eceb73111c0c480aa0aa9f748309fd514a72", func := "yieldshape/yieldlaw3.SemaTells", spec := "semaTells", inPlace := ["internal/bytealg.IndexByteString", "internal/bytealg.IndexString"], unfollowed := true, recurses := true, named := ["internal/bytealg.MaxLen"], loops := true, apart := false }
def SemaTellsSaid : Prop := semaTellsRow.holds Try.pinned (OpenSpec.ofChange semaTellsSpec)

/-- ITS FALSE NEIGHBOUR: 'it returns false'. Refute it at one input. -/
def semaTellsWrong : ChangeSpec := { name := "semaTells", fn := fun _ => fun
  | [d] => { results := [.lit (.bool false)], args := [d] }
  | _ => none }
def SemaTellsWrongFalsely : Prop := semaTellsRow.holds Try.pinned (OpenSpec.ofChange semaTellsWrong)

/-- 'yieldlaw15.GraphTells': WHATEVER THE INPUT: true; the input reads as it did. -/
def graphTellsSpec : ChangeSpec := { name := "graphTells", fn := fun _ => fun
  | [d] => { results := [.lit (.bool true)], args := [d] }
  | _ => none }
def graphTellsRow : OpenClaim := { program := "yteiemedhecjgiaa", sum := "d8262ca8095de61ddf5230b550a0eceb73111c0c480aa0aa9f748309fd514a72", func := "yieldshape/yieldlaw15.GraphTells", spec := "graphTells", inPlace := ["internal/bytealg.IndexByteString", "internal/bytealg.IndexString"], unfollowed := true, recurses := true, named := ["internal/bytealg.MaxLen"], loops := true, apart := false }
def GraphTellsSaid : Prop := graphTellsRow.holds Try.pinned (OpenSpec.ofChange graphTellsSpec)

/-- ITS FALSE NEIGHBOUR: 'it returns false'. Refute it at one input. -/
def graphTellsWrong : ChangeSpec := { name := "graphTells", fn := fun _ => fun
  | [d] => { results := [.lit (.bool false)], args := [d] }
  | _ => none }
def GraphTellsWrongFalsely : Prop := graphTellsRow.holds Try.pinned (OpenSpec.ofChange graphTellsWrong)

/-- 'yieldlaw8.GenMakes': WHATEVER THE INPUT: true; the input reads as it did. -/
def genMakesSpec : ChangeSpec := { name := "genMakes", fn := fun _ => fun
  | [d] => { results := [.lit (.bool true)], args := [d] }
  | _ => none }
def genMakesRow : OpenClaim := { program := "yteiemedhecjgiaa", sum := "d8262ca8095de61ddf5230b550a0eceb73111c0c480aa0aa9f748309fd514a72", func := "yieldshape/yieldlaw8.GenMakes", spec := "genMakes", inPlace := ["internal/bytealg.IndexByteString", "internal/bytealg.IndexString"], unfollowed := true, recurses := true, named := ["internal/bytealg.MaxLen"], loops := true, apart := false }
def GenMakesSaid : Prop := genMakesRow.holds Try.pinned (OpenSpec.ofChange genMakesSpec)

/-- ITS FALSE NEIGHBOUR: 'it returns false'. Refute it at one input. -/
def genMakesWrong : ChangeSpec := { name := "genMakes", fn := fun _ => fun
  | [d] => { results := [.lit (.bool false)], args := [d] }
  | _ => none }
def GenMakesWrongFalsely : Prop := genMakesRow.holds Try.pinned (OpenSpec.ofChange genMakesWrong)

/- THE SECOND FORM. 'bulk': how many values and letters a reading holds, each counted each time it is reached (what is shared counts as often as it is met; a slice's spare places count too). A statement '..UptoSaid' is the law's where the arguments, and the package variables that the reading takes, are together of bulk at most 1048576: NARROWER than '..Said'. Prove '..Said' where nothing that the law and all that it calls make is longer than what came in: it says more and counts as full. Else prove '..UptoSaid'. A law counts once. -/
mutual
def uptoBulk {H : Type} : DataW H → Nat
  | .lit (.string bytes) => bytes.length + 1
  | .lit _ => 1
  | .nil => 1
  | .ptr d => uptoBulk d + 1
  | .slice elems spare => uptoBulkAll elems + uptoBulkAll spare + 1
  | .agg parts => uptoBulkAll parts + 1
  | .iface _ d => uptoBulk d + 1
  | .map entries => uptoBulkEntries entries + 1
  | .held _ => 1
def uptoBulkAll {H : Type} : List (DataW H) → Nat
  | [] => 0
  | d :: r => uptoBulk d + uptoBulkAll r
def uptoBulkEntries {H : Type} : List (Lit × DataW H) → Nat
  | [] => 0
  | x :: r => uptoBulkEntry x + uptoBulkEntries r
def uptoBulkEntry {H : Type} : Lit × DataW H → Nat
  | (.string bytes, d) => bytes.length + uptoBulk d + 1
  | (_, d) => uptoBulk d + 1
 end
def uptoSmall : (H : Type) → List (DataW H) → Bool := fun _ ds => decide (uptoBulkAll ds ≤ 1048576)
def OpenSpec.upto (s : _root_.Go.ChangeSpec) : _root_.Go.OpenSpec := { _root_.Go.OpenSpec.ofChange s with cond := some uptoSmall }

/-- 'yieldlaw3.SemaTells', WHERE WHAT IT READS IS OF BULK AT MOST 1048576: true; the input reads as it did. -/
def semaTellsUptoRow : OpenClaim := { program := "yteiemedhecjgiaa", sum := "d8262ca8095de61ddf5230b550a0eceb73111c0c480aa0aa9f748309fd514a72", func := "yieldshape/yieldlaw3.SemaTells", spec := "semaTells", inPlace := ["internal/bytealg.IndexByteString", "internal/bytealg.IndexString"], unfollowed := true, recurses := true, named := ["internal/bytealg.MaxLen"], loops := true, apart := false, narrowed := true }
def SemaTellsUptoSaid : Prop := semaTellsUptoRow.holds Try.pinned (OpenSpec.upto semaTellsSpec)

/-- 'yieldlaw15.GraphTells', WHERE WHAT IT READS IS OF BULK AT MOST 1048576: true; the input reads as it did. -/
def graphTellsUptoRow : OpenClaim := { program := "yteiemedhecjgiaa", sum := "d8262ca8095de61ddf5230b550a0eceb73111c0c480aa0aa9f748309fd514a72", func := "yieldshape/yieldlaw15.GraphTells", spec := "graphTells", inPlace := ["internal/bytealg.IndexByteString", "internal/bytealg.IndexString"], unfollowed := true, recurses := true, named := ["internal/bytealg.MaxLen"], loops := true, apart := false, narrowed := true }
def GraphTellsUptoSaid : Prop := graphTellsUptoRow.holds Try.pinned (OpenSpec.upto graphTellsSpec)

/-- 'yieldlaw8.GenMakes', WHERE WHAT IT READS IS OF BULK AT MOST 1048576: true; the input reads as it did. -/
def genMakesUptoRow : OpenClaim := { program := "yteiemedhecjgiaa", sum := "d8262ca8095de61ddf5230b550a0eceb73111c0c480aa0aa9f748309fd514a72", func := "yieldshape/yieldlaw8.GenMakes", spec := "genMakes", inPlace := ["internal/bytealg.IndexByteString", "internal/bytealg.IndexString"], unfollowed := true, recurses := true, named := ["internal/bytealg.MaxLen"], loops := true, apart := false, narrowed := true }
def GenMakesUptoSaid : Prop := genMakesUptoRow.holds Try.pinned (OpenSpec.upto genMakesSpec)

end Rows
end Go.Proofs.Yteiemedhecjgiaa
