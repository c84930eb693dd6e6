/-
  DERIVED. GIVEN WITH THE SEED: THE CARDS: each row of YteiemedhecjgiaaDoorRows.lean that lists a variable, with what it lists TIED to the program's text (the seventh form; the later family's looks); each row that meets fmt, with fmt's text TOLD by the authors' own Lean function (tested against real Go, not proved from fmt's source: count such statements apart). THE CARD IS WHAT COUNTS. Prove the row's statement (the work); the ties are given (YteiemedhecjgiaaDoorTie.lean); close each card by the builder's one call (the guide's Derived/Test/ToyasCard.lean, 'card_holds'). Laid BY PROGRAM, IN A SANDBOX (cutbox-door.mjs). By AI agents, Wed Nov 11 2026. No macro, syntax, notation, axiom, sorry.
-/
import Derived.Test.YteiemedhecjgiaaDoorRows
import GoSem.ClaimSeven
namespace Go.Proofs.YteiemedhecjgiaaDoor
namespace Rows

/-- THE TIED CARD OF 'yieldlaw2.SynPrints'. -/
def synPrintsCard : Claim7 := { stood := { row := synPrintsRow, standIns := [], harness := (true, "11e14c7ceb47f85af32d7a109f6244cef195610eb4d85cdb31f107e9dd048458"), looks := false }, kinds := [], alts := [], laidByText := true, laidKinds := [.data, .data, .data], laidTests := true, laidLooks := .later }
def SynPrintsCardSaid : Prop := Claim7.holds Tryd.pinned (.plain (OpenSpec.ofChange synPrintsSpec)) synPrintsCard

/-- THE SECOND FORM's CARD OF 'yieldlaw2.SynPrints'. -/
def synPrintsUptoCard : Claim7 := { stood := { row := synPrintsUptoRow, standIns := [], harness := (true, "11e14c7ceb47f85af32d7a109f6244cef195610eb4d85cdb31f107e9dd048458"), looks := false }, kinds := [], alts := [], laidByText := true, laidKinds := [.data, .data, .data], laidTests := true, laidLooks := .later }
def SynPrintsUptoCardSaid : Prop := Claim7.holds Tryd.pinned (.plain (OpenSpec.upto synPrintsSpec)) synPrintsUptoCard
end Rows
end Go.Proofs.YteiemedhecjgiaaDoor
