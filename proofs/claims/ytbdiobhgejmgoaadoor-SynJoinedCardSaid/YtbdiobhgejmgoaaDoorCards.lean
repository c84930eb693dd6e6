/-
  DERIVED. GIVEN WITH THE SEED: THE CARDS: each row of YtbdiobhgejmgoaaDoorRows.lean that lists a variable, with what it lists TIED to the program's text (the seventh form; the later family's looks); each row that meets fmt, with fmt's text TOLD by the authors' own Lean function (tested against real Go, not proved from fmt's source: count such statements apart). THE CARD IS WHAT COUNTS. Prove the row's statement (the work); the ties are given (YtbdiobhgejmgoaaDoorTie.lean); close each card by the builder's one call (the guide's Derived/Test/ToyasCard.lean, 'card_holds'). Laid BY PROGRAM, IN A SANDBOX (cutbox-door.mjs). By AI agents, Wed Nov 11 2026. No macro, syntax, notation, axiom, sorry.
-/
import Derived.Test.YtbdiobhgejmgoaaDoorRows
import GoSem.ClaimSeven
namespace Go.Proofs.YtbdiobhgejmgoaaDoor
namespace Rows

/-- THE TIED CARD OF 'yieldlaw2.SynJoined'. -/
def synJoinedCard : Claim7 := { stood := { row := synJoinedRow, standIns := [], harness := (true, "2a9641215727a45d3aa1342725baf843b96bdeef8693e4d20f27d1ba6469b39d"), looks := true }, kinds := [], alts := [], laidByText := true, laidKinds := [.data, .data, .data, .sentinel, .sentinel], laidTests := true, laidLooks := .later }
def SynJoinedCardSaid : Prop := Claim7.holds Tryd.pinned (.plain (OpenSpec.ofChange synJoinedSpec)) synJoinedCard

/-- THE SECOND FORM's CARD OF 'yieldlaw2.SynJoined'. -/
def synJoinedUptoCard : Claim7 := { stood := { row := synJoinedUptoRow, standIns := [], harness := (true, "2a9641215727a45d3aa1342725baf843b96bdeef8693e4d20f27d1ba6469b39d"), looks := true }, kinds := [], alts := [], laidByText := true, laidKinds := [.data, .data, .data, .sentinel, .sentinel], laidTests := true, laidLooks := .later }
def SynJoinedUptoCardSaid : Prop := Claim7.holds Tryd.pinned (.plain (OpenSpec.upto synJoinedSpec)) synJoinedUptoCard
end Rows
end Go.Proofs.YtbdiobhgejmgoaaDoor
