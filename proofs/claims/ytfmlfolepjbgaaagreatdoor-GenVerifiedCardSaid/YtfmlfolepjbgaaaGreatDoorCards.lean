/-
  DERIVED. GIVEN WITH THE SEED: THE CARDS: each row of YtfmlfolepjbgaaaGreatDoorRows.lean that lists a variable, with what it lists TIED to the program's text (the seventh form; the later family's looks); each row that meets fmt, with fmt's text TOLD by the authors' own Lean function (tested against real Go, not proved from fmt's source: count such statements apart). THE CARD IS WHAT COUNTS. Prove the row's statement (the work); the ties are given (YtfmlfolepjbgaaaGreatDoorTie.lean); close each card by the builder's one call (the guide's Derived/Test/ToyasCard.lean, 'card_holds'). Laid BY PROGRAM, IN A SANDBOX (cutbox-door.mjs). By AI agents, Wed Nov 11 2026. No macro, syntax, notation, axiom, sorry.
-/
import Derived.Test.YtfmlfolepjbgaaaGreatDoorRows
import GoSem.ClaimSeven
namespace Go.Proofs.YtfmlfolepjbgaaaGreatDoor
namespace Rows

/-- THE TIED CARD OF 'yieldlaw8.GenVerified'. -/
def genVerifiedCard : Claim7 := { stood := { row := genVerifiedRow, standIns := [], harness := (true, "54c716d6eda22257cf037019109caf0d9a34c9b3a2fb7846a0020b2da3a259f5"), looks := true }, kinds := [], alts := [], laidByText := true, laidKinds := [.data, .data, .data, .sentinel, .sentinel], laidTests := true, laidLooks := .later }
def GenVerifiedCardSaid : Prop := Claim7.holds Tryz.pinned (.plain (OpenSpec.ofChange genVerifiedSpec)) genVerifiedCard

/-- THE SECOND FORM's CARD OF 'yieldlaw8.GenVerified'. -/
def genVerifiedUptoCard : Claim7 := { stood := { row := genVerifiedUptoRow, standIns := [], harness := (true, "54c716d6eda22257cf037019109caf0d9a34c9b3a2fb7846a0020b2da3a259f5"), looks := true }, kinds := [], alts := [], laidByText := true, laidKinds := [.data, .data, .data, .sentinel, .sentinel], laidTests := true, laidLooks := .later }
def GenVerifiedUptoCardSaid : Prop := Claim7.holds Tryz.pinned (.plain (OpenSpec.upto genVerifiedSpec)) genVerifiedUptoCard
end Rows
end Go.Proofs.YtfmlfolepjbgaaaGreatDoor
