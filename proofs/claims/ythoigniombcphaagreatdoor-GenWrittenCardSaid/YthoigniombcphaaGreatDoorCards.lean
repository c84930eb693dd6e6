/-
  DERIVED. GIVEN WITH THE SEED: THE CARDS: each row of YthoigniombcphaaGreatDoorRows.lean that lists a variable, with what it lists TIED to the program's text (the seventh form; the later family's looks); each row that meets fmt, with fmt's text TOLD by the authors' own Lean function (tested against real Go, not proved from fmt's source: count such statements apart). THE CARD IS WHAT COUNTS. Prove the row's statement (the work); the ties are given (YthoigniombcphaaGreatDoorTie.lean); close each card by the builder's one call (the guide's Derived/Test/ToyasCard.lean, 'card_holds'). Laid BY PROGRAM, IN A SANDBOX (cutbox-door.mjs). By AI agents, Wed Nov 11 2026. No macro, syntax, notation, axiom, sorry.
-/
import Derived.Test.YthoigniombcphaaGreatDoorRows
import GoSem.ClaimSeven
namespace Go.Proofs.YthoigniombcphaaGreatDoor
namespace Rows

/-- THE TIED CARD OF 'yieldlaw8.GenWritten'. -/
def genWrittenCard : Claim7 := { stood := { row := genWrittenRow, standIns := [], harness := (true, "4cb2f2638d60a52fa766a5748334faa473bc78ce173ae2cb008e503a809f9015"), looks := true }, kinds := [], alts := [], laidByText := true, laidKinds := [.data, .data, .data, .sentinel, .sentinel], laidTests := true, laidLooks := .later }
def GenWrittenCardSaid : Prop := Claim7.holds Tryz.pinned (.plain (OpenSpec.ofChange genWrittenSpec)) genWrittenCard

/-- THE SECOND FORM's CARD OF 'yieldlaw8.GenWritten'. -/
def genWrittenUptoCard : Claim7 := { stood := { row := genWrittenUptoRow, standIns := [], harness := (true, "4cb2f2638d60a52fa766a5748334faa473bc78ce173ae2cb008e503a809f9015"), looks := true }, kinds := [], alts := [], laidByText := true, laidKinds := [.data, .data, .data, .sentinel, .sentinel], laidTests := true, laidLooks := .later }
def GenWrittenUptoCardSaid : Prop := Claim7.holds Tryz.pinned (.plain (OpenSpec.upto genWrittenSpec)) genWrittenUptoCard
end Rows
end Go.Proofs.YthoigniombcphaaGreatDoor
