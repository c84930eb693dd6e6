/-
  DERIVED. GIVEN WITH THE SEED: THE CARDS: each row of YthdpoglpdpfnbaaGreatDoorRows.lean that lists a variable, with what it lists TIED to the program's text (the seventh form; the later family's looks); each row that meets fmt, with fmt's text TOLD by the authors' own Lean function (tested against real Go, not proved from fmt's source: count such statements apart). THE CARD IS WHAT COUNTS. Prove the row's statement (the work); the ties are given (YthdpoglpdpfnbaaGreatDoorTie.lean); close each card by the builder's one call (the guide's Derived/Test/ToyasCard.lean, 'card_holds'). Laid BY PROGRAM, IN A SANDBOX (cutbox-door.mjs). By AI agents, Wed Nov 11 2026. No macro, syntax, notation, axiom, sorry.
-/
import Derived.Test.YthdpoglpdpfnbaaGreatDoorRows
import GoSem.ClaimSeven
namespace Go.Proofs.YthdpoglpdpfnbaaGreatDoor
namespace Rows

/-- THE TIED CARD OF 'yieldlaw12.ShelfFib'. -/
def shelfFibCard : Claim7 := { stood := { row := shelfFibRow, standIns := [], harness := (true, "919f5a29704e5ee08da260421b53895a9245f7e79b9e90bf690ee4a185717dc6"), looks := true }, kinds := [], alts := [], laidByText := true, laidKinds := [.data, .data, .data, .sentinel, .sentinel], laidTests := true, laidLooks := .later }
def ShelfFibCardSaid : Prop := Claim7.holds Tryz.pinned (.plain (OpenSpec.ofChange shelfFibSpec)) shelfFibCard

/-- THE TIED CARD OF 'yieldlaw12.ShelfAverage'. -/
def shelfAverageCard : Claim7 := { stood := { row := shelfAverageRow, standIns := [], harness := (true, "919f5a29704e5ee08da260421b53895a9245f7e79b9e90bf690ee4a185717dc6"), looks := true }, kinds := [], alts := [], laidByText := true, laidKinds := [.data, .data, .data, .sentinel, .sentinel], laidTests := true, laidLooks := .later }
def ShelfAverageCardSaid : Prop := Claim7.holds Tryz.pinned (.plain (OpenSpec.ofChange shelfAverageSpec)) shelfAverageCard

/-- THE TIED CARD OF 'yieldlaw12.ShelfTurns'. -/
def shelfTurnsCard : Claim7 := { stood := { row := shelfTurnsRow, standIns := [], harness := (true, "919f5a29704e5ee08da260421b53895a9245f7e79b9e90bf690ee4a185717dc6"), looks := true }, kinds := [], alts := [], laidByText := true, laidKinds := [.data, .data, .data, .sentinel, .sentinel], laidTests := true, laidLooks := .later }
def ShelfTurnsCardSaid : Prop := Claim7.holds Tryz.pinned (.plain (OpenSpec.ofChange shelfTurnsSpec)) shelfTurnsCard

/-- THE TIED CARD OF 'yieldlaw12.ShelfRounds'. -/
def shelfRoundsCard : Claim7 := { stood := { row := shelfRoundsRow, standIns := [], harness := (true, "919f5a29704e5ee08da260421b53895a9245f7e79b9e90bf690ee4a185717dc6"), looks := true }, kinds := [], alts := [], laidByText := true, laidKinds := [.data, .data, .data, .sentinel, .sentinel], laidTests := true, laidLooks := .later }
def ShelfRoundsCardSaid : Prop := Claim7.holds Tryz.pinned (.plain (OpenSpec.ofChange shelfRoundsSpec)) shelfRoundsCard

/-- THE SECOND FORM's CARD OF 'yieldlaw12.ShelfFib'. -/
def shelfFibUptoCard : Claim7 := { stood := { row := shelfFibUptoRow, standIns := [], harness := (true, "919f5a29704e5ee08da260421b53895a9245f7e79b9e90bf690ee4a185717dc6"), looks := true }, kinds := [], alts := [], laidByText := true, laidKinds := [.data, .data, .data, .sentinel, .sentinel], laidTests := true, laidLooks := .later }
def ShelfFibUptoCardSaid : Prop := Claim7.holds Tryz.pinned (.plain (OpenSpec.upto shelfFibSpec)) shelfFibUptoCard

/-- THE SECOND FORM's CARD OF 'yieldlaw12.ShelfAverage'. -/
def shelfAverageUptoCard : Claim7 := { stood := { row := shelfAverageUptoRow, standIns := [], harness := (true, "919f5a29704e5ee08da260421b53895a9245f7e79b9e90bf690ee4a185717dc6"), looks := true }, kinds := [], alts := [], laidByText := true, laidKinds := [.data, .data, .data, .sentinel, .sentinel], laidTests := true, laidLooks := .later }
def ShelfAverageUptoCardSaid : Prop := Claim7.holds Tryz.pinned (.plain (OpenSpec.upto shelfAverageSpec)) shelfAverageUptoCard

/-- THE SECOND FORM's CARD OF 'yieldlaw12.ShelfTurns'. -/
def shelfTurnsUptoCard : Claim7 := { stood := { row := shelfTurnsUptoRow, standIns := [], harness := (true, "919f5a29704e5ee08da260421b53895a9245f7e79b9e90bf690ee4a185717dc6"), looks := true }, kinds := [], alts := [], laidByText := true, laidKinds := [.data, .data, .data, .sentinel, .sentinel], laidTests := true, laidLooks := .later }
def ShelfTurnsUptoCardSaid : Prop := Claim7.holds Tryz.pinned (.plain (OpenSpec.upto shelfTurnsSpec)) shelfTurnsUptoCard

/-- THE SECOND FORM's CARD OF 'yieldlaw12.ShelfRounds'. -/
def shelfRoundsUptoCard : Claim7 := { stood := { row := shelfRoundsUptoRow, standIns := [], harness := (true, "919f5a29704e5ee08da260421b53895a9245f7e79b9e90bf690ee4a185717dc6"), looks := true }, kinds := [], alts := [], laidByText := true, laidKinds := [.data, .data, .data, .sentinel, .sentinel], laidTests := true, laidLooks := .later }
def ShelfRoundsUptoCardSaid : Prop := Claim7.holds Tryz.pinned (.plain (OpenSpec.upto shelfRoundsSpec)) shelfRoundsUptoCard
end Rows
end Go.Proofs.YthdpoglpdpfnbaaGreatDoor
