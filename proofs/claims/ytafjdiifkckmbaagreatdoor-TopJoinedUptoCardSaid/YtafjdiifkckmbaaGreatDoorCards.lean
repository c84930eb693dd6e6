/-
  DERIVED. GIVEN WITH THE SEED: THE CARDS: each row of YtafjdiifkckmbaaGreatDoorRows.lean that lists a variable, with what it lists TIED to the program's text (the seventh form; the later family's looks); each row that meets fmt, with fmt's text TOLD by the authors' own Lean function (tested against real Go, not proved from fmt's source: count such statements apart). THE CARD IS WHAT COUNTS. Prove the row's statement (the work); the ties are given (YtafjdiifkckmbaaGreatDoorTie.lean); close each card by the builder's one call (the guide's Derived/Test/ToyasCard.lean, 'card_holds'). Laid BY PROGRAM, IN A SANDBOX (cutbox-door.mjs). By AI agents, Wed Nov 11 2026. No macro, syntax, notation, axiom, sorry.
-/
import Derived.Test.YtafjdiifkckmbaaGreatDoorRows
import GoSem.ClaimSeven
namespace Go.Proofs.YtafjdiifkckmbaaGreatDoor
namespace Rows

/-- THE TIED CARD OF 'yieldtop.TopJoined'. -/
def topJoinedCard : Claim7 := { stood := { row := topJoinedRow, standIns := [], harness := (true, "23c4258c60641f32d92deef8a90eb1ac977b3050ef834b62cd158a67c0f1ac62"), looks := true }, kinds := [], alts := [], laidByText := true, laidKinds := [.data, .data, .data, .sentinel, .sentinel], laidTests := true, laidLooks := .later }
def TopJoinedCardSaid : Prop := Claim7.holds Tryz.pinned (.plain (OpenSpec.ofChange topJoinedSpec)) topJoinedCard

/-- THE TIED CARD OF 'yieldtop.TopCopies'. -/
def topCopiesCard : Claim7 := { stood := { row := topCopiesRow, standIns := [], harness := (true, "23c4258c60641f32d92deef8a90eb1ac977b3050ef834b62cd158a67c0f1ac62"), looks := true }, kinds := [], alts := [], laidByText := true, laidKinds := [.data, .data, .data, .sentinel, .sentinel], laidTests := true, laidLooks := .later }
def TopCopiesCardSaid : Prop := Claim7.holds Tryz.pinned (.plain (OpenSpec.ofChange topCopiesSpec)) topCopiesCard

/-- THE SECOND FORM's CARD OF 'yieldtop.TopJoined'. -/
def topJoinedUptoCard : Claim7 := { stood := { row := topJoinedUptoRow, standIns := [], harness := (true, "23c4258c60641f32d92deef8a90eb1ac977b3050ef834b62cd158a67c0f1ac62"), looks := true }, kinds := [], alts := [], laidByText := true, laidKinds := [.data, .data, .data, .sentinel, .sentinel], laidTests := true, laidLooks := .later }
def TopJoinedUptoCardSaid : Prop := Claim7.holds Tryz.pinned (.plain (OpenSpec.upto topJoinedSpec)) topJoinedUptoCard

/-- THE SECOND FORM's CARD OF 'yieldtop.TopCopies'. -/
def topCopiesUptoCard : Claim7 := { stood := { row := topCopiesUptoRow, standIns := [], harness := (true, "23c4258c60641f32d92deef8a90eb1ac977b3050ef834b62cd158a67c0f1ac62"), looks := true }, kinds := [], alts := [], laidByText := true, laidKinds := [.data, .data, .data, .sentinel, .sentinel], laidTests := true, laidLooks := .later }
def TopCopiesUptoCardSaid : Prop := Claim7.holds Tryz.pinned (.plain (OpenSpec.upto topCopiesSpec)) topCopiesUptoCard
end Rows
end Go.Proofs.YtafjdiifkckmbaaGreatDoor
