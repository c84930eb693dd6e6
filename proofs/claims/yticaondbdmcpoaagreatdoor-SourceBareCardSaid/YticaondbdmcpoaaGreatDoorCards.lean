/-
  DERIVED. GIVEN WITH THE SEED: THE CARDS: each row of YticaondbdmcpoaaGreatDoorRows.lean that lists a variable, with what it lists TIED to the program's text (the seventh form; the later family's looks); each row that meets fmt, with fmt's text TOLD by the authors' own Lean function (tested against real Go, not proved from fmt's source: count such statements apart). THE CARD IS WHAT COUNTS. Prove the row's statement (the work); the ties are given (YticaondbdmcpoaaGreatDoorTie.lean); close each card by the builder's one call (the guide's Derived/Test/ToyasCard.lean, 'card_holds'). Laid BY PROGRAM, IN A SANDBOX (cutbox-door.mjs). By AI agents, Wed Nov 11 2026. No macro, syntax, notation, axiom, sorry.
-/
import Derived.Test.YticaondbdmcpoaaGreatDoorRows
import GoSem.ClaimSeven
namespace Go.Proofs.YticaondbdmcpoaaGreatDoor
namespace Rows

/-- THE TIED CARD OF 'yieldtop.TopJoined'. -/
def topJoinedCard : Claim7 := { stood := { row := topJoinedRow, standIns := [], harness := (true, "33cfd9de84891d0747a6a69bb5b5a9531a3b33fe25f7784fd45c289b0b6cc596"), looks := true }, kinds := [], alts := [], laidByText := true, laidKinds := [.data, .data, .data, .sentinel, .sentinel], laidTests := true, laidLooks := .later }
def TopJoinedCardSaid : Prop := Claim7.holds Tryz.pinned (.plain (OpenSpec.ofChange topJoinedSpec)) topJoinedCard

/-- THE TIED CARD OF 'yieldlaw11.SourceRest'. -/
def sourceRestCard : Claim7 := { stood := { row := sourceRestRow, standIns := [], harness := (true, "33cfd9de84891d0747a6a69bb5b5a9531a3b33fe25f7784fd45c289b0b6cc596"), looks := true }, kinds := [], alts := [], laidByText := true, laidKinds := [.data, .data, .data, .sentinel, .sentinel], laidTests := true, laidLooks := .later }
def SourceRestCardSaid : Prop := Claim7.holds Tryz.pinned (.plain (OpenSpec.ofChange sourceRestSpec)) sourceRestCard

/-- THE TIED CARD OF 'yieldlaw11.SourceBare'. -/
def sourceBareCard : Claim7 := { stood := { row := sourceBareRow, standIns := [], harness := (true, "33cfd9de84891d0747a6a69bb5b5a9531a3b33fe25f7784fd45c289b0b6cc596"), looks := true }, kinds := [], alts := [], laidByText := true, laidKinds := [.data, .data, .data, .sentinel, .sentinel], laidTests := true, laidLooks := .later }
def SourceBareCardSaid : Prop := Claim7.holds Tryz.pinned (.plain (OpenSpec.ofChange sourceBareSpec)) sourceBareCard

/-- THE TIED CARD OF 'yieldtop.TopCopies'. -/
def topCopiesCard : Claim7 := { stood := { row := topCopiesRow, standIns := [], harness := (true, "33cfd9de84891d0747a6a69bb5b5a9531a3b33fe25f7784fd45c289b0b6cc596"), looks := true }, kinds := [], alts := [], laidByText := true, laidKinds := [.data, .data, .data, .sentinel, .sentinel], laidTests := true, laidLooks := .later }
def TopCopiesCardSaid : Prop := Claim7.holds Tryz.pinned (.plain (OpenSpec.ofChange topCopiesSpec)) topCopiesCard

/-- THE SECOND FORM's CARD OF 'yieldtop.TopJoined'. -/
def topJoinedUptoCard : Claim7 := { stood := { row := topJoinedUptoRow, standIns := [], harness := (true, "33cfd9de84891d0747a6a69bb5b5a9531a3b33fe25f7784fd45c289b0b6cc596"), looks := true }, kinds := [], alts := [], laidByText := true, laidKinds := [.data, .data, .data, .sentinel, .sentinel], laidTests := true, laidLooks := .later }
def TopJoinedUptoCardSaid : Prop := Claim7.holds Tryz.pinned (.plain (OpenSpec.upto topJoinedSpec)) topJoinedUptoCard

/-- THE SECOND FORM's CARD OF 'yieldlaw11.SourceRest'. -/
def sourceRestUptoCard : Claim7 := { stood := { row := sourceRestUptoRow, standIns := [], harness := (true, "33cfd9de84891d0747a6a69bb5b5a9531a3b33fe25f7784fd45c289b0b6cc596"), looks := true }, kinds := [], alts := [], laidByText := true, laidKinds := [.data, .data, .data, .sentinel, .sentinel], laidTests := true, laidLooks := .later }
def SourceRestUptoCardSaid : Prop := Claim7.holds Tryz.pinned (.plain (OpenSpec.upto sourceRestSpec)) sourceRestUptoCard

/-- THE SECOND FORM's CARD OF 'yieldlaw11.SourceBare'. -/
def sourceBareUptoCard : Claim7 := { stood := { row := sourceBareUptoRow, standIns := [], harness := (true, "33cfd9de84891d0747a6a69bb5b5a9531a3b33fe25f7784fd45c289b0b6cc596"), looks := true }, kinds := [], alts := [], laidByText := true, laidKinds := [.data, .data, .data, .sentinel, .sentinel], laidTests := true, laidLooks := .later }
def SourceBareUptoCardSaid : Prop := Claim7.holds Tryz.pinned (.plain (OpenSpec.upto sourceBareSpec)) sourceBareUptoCard

/-- THE SECOND FORM's CARD OF 'yieldtop.TopCopies'. -/
def topCopiesUptoCard : Claim7 := { stood := { row := topCopiesUptoRow, standIns := [], harness := (true, "33cfd9de84891d0747a6a69bb5b5a9531a3b33fe25f7784fd45c289b0b6cc596"), looks := true }, kinds := [], alts := [], laidByText := true, laidKinds := [.data, .data, .data, .sentinel, .sentinel], laidTests := true, laidLooks := .later }
def TopCopiesUptoCardSaid : Prop := Claim7.holds Tryz.pinned (.plain (OpenSpec.upto topCopiesSpec)) topCopiesUptoCard
end Rows
end Go.Proofs.YticaondbdmcpoaaGreatDoor
