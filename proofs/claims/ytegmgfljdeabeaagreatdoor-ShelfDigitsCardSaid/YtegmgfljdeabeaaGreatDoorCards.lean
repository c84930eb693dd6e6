/-
  DERIVED. GIVEN WITH THE SEED: THE CARDS: each row of YtegmgfljdeabeaaGreatDoorRows.lean that lists a variable, with what it lists TIED to the program's text (the seventh form; the later family's looks); each row that meets fmt, with fmt's text TOLD by the authors' own Lean function (tested against real Go, not proved from fmt's source: count such statements apart). THE CARD IS WHAT COUNTS. Prove the row's statement (the work); the ties are given (YtegmgfljdeabeaaGreatDoorTie.lean); close each card by the builder's one call (the guide's Derived/Test/ToyasCard.lean, 'card_holds'). Laid BY PROGRAM, IN A SANDBOX (cutbox-door.mjs). By AI agents, Wed Nov 11 2026. No macro, syntax, notation, axiom, sorry.
-/
import Derived.Test.YtegmgfljdeabeaaGreatDoorRows
import GoSem.ClaimSeven
namespace Go.Proofs.YtegmgfljdeabeaaGreatDoor
namespace Rows

/-- THE TIED CARD OF 'yieldlaw12.ShelfDouble'. -/
def shelfDoubleCard : Claim7 := { stood := { row := shelfDoubleRow, standIns := [], harness := (true, "13d150215764562fa7a07e1878719054c5f475a29cb2ce6e4fbb396f6321c246"), looks := true }, kinds := [], alts := [], laidByText := true, laidKinds := [.data, .data, .data, .sentinel, .sentinel], laidTests := true, laidLooks := .later }
def ShelfDoubleCardSaid : Prop := Claim7.holds Tryz.pinned (.plain (OpenSpec.ofChange shelfDoubleSpec)) shelfDoubleCard

/-- THE TIED CARD OF 'yieldlaw12.ShelfSums'. -/
def shelfSumsCard : Claim7 := { stood := { row := shelfSumsRow, standIns := [], harness := (true, "13d150215764562fa7a07e1878719054c5f475a29cb2ce6e4fbb396f6321c246"), looks := true }, kinds := [], alts := [], laidByText := true, laidKinds := [.data, .data, .data, .sentinel, .sentinel], laidTests := true, laidLooks := .later }
def ShelfSumsCardSaid : Prop := Claim7.holds Tryz.pinned (.plain (OpenSpec.ofChange shelfSumsSpec)) shelfSumsCard

/-- THE TIED CARD OF 'yieldlaw12.ShelfPairs'. -/
def shelfPairsCard : Claim7 := { stood := { row := shelfPairsRow, standIns := [], harness := (true, "13d150215764562fa7a07e1878719054c5f475a29cb2ce6e4fbb396f6321c246"), looks := true }, kinds := [], alts := [], laidByText := true, laidKinds := [.data, .data, .data, .sentinel, .sentinel], laidTests := true, laidLooks := .later }
def ShelfPairsCardSaid : Prop := Claim7.holds Tryz.pinned (.plain (OpenSpec.ofChange shelfPairsSpec)) shelfPairsCard

/-- THE TIED CARD OF 'yieldlaw12.ShelfEvens'. -/
def shelfEvensCard : Claim7 := { stood := { row := shelfEvensRow, standIns := [], harness := (true, "13d150215764562fa7a07e1878719054c5f475a29cb2ce6e4fbb396f6321c246"), looks := true }, kinds := [], alts := [], laidByText := true, laidKinds := [.data, .data, .data, .sentinel, .sentinel], laidTests := true, laidLooks := .later }
def ShelfEvensCardSaid : Prop := Claim7.holds Tryz.pinned (.plain (OpenSpec.ofChange shelfEvensSpec)) shelfEvensCard

/-- THE TIED CARD OF 'yieldlaw12.ShelfChanges'. -/
def shelfChangesCard : Claim7 := { stood := { row := shelfChangesRow, standIns := [], harness := (true, "13d150215764562fa7a07e1878719054c5f475a29cb2ce6e4fbb396f6321c246"), looks := true }, kinds := [], alts := [], laidByText := true, laidKinds := [.data, .data, .data, .sentinel, .sentinel], laidTests := true, laidLooks := .later }
def ShelfChangesCardSaid : Prop := Claim7.holds Tryz.pinned (.plain (OpenSpec.ofChange shelfChangesSpec)) shelfChangesCard

/-- THE TIED CARD OF 'yieldlaw12.ShelfZip'. -/
def shelfZipCard : Claim7 := { stood := { row := shelfZipRow, standIns := [], harness := (true, "13d150215764562fa7a07e1878719054c5f475a29cb2ce6e4fbb396f6321c246"), looks := true }, kinds := [], alts := [], laidByText := true, laidKinds := [.data, .data, .data, .sentinel, .sentinel], laidTests := true, laidLooks := .later }
def ShelfZipCardSaid : Prop := Claim7.holds Tryz.pinned (.plain (OpenSpec.ofChange shelfZipSpec)) shelfZipCard

/-- THE TIED CARD OF 'yieldlaw12.ShelfGate'. -/
def shelfGateCard : Claim7 := { stood := { row := shelfGateRow, standIns := [], harness := (true, "13d150215764562fa7a07e1878719054c5f475a29cb2ce6e4fbb396f6321c246"), looks := true }, kinds := [], alts := [], laidByText := true, laidKinds := [.data, .data, .data, .sentinel, .sentinel], laidTests := true, laidLooks := .later }
def ShelfGateCardSaid : Prop := Claim7.holds Tryz.pinned (.plain (OpenSpec.ofChange shelfGateSpec)) shelfGateCard

/-- THE TIED CARD OF 'yieldlaw12.ShelfDigits'. -/
def shelfDigitsCard : Claim7 := { stood := { row := shelfDigitsRow, standIns := [], harness := (true, "13d150215764562fa7a07e1878719054c5f475a29cb2ce6e4fbb396f6321c246"), looks := true }, kinds := [], alts := [], laidByText := true, laidKinds := [.data, .data, .data, .sentinel, .sentinel], laidTests := true, laidLooks := .later }
def ShelfDigitsCardSaid : Prop := Claim7.holds Tryz.pinned (.plain (OpenSpec.ofChange shelfDigitsSpec)) shelfDigitsCard

/-- THE TIED CARD OF 'yieldlaw12.ShelfWindow'. -/
def shelfWindowCard : Claim7 := { stood := { row := shelfWindowRow, standIns := [], harness := (true, "13d150215764562fa7a07e1878719054c5f475a29cb2ce6e4fbb396f6321c246"), looks := true }, kinds := [], alts := [], laidByText := true, laidKinds := [.data, .data, .data, .sentinel, .sentinel], laidTests := true, laidLooks := .later }
def ShelfWindowCardSaid : Prop := Claim7.holds Tryz.pinned (.plain (OpenSpec.ofChange shelfWindowSpec)) shelfWindowCard

/-- THE TIED CARD OF 'yieldlaw12.ShelfDedupe'. -/
def shelfDedupeCard : Claim7 := { stood := { row := shelfDedupeRow, standIns := [], harness := (true, "13d150215764562fa7a07e1878719054c5f475a29cb2ce6e4fbb396f6321c246"), looks := true }, kinds := [], alts := [], laidByText := true, laidKinds := [.data, .data, .data, .sentinel, .sentinel], laidTests := true, laidLooks := .later }
def ShelfDedupeCardSaid : Prop := Claim7.holds Tryz.pinned (.plain (OpenSpec.ofChange shelfDedupeSpec)) shelfDedupeCard

/-- THE TIED CARD OF 'yieldlaw12.ShelfMerge'. -/
def shelfMergeCard : Claim7 := { stood := { row := shelfMergeRow, standIns := [], harness := (true, "13d150215764562fa7a07e1878719054c5f475a29cb2ce6e4fbb396f6321c246"), looks := true }, kinds := [], alts := [], laidByText := true, laidKinds := [.data, .data, .data, .sentinel, .sentinel], laidTests := true, laidLooks := .later }
def ShelfMergeCardSaid : Prop := Claim7.holds Tryz.pinned (.plain (OpenSpec.ofChange shelfMergeSpec)) shelfMergeCard

/-- THE TIED CARD OF 'yieldlaw12.ShelfUntil'. -/
def shelfUntilCard : Claim7 := { stood := { row := shelfUntilRow, standIns := [], harness := (true, "13d150215764562fa7a07e1878719054c5f475a29cb2ce6e4fbb396f6321c246"), looks := true }, kinds := [], alts := [], laidByText := true, laidKinds := [.data, .data, .data, .sentinel, .sentinel], laidTests := true, laidLooks := .later }
def ShelfUntilCardSaid : Prop := Claim7.holds Tryz.pinned (.plain (OpenSpec.ofChange shelfUntilSpec)) shelfUntilCard

/-- THE SECOND FORM's CARD OF 'yieldlaw12.ShelfDouble'. -/
def shelfDoubleUptoCard : Claim7 := { stood := { row := shelfDoubleUptoRow, standIns := [], harness := (true, "13d150215764562fa7a07e1878719054c5f475a29cb2ce6e4fbb396f6321c246"), looks := true }, kinds := [], alts := [], laidByText := true, laidKinds := [.data, .data, .data, .sentinel, .sentinel], laidTests := true, laidLooks := .later }
def ShelfDoubleUptoCardSaid : Prop := Claim7.holds Tryz.pinned (.plain (OpenSpec.upto shelfDoubleSpec)) shelfDoubleUptoCard

/-- THE SECOND FORM's CARD OF 'yieldlaw12.ShelfSums'. -/
def shelfSumsUptoCard : Claim7 := { stood := { row := shelfSumsUptoRow, standIns := [], harness := (true, "13d150215764562fa7a07e1878719054c5f475a29cb2ce6e4fbb396f6321c246"), looks := true }, kinds := [], alts := [], laidByText := true, laidKinds := [.data, .data, .data, .sentinel, .sentinel], laidTests := true, laidLooks := .later }
def ShelfSumsUptoCardSaid : Prop := Claim7.holds Tryz.pinned (.plain (OpenSpec.upto shelfSumsSpec)) shelfSumsUptoCard

/-- THE SECOND FORM's CARD OF 'yieldlaw12.ShelfPairs'. -/
def shelfPairsUptoCard : Claim7 := { stood := { row := shelfPairsUptoRow, standIns := [], harness := (true, "13d150215764562fa7a07e1878719054c5f475a29cb2ce6e4fbb396f6321c246"), looks := true }, kinds := [], alts := [], laidByText := true, laidKinds := [.data, .data, .data, .sentinel, .sentinel], laidTests := true, laidLooks := .later }
def ShelfPairsUptoCardSaid : Prop := Claim7.holds Tryz.pinned (.plain (OpenSpec.upto shelfPairsSpec)) shelfPairsUptoCard

/-- THE SECOND FORM's CARD OF 'yieldlaw12.ShelfEvens'. -/
def shelfEvensUptoCard : Claim7 := { stood := { row := shelfEvensUptoRow, standIns := [], harness := (true, "13d150215764562fa7a07e1878719054c5f475a29cb2ce6e4fbb396f6321c246"), looks := true }, kinds := [], alts := [], laidByText := true, laidKinds := [.data, .data, .data, .sentinel, .sentinel], laidTests := true, laidLooks := .later }
def ShelfEvensUptoCardSaid : Prop := Claim7.holds Tryz.pinned (.plain (OpenSpec.upto shelfEvensSpec)) shelfEvensUptoCard

/-- THE SECOND FORM's CARD OF 'yieldlaw12.ShelfChanges'. -/
def shelfChangesUptoCard : Claim7 := { stood := { row := shelfChangesUptoRow, standIns := [], harness := (true, "13d150215764562fa7a07e1878719054c5f475a29cb2ce6e4fbb396f6321c246"), looks := true }, kinds := [], alts := [], laidByText := true, laidKinds := [.data, .data, .data, .sentinel, .sentinel], laidTests := true, laidLooks := .later }
def ShelfChangesUptoCardSaid : Prop := Claim7.holds Tryz.pinned (.plain (OpenSpec.upto shelfChangesSpec)) shelfChangesUptoCard

/-- THE SECOND FORM's CARD OF 'yieldlaw12.ShelfZip'. -/
def shelfZipUptoCard : Claim7 := { stood := { row := shelfZipUptoRow, standIns := [], harness := (true, "13d150215764562fa7a07e1878719054c5f475a29cb2ce6e4fbb396f6321c246"), looks := true }, kinds := [], alts := [], laidByText := true, laidKinds := [.data, .data, .data, .sentinel, .sentinel], laidTests := true, laidLooks := .later }
def ShelfZipUptoCardSaid : Prop := Claim7.holds Tryz.pinned (.plain (OpenSpec.upto shelfZipSpec)) shelfZipUptoCard

/-- THE SECOND FORM's CARD OF 'yieldlaw12.ShelfGate'. -/
def shelfGateUptoCard : Claim7 := { stood := { row := shelfGateUptoRow, standIns := [], harness := (true, "13d150215764562fa7a07e1878719054c5f475a29cb2ce6e4fbb396f6321c246"), looks := true }, kinds := [], alts := [], laidByText := true, laidKinds := [.data, .data, .data, .sentinel, .sentinel], laidTests := true, laidLooks := .later }
def ShelfGateUptoCardSaid : Prop := Claim7.holds Tryz.pinned (.plain (OpenSpec.upto shelfGateSpec)) shelfGateUptoCard

/-- THE SECOND FORM's CARD OF 'yieldlaw12.ShelfDigits'. -/
def shelfDigitsUptoCard : Claim7 := { stood := { row := shelfDigitsUptoRow, standIns := [], harness := (true, "13d150215764562fa7a07e1878719054c5f475a29cb2ce6e4fbb396f6321c246"), looks := true }, kinds := [], alts := [], laidByText := true, laidKinds := [.data, .data, .data, .sentinel, .sentinel], laidTests := true, laidLooks := .later }
def ShelfDigitsUptoCardSaid : Prop := Claim7.holds Tryz.pinned (.plain (OpenSpec.upto shelfDigitsSpec)) shelfDigitsUptoCard

/-- THE SECOND FORM's CARD OF 'yieldlaw12.ShelfWindow'. -/
def shelfWindowUptoCard : Claim7 := { stood := { row := shelfWindowUptoRow, standIns := [], harness := (true, "13d150215764562fa7a07e1878719054c5f475a29cb2ce6e4fbb396f6321c246"), looks := true }, kinds := [], alts := [], laidByText := true, laidKinds := [.data, .data, .data, .sentinel, .sentinel], laidTests := true, laidLooks := .later }
def ShelfWindowUptoCardSaid : Prop := Claim7.holds Tryz.pinned (.plain (OpenSpec.upto shelfWindowSpec)) shelfWindowUptoCard

/-- THE SECOND FORM's CARD OF 'yieldlaw12.ShelfDedupe'. -/
def shelfDedupeUptoCard : Claim7 := { stood := { row := shelfDedupeUptoRow, standIns := [], harness := (true, "13d150215764562fa7a07e1878719054c5f475a29cb2ce6e4fbb396f6321c246"), looks := true }, kinds := [], alts := [], laidByText := true, laidKinds := [.data, .data, .data, .sentinel, .sentinel], laidTests := true, laidLooks := .later }
def ShelfDedupeUptoCardSaid : Prop := Claim7.holds Tryz.pinned (.plain (OpenSpec.upto shelfDedupeSpec)) shelfDedupeUptoCard

/-- THE SECOND FORM's CARD OF 'yieldlaw12.ShelfMerge'. -/
def shelfMergeUptoCard : Claim7 := { stood := { row := shelfMergeUptoRow, standIns := [], harness := (true, "13d150215764562fa7a07e1878719054c5f475a29cb2ce6e4fbb396f6321c246"), looks := true }, kinds := [], alts := [], laidByText := true, laidKinds := [.data, .data, .data, .sentinel, .sentinel], laidTests := true, laidLooks := .later }
def ShelfMergeUptoCardSaid : Prop := Claim7.holds Tryz.pinned (.plain (OpenSpec.upto shelfMergeSpec)) shelfMergeUptoCard

/-- THE SECOND FORM's CARD OF 'yieldlaw12.ShelfUntil'. -/
def shelfUntilUptoCard : Claim7 := { stood := { row := shelfUntilUptoRow, standIns := [], harness := (true, "13d150215764562fa7a07e1878719054c5f475a29cb2ce6e4fbb396f6321c246"), looks := true }, kinds := [], alts := [], laidByText := true, laidKinds := [.data, .data, .data, .sentinel, .sentinel], laidTests := true, laidLooks := .later }
def ShelfUntilUptoCardSaid : Prop := Claim7.holds Tryz.pinned (.plain (OpenSpec.upto shelfUntilSpec)) shelfUntilUptoCard
end Rows
end Go.Proofs.YtegmgfljdeabeaaGreatDoor
