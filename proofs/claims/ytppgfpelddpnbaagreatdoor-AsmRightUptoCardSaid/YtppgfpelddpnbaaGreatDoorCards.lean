/-
  DERIVED. GIVEN WITH THE SEED: THE CARDS: each row of YtppgfpelddpnbaaGreatDoorRows.lean that lists a variable, with what it lists TIED to the program's text (the seventh form; the later family's looks); each row that meets fmt, with fmt's text TOLD by the authors' own Lean function (tested against real Go, not proved from fmt's source: count such statements apart). THE CARD IS WHAT COUNTS. Prove the row's statement (the work); the ties are given (YtppgfpelddpnbaaGreatDoorTie.lean); close each card by the builder's one call (the guide's Derived/Test/ToyasCard.lean, 'card_holds'). Laid BY PROGRAM, IN A SANDBOX (cutbox-door.mjs). By AI agents, Wed Nov 11 2026. No macro, syntax, notation, axiom, sorry.
-/
import Derived.Test.YtppgfpelddpnbaaGreatDoorRows
import GoSem.ClaimSeven
namespace Go.Proofs.YtppgfpelddpnbaaGreatDoor
namespace Rows

/-- THE TIED CARD OF 'yieldlaw13.AsmRight'. -/
def asmRightCard : Claim7 := { stood := { row := asmRightRow, standIns := [], harness := (true, "a802734481b6cdbc5a836f1fd40b89a189be7a82cf16199b009a5691bdd62f1f"), looks := true }, kinds := [], alts := [], laidByText := true, laidKinds := [.data, .data, .data, .data, .sentinel, .sentinel, .pinned], laidTests := true, laidLooks := .later }
def AsmRightCardSaid : Prop := Claim7.holds Tryz.pinned (.plain (OpenSpec.ofChange asmRightSpec)) asmRightCard

/-- THE SECOND FORM's CARD OF 'yieldlaw13.AsmRight'. -/
def asmRightUptoCard : Claim7 := { stood := { row := asmRightUptoRow, standIns := [], harness := (true, "a802734481b6cdbc5a836f1fd40b89a189be7a82cf16199b009a5691bdd62f1f"), looks := true }, kinds := [], alts := [], laidByText := true, laidKinds := [.data, .data, .data, .data, .sentinel, .sentinel, .pinned], laidTests := true, laidLooks := .later }
def AsmRightUptoCardSaid : Prop := Claim7.holds Tryz.pinned (.plain (OpenSpec.upto asmRightSpec)) asmRightUptoCard
end Rows
end Go.Proofs.YtppgfpelddpnbaaGreatDoor
