/-
  DERIVED. GIVEN WITH THE SEED: THE CARDS: each row of YtnjpnifbgldmiaaDoorRows.lean that lists a variable, with what it lists TIED to the program's text (the seventh form; the later family's looks); each row that meets fmt, with fmt's text TOLD by the authors' own Lean function (tested against real Go, not proved from fmt's source: count such statements apart). THE CARD IS WHAT COUNTS. Prove the row's statement (the work); the ties are given (YtnjpnifbgldmiaaDoorTie.lean); close each card by the builder's one call (the guide's Derived/Test/ToyasCard.lean, 'card_holds'). Laid BY PROGRAM, IN A SANDBOX (cutbox-door.mjs). By AI agents, Wed Nov 11 2026. No macro, syntax, notation, axiom, sorry.
-/
import Derived.Test.YtnjpnifbgldmiaaDoorRows
import GoSem.ClaimSeven
namespace Go.Proofs.YtnjpnifbgldmiaaDoor
namespace Rows

/-- THE TIED CARD OF 'yieldlaw13.AsmTells'. -/
def asmTellsCard : Claim7 := { stood := { row := asmTellsRow, standIns := [], harness := (true, "0f3dc85f101b145f8f5da090684ab7116b613e706c8c0c2a41fdba2935089626"), looks := true }, kinds := [], alts := [], laidByText := true, laidKinds := [.data, .data, .data, .data, .sentinel, .sentinel, .pinned], laidTests := true, laidLooks := .later }
def AsmTellsCardSaid : Prop := Claim7.holds Tryd.pinned (.plain (OpenSpec.ofChange asmTellsSpec)) asmTellsCard

/-- THE TIED CARD OF 'yieldlaw13.AsmTurns'. -/
def asmTurnsCard : Claim7 := { stood := { row := asmTurnsRow, standIns := [], harness := (true, "0f3dc85f101b145f8f5da090684ab7116b613e706c8c0c2a41fdba2935089626"), looks := true }, kinds := [], alts := [], laidByText := true, laidKinds := [.data, .data, .data, .data, .sentinel, .sentinel, .pinned], laidTests := true, laidLooks := .later }
def AsmTurnsCardSaid : Prop := Claim7.holds Tryd.pinned (.plain (OpenSpec.ofChange asmTurnsSpec)) asmTurnsCard

/-- THE SECOND FORM's CARD OF 'yieldlaw13.AsmTells'. -/
def asmTellsUptoCard : Claim7 := { stood := { row := asmTellsUptoRow, standIns := [], harness := (true, "0f3dc85f101b145f8f5da090684ab7116b613e706c8c0c2a41fdba2935089626"), looks := true }, kinds := [], alts := [], laidByText := true, laidKinds := [.data, .data, .data, .data, .sentinel, .sentinel, .pinned], laidTests := true, laidLooks := .later }
def AsmTellsUptoCardSaid : Prop := Claim7.holds Tryd.pinned (.plain (OpenSpec.upto asmTellsSpec)) asmTellsUptoCard

/-- THE SECOND FORM's CARD OF 'yieldlaw13.AsmTurns'. -/
def asmTurnsUptoCard : Claim7 := { stood := { row := asmTurnsUptoRow, standIns := [], harness := (true, "0f3dc85f101b145f8f5da090684ab7116b613e706c8c0c2a41fdba2935089626"), looks := true }, kinds := [], alts := [], laidByText := true, laidKinds := [.data, .data, .data, .data, .sentinel, .sentinel, .pinned], laidTests := true, laidLooks := .later }
def AsmTurnsUptoCardSaid : Prop := Claim7.holds Tryd.pinned (.plain (OpenSpec.upto asmTurnsSpec)) asmTurnsUptoCard
end Rows
end Go.Proofs.YtnjpnifbgldmiaaDoor
