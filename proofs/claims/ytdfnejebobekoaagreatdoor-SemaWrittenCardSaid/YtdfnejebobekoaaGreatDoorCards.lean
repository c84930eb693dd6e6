/-
  DERIVED. GIVEN WITH THE SEED: THE CARDS: each row of YtdfnejebobekoaaGreatDoorRows.lean that lists a variable, with what it lists TIED to the program's text (the seventh form; the later family's looks); each row that meets fmt, with fmt's text TOLD by the authors' own Lean function (tested against real Go, not proved from fmt's source: count such statements apart). THE CARD IS WHAT COUNTS. Prove the row's statement (the work); the ties are given (YtdfnejebobekoaaGreatDoorTie.lean); close each card by the builder's one call (the guide's Derived/Test/ToyasCard.lean, 'card_holds'). Laid BY PROGRAM, IN A SANDBOX (cutbox-door.mjs). By AI agents, Wed Nov 11 2026. No macro, syntax, notation, axiom, sorry.
-/
import Derived.Test.YtdfnejebobekoaaGreatDoorRows
import GoSem.ClaimSeven
namespace Go.Proofs.YtdfnejebobekoaaGreatDoor
namespace Rows

/-- THE TIED CARD OF 'yieldlaw3.SemaWritten'. -/
def semaWrittenCard : Claim7 := { stood := { row := semaWrittenRow, standIns := [], harness := (true, "621d56ad2044aa6dd703b3f56e34c73d2e8e5a04f1f1964c630ad128a733bf5f"), looks := true }, kinds := [], alts := [], laidByText := true, laidKinds := [.data, .data, .data, .sentinel, .sentinel], laidTests := true, laidLooks := .later }
def SemaWrittenCardSaid : Prop := Claim7.holds Tryz.pinned (.plain (OpenSpec.ofChange semaWrittenSpec)) semaWrittenCard

/-- THE TIED CARD OF 'yieldlaw8.GenWritten'. -/
def genWrittenCard : Claim7 := { stood := { row := genWrittenRow, standIns := [], harness := (true, "621d56ad2044aa6dd703b3f56e34c73d2e8e5a04f1f1964c630ad128a733bf5f"), looks := true }, kinds := [], alts := [], laidByText := true, laidKinds := [.data, .data, .data, .sentinel, .sentinel], laidTests := true, laidLooks := .later }
def GenWrittenCardSaid : Prop := Claim7.holds Tryz.pinned (.plain (OpenSpec.ofChange genWrittenSpec)) genWrittenCard

/-- THE TIED CARD OF 'yieldlaw8.GenVerified'. -/
def genVerifiedCard : Claim7 := { stood := { row := genVerifiedRow, standIns := [], harness := (true, "621d56ad2044aa6dd703b3f56e34c73d2e8e5a04f1f1964c630ad128a733bf5f"), looks := true }, kinds := [], alts := [], laidByText := true, laidKinds := [.data, .data, .data, .sentinel, .sentinel], laidTests := true, laidLooks := .later }
def GenVerifiedCardSaid : Prop := Claim7.holds Tryz.pinned (.plain (OpenSpec.ofChange genVerifiedSpec)) genVerifiedCard

/-- THE TIED CARD OF 'yieldlaw2.SynReads'. -/
def synReadsCard : Claim7 := { stood := { row := synReadsRow, standIns := [], harness := (true, "621d56ad2044aa6dd703b3f56e34c73d2e8e5a04f1f1964c630ad128a733bf5f"), looks := true }, kinds := [], alts := [], laidByText := true, laidKinds := [.data, .data, .data, .sentinel, .sentinel], laidTests := true, laidLooks := .later }
def SynReadsCardSaid : Prop := Claim7.holds Tryz.pinned (.plain (OpenSpec.ofChange synReadsSpec)) synReadsCard

/-- THE TIED CARD OF 'yieldlaw2.SynTurns'. -/
def synTurnsCard : Claim7 := { stood := { row := synTurnsRow, standIns := [], harness := (true, "621d56ad2044aa6dd703b3f56e34c73d2e8e5a04f1f1964c630ad128a733bf5f"), looks := true }, kinds := [], alts := [], laidByText := true, laidKinds := [.data, .data, .data, .sentinel, .sentinel], laidTests := true, laidLooks := .later }
def SynTurnsCardSaid : Prop := Claim7.holds Tryz.pinned (.plain (OpenSpec.ofChange synTurnsSpec)) synTurnsCard

/-- THE SECOND FORM's CARD OF 'yieldlaw3.SemaWritten'. -/
def semaWrittenUptoCard : Claim7 := { stood := { row := semaWrittenUptoRow, standIns := [], harness := (true, "621d56ad2044aa6dd703b3f56e34c73d2e8e5a04f1f1964c630ad128a733bf5f"), looks := true }, kinds := [], alts := [], laidByText := true, laidKinds := [.data, .data, .data, .sentinel, .sentinel], laidTests := true, laidLooks := .later }
def SemaWrittenUptoCardSaid : Prop := Claim7.holds Tryz.pinned (.plain (OpenSpec.upto semaWrittenSpec)) semaWrittenUptoCard

/-- THE SECOND FORM's CARD OF 'yieldlaw8.GenWritten'. -/
def genWrittenUptoCard : Claim7 := { stood := { row := genWrittenUptoRow, standIns := [], harness := (true, "621d56ad2044aa6dd703b3f56e34c73d2e8e5a04f1f1964c630ad128a733bf5f"), looks := true }, kinds := [], alts := [], laidByText := true, laidKinds := [.data, .data, .data, .sentinel, .sentinel], laidTests := true, laidLooks := .later }
def GenWrittenUptoCardSaid : Prop := Claim7.holds Tryz.pinned (.plain (OpenSpec.upto genWrittenSpec)) genWrittenUptoCard

/-- THE SECOND FORM's CARD OF 'yieldlaw8.GenVerified'. -/
def genVerifiedUptoCard : Claim7 := { stood := { row := genVerifiedUptoRow, standIns := [], harness := (true, "621d56ad2044aa6dd703b3f56e34c73d2e8e5a04f1f1964c630ad128a733bf5f"), looks := true }, kinds := [], alts := [], laidByText := true, laidKinds := [.data, .data, .data, .sentinel, .sentinel], laidTests := true, laidLooks := .later }
def GenVerifiedUptoCardSaid : Prop := Claim7.holds Tryz.pinned (.plain (OpenSpec.upto genVerifiedSpec)) genVerifiedUptoCard

/-- THE SECOND FORM's CARD OF 'yieldlaw2.SynReads'. -/
def synReadsUptoCard : Claim7 := { stood := { row := synReadsUptoRow, standIns := [], harness := (true, "621d56ad2044aa6dd703b3f56e34c73d2e8e5a04f1f1964c630ad128a733bf5f"), looks := true }, kinds := [], alts := [], laidByText := true, laidKinds := [.data, .data, .data, .sentinel, .sentinel], laidTests := true, laidLooks := .later }
def SynReadsUptoCardSaid : Prop := Claim7.holds Tryz.pinned (.plain (OpenSpec.upto synReadsSpec)) synReadsUptoCard

/-- THE SECOND FORM's CARD OF 'yieldlaw2.SynTurns'. -/
def synTurnsUptoCard : Claim7 := { stood := { row := synTurnsUptoRow, standIns := [], harness := (true, "621d56ad2044aa6dd703b3f56e34c73d2e8e5a04f1f1964c630ad128a733bf5f"), looks := true }, kinds := [], alts := [], laidByText := true, laidKinds := [.data, .data, .data, .sentinel, .sentinel], laidTests := true, laidLooks := .later }
def SynTurnsUptoCardSaid : Prop := Claim7.holds Tryz.pinned (.plain (OpenSpec.upto synTurnsSpec)) synTurnsUptoCard
end Rows
end Go.Proofs.YtdfnejebobekoaaGreatDoor
