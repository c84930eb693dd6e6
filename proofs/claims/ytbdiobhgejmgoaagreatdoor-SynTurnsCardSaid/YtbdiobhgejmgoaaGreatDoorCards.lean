/-
  DERIVED. GIVEN WITH THE SEED: THE CARDS: each row of YtbdiobhgejmgoaaGreatDoorRows.lean that lists a variable, with what it lists TIED to the program's text (the seventh form; the later family's looks); each row that meets fmt, with fmt's text TOLD by the authors' own Lean function (tested against real Go, not proved from fmt's source: count such statements apart). THE CARD IS WHAT COUNTS. Prove the row's statement (the work); the ties are given (YtbdiobhgejmgoaaGreatDoorTie.lean); close each card by the builder's one call (the guide's Derived/Test/ToyasCard.lean, 'card_holds'). Laid BY PROGRAM, IN A SANDBOX (cutbox-door.mjs). By AI agents, Wed Nov 11 2026. No macro, syntax, notation, axiom, sorry.
-/
import Derived.Test.YtbdiobhgejmgoaaGreatDoorRows
import GoSem.ClaimSeven
namespace Go.Proofs.YtbdiobhgejmgoaaGreatDoor
namespace Rows

/-- THE TIED CARD OF 'yieldlaw2.SynReads'. -/
def synReadsCard : Claim7 := { stood := { row := synReadsRow, standIns := [], harness := (true, "182064420bfb8a32ffe1d6366728239a2c0287c3df4b05f72a1e449dbaceb170"), looks := true }, kinds := [], alts := [], laidByText := true, laidKinds := [.data, .data, .data, .sentinel, .sentinel], laidTests := true, laidLooks := .later }
def SynReadsCardSaid : Prop := Claim7.holds Tryz.pinned (.plain (OpenSpec.ofChange synReadsSpec)) synReadsCard

/-- THE TIED CARD OF 'yieldlaw2.SynTurns'. -/
def synTurnsCard : Claim7 := { stood := { row := synTurnsRow, standIns := [], harness := (true, "182064420bfb8a32ffe1d6366728239a2c0287c3df4b05f72a1e449dbaceb170"), looks := true }, kinds := [], alts := [], laidByText := true, laidKinds := [.data, .data, .data, .sentinel, .sentinel], laidTests := true, laidLooks := .later }
def SynTurnsCardSaid : Prop := Claim7.holds Tryz.pinned (.plain (OpenSpec.ofChange synTurnsSpec)) synTurnsCard

/-- THE SECOND FORM's CARD OF 'yieldlaw2.SynReads'. -/
def synReadsUptoCard : Claim7 := { stood := { row := synReadsUptoRow, standIns := [], harness := (true, "182064420bfb8a32ffe1d6366728239a2c0287c3df4b05f72a1e449dbaceb170"), looks := true }, kinds := [], alts := [], laidByText := true, laidKinds := [.data, .data, .data, .sentinel, .sentinel], laidTests := true, laidLooks := .later }
def SynReadsUptoCardSaid : Prop := Claim7.holds Tryz.pinned (.plain (OpenSpec.upto synReadsSpec)) synReadsUptoCard

/-- THE SECOND FORM's CARD OF 'yieldlaw2.SynTurns'. -/
def synTurnsUptoCard : Claim7 := { stood := { row := synTurnsUptoRow, standIns := [], harness := (true, "182064420bfb8a32ffe1d6366728239a2c0287c3df4b05f72a1e449dbaceb170"), looks := true }, kinds := [], alts := [], laidByText := true, laidKinds := [.data, .data, .data, .sentinel, .sentinel], laidTests := true, laidLooks := .later }
def SynTurnsUptoCardSaid : Prop := Claim7.holds Tryz.pinned (.plain (OpenSpec.upto synTurnsSpec)) synTurnsUptoCard
end Rows
end Go.Proofs.YtbdiobhgejmgoaaGreatDoor
