/-
  DERIVED. GIVEN WITH THE SEED: THE CARDS: each row of YtibdelbpkfeefaaGreatDoorRows.lean that lists a variable, with what it lists TIED to the program's text (the seventh form; the later family's looks); each row that meets fmt, with fmt's text TOLD by the authors' own Lean function (tested against real Go, not proved from fmt's source: count such statements apart). THE CARD IS WHAT COUNTS. Prove the row's statement (the work); the ties are given (YtibdelbpkfeefaaGreatDoorTie.lean); close each card by the builder's one call (the guide's Derived/Test/ToyasCard.lean, 'card_holds'). Laid BY PROGRAM, IN A SANDBOX (cutbox-door.mjs). By AI agents, Wed Nov 11 2026. No macro, syntax, notation, axiom, sorry.
-/
import Derived.Test.YtibdelbpkfeefaaGreatDoorRows
import GoSem.ClaimSeven
namespace Go.Proofs.YtibdelbpkfeefaaGreatDoor
namespace Rows

/-- THE TIED CARD OF 'yieldlaw15.GraphCircle'. -/
def graphCircleCard : Claim7 := { stood := { row := graphCircleRow, standIns := [], harness := (true, "aadb3e2b21bbf6198afdbdeeab699355acb7143ab7da08407b500e5fc0156cff"), looks := true }, kinds := [], alts := [], laidByText := true, laidKinds := [.data, .data, .data, .sentinel, .sentinel], laidTests := true, laidLooks := .later }
def GraphCircleCardSaid : Prop := Claim7.holds Tryz.pinned (.plain (OpenSpec.ofChange graphCircleSpec)) graphCircleCard

/-- THE TIED CARD OF 'yieldlaw15.GraphEnds'. -/
def graphEndsCard : Claim7 := { stood := { row := graphEndsRow, standIns := [], harness := (true, "aadb3e2b21bbf6198afdbdeeab699355acb7143ab7da08407b500e5fc0156cff"), looks := true }, kinds := [], alts := [], laidByText := true, laidKinds := [.data, .data, .data, .sentinel, .sentinel], laidTests := true, laidLooks := .later }
def GraphEndsCardSaid : Prop := Claim7.holds Tryz.pinned (.plain (OpenSpec.ofChange graphEndsSpec)) graphEndsCard

/-- THE TIED CARD OF 'yieldlaw12.ShelfSieve'. -/
def shelfSieveCard : Claim7 := { stood := { row := shelfSieveRow, standIns := [], harness := (true, "aadb3e2b21bbf6198afdbdeeab699355acb7143ab7da08407b500e5fc0156cff"), looks := true }, kinds := [], alts := [], laidByText := true, laidKinds := [.data, .data, .data, .sentinel, .sentinel], laidTests := true, laidLooks := .later }
def ShelfSieveCardSaid : Prop := Claim7.holds Tryz.pinned (.plain (OpenSpec.ofChange shelfSieveSpec)) shelfSieveCard

/-- THE SECOND FORM's CARD OF 'yieldlaw15.GraphCircle'. -/
def graphCircleUptoCard : Claim7 := { stood := { row := graphCircleUptoRow, standIns := [], harness := (true, "aadb3e2b21bbf6198afdbdeeab699355acb7143ab7da08407b500e5fc0156cff"), looks := true }, kinds := [], alts := [], laidByText := true, laidKinds := [.data, .data, .data, .sentinel, .sentinel], laidTests := true, laidLooks := .later }
def GraphCircleUptoCardSaid : Prop := Claim7.holds Tryz.pinned (.plain (OpenSpec.upto graphCircleSpec)) graphCircleUptoCard

/-- THE SECOND FORM's CARD OF 'yieldlaw15.GraphEnds'. -/
def graphEndsUptoCard : Claim7 := { stood := { row := graphEndsUptoRow, standIns := [], harness := (true, "aadb3e2b21bbf6198afdbdeeab699355acb7143ab7da08407b500e5fc0156cff"), looks := true }, kinds := [], alts := [], laidByText := true, laidKinds := [.data, .data, .data, .sentinel, .sentinel], laidTests := true, laidLooks := .later }
def GraphEndsUptoCardSaid : Prop := Claim7.holds Tryz.pinned (.plain (OpenSpec.upto graphEndsSpec)) graphEndsUptoCard

/-- THE SECOND FORM's CARD OF 'yieldlaw12.ShelfSieve'. -/
def shelfSieveUptoCard : Claim7 := { stood := { row := shelfSieveUptoRow, standIns := [], harness := (true, "aadb3e2b21bbf6198afdbdeeab699355acb7143ab7da08407b500e5fc0156cff"), looks := true }, kinds := [], alts := [], laidByText := true, laidKinds := [.data, .data, .data, .sentinel, .sentinel], laidTests := true, laidLooks := .later }
def ShelfSieveUptoCardSaid : Prop := Claim7.holds Tryz.pinned (.plain (OpenSpec.upto shelfSieveSpec)) shelfSieveUptoCard
end Rows
end Go.Proofs.YtibdelbpkfeefaaGreatDoor
