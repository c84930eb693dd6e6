/-
  DERIVED. GIVEN WITH THE SEED: THE CARDS: each row of YtbhncpgjmkcdcaaGreatDoorRows.lean that lists a variable, with what it lists TIED to the program's text (the seventh form; the later family's looks); each row that meets fmt, with fmt's text TOLD by the authors' own Lean function (tested against real Go, not proved from fmt's source: count such statements apart). THE CARD IS WHAT COUNTS. Prove the row's statement (the work); the ties are given (YtbhncpgjmkcdcaaGreatDoorTie.lean); close each card by the builder's one call (the guide's Derived/Test/ToyasCard.lean, 'card_holds'). Laid BY PROGRAM, IN A SANDBOX (cutbox-door.mjs). By AI agents, Wed Nov 11 2026. No macro, syntax, notation, axiom, sorry.
-/
import Derived.Test.YtbhncpgjmkcdcaaGreatDoorRows
import GoSem.ClaimSeven
namespace Go.Proofs.YtbhncpgjmkcdcaaGreatDoor
namespace Rows

/-- THE TIED CARD OF 'yieldlaw15.GraphCircle'. -/
def graphCircleCard : Claim7 := { stood := { row := graphCircleRow, standIns := [], harness := (true, "a13b4ef3e56e9057d8cad97c85823dfea539aa65721c33aff894dbd7a5f26f9b"), looks := true }, kinds := [], alts := [], laidByText := true, laidKinds := [.data, .data, .data, .sentinel, .sentinel], laidTests := true, laidLooks := .later }
def GraphCircleCardSaid : Prop := Claim7.holds Tryz.pinned (.plain (OpenSpec.ofChange graphCircleSpec)) graphCircleCard

/-- THE TIED CARD OF 'yieldlaw15.GraphEnds'. -/
def graphEndsCard : Claim7 := { stood := { row := graphEndsRow, standIns := [], harness := (true, "a13b4ef3e56e9057d8cad97c85823dfea539aa65721c33aff894dbd7a5f26f9b"), looks := true }, kinds := [], alts := [], laidByText := true, laidKinds := [.data, .data, .data, .sentinel, .sentinel], laidTests := true, laidLooks := .later }
def GraphEndsCardSaid : Prop := Claim7.holds Tryz.pinned (.plain (OpenSpec.ofChange graphEndsSpec)) graphEndsCard

/-- THE SECOND FORM's CARD OF 'yieldlaw15.GraphCircle'. -/
def graphCircleUptoCard : Claim7 := { stood := { row := graphCircleUptoRow, standIns := [], harness := (true, "a13b4ef3e56e9057d8cad97c85823dfea539aa65721c33aff894dbd7a5f26f9b"), looks := true }, kinds := [], alts := [], laidByText := true, laidKinds := [.data, .data, .data, .sentinel, .sentinel], laidTests := true, laidLooks := .later }
def GraphCircleUptoCardSaid : Prop := Claim7.holds Tryz.pinned (.plain (OpenSpec.upto graphCircleSpec)) graphCircleUptoCard

/-- THE SECOND FORM's CARD OF 'yieldlaw15.GraphEnds'. -/
def graphEndsUptoCard : Claim7 := { stood := { row := graphEndsUptoRow, standIns := [], harness := (true, "a13b4ef3e56e9057d8cad97c85823dfea539aa65721c33aff894dbd7a5f26f9b"), looks := true }, kinds := [], alts := [], laidByText := true, laidKinds := [.data, .data, .data, .sentinel, .sentinel], laidTests := true, laidLooks := .later }
def GraphEndsUptoCardSaid : Prop := Claim7.holds Tryz.pinned (.plain (OpenSpec.upto graphEndsSpec)) graphEndsUptoCard
end Rows
end Go.Proofs.YtbhncpgjmkcdcaaGreatDoor
