/-
  DERIVED. GIVEN WITH THE SEED: THE CARDS: each row of YtaenlbapejigbaaGreatDoorRows.lean that lists a variable, with what it lists TIED to the program's text (the seventh form; the later family's looks); each row that meets fmt, with fmt's text TOLD by the authors' own Lean function (tested against real Go, not proved from fmt's source: count such statements apart). THE CARD IS WHAT COUNTS. Prove the row's statement (the work); the ties are given (YtaenlbapejigbaaGreatDoorTie.lean); close each card by the builder's one call (the guide's Derived/Test/ToyasCard.lean, 'card_holds'). Laid BY PROGRAM, IN A SANDBOX (cutbox-door.mjs). By AI agents, Wed Nov 11 2026. No macro, syntax, notation, axiom, sorry.
-/
import Derived.Test.YtaenlbapejigbaaGreatDoorRows
import GoSem.ClaimSeven
namespace Go.Proofs.YtaenlbapejigbaaGreatDoor
namespace Rows

/-- THE TIED CARD OF 'yieldlaw12.ShelfFib'. -/
def shelfFibCard : Claim7 := { stood := { row := shelfFibRow, standIns := [], harness := (true, "3d846c511a2a34317cb7057d4b022be7e9bf146e2bb2ee27ac7e825c2ad6413e"), looks := true }, kinds := [], alts := [], laidByText := true, laidKinds := [.data, .data, .data, .sentinel, .sentinel], laidTests := true, laidLooks := .later }
def ShelfFibCardSaid : Prop := Claim7.holds Tryz.pinned (.plain (OpenSpec.ofChange shelfFibSpec)) shelfFibCard

/-- THE TIED CARD OF 'yieldlaw12.ShelfGcd'. -/
def shelfGcdCard : Claim7 := { stood := { row := shelfGcdRow, standIns := [], harness := (true, "3d846c511a2a34317cb7057d4b022be7e9bf146e2bb2ee27ac7e825c2ad6413e"), looks := true }, kinds := [], alts := [], laidByText := true, laidKinds := [.data, .data, .data, .sentinel, .sentinel], laidTests := true, laidLooks := .later }
def ShelfGcdCardSaid : Prop := Claim7.holds Tryz.pinned (.plain (OpenSpec.ofChange shelfGcdSpec)) shelfGcdCard

/-- THE TIED CARD OF 'yieldlaw12.ShelfGreatest'. -/
def shelfGreatestCard : Claim7 := { stood := { row := shelfGreatestRow, standIns := [], harness := (true, "3d846c511a2a34317cb7057d4b022be7e9bf146e2bb2ee27ac7e825c2ad6413e"), looks := true }, kinds := [], alts := [], laidByText := true, laidKinds := [.data, .data, .data, .sentinel, .sentinel], laidTests := true, laidLooks := .later }
def ShelfGreatestCardSaid : Prop := Claim7.holds Tryz.pinned (.plain (OpenSpec.ofChange shelfGreatestSpec)) shelfGreatestCard

/-- THE TIED CARD OF 'yieldlaw12.ShelfPrime'. -/
def shelfPrimeCard : Claim7 := { stood := { row := shelfPrimeRow, standIns := [], harness := (true, "3d846c511a2a34317cb7057d4b022be7e9bf146e2bb2ee27ac7e825c2ad6413e"), looks := true }, kinds := [], alts := [], laidByText := true, laidKinds := [.data, .data, .data, .sentinel, .sentinel], laidTests := true, laidLooks := .later }
def ShelfPrimeCardSaid : Prop := Claim7.holds Tryz.pinned (.plain (OpenSpec.ofChange shelfPrimeSpec)) shelfPrimeCard

/-- THE TIED CARD OF 'yieldlaw12.ShelfAverage'. -/
def shelfAverageCard : Claim7 := { stood := { row := shelfAverageRow, standIns := [], harness := (true, "3d846c511a2a34317cb7057d4b022be7e9bf146e2bb2ee27ac7e825c2ad6413e"), looks := true }, kinds := [], alts := [], laidByText := true, laidKinds := [.data, .data, .data, .sentinel, .sentinel], laidTests := true, laidLooks := .later }
def ShelfAverageCardSaid : Prop := Claim7.holds Tryz.pinned (.plain (OpenSpec.ofChange shelfAverageSpec)) shelfAverageCard

/-- THE TIED CARD OF 'yieldlaw12.ShelfTurns'. -/
def shelfTurnsCard : Claim7 := { stood := { row := shelfTurnsRow, standIns := [], harness := (true, "3d846c511a2a34317cb7057d4b022be7e9bf146e2bb2ee27ac7e825c2ad6413e"), looks := true }, kinds := [], alts := [], laidByText := true, laidKinds := [.data, .data, .data, .sentinel, .sentinel], laidTests := true, laidLooks := .later }
def ShelfTurnsCardSaid : Prop := Claim7.holds Tryz.pinned (.plain (OpenSpec.ofChange shelfTurnsSpec)) shelfTurnsCard

/-- THE TIED CARD OF 'yieldlaw12.ShelfFact'. -/
def shelfFactCard : Claim7 := { stood := { row := shelfFactRow, standIns := [], harness := (true, "3d846c511a2a34317cb7057d4b022be7e9bf146e2bb2ee27ac7e825c2ad6413e"), looks := true }, kinds := [], alts := [], laidByText := true, laidKinds := [.data, .data, .data, .sentinel, .sentinel], laidTests := true, laidLooks := .later }
def ShelfFactCardSaid : Prop := Claim7.holds Tryz.pinned (.plain (OpenSpec.ofChange shelfFactSpec)) shelfFactCard

/-- THE TIED CARD OF 'yieldlaw12.ShelfCollatz'. -/
def shelfCollatzCard : Claim7 := { stood := { row := shelfCollatzRow, standIns := [], harness := (true, "3d846c511a2a34317cb7057d4b022be7e9bf146e2bb2ee27ac7e825c2ad6413e"), looks := true }, kinds := [], alts := [], laidByText := true, laidKinds := [.data, .data, .data, .sentinel, .sentinel], laidTests := true, laidLooks := .later }
def ShelfCollatzCardSaid : Prop := Claim7.holds Tryz.pinned (.plain (OpenSpec.ofChange shelfCollatzSpec)) shelfCollatzCard

/-- THE TIED CARD OF 'yieldlaw12.ShelfPower'. -/
def shelfPowerCard : Claim7 := { stood := { row := shelfPowerRow, standIns := [], harness := (true, "3d846c511a2a34317cb7057d4b022be7e9bf146e2bb2ee27ac7e825c2ad6413e"), looks := true }, kinds := [], alts := [], laidByText := true, laidKinds := [.data, .data, .data, .sentinel, .sentinel], laidTests := true, laidLooks := .later }
def ShelfPowerCardSaid : Prop := Claim7.holds Tryz.pinned (.plain (OpenSpec.ofChange shelfPowerSpec)) shelfPowerCard

/-- THE TIED CARD OF 'yieldlaw12.ShelfBits'. -/
def shelfBitsCard : Claim7 := { stood := { row := shelfBitsRow, standIns := [], harness := (true, "3d846c511a2a34317cb7057d4b022be7e9bf146e2bb2ee27ac7e825c2ad6413e"), looks := true }, kinds := [], alts := [], laidByText := true, laidKinds := [.data, .data, .data, .sentinel, .sentinel], laidTests := true, laidLooks := .later }
def ShelfBitsCardSaid : Prop := Claim7.holds Tryz.pinned (.plain (OpenSpec.ofChange shelfBitsSpec)) shelfBitsCard

/-- THE TIED CARD OF 'yieldlaw12.ShelfRounds'. -/
def shelfRoundsCard : Claim7 := { stood := { row := shelfRoundsRow, standIns := [], harness := (true, "3d846c511a2a34317cb7057d4b022be7e9bf146e2bb2ee27ac7e825c2ad6413e"), looks := true }, kinds := [], alts := [], laidByText := true, laidKinds := [.data, .data, .data, .sentinel, .sentinel], laidTests := true, laidLooks := .later }
def ShelfRoundsCardSaid : Prop := Claim7.holds Tryz.pinned (.plain (OpenSpec.ofChange shelfRoundsSpec)) shelfRoundsCard

/-- THE SECOND FORM's CARD OF 'yieldlaw12.ShelfFib'. -/
def shelfFibUptoCard : Claim7 := { stood := { row := shelfFibUptoRow, standIns := [], harness := (true, "3d846c511a2a34317cb7057d4b022be7e9bf146e2bb2ee27ac7e825c2ad6413e"), looks := true }, kinds := [], alts := [], laidByText := true, laidKinds := [.data, .data, .data, .sentinel, .sentinel], laidTests := true, laidLooks := .later }
def ShelfFibUptoCardSaid : Prop := Claim7.holds Tryz.pinned (.plain (OpenSpec.upto shelfFibSpec)) shelfFibUptoCard

/-- THE SECOND FORM's CARD OF 'yieldlaw12.ShelfGcd'. -/
def shelfGcdUptoCard : Claim7 := { stood := { row := shelfGcdUptoRow, standIns := [], harness := (true, "3d846c511a2a34317cb7057d4b022be7e9bf146e2bb2ee27ac7e825c2ad6413e"), looks := true }, kinds := [], alts := [], laidByText := true, laidKinds := [.data, .data, .data, .sentinel, .sentinel], laidTests := true, laidLooks := .later }
def ShelfGcdUptoCardSaid : Prop := Claim7.holds Tryz.pinned (.plain (OpenSpec.upto shelfGcdSpec)) shelfGcdUptoCard

/-- THE SECOND FORM's CARD OF 'yieldlaw12.ShelfGreatest'. -/
def shelfGreatestUptoCard : Claim7 := { stood := { row := shelfGreatestUptoRow, standIns := [], harness := (true, "3d846c511a2a34317cb7057d4b022be7e9bf146e2bb2ee27ac7e825c2ad6413e"), looks := true }, kinds := [], alts := [], laidByText := true, laidKinds := [.data, .data, .data, .sentinel, .sentinel], laidTests := true, laidLooks := .later }
def ShelfGreatestUptoCardSaid : Prop := Claim7.holds Tryz.pinned (.plain (OpenSpec.upto shelfGreatestSpec)) shelfGreatestUptoCard

/-- THE SECOND FORM's CARD OF 'yieldlaw12.ShelfPrime'. -/
def shelfPrimeUptoCard : Claim7 := { stood := { row := shelfPrimeUptoRow, standIns := [], harness := (true, "3d846c511a2a34317cb7057d4b022be7e9bf146e2bb2ee27ac7e825c2ad6413e"), looks := true }, kinds := [], alts := [], laidByText := true, laidKinds := [.data, .data, .data, .sentinel, .sentinel], laidTests := true, laidLooks := .later }
def ShelfPrimeUptoCardSaid : Prop := Claim7.holds Tryz.pinned (.plain (OpenSpec.upto shelfPrimeSpec)) shelfPrimeUptoCard

/-- THE SECOND FORM's CARD OF 'yieldlaw12.ShelfAverage'. -/
def shelfAverageUptoCard : Claim7 := { stood := { row := shelfAverageUptoRow, standIns := [], harness := (true, "3d846c511a2a34317cb7057d4b022be7e9bf146e2bb2ee27ac7e825c2ad6413e"), looks := true }, kinds := [], alts := [], laidByText := true, laidKinds := [.data, .data, .data, .sentinel, .sentinel], laidTests := true, laidLooks := .later }
def ShelfAverageUptoCardSaid : Prop := Claim7.holds Tryz.pinned (.plain (OpenSpec.upto shelfAverageSpec)) shelfAverageUptoCard

/-- THE SECOND FORM's CARD OF 'yieldlaw12.ShelfTurns'. -/
def shelfTurnsUptoCard : Claim7 := { stood := { row := shelfTurnsUptoRow, standIns := [], harness := (true, "3d846c511a2a34317cb7057d4b022be7e9bf146e2bb2ee27ac7e825c2ad6413e"), looks := true }, kinds := [], alts := [], laidByText := true, laidKinds := [.data, .data, .data, .sentinel, .sentinel], laidTests := true, laidLooks := .later }
def ShelfTurnsUptoCardSaid : Prop := Claim7.holds Tryz.pinned (.plain (OpenSpec.upto shelfTurnsSpec)) shelfTurnsUptoCard

/-- THE SECOND FORM's CARD OF 'yieldlaw12.ShelfFact'. -/
def shelfFactUptoCard : Claim7 := { stood := { row := shelfFactUptoRow, standIns := [], harness := (true, "3d846c511a2a34317cb7057d4b022be7e9bf146e2bb2ee27ac7e825c2ad6413e"), looks := true }, kinds := [], alts := [], laidByText := true, laidKinds := [.data, .data, .data, .sentinel, .sentinel], laidTests := true, laidLooks := .later }
def ShelfFactUptoCardSaid : Prop := Claim7.holds Tryz.pinned (.plain (OpenSpec.upto shelfFactSpec)) shelfFactUptoCard

/-- THE SECOND FORM's CARD OF 'yieldlaw12.ShelfCollatz'. -/
def shelfCollatzUptoCard : Claim7 := { stood := { row := shelfCollatzUptoRow, standIns := [], harness := (true, "3d846c511a2a34317cb7057d4b022be7e9bf146e2bb2ee27ac7e825c2ad6413e"), looks := true }, kinds := [], alts := [], laidByText := true, laidKinds := [.data, .data, .data, .sentinel, .sentinel], laidTests := true, laidLooks := .later }
def ShelfCollatzUptoCardSaid : Prop := Claim7.holds Tryz.pinned (.plain (OpenSpec.upto shelfCollatzSpec)) shelfCollatzUptoCard

/-- THE SECOND FORM's CARD OF 'yieldlaw12.ShelfPower'. -/
def shelfPowerUptoCard : Claim7 := { stood := { row := shelfPowerUptoRow, standIns := [], harness := (true, "3d846c511a2a34317cb7057d4b022be7e9bf146e2bb2ee27ac7e825c2ad6413e"), looks := true }, kinds := [], alts := [], laidByText := true, laidKinds := [.data, .data, .data, .sentinel, .sentinel], laidTests := true, laidLooks := .later }
def ShelfPowerUptoCardSaid : Prop := Claim7.holds Tryz.pinned (.plain (OpenSpec.upto shelfPowerSpec)) shelfPowerUptoCard

/-- THE SECOND FORM's CARD OF 'yieldlaw12.ShelfBits'. -/
def shelfBitsUptoCard : Claim7 := { stood := { row := shelfBitsUptoRow, standIns := [], harness := (true, "3d846c511a2a34317cb7057d4b022be7e9bf146e2bb2ee27ac7e825c2ad6413e"), looks := true }, kinds := [], alts := [], laidByText := true, laidKinds := [.data, .data, .data, .sentinel, .sentinel], laidTests := true, laidLooks := .later }
def ShelfBitsUptoCardSaid : Prop := Claim7.holds Tryz.pinned (.plain (OpenSpec.upto shelfBitsSpec)) shelfBitsUptoCard

/-- THE SECOND FORM's CARD OF 'yieldlaw12.ShelfRounds'. -/
def shelfRoundsUptoCard : Claim7 := { stood := { row := shelfRoundsUptoRow, standIns := [], harness := (true, "3d846c511a2a34317cb7057d4b022be7e9bf146e2bb2ee27ac7e825c2ad6413e"), looks := true }, kinds := [], alts := [], laidByText := true, laidKinds := [.data, .data, .data, .sentinel, .sentinel], laidTests := true, laidLooks := .later }
def ShelfRoundsUptoCardSaid : Prop := Claim7.holds Tryz.pinned (.plain (OpenSpec.upto shelfRoundsSpec)) shelfRoundsUptoCard
end Rows
end Go.Proofs.YtaenlbapejigbaaGreatDoor
