/-
  DERIVED. GIVEN WITH THE SEED: THE CARDS: each row of YtjbiabapnphheaaGreatDoorRows.lean that lists a variable, with what it lists TIED to the program's text (the seventh form; the later family's looks); each row that meets fmt, with fmt's text TOLD by the authors' own Lean function (tested against real Go, not proved from fmt's source: count such statements apart). THE CARD IS WHAT COUNTS. Prove the row's statement (the work); the ties are given (YtjbiabapnphheaaGreatDoorTie.lean); close each card by the builder's one call (the guide's Derived/Test/ToyasCard.lean, 'card_holds'). Laid BY PROGRAM, IN A SANDBOX (cutbox-door.mjs). By AI agents, Wed Nov 11 2026. No macro, syntax, notation, axiom, sorry.
-/
import Derived.Test.YtjbiabapnphheaaGreatDoorRows
import GoSem.ClaimSeven
namespace Go.Proofs.YtjbiabapnphheaaGreatDoor
namespace Rows

/-- THE TIED CARD OF 'yieldlaw3.SemaOwners'. -/
def semaOwnersCard : Claim7 := { stood := { row := semaOwnersRow, standIns := [], harness := (true, "d1bcb2117eae6ccac046a3d0ad6332fbe4e2cbdb006ea3fdf25ce567a0d84585"), looks := true }, kinds := [], alts := [], laidByText := true, laidKinds := [.data, .data, .data, .sentinel, .sentinel], laidTests := true, laidLooks := .later }
def SemaOwnersCardSaid : Prop := Claim7.holds Tryz.pinned (.plain (OpenSpec.ofChange semaOwnersSpec)) semaOwnersCard

/-- THE TIED CARD OF 'yieldlaw3.SemaMore'. -/
def semaMoreCard : Claim7 := { stood := { row := semaMoreRow, standIns := [], harness := (true, "d1bcb2117eae6ccac046a3d0ad6332fbe4e2cbdb006ea3fdf25ce567a0d84585"), looks := true }, kinds := [], alts := [], laidByText := true, laidKinds := [.data, .data, .data, .sentinel, .sentinel], laidTests := true, laidLooks := .later }
def SemaMoreCardSaid : Prop := Claim7.holds Tryz.pinned (.plain (OpenSpec.ofChange semaMoreSpec)) semaMoreCard

/-- THE TIED CARD OF 'yieldlaw3.SemaBare'. -/
def semaBareCard : Claim7 := { stood := { row := semaBareRow, standIns := [], harness := (true, "d1bcb2117eae6ccac046a3d0ad6332fbe4e2cbdb006ea3fdf25ce567a0d84585"), looks := true }, kinds := [], alts := [], laidByText := true, laidKinds := [.data, .data, .data, .sentinel, .sentinel], laidTests := true, laidLooks := .later }
def SemaBareCardSaid : Prop := Claim7.holds Tryz.pinned (.plain (OpenSpec.ofChange semaBareSpec)) semaBareCard

/-- THE TIED CARD OF 'yieldlaw15.GraphOrder'. -/
def graphOrderCard : Claim7 := { stood := { row := graphOrderRow, standIns := [], harness := (true, "d1bcb2117eae6ccac046a3d0ad6332fbe4e2cbdb006ea3fdf25ce567a0d84585"), looks := true }, kinds := [], alts := [], laidByText := true, laidKinds := [.data, .data, .data, .sentinel, .sentinel], laidTests := true, laidLooks := .later }
def GraphOrderCardSaid : Prop := Claim7.holds Tryz.pinned (.plain (OpenSpec.ofChange graphOrderSpec)) graphOrderCard

/-- THE TIED CARD OF 'yieldlaw8.GenCounts'. -/
def genCountsCard : Claim7 := { stood := { row := genCountsRow, standIns := [], harness := (true, "d1bcb2117eae6ccac046a3d0ad6332fbe4e2cbdb006ea3fdf25ce567a0d84585"), looks := true }, kinds := [], alts := [], laidByText := true, laidKinds := [.data, .data, .data, .sentinel, .sentinel], laidTests := true, laidLooks := .later }
def GenCountsCardSaid : Prop := Claim7.holds Tryz.pinned (.plain (OpenSpec.ofChange genCountsSpec)) genCountsCard

/-- THE SECOND FORM's CARD OF 'yieldlaw3.SemaOwners'. -/
def semaOwnersUptoCard : Claim7 := { stood := { row := semaOwnersUptoRow, standIns := [], harness := (true, "d1bcb2117eae6ccac046a3d0ad6332fbe4e2cbdb006ea3fdf25ce567a0d84585"), looks := true }, kinds := [], alts := [], laidByText := true, laidKinds := [.data, .data, .data, .sentinel, .sentinel], laidTests := true, laidLooks := .later }
def SemaOwnersUptoCardSaid : Prop := Claim7.holds Tryz.pinned (.plain (OpenSpec.upto semaOwnersSpec)) semaOwnersUptoCard

/-- THE SECOND FORM's CARD OF 'yieldlaw3.SemaMore'. -/
def semaMoreUptoCard : Claim7 := { stood := { row := semaMoreUptoRow, standIns := [], harness := (true, "d1bcb2117eae6ccac046a3d0ad6332fbe4e2cbdb006ea3fdf25ce567a0d84585"), looks := true }, kinds := [], alts := [], laidByText := true, laidKinds := [.data, .data, .data, .sentinel, .sentinel], laidTests := true, laidLooks := .later }
def SemaMoreUptoCardSaid : Prop := Claim7.holds Tryz.pinned (.plain (OpenSpec.upto semaMoreSpec)) semaMoreUptoCard

/-- THE SECOND FORM's CARD OF 'yieldlaw3.SemaBare'. -/
def semaBareUptoCard : Claim7 := { stood := { row := semaBareUptoRow, standIns := [], harness := (true, "d1bcb2117eae6ccac046a3d0ad6332fbe4e2cbdb006ea3fdf25ce567a0d84585"), looks := true }, kinds := [], alts := [], laidByText := true, laidKinds := [.data, .data, .data, .sentinel, .sentinel], laidTests := true, laidLooks := .later }
def SemaBareUptoCardSaid : Prop := Claim7.holds Tryz.pinned (.plain (OpenSpec.upto semaBareSpec)) semaBareUptoCard

/-- THE SECOND FORM's CARD OF 'yieldlaw15.GraphOrder'. -/
def graphOrderUptoCard : Claim7 := { stood := { row := graphOrderUptoRow, standIns := [], harness := (true, "d1bcb2117eae6ccac046a3d0ad6332fbe4e2cbdb006ea3fdf25ce567a0d84585"), looks := true }, kinds := [], alts := [], laidByText := true, laidKinds := [.data, .data, .data, .sentinel, .sentinel], laidTests := true, laidLooks := .later }
def GraphOrderUptoCardSaid : Prop := Claim7.holds Tryz.pinned (.plain (OpenSpec.upto graphOrderSpec)) graphOrderUptoCard

/-- THE SECOND FORM's CARD OF 'yieldlaw8.GenCounts'. -/
def genCountsUptoCard : Claim7 := { stood := { row := genCountsUptoRow, standIns := [], harness := (true, "d1bcb2117eae6ccac046a3d0ad6332fbe4e2cbdb006ea3fdf25ce567a0d84585"), looks := true }, kinds := [], alts := [], laidByText := true, laidKinds := [.data, .data, .data, .sentinel, .sentinel], laidTests := true, laidLooks := .later }
def GenCountsUptoCardSaid : Prop := Claim7.holds Tryz.pinned (.plain (OpenSpec.upto genCountsSpec)) genCountsUptoCard
end Rows
end Go.Proofs.YtjbiabapnphheaaGreatDoor
