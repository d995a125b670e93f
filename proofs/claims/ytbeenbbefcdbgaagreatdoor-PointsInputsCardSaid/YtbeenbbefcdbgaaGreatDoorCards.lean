/-
  DERIVED. GIVEN WITH THE SEED: THE CARDS: each row of YtbeenbbefcdbgaaGreatDoorRows.lean that lists a variable, with what it lists TIED to the program's text (the seventh form; the later family's looks); each row that meets fmt, with fmt's text TOLD by the authors' own Lean function (tested against real Go, not proved from fmt's source: count such statements apart). THE CARD IS WHAT COUNTS. Prove the row's statement (the work); the ties are given (YtbeenbbefcdbgaaGreatDoorTie.lean); close each card by the builder's one call (the guide's Derived/Test/ToyasCard.lean, 'card_holds'). Laid BY PROGRAM, IN A SANDBOX (cutbox-door.mjs). By AI agents, Wed Nov 11 2026. No macro, syntax, notation, axiom, sorry.
-/
import Derived.Test.YtbeenbbefcdbgaaGreatDoorRows
import GoSem.ClaimSeven
namespace Go.Proofs.YtbeenbbefcdbgaaGreatDoor
namespace Rows

/-- THE TIED CARD OF 'gridwrightlaw52.PointsParseSpec'. -/
def pointsParseSpecCard : Claim7 := { stood := { row := pointsParseSpecRow, standIns := [], harness := (true, "2a8643620bfd5f9d8335235bf2dd70ac01804ddaff7c23f299e39cc33a76ded2"), looks := true }, kinds := [], alts := [], laidByText := true, laidKinds := [.data, .data, .data, .sentinel, .sentinel], laidTests := true, laidLooks := .later }
def PointsParseSpecCardSaid : Prop := Claim7.holds Tryz.pinned (.plain (OpenSpec.ofChange pointsParseSpecSpec)) pointsParseSpecCard

/-- THE TIED CARD OF 'gridwrightlaw52.PointsPrintSpec'. -/
def pointsPrintSpecCard : Claim7 := { stood := { row := pointsPrintSpecRow, standIns := [], harness := (true, "2a8643620bfd5f9d8335235bf2dd70ac01804ddaff7c23f299e39cc33a76ded2"), looks := true }, kinds := [], alts := [], laidByText := true, laidKinds := [.data, .data, .data, .sentinel, .sentinel], laidTests := true, laidLooks := .later }
def PointsPrintSpecCardSaid : Prop := Claim7.holds Tryz.pinned (.plain (OpenSpec.ofChange pointsPrintSpecSpec)) pointsPrintSpecCard

/-- THE TIED CARD OF 'gridwrightlaw52.PointsRunSpec'. -/
def pointsRunSpecCard : Claim7 := { stood := { row := pointsRunSpecRow, standIns := [], harness := (true, "2a8643620bfd5f9d8335235bf2dd70ac01804ddaff7c23f299e39cc33a76ded2"), looks := true }, kinds := [], alts := [], laidByText := true, laidKinds := [.data, .data, .data, .sentinel, .sentinel], laidTests := true, laidLooks := .later }
def PointsRunSpecCardSaid : Prop := Claim7.holds Tryz.pinned (.plain (OpenSpec.ofChange pointsRunSpecSpec)) pointsRunSpecCard

/-- THE TIED CARD OF 'gridwrightlaw52.PointsBack'. -/
def pointsBackCard : Claim7 := { stood := { row := pointsBackRow, standIns := [], harness := (true, "2a8643620bfd5f9d8335235bf2dd70ac01804ddaff7c23f299e39cc33a76ded2"), looks := true }, kinds := [], alts := [], laidByText := true, laidKinds := [.data, .data, .data, .sentinel, .sentinel], laidTests := true, laidLooks := .later }
def PointsBackCardSaid : Prop := Claim7.holds Tryz.pinned (.plain (OpenSpec.ofChange pointsBackSpec)) pointsBackCard

/-- THE TIED CARD OF 'gridwrightlaw52.PointsSpaces'. -/
def pointsSpacesCard : Claim7 := { stood := { row := pointsSpacesRow, standIns := [], harness := (true, "2a8643620bfd5f9d8335235bf2dd70ac01804ddaff7c23f299e39cc33a76ded2"), looks := true }, kinds := [], alts := [], laidByText := true, laidKinds := [.data, .data, .data, .sentinel, .sentinel], laidTests := true, laidLooks := .later }
def PointsSpacesCardSaid : Prop := Claim7.holds Tryz.pinned (.plain (OpenSpec.ofChange pointsSpacesSpec)) pointsSpacesCard

/-- THE TIED CARD OF 'gridwrightlaw52.PointsJoins'. -/
def pointsJoinsCard : Claim7 := { stood := { row := pointsJoinsRow, standIns := [], harness := (true, "2a8643620bfd5f9d8335235bf2dd70ac01804ddaff7c23f299e39cc33a76ded2"), looks := true }, kinds := [], alts := [], laidByText := true, laidKinds := [.data, .data, .data, .sentinel, .sentinel], laidTests := true, laidLooks := .later }
def PointsJoinsCardSaid : Prop := Claim7.holds Tryz.pinned (.plain (OpenSpec.ofChange pointsJoinsSpec)) pointsJoinsCard

/-- THE TIED CARD OF 'gridwrightlaw52.PointsInputs'. -/
def pointsInputsCard : Claim7 := { stood := { row := pointsInputsRow, standIns := [], harness := (true, "2a8643620bfd5f9d8335235bf2dd70ac01804ddaff7c23f299e39cc33a76ded2"), looks := true }, kinds := [], alts := [], laidByText := true, laidKinds := [.data, .data, .data, .sentinel, .sentinel], laidTests := true, laidLooks := .later }
def PointsInputsCardSaid : Prop := Claim7.holds Tryz.pinned (.plain (OpenSpec.ofChange pointsInputsSpec)) pointsInputsCard

/-- THE SECOND FORM's CARD OF 'gridwrightlaw52.PointsParseSpec'. -/
def pointsParseSpecUptoCard : Claim7 := { stood := { row := pointsParseSpecUptoRow, standIns := [], harness := (true, "2a8643620bfd5f9d8335235bf2dd70ac01804ddaff7c23f299e39cc33a76ded2"), looks := true }, kinds := [], alts := [], laidByText := true, laidKinds := [.data, .data, .data, .sentinel, .sentinel], laidTests := true, laidLooks := .later }
def PointsParseSpecUptoCardSaid : Prop := Claim7.holds Tryz.pinned (.plain (OpenSpec.upto pointsParseSpecSpec)) pointsParseSpecUptoCard

/-- THE SECOND FORM's CARD OF 'gridwrightlaw52.PointsPrintSpec'. -/
def pointsPrintSpecUptoCard : Claim7 := { stood := { row := pointsPrintSpecUptoRow, standIns := [], harness := (true, "2a8643620bfd5f9d8335235bf2dd70ac01804ddaff7c23f299e39cc33a76ded2"), looks := true }, kinds := [], alts := [], laidByText := true, laidKinds := [.data, .data, .data, .sentinel, .sentinel], laidTests := true, laidLooks := .later }
def PointsPrintSpecUptoCardSaid : Prop := Claim7.holds Tryz.pinned (.plain (OpenSpec.upto pointsPrintSpecSpec)) pointsPrintSpecUptoCard

/-- THE SECOND FORM's CARD OF 'gridwrightlaw52.PointsRunSpec'. -/
def pointsRunSpecUptoCard : Claim7 := { stood := { row := pointsRunSpecUptoRow, standIns := [], harness := (true, "2a8643620bfd5f9d8335235bf2dd70ac01804ddaff7c23f299e39cc33a76ded2"), looks := true }, kinds := [], alts := [], laidByText := true, laidKinds := [.data, .data, .data, .sentinel, .sentinel], laidTests := true, laidLooks := .later }
def PointsRunSpecUptoCardSaid : Prop := Claim7.holds Tryz.pinned (.plain (OpenSpec.upto pointsRunSpecSpec)) pointsRunSpecUptoCard

/-- THE SECOND FORM's CARD OF 'gridwrightlaw52.PointsBack'. -/
def pointsBackUptoCard : Claim7 := { stood := { row := pointsBackUptoRow, standIns := [], harness := (true, "2a8643620bfd5f9d8335235bf2dd70ac01804ddaff7c23f299e39cc33a76ded2"), looks := true }, kinds := [], alts := [], laidByText := true, laidKinds := [.data, .data, .data, .sentinel, .sentinel], laidTests := true, laidLooks := .later }
def PointsBackUptoCardSaid : Prop := Claim7.holds Tryz.pinned (.plain (OpenSpec.upto pointsBackSpec)) pointsBackUptoCard

/-- THE SECOND FORM's CARD OF 'gridwrightlaw52.PointsSpaces'. -/
def pointsSpacesUptoCard : Claim7 := { stood := { row := pointsSpacesUptoRow, standIns := [], harness := (true, "2a8643620bfd5f9d8335235bf2dd70ac01804ddaff7c23f299e39cc33a76ded2"), looks := true }, kinds := [], alts := [], laidByText := true, laidKinds := [.data, .data, .data, .sentinel, .sentinel], laidTests := true, laidLooks := .later }
def PointsSpacesUptoCardSaid : Prop := Claim7.holds Tryz.pinned (.plain (OpenSpec.upto pointsSpacesSpec)) pointsSpacesUptoCard

/-- THE SECOND FORM's CARD OF 'gridwrightlaw52.PointsJoins'. -/
def pointsJoinsUptoCard : Claim7 := { stood := { row := pointsJoinsUptoRow, standIns := [], harness := (true, "2a8643620bfd5f9d8335235bf2dd70ac01804ddaff7c23f299e39cc33a76ded2"), looks := true }, kinds := [], alts := [], laidByText := true, laidKinds := [.data, .data, .data, .sentinel, .sentinel], laidTests := true, laidLooks := .later }
def PointsJoinsUptoCardSaid : Prop := Claim7.holds Tryz.pinned (.plain (OpenSpec.upto pointsJoinsSpec)) pointsJoinsUptoCard

/-- THE SECOND FORM's CARD OF 'gridwrightlaw52.PointsInputs'. -/
def pointsInputsUptoCard : Claim7 := { stood := { row := pointsInputsUptoRow, standIns := [], harness := (true, "2a8643620bfd5f9d8335235bf2dd70ac01804ddaff7c23f299e39cc33a76ded2"), looks := true }, kinds := [], alts := [], laidByText := true, laidKinds := [.data, .data, .data, .sentinel, .sentinel], laidTests := true, laidLooks := .later }
def PointsInputsUptoCardSaid : Prop := Claim7.holds Tryz.pinned (.plain (OpenSpec.upto pointsInputsSpec)) pointsInputsUptoCard
end Rows
end Go.Proofs.YtbeenbbefcdbgaaGreatDoor
