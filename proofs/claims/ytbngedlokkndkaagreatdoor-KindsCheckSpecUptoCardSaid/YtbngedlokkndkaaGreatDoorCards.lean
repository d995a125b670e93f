/-
  DERIVED. GIVEN WITH THE SEED: THE CARDS: each row of YtbngedlokkndkaaGreatDoorRows.lean that lists a variable, with what it lists TIED to the program's text (the seventh form; the later family's looks); each row that meets fmt, with fmt's text TOLD by the authors' own Lean function (tested against real Go, not proved from fmt's source: count such statements apart). THE CARD IS WHAT COUNTS. Prove the row's statement (the work); the ties are given (YtbngedlokkndkaaGreatDoorTie.lean); close each card by the builder's one call (the guide's Derived/Test/ToyasCard.lean, 'card_holds'). Laid BY PROGRAM, IN A SANDBOX (cutbox-door.mjs). By AI agents, Wed Nov 11 2026. No macro, syntax, notation, axiom, sorry.
-/
import Derived.Test.YtbngedlokkndkaaGreatDoorRows
import GoSem.ClaimSeven
namespace Go.Proofs.YtbngedlokkndkaaGreatDoor
namespace Rows

/-- THE TIED CARD OF 'gridwrightlaw18.KindsCheckSpec'. -/
def kindsCheckSpecCard : Claim7 := { stood := { row := kindsCheckSpecRow, standIns := [], harness := (true, "a53474fcc5b87bf35bb051f2fbe41d2a5ad01289866905bb1919b759b4be346b"), looks := true }, kinds := [], alts := [], laidByText := true, laidKinds := [.data, .data, .data, .data, .data, .sentinel, .sentinel], laidTests := true, laidLooks := .later }
def KindsCheckSpecCardSaid : Prop := Claim7.holds Tryz.pinned (.plain (OpenSpec.ofChange kindsCheckSpecSpec)) kindsCheckSpecCard

/-- THE TIED CARD OF 'gridwrightlaw18.KindsDerived'. -/
def kindsDerivedCard : Claim7 := { stood := { row := kindsDerivedRow, standIns := [], harness := (true, "a53474fcc5b87bf35bb051f2fbe41d2a5ad01289866905bb1919b759b4be346b"), looks := true }, kinds := [], alts := [], laidByText := true, laidKinds := [.data, .data, .data, .data, .data, .sentinel, .sentinel], laidTests := true, laidLooks := .later }
def KindsDerivedCardSaid : Prop := Claim7.holds Tryz.pinned (.plain (OpenSpec.ofChange kindsDerivedSpec)) kindsDerivedCard

/-- THE TIED CARD OF 'gridwrightlaw18.KindsNames'. -/
def kindsNamesCard : Claim7 := { stood := { row := kindsNamesRow, standIns := [], harness := (true, "a53474fcc5b87bf35bb051f2fbe41d2a5ad01289866905bb1919b759b4be346b"), looks := true }, kinds := [], alts := [], laidByText := true, laidKinds := [.data, .data, .data, .data, .data, .sentinel, .sentinel], laidTests := true, laidLooks := .later }
def KindsNamesCardSaid : Prop := Claim7.holds Tryz.pinned (.plain (OpenSpec.ofChange kindsNamesSpec)) kindsNamesCard

/-- THE SECOND FORM's CARD OF 'gridwrightlaw18.KindsCheckSpec'. -/
def kindsCheckSpecUptoCard : Claim7 := { stood := { row := kindsCheckSpecUptoRow, standIns := [], harness := (true, "a53474fcc5b87bf35bb051f2fbe41d2a5ad01289866905bb1919b759b4be346b"), looks := true }, kinds := [], alts := [], laidByText := true, laidKinds := [.data, .data, .data, .data, .data, .sentinel, .sentinel], laidTests := true, laidLooks := .later }
def KindsCheckSpecUptoCardSaid : Prop := Claim7.holds Tryz.pinned (.plain (OpenSpec.upto kindsCheckSpecSpec)) kindsCheckSpecUptoCard

/-- THE SECOND FORM's CARD OF 'gridwrightlaw18.KindsDerived'. -/
def kindsDerivedUptoCard : Claim7 := { stood := { row := kindsDerivedUptoRow, standIns := [], harness := (true, "a53474fcc5b87bf35bb051f2fbe41d2a5ad01289866905bb1919b759b4be346b"), looks := true }, kinds := [], alts := [], laidByText := true, laidKinds := [.data, .data, .data, .data, .data, .sentinel, .sentinel], laidTests := true, laidLooks := .later }
def KindsDerivedUptoCardSaid : Prop := Claim7.holds Tryz.pinned (.plain (OpenSpec.upto kindsDerivedSpec)) kindsDerivedUptoCard

/-- THE SECOND FORM's CARD OF 'gridwrightlaw18.KindsNames'. -/
def kindsNamesUptoCard : Claim7 := { stood := { row := kindsNamesUptoRow, standIns := [], harness := (true, "a53474fcc5b87bf35bb051f2fbe41d2a5ad01289866905bb1919b759b4be346b"), looks := true }, kinds := [], alts := [], laidByText := true, laidKinds := [.data, .data, .data, .data, .data, .sentinel, .sentinel], laidTests := true, laidLooks := .later }
def KindsNamesUptoCardSaid : Prop := Claim7.holds Tryz.pinned (.plain (OpenSpec.upto kindsNamesSpec)) kindsNamesUptoCard
end Rows
end Go.Proofs.YtbngedlokkndkaaGreatDoor
