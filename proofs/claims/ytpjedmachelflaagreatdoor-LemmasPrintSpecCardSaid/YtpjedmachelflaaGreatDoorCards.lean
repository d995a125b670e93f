/-
  DERIVED. GIVEN WITH THE SEED: THE CARDS: each row of YtpjedmachelflaaGreatDoorRows.lean that lists a variable, with what it lists TIED to the program's text (the seventh form; the later family's looks); each row that meets fmt, with fmt's text TOLD by the authors' own Lean function (tested against real Go, not proved from fmt's source: count such statements apart). THE CARD IS WHAT COUNTS. Prove the row's statement (the work); the ties are given (YtpjedmachelflaaGreatDoorTie.lean); close each card by the builder's one call (the guide's Derived/Test/ToyasCard.lean, 'card_holds'). Laid BY PROGRAM, IN A SANDBOX (cutbox-door.mjs). By AI agents, Wed Nov 11 2026. No macro, syntax, notation, axiom, sorry.
-/
import Derived.Test.YtpjedmachelflaaGreatDoorRows
import GoSem.ClaimSeven
namespace Go.Proofs.YtpjedmachelflaaGreatDoor
namespace Rows

/-- THE TIED CARD OF 'gridwrightlaw30.LemmasParseSpec'. -/
def lemmasParseSpecCard : Claim7 := { stood := { row := lemmasParseSpecRow, standIns := [], harness := (true, "4433568a7f38ff06deb1c11af4a39ae5fc52fada39a6f560b09102ace056b3f4"), looks := true }, kinds := [], alts := [], laidByText := true, laidKinds := [.data, .data, .data, .sentinel, .sentinel], laidTests := true, laidLooks := .later }
def LemmasParseSpecCardSaid : Prop := Claim7.holds Tryz.pinned (.plain (OpenSpec.ofChange lemmasParseSpecSpec)) lemmasParseSpecCard

/-- THE TIED CARD OF 'gridwrightlaw30.LemmasPrintSpec'. -/
def lemmasPrintSpecCard : Claim7 := { stood := { row := lemmasPrintSpecRow, standIns := [], harness := (true, "4433568a7f38ff06deb1c11af4a39ae5fc52fada39a6f560b09102ace056b3f4"), looks := true }, kinds := [], alts := [], laidByText := true, laidKinds := [.data, .data, .data, .sentinel, .sentinel], laidTests := true, laidLooks := .later }
def LemmasPrintSpecCardSaid : Prop := Claim7.holds Tryz.pinned (.plain (OpenSpec.ofChange lemmasPrintSpecSpec)) lemmasPrintSpecCard

/-- THE TIED CARD OF 'gridwrightlaw30.LemmasBack'. -/
def lemmasBackCard : Claim7 := { stood := { row := lemmasBackRow, standIns := [], harness := (true, "4433568a7f38ff06deb1c11af4a39ae5fc52fada39a6f560b09102ace056b3f4"), looks := true }, kinds := [], alts := [], laidByText := true, laidKinds := [.data, .data, .data, .sentinel, .sentinel], laidTests := true, laidLooks := .later }
def LemmasBackCardSaid : Prop := Claim7.holds Tryz.pinned (.plain (OpenSpec.ofChange lemmasBackSpec)) lemmasBackCard

/-- THE TIED CARD OF 'gridwrightlaw30.LemmasSpaces'. -/
def lemmasSpacesCard : Claim7 := { stood := { row := lemmasSpacesRow, standIns := [], harness := (true, "4433568a7f38ff06deb1c11af4a39ae5fc52fada39a6f560b09102ace056b3f4"), looks := true }, kinds := [], alts := [], laidByText := true, laidKinds := [.data, .data, .data, .sentinel, .sentinel], laidTests := true, laidLooks := .later }
def LemmasSpacesCardSaid : Prop := Claim7.holds Tryz.pinned (.plain (OpenSpec.ofChange lemmasSpacesSpec)) lemmasSpacesCard

/-- THE TIED CARD OF 'gridwrightlaw30.LemmasWrong'. -/
def lemmasWrongCard : Claim7 := { stood := { row := lemmasWrongRow, standIns := [], harness := (true, "4433568a7f38ff06deb1c11af4a39ae5fc52fada39a6f560b09102ace056b3f4"), looks := true }, kinds := [], alts := [], laidByText := true, laidKinds := [.data, .data, .data, .sentinel, .sentinel], laidTests := true, laidLooks := .later }
def LemmasWrongCardSaid : Prop := Claim7.holds Tryz.pinned (.plain (OpenSpec.ofChange lemmasWrongSpec)) lemmasWrongCard

/-- THE TIED CARD OF 'gridwrightlaw30.LemmasLess'. -/
def lemmasLessCard : Claim7 := { stood := { row := lemmasLessRow, standIns := [], harness := (true, "4433568a7f38ff06deb1c11af4a39ae5fc52fada39a6f560b09102ace056b3f4"), looks := true }, kinds := [], alts := [], laidByText := true, laidKinds := [.data, .data, .data, .sentinel, .sentinel], laidTests := true, laidLooks := .later }
def LemmasLessCardSaid : Prop := Claim7.holds Tryz.pinned (.plain (OpenSpec.ofChange lemmasLessSpec)) lemmasLessCard

/-- THE TIED CARD OF 'gridwrightlaw30.LemmasNames'. -/
def lemmasNamesCard : Claim7 := { stood := { row := lemmasNamesRow, standIns := [], harness := (true, "4433568a7f38ff06deb1c11af4a39ae5fc52fada39a6f560b09102ace056b3f4"), looks := true }, kinds := [], alts := [], laidByText := true, laidKinds := [.data, .data, .data, .sentinel, .sentinel], laidTests := true, laidLooks := .later }
def LemmasNamesCardSaid : Prop := Claim7.holds Tryz.pinned (.plain (OpenSpec.ofChange lemmasNamesSpec)) lemmasNamesCard

/-- THE SECOND FORM's CARD OF 'gridwrightlaw30.LemmasParseSpec'. -/
def lemmasParseSpecUptoCard : Claim7 := { stood := { row := lemmasParseSpecUptoRow, standIns := [], harness := (true, "4433568a7f38ff06deb1c11af4a39ae5fc52fada39a6f560b09102ace056b3f4"), looks := true }, kinds := [], alts := [], laidByText := true, laidKinds := [.data, .data, .data, .sentinel, .sentinel], laidTests := true, laidLooks := .later }
def LemmasParseSpecUptoCardSaid : Prop := Claim7.holds Tryz.pinned (.plain (OpenSpec.upto lemmasParseSpecSpec)) lemmasParseSpecUptoCard

/-- THE SECOND FORM's CARD OF 'gridwrightlaw30.LemmasPrintSpec'. -/
def lemmasPrintSpecUptoCard : Claim7 := { stood := { row := lemmasPrintSpecUptoRow, standIns := [], harness := (true, "4433568a7f38ff06deb1c11af4a39ae5fc52fada39a6f560b09102ace056b3f4"), looks := true }, kinds := [], alts := [], laidByText := true, laidKinds := [.data, .data, .data, .sentinel, .sentinel], laidTests := true, laidLooks := .later }
def LemmasPrintSpecUptoCardSaid : Prop := Claim7.holds Tryz.pinned (.plain (OpenSpec.upto lemmasPrintSpecSpec)) lemmasPrintSpecUptoCard

/-- THE SECOND FORM's CARD OF 'gridwrightlaw30.LemmasBack'. -/
def lemmasBackUptoCard : Claim7 := { stood := { row := lemmasBackUptoRow, standIns := [], harness := (true, "4433568a7f38ff06deb1c11af4a39ae5fc52fada39a6f560b09102ace056b3f4"), looks := true }, kinds := [], alts := [], laidByText := true, laidKinds := [.data, .data, .data, .sentinel, .sentinel], laidTests := true, laidLooks := .later }
def LemmasBackUptoCardSaid : Prop := Claim7.holds Tryz.pinned (.plain (OpenSpec.upto lemmasBackSpec)) lemmasBackUptoCard

/-- THE SECOND FORM's CARD OF 'gridwrightlaw30.LemmasSpaces'. -/
def lemmasSpacesUptoCard : Claim7 := { stood := { row := lemmasSpacesUptoRow, standIns := [], harness := (true, "4433568a7f38ff06deb1c11af4a39ae5fc52fada39a6f560b09102ace056b3f4"), looks := true }, kinds := [], alts := [], laidByText := true, laidKinds := [.data, .data, .data, .sentinel, .sentinel], laidTests := true, laidLooks := .later }
def LemmasSpacesUptoCardSaid : Prop := Claim7.holds Tryz.pinned (.plain (OpenSpec.upto lemmasSpacesSpec)) lemmasSpacesUptoCard

/-- THE SECOND FORM's CARD OF 'gridwrightlaw30.LemmasWrong'. -/
def lemmasWrongUptoCard : Claim7 := { stood := { row := lemmasWrongUptoRow, standIns := [], harness := (true, "4433568a7f38ff06deb1c11af4a39ae5fc52fada39a6f560b09102ace056b3f4"), looks := true }, kinds := [], alts := [], laidByText := true, laidKinds := [.data, .data, .data, .sentinel, .sentinel], laidTests := true, laidLooks := .later }
def LemmasWrongUptoCardSaid : Prop := Claim7.holds Tryz.pinned (.plain (OpenSpec.upto lemmasWrongSpec)) lemmasWrongUptoCard

/-- THE SECOND FORM's CARD OF 'gridwrightlaw30.LemmasLess'. -/
def lemmasLessUptoCard : Claim7 := { stood := { row := lemmasLessUptoRow, standIns := [], harness := (true, "4433568a7f38ff06deb1c11af4a39ae5fc52fada39a6f560b09102ace056b3f4"), looks := true }, kinds := [], alts := [], laidByText := true, laidKinds := [.data, .data, .data, .sentinel, .sentinel], laidTests := true, laidLooks := .later }
def LemmasLessUptoCardSaid : Prop := Claim7.holds Tryz.pinned (.plain (OpenSpec.upto lemmasLessSpec)) lemmasLessUptoCard

/-- THE SECOND FORM's CARD OF 'gridwrightlaw30.LemmasNames'. -/
def lemmasNamesUptoCard : Claim7 := { stood := { row := lemmasNamesUptoRow, standIns := [], harness := (true, "4433568a7f38ff06deb1c11af4a39ae5fc52fada39a6f560b09102ace056b3f4"), looks := true }, kinds := [], alts := [], laidByText := true, laidKinds := [.data, .data, .data, .sentinel, .sentinel], laidTests := true, laidLooks := .later }
def LemmasNamesUptoCardSaid : Prop := Claim7.holds Tryz.pinned (.plain (OpenSpec.upto lemmasNamesSpec)) lemmasNamesUptoCard
end Rows
end Go.Proofs.YtpjedmachelflaaGreatDoor
