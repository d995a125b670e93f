/-
  DERIVED. GIVEN WITH THE SEED: THE CARDS: each row of YtbliialnfeoodaaGreatDoorRows.lean that lists a variable, with what it lists TIED to the program's text (the seventh form; the later family's looks); each row that meets fmt, with fmt's text TOLD by the authors' own Lean function (tested against real Go, not proved from fmt's source: count such statements apart). THE CARD IS WHAT COUNTS. Prove the row's statement (the work); the ties are given (YtbliialnfeoodaaGreatDoorTie.lean); close each card by the builder's one call (the guide's Derived/Test/ToyasCard.lean, 'card_holds'). Laid BY PROGRAM, IN A SANDBOX (cutbox-door.mjs). By AI agents, Wed Nov 11 2026. No macro, syntax, notation, axiom, sorry.
-/
import Derived.Test.YtbliialnfeoodaaGreatDoorRows
import GoSem.ClaimSeven
namespace Go.Proofs.YtbliialnfeoodaaGreatDoor
namespace Rows

/-- THE TIED CARD OF 'gridwrightlaw15.SyntaxSpec'. -/
def syntaxSpecCard : Claim7 := { stood := { row := syntaxSpecRow, standIns := [], harness := (true, "46269e7f97271dfae8c78bf473cdef7b983c906943449b43327f1f053a30a335"), looks := true }, kinds := [], alts := [], laidByText := true, laidKinds := [.data, .data, .data, .sentinel, .sentinel], laidTests := true, laidLooks := .later }
def SyntaxSpecCardSaid : Prop := Claim7.holds Tryz.pinned (.plain (OpenSpec.ofChange syntaxSpecSpec)) syntaxSpecCard

/-- THE TIED CARD OF 'gridwrightlaw15.SyntaxPrintSpec'. -/
def syntaxPrintSpecCard : Claim7 := { stood := { row := syntaxPrintSpecRow, standIns := [], harness := (true, "46269e7f97271dfae8c78bf473cdef7b983c906943449b43327f1f053a30a335"), looks := true }, kinds := [], alts := [], laidByText := true, laidKinds := [.data, .data, .data, .sentinel, .sentinel], laidTests := true, laidLooks := .later }
def SyntaxPrintSpecCardSaid : Prop := Claim7.holds Tryz.pinned (.plain (OpenSpec.ofChange syntaxPrintSpecSpec)) syntaxPrintSpecCard

/-- THE TIED CARD OF 'gridwrightlaw15.SyntaxBack'. -/
def syntaxBackCard : Claim7 := { stood := { row := syntaxBackRow, standIns := [], harness := (true, "46269e7f97271dfae8c78bf473cdef7b983c906943449b43327f1f053a30a335"), looks := true }, kinds := [], alts := [], laidByText := true, laidKinds := [.data, .data, .data, .sentinel, .sentinel], laidTests := true, laidLooks := .later }
def SyntaxBackCardSaid : Prop := Claim7.holds Tryz.pinned (.plain (OpenSpec.ofChange syntaxBackSpec)) syntaxBackCard

/-- THE TIED CARD OF 'gridwrightlaw15.SyntaxSpaces'. -/
def syntaxSpacesCard : Claim7 := { stood := { row := syntaxSpacesRow, standIns := [], harness := (true, "46269e7f97271dfae8c78bf473cdef7b983c906943449b43327f1f053a30a335"), looks := true }, kinds := [], alts := [], laidByText := true, laidKinds := [.data, .data, .data, .sentinel, .sentinel], laidTests := true, laidLooks := .later }
def SyntaxSpacesCardSaid : Prop := Claim7.holds Tryz.pinned (.plain (OpenSpec.ofChange syntaxSpacesSpec)) syntaxSpacesCard

/-- THE TIED CARD OF 'gridwrightlaw15.SyntaxEnds'. -/
def syntaxEndsCard : Claim7 := { stood := { row := syntaxEndsRow, standIns := [], harness := (true, "46269e7f97271dfae8c78bf473cdef7b983c906943449b43327f1f053a30a335"), looks := true }, kinds := [], alts := [], laidByText := true, laidKinds := [.data, .data, .data, .sentinel, .sentinel], laidTests := true, laidLooks := .later }
def SyntaxEndsCardSaid : Prop := Claim7.holds Tryz.pinned (.plain (OpenSpec.ofChange syntaxEndsSpec)) syntaxEndsCard

/-- THE TIED CARD OF 'gridwrightlaw15.SyntaxChange'. -/
def syntaxChangeCard : Claim7 := { stood := { row := syntaxChangeRow, standIns := [], harness := (true, "46269e7f97271dfae8c78bf473cdef7b983c906943449b43327f1f053a30a335"), looks := true }, kinds := [], alts := [], laidByText := true, laidKinds := [.data, .data, .data, .sentinel, .sentinel], laidTests := true, laidLooks := .later }
def SyntaxChangeCardSaid : Prop := Claim7.holds Tryz.pinned (.plain (OpenSpec.ofChange syntaxChangeSpec)) syntaxChangeCard

/-- THE SECOND FORM's CARD OF 'gridwrightlaw15.SyntaxSpec'. -/
def syntaxSpecUptoCard : Claim7 := { stood := { row := syntaxSpecUptoRow, standIns := [], harness := (true, "46269e7f97271dfae8c78bf473cdef7b983c906943449b43327f1f053a30a335"), looks := true }, kinds := [], alts := [], laidByText := true, laidKinds := [.data, .data, .data, .sentinel, .sentinel], laidTests := true, laidLooks := .later }
def SyntaxSpecUptoCardSaid : Prop := Claim7.holds Tryz.pinned (.plain (OpenSpec.upto syntaxSpecSpec)) syntaxSpecUptoCard

/-- THE SECOND FORM's CARD OF 'gridwrightlaw15.SyntaxPrintSpec'. -/
def syntaxPrintSpecUptoCard : Claim7 := { stood := { row := syntaxPrintSpecUptoRow, standIns := [], harness := (true, "46269e7f97271dfae8c78bf473cdef7b983c906943449b43327f1f053a30a335"), looks := true }, kinds := [], alts := [], laidByText := true, laidKinds := [.data, .data, .data, .sentinel, .sentinel], laidTests := true, laidLooks := .later }
def SyntaxPrintSpecUptoCardSaid : Prop := Claim7.holds Tryz.pinned (.plain (OpenSpec.upto syntaxPrintSpecSpec)) syntaxPrintSpecUptoCard

/-- THE SECOND FORM's CARD OF 'gridwrightlaw15.SyntaxBack'. -/
def syntaxBackUptoCard : Claim7 := { stood := { row := syntaxBackUptoRow, standIns := [], harness := (true, "46269e7f97271dfae8c78bf473cdef7b983c906943449b43327f1f053a30a335"), looks := true }, kinds := [], alts := [], laidByText := true, laidKinds := [.data, .data, .data, .sentinel, .sentinel], laidTests := true, laidLooks := .later }
def SyntaxBackUptoCardSaid : Prop := Claim7.holds Tryz.pinned (.plain (OpenSpec.upto syntaxBackSpec)) syntaxBackUptoCard

/-- THE SECOND FORM's CARD OF 'gridwrightlaw15.SyntaxSpaces'. -/
def syntaxSpacesUptoCard : Claim7 := { stood := { row := syntaxSpacesUptoRow, standIns := [], harness := (true, "46269e7f97271dfae8c78bf473cdef7b983c906943449b43327f1f053a30a335"), looks := true }, kinds := [], alts := [], laidByText := true, laidKinds := [.data, .data, .data, .sentinel, .sentinel], laidTests := true, laidLooks := .later }
def SyntaxSpacesUptoCardSaid : Prop := Claim7.holds Tryz.pinned (.plain (OpenSpec.upto syntaxSpacesSpec)) syntaxSpacesUptoCard

/-- THE SECOND FORM's CARD OF 'gridwrightlaw15.SyntaxEnds'. -/
def syntaxEndsUptoCard : Claim7 := { stood := { row := syntaxEndsUptoRow, standIns := [], harness := (true, "46269e7f97271dfae8c78bf473cdef7b983c906943449b43327f1f053a30a335"), looks := true }, kinds := [], alts := [], laidByText := true, laidKinds := [.data, .data, .data, .sentinel, .sentinel], laidTests := true, laidLooks := .later }
def SyntaxEndsUptoCardSaid : Prop := Claim7.holds Tryz.pinned (.plain (OpenSpec.upto syntaxEndsSpec)) syntaxEndsUptoCard

/-- THE SECOND FORM's CARD OF 'gridwrightlaw15.SyntaxChange'. -/
def syntaxChangeUptoCard : Claim7 := { stood := { row := syntaxChangeUptoRow, standIns := [], harness := (true, "46269e7f97271dfae8c78bf473cdef7b983c906943449b43327f1f053a30a335"), looks := true }, kinds := [], alts := [], laidByText := true, laidKinds := [.data, .data, .data, .sentinel, .sentinel], laidTests := true, laidLooks := .later }
def SyntaxChangeUptoCardSaid : Prop := Claim7.holds Tryz.pinned (.plain (OpenSpec.upto syntaxChangeSpec)) syntaxChangeUptoCard
end Rows
end Go.Proofs.YtbliialnfeoodaaGreatDoor
