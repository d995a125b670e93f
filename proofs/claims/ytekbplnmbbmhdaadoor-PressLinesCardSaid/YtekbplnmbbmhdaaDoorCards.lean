/-
  DERIVED. GIVEN WITH THE SEED: THE CARDS: each row of YtekbplnmbbmhdaaDoorRows.lean that lists a variable, with what it lists TIED to the program's text (the seventh form; the later family's looks); each row that meets fmt, with fmt's text TOLD by the authors' own Lean function (tested against real Go, not proved from fmt's source: count such statements apart). THE CARD IS WHAT COUNTS. Prove the row's statement (the work); the ties are given (YtekbplnmbbmhdaaDoorTie.lean); close each card by the builder's one call (the guide's Derived/Test/ToyasCard.lean, 'card_holds'). Laid BY PROGRAM, IN A SANDBOX (cutbox-door.mjs). By AI agents, Wed Nov 11 2026. No macro, syntax, notation, axiom, sorry.
-/
import Derived.Test.YtekbplnmbbmhdaaDoorRows
import GoSem.ClaimSeven
namespace Go.Proofs.YtekbplnmbbmhdaaDoor
namespace Rows

/-- THE TIED CARD OF 'gridwrightlaw57.PressCheckSpec'. -/
def pressCheckSpecCard : Claim7 := { stood := { row := pressCheckSpecRow, standIns := [], harness := (true, "9d1cef0de4542bf5d930f2acda7a8a72ab59401c290e4ae3ef841b6faaf8db46"), looks := false }, kinds := [], alts := [], laidByText := true, laidKinds := [.data, .data, .data], laidTests := true, laidLooks := .later }
def PressCheckSpecCardSaid : Prop := Claim7.holds Tryd.pinned (.plain (OpenSpec.ofChange pressCheckSpecSpec)) pressCheckSpecCard

/-- THE TIED CARD OF 'gridwrightlaw57.PressLayoutSpec'. -/
def pressLayoutSpecCard : Claim7 := { stood := { row := pressLayoutSpecRow, standIns := [], harness := (true, "9d1cef0de4542bf5d930f2acda7a8a72ab59401c290e4ae3ef841b6faaf8db46"), looks := false }, kinds := [], alts := [], laidByText := true, laidKinds := [.data, .data, .data], laidTests := true, laidLooks := .later }
def PressLayoutSpecCardSaid : Prop := Claim7.holds Tryd.pinned (.plain (OpenSpec.ofChange pressLayoutSpecSpec)) pressLayoutSpecCard

/-- THE TIED CARD OF 'gridwrightlaw57.PressValidSpec'. -/
def pressValidSpecCard : Claim7 := { stood := { row := pressValidSpecRow, standIns := [], harness := (true, "9d1cef0de4542bf5d930f2acda7a8a72ab59401c290e4ae3ef841b6faaf8db46"), looks := false }, kinds := [], alts := [], laidByText := true, laidKinds := [.data, .data, .data], laidTests := true, laidLooks := .later }
def PressValidSpecCardSaid : Prop := Claim7.holds Tryd.pinned (.plain (OpenSpec.ofChange pressValidSpecSpec)) pressValidSpecCard

/-- THE TIED CARD OF 'gridwrightlaw57.PressGood'. -/
def pressGoodCard : Claim7 := { stood := { row := pressGoodRow, standIns := [], harness := (true, "9d1cef0de4542bf5d930f2acda7a8a72ab59401c290e4ae3ef841b6faaf8db46"), looks := false }, kinds := [], alts := [], laidByText := true, laidKinds := [.data, .data, .data], laidTests := true, laidLooks := .later }
def PressGoodCardSaid : Prop := Claim7.holds Tryd.pinned (.plain (OpenSpec.ofChange pressGoodSpec)) pressGoodCard

/-- THE TIED CARD OF 'gridwrightlaw57.PressOrder'. -/
def pressOrderCard : Claim7 := { stood := { row := pressOrderRow, standIns := [], harness := (true, "9d1cef0de4542bf5d930f2acda7a8a72ab59401c290e4ae3ef841b6faaf8db46"), looks := false }, kinds := [], alts := [], laidByText := true, laidKinds := [.data, .data, .data], laidTests := true, laidLooks := .later }
def PressOrderCardSaid : Prop := Claim7.holds Tryd.pinned (.plain (OpenSpec.ofChange pressOrderSpec)) pressOrderCard

/-- THE TIED CARD OF 'gridwrightlaw57.PressScale'. -/
def pressScaleCard : Claim7 := { stood := { row := pressScaleRow, standIns := [], harness := (true, "9d1cef0de4542bf5d930f2acda7a8a72ab59401c290e4ae3ef841b6faaf8db46"), looks := false }, kinds := [], alts := [], laidByText := true, laidKinds := [.data, .data, .data], laidTests := true, laidLooks := .later }
def PressScaleCardSaid : Prop := Claim7.holds Tryd.pinned (.plain (OpenSpec.ofChange pressScaleSpec)) pressScaleCard

/-- THE TIED CARD OF 'gridwrightlaw57.PressLines'. -/
def pressLinesCard : Claim7 := { stood := { row := pressLinesRow, standIns := [], harness := (true, "9d1cef0de4542bf5d930f2acda7a8a72ab59401c290e4ae3ef841b6faaf8db46"), looks := false }, kinds := [], alts := [], laidByText := true, laidKinds := [.data, .data, .data], laidTests := true, laidLooks := .later }
def PressLinesCardSaid : Prop := Claim7.holds Tryd.pinned (.plain (OpenSpec.ofChange pressLinesSpec)) pressLinesCard

/-- THE SECOND FORM's CARD OF 'gridwrightlaw57.PressCheckSpec'. -/
def pressCheckSpecUptoCard : Claim7 := { stood := { row := pressCheckSpecUptoRow, standIns := [], harness := (true, "9d1cef0de4542bf5d930f2acda7a8a72ab59401c290e4ae3ef841b6faaf8db46"), looks := false }, kinds := [], alts := [], laidByText := true, laidKinds := [.data, .data, .data], laidTests := true, laidLooks := .later }
def PressCheckSpecUptoCardSaid : Prop := Claim7.holds Tryd.pinned (.plain (OpenSpec.upto pressCheckSpecSpec)) pressCheckSpecUptoCard

/-- THE SECOND FORM's CARD OF 'gridwrightlaw57.PressLayoutSpec'. -/
def pressLayoutSpecUptoCard : Claim7 := { stood := { row := pressLayoutSpecUptoRow, standIns := [], harness := (true, "9d1cef0de4542bf5d930f2acda7a8a72ab59401c290e4ae3ef841b6faaf8db46"), looks := false }, kinds := [], alts := [], laidByText := true, laidKinds := [.data, .data, .data], laidTests := true, laidLooks := .later }
def PressLayoutSpecUptoCardSaid : Prop := Claim7.holds Tryd.pinned (.plain (OpenSpec.upto pressLayoutSpecSpec)) pressLayoutSpecUptoCard

/-- THE SECOND FORM's CARD OF 'gridwrightlaw57.PressValidSpec'. -/
def pressValidSpecUptoCard : Claim7 := { stood := { row := pressValidSpecUptoRow, standIns := [], harness := (true, "9d1cef0de4542bf5d930f2acda7a8a72ab59401c290e4ae3ef841b6faaf8db46"), looks := false }, kinds := [], alts := [], laidByText := true, laidKinds := [.data, .data, .data], laidTests := true, laidLooks := .later }
def PressValidSpecUptoCardSaid : Prop := Claim7.holds Tryd.pinned (.plain (OpenSpec.upto pressValidSpecSpec)) pressValidSpecUptoCard

/-- THE SECOND FORM's CARD OF 'gridwrightlaw57.PressGood'. -/
def pressGoodUptoCard : Claim7 := { stood := { row := pressGoodUptoRow, standIns := [], harness := (true, "9d1cef0de4542bf5d930f2acda7a8a72ab59401c290e4ae3ef841b6faaf8db46"), looks := false }, kinds := [], alts := [], laidByText := true, laidKinds := [.data, .data, .data], laidTests := true, laidLooks := .later }
def PressGoodUptoCardSaid : Prop := Claim7.holds Tryd.pinned (.plain (OpenSpec.upto pressGoodSpec)) pressGoodUptoCard

/-- THE SECOND FORM's CARD OF 'gridwrightlaw57.PressOrder'. -/
def pressOrderUptoCard : Claim7 := { stood := { row := pressOrderUptoRow, standIns := [], harness := (true, "9d1cef0de4542bf5d930f2acda7a8a72ab59401c290e4ae3ef841b6faaf8db46"), looks := false }, kinds := [], alts := [], laidByText := true, laidKinds := [.data, .data, .data], laidTests := true, laidLooks := .later }
def PressOrderUptoCardSaid : Prop := Claim7.holds Tryd.pinned (.plain (OpenSpec.upto pressOrderSpec)) pressOrderUptoCard

/-- THE SECOND FORM's CARD OF 'gridwrightlaw57.PressScale'. -/
def pressScaleUptoCard : Claim7 := { stood := { row := pressScaleUptoRow, standIns := [], harness := (true, "9d1cef0de4542bf5d930f2acda7a8a72ab59401c290e4ae3ef841b6faaf8db46"), looks := false }, kinds := [], alts := [], laidByText := true, laidKinds := [.data, .data, .data], laidTests := true, laidLooks := .later }
def PressScaleUptoCardSaid : Prop := Claim7.holds Tryd.pinned (.plain (OpenSpec.upto pressScaleSpec)) pressScaleUptoCard

/-- THE SECOND FORM's CARD OF 'gridwrightlaw57.PressLines'. -/
def pressLinesUptoCard : Claim7 := { stood := { row := pressLinesUptoRow, standIns := [], harness := (true, "9d1cef0de4542bf5d930f2acda7a8a72ab59401c290e4ae3ef841b6faaf8db46"), looks := false }, kinds := [], alts := [], laidByText := true, laidKinds := [.data, .data, .data], laidTests := true, laidLooks := .later }
def PressLinesUptoCardSaid : Prop := Claim7.holds Tryd.pinned (.plain (OpenSpec.upto pressLinesSpec)) pressLinesUptoCard
end Rows
end Go.Proofs.YtekbplnmbbmhdaaDoor
