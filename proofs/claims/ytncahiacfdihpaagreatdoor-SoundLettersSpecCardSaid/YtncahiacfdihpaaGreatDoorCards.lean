/-
  DERIVED. GIVEN WITH THE SEED: THE CARDS: each row of YtncahiacfdihpaaGreatDoorRows.lean that lists a variable, with what it lists TIED to the program's text (the seventh form; the later family's looks); each row that meets fmt, with fmt's text TOLD by the authors' own Lean function (tested against real Go, not proved from fmt's source: count such statements apart). THE CARD IS WHAT COUNTS. Prove the row's statement (the work); the ties are given (YtncahiacfdihpaaGreatDoorTie.lean); close each card by the builder's one call (the guide's Derived/Test/ToyasCard.lean, 'card_holds'). Laid BY PROGRAM, IN A SANDBOX (cutbox-door.mjs). By AI agents, Wed Nov 11 2026. No macro, syntax, notation, axiom, sorry.
-/
import Derived.Test.YtncahiacfdihpaaGreatDoorRows
import GoSem.ClaimSeven
namespace Go.Proofs.YtncahiacfdihpaaGreatDoor
namespace Rows

/-- THE TIED CARD OF 'gridwrightlaw31.SoundLettersSpec'. -/
def soundLettersSpecCard : Claim7 := { stood := { row := soundLettersSpecRow, standIns := [], harness := (true, "31565c1b5eb80f9515959210124ad73c7adb0e2f42b22cc2644edbec915e885b"), looks := true }, kinds := [], alts := [], laidByText := true, laidKinds := [.data, .data, .data, .sentinel, .sentinel], laidTests := true, laidLooks := .later }
def SoundLettersSpecCardSaid : Prop := Claim7.holds Tryz.pinned (.plain (OpenSpec.ofChange soundLettersSpecSpec)) soundLettersSpecCard

/-- THE TIED CARD OF 'gridwrightlaw31.SoundSpec'. -/
def soundSpecCard : Claim7 := { stood := { row := soundSpecRow, standIns := [], harness := (true, "31565c1b5eb80f9515959210124ad73c7adb0e2f42b22cc2644edbec915e885b"), looks := true }, kinds := [], alts := [], laidByText := true, laidKinds := [.data, .data, .data, .sentinel, .sentinel], laidTests := true, laidLooks := .later }
def SoundSpecCardSaid : Prop := Claim7.holds Tryz.pinned (.plain (OpenSpec.ofChange soundSpecSpec)) soundSpecCard

/-- THE TIED CARD OF 'gridwrightlaw31.SoundProofs'. -/
def soundProofsCard : Claim7 := { stood := { row := soundProofsRow, standIns := [], harness := (true, "31565c1b5eb80f9515959210124ad73c7adb0e2f42b22cc2644edbec915e885b"), looks := true }, kinds := [], alts := [], laidByText := true, laidKinds := [.data, .data, .data, .sentinel, .sentinel], laidTests := true, laidLooks := .later }
def SoundProofsCardSaid : Prop := Claim7.holds Tryz.pinned (.plain (OpenSpec.ofChange soundProofsSpec)) soundProofsCard

/-- THE TIED CARD OF 'gridwrightlaw31.SoundClashes'. -/
def soundClashesCard : Claim7 := { stood := { row := soundClashesRow, standIns := [], harness := (true, "31565c1b5eb80f9515959210124ad73c7adb0e2f42b22cc2644edbec915e885b"), looks := true }, kinds := [], alts := [], laidByText := true, laidKinds := [.data, .data, .data, .sentinel, .sentinel], laidTests := true, laidLooks := .later }
def SoundClashesCardSaid : Prop := Claim7.holds Tryz.pinned (.plain (OpenSpec.ofChange soundClashesSpec)) soundClashesCard

/-- THE TIED CARD OF 'gridwrightlaw31.SoundWeaker'. -/
def soundWeakerCard : Claim7 := { stood := { row := soundWeakerRow, standIns := [], harness := (true, "31565c1b5eb80f9515959210124ad73c7adb0e2f42b22cc2644edbec915e885b"), looks := true }, kinds := [], alts := [], laidByText := true, laidKinds := [.data, .data, .data, .sentinel, .sentinel], laidTests := true, laidLooks := .later }
def SoundWeakerCardSaid : Prop := Claim7.holds Tryz.pinned (.plain (OpenSpec.ofChange soundWeakerSpec)) soundWeakerCard

/-- THE TIED CARD OF 'gridwrightlaw31.SoundExact'. -/
def soundExactCard : Claim7 := { stood := { row := soundExactRow, standIns := [], harness := (true, "31565c1b5eb80f9515959210124ad73c7adb0e2f42b22cc2644edbec915e885b"), looks := true }, kinds := [], alts := [], laidByText := true, laidKinds := [.data, .data, .data, .sentinel, .sentinel], laidTests := true, laidLooks := .later }
def SoundExactCardSaid : Prop := Claim7.holds Tryz.pinned (.plain (OpenSpec.ofChange soundExactSpec)) soundExactCard

/-- THE SECOND FORM's CARD OF 'gridwrightlaw31.SoundLettersSpec'. -/
def soundLettersSpecUptoCard : Claim7 := { stood := { row := soundLettersSpecUptoRow, standIns := [], harness := (true, "31565c1b5eb80f9515959210124ad73c7adb0e2f42b22cc2644edbec915e885b"), looks := true }, kinds := [], alts := [], laidByText := true, laidKinds := [.data, .data, .data, .sentinel, .sentinel], laidTests := true, laidLooks := .later }
def SoundLettersSpecUptoCardSaid : Prop := Claim7.holds Tryz.pinned (.plain (OpenSpec.upto soundLettersSpecSpec)) soundLettersSpecUptoCard

/-- THE SECOND FORM's CARD OF 'gridwrightlaw31.SoundSpec'. -/
def soundSpecUptoCard : Claim7 := { stood := { row := soundSpecUptoRow, standIns := [], harness := (true, "31565c1b5eb80f9515959210124ad73c7adb0e2f42b22cc2644edbec915e885b"), looks := true }, kinds := [], alts := [], laidByText := true, laidKinds := [.data, .data, .data, .sentinel, .sentinel], laidTests := true, laidLooks := .later }
def SoundSpecUptoCardSaid : Prop := Claim7.holds Tryz.pinned (.plain (OpenSpec.upto soundSpecSpec)) soundSpecUptoCard

/-- THE SECOND FORM's CARD OF 'gridwrightlaw31.SoundProofs'. -/
def soundProofsUptoCard : Claim7 := { stood := { row := soundProofsUptoRow, standIns := [], harness := (true, "31565c1b5eb80f9515959210124ad73c7adb0e2f42b22cc2644edbec915e885b"), looks := true }, kinds := [], alts := [], laidByText := true, laidKinds := [.data, .data, .data, .sentinel, .sentinel], laidTests := true, laidLooks := .later }
def SoundProofsUptoCardSaid : Prop := Claim7.holds Tryz.pinned (.plain (OpenSpec.upto soundProofsSpec)) soundProofsUptoCard

/-- THE SECOND FORM's CARD OF 'gridwrightlaw31.SoundClashes'. -/
def soundClashesUptoCard : Claim7 := { stood := { row := soundClashesUptoRow, standIns := [], harness := (true, "31565c1b5eb80f9515959210124ad73c7adb0e2f42b22cc2644edbec915e885b"), looks := true }, kinds := [], alts := [], laidByText := true, laidKinds := [.data, .data, .data, .sentinel, .sentinel], laidTests := true, laidLooks := .later }
def SoundClashesUptoCardSaid : Prop := Claim7.holds Tryz.pinned (.plain (OpenSpec.upto soundClashesSpec)) soundClashesUptoCard

/-- THE SECOND FORM's CARD OF 'gridwrightlaw31.SoundWeaker'. -/
def soundWeakerUptoCard : Claim7 := { stood := { row := soundWeakerUptoRow, standIns := [], harness := (true, "31565c1b5eb80f9515959210124ad73c7adb0e2f42b22cc2644edbec915e885b"), looks := true }, kinds := [], alts := [], laidByText := true, laidKinds := [.data, .data, .data, .sentinel, .sentinel], laidTests := true, laidLooks := .later }
def SoundWeakerUptoCardSaid : Prop := Claim7.holds Tryz.pinned (.plain (OpenSpec.upto soundWeakerSpec)) soundWeakerUptoCard

/-- THE SECOND FORM's CARD OF 'gridwrightlaw31.SoundExact'. -/
def soundExactUptoCard : Claim7 := { stood := { row := soundExactUptoRow, standIns := [], harness := (true, "31565c1b5eb80f9515959210124ad73c7adb0e2f42b22cc2644edbec915e885b"), looks := true }, kinds := [], alts := [], laidByText := true, laidKinds := [.data, .data, .data, .sentinel, .sentinel], laidTests := true, laidLooks := .later }
def SoundExactUptoCardSaid : Prop := Claim7.holds Tryz.pinned (.plain (OpenSpec.upto soundExactSpec)) soundExactUptoCard
end Rows
end Go.Proofs.YtncahiacfdihpaaGreatDoor
