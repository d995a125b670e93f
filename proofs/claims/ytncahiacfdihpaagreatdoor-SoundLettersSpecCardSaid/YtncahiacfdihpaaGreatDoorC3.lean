/-
  Sound lemmas: the statement SoundLettersSpec, proved of its card: for every input the law returns true, and the input reads as it did. Conditions: the tables and the errors of the libraries that the row lists are as the program's text lays them (the card ties them).
-/
import Derived.Test.YtncahiacfdihpaaGreatDoorB22
set_option maxRecDepth 20000
set_option linter.all false
set_option maxHeartbeats 1000000
namespace Go.Proofs.YtncahiacfdihpaaGreatDoor
open Go Go.AM Go.ChangeShapes Go.WideShapes Go.ChangeAt Go.WideMaps Go.WideElems Go.RowKit
theorem soundLettersSpec_holds:Rows.SoundLettersSpecCardSaid:=
 Claim7.holds_tied_plain_at .later [] [.data,.data,.data,.sentinel,.sentinel] true (true, "31565c1b5eb80f9515959210124ad73c7adb0e2f42b22cc2644edbec915e885b") true
  said3 (λ_ h=>by cases h) (by as_aux_lemma=>kernel_rfl) (λ_ h=>by cases h) soundLettersSpec_row_tie rfl ⟨rfl,rfl⟩ (by as_aux_lemma=>kernel_rfl) rfl
  (λf fn hf hfn=>by
   obtain rfl:f=3:=Option.some.inj ((show Tryz.prog.funcNamed Rows.soundLettersSpecRow.func=some 3 by as_aux_lemma=>kernel_rfl).symm.trans hf)|>.symm
   obtain rfl:fn=Tryz.f3:=(Option.some.inj (Tryz.func3.symm.trans hfn)).symm
   exact⟨by as_aux_lemma=>kernel_rfl,λj t ht=>by
    rw[Tryz.params3]at ht
    have c8:(Tryz.f3.params.toList.all λu=>!Tryz.prog.wantsStandIn u)=true:=by as_aux_lemma=>kernel_rfl
    exact(show Tryz.prog.wantsStandIn t=false by simpa using Wo.1 c8 t (by rw[Tryz.params3];exact YL.2 (Array.mem_of_getElem? ht)))⟩)
  (by as_aux_lemma=>kernel_rfl)
#print axioms soundLettersSpec_holds
end Go.Proofs.YtncahiacfdihpaaGreatDoor
