/-
  Kinds of puzzles: the statement KindsNames, proved of its card: for every input the law returns true, and the input reads as it did. Conditions: the tables and the errors of the libraries that the row lists are as the program's text lays them (the card ties them).
-/
import Derived.Test.YtbngedlokkndkaaGreatDoorB38
import Derived.Test.YtbngedlokkndkaaGreatDoorTie
import Derived.Test.YtbngedlokkndkaaGreatDoorCards
import Derived.SevenTiedAt

set_option maxRecDepth 20000
set_option linter.all false
set_option maxHeartbeats 1000000
namespace Go.Proofs.YtbngedlokkndkaaGreatDoor
open Go Go.AM Go.ChangeShapes Go.WideShapes Go.ChangeAt Go.WideMaps Go.WideElems Go.RowKit
theorem kindsNames_holds:Rows.KindsNamesCardSaid:=
 Claim7.holds_tied_plain_at .later [] [.data,.data,.data,.data,.data,.sentinel,.sentinel] true (true, "a53474fcc5b87bf35bb051f2fbe41d2a5ad01289866905bb1919b759b4be346b") true
  said5 (λ_ h=>by cases h) (by as_aux_lemma=>kernel_rfl) (λ_ h=>by cases h) kindsNames_row_tie rfl ⟨rfl,rfl⟩ (by as_aux_lemma=>kernel_rfl) rfl
  (λf fn hf hfn=>by
   obtain rfl:f=5:=Option.some.inj ((show Tryz.prog.funcNamed Rows.kindsNamesRow.func=some 5 by as_aux_lemma=>kernel_rfl).symm.trans hf)|>.symm
   obtain rfl:fn=Tryz.f5:=(Option.some.inj (Tryz.func5.symm.trans hfn)).symm
   exact⟨by as_aux_lemma=>kernel_rfl,λj t ht=>by
    rw[Tryz.params5]at ht
    have sX:(Tryz.f5.params.toList.all λu=>!Tryz.prog.wantsStandIn u)=true:=by as_aux_lemma=>kernel_rfl
    exact(show Tryz.prog.wantsStandIn t=false by simpa using oM.1 sX t (by rw[Tryz.params5];exact qL.2 (Array.mem_of_getElem? ht)))⟩)
  (by as_aux_lemma=>kernel_rfl)
#print axioms kindsNames_holds
end Go.Proofs.YtbngedlokkndkaaGreatDoor
