/-
  Kinds of puzzles: the statement KindsCheckSpec, its second form, proved of its card: for every input whose bulk is at most the bound the law returns true, and the input reads as it did. Conditions: the bulk; the tables and the errors of the libraries that the row lists are as the program's text lays them (the card ties them).
-/
import Derived.Test.YtbngedlokkndkaaGreatDoorB32
import Derived.Test.YtbngedlokkndkaaGreatDoorTie
import Derived.Test.YtbngedlokkndkaaGreatDoorCards
import Derived.SevenTiedAt

set_option maxRecDepth 20000
set_option linter.all false
set_option maxHeartbeats 1000000
namespace Go.Proofs.YtbngedlokkndkaaGreatDoor
open Go Go.AM Go.ChangeShapes Go.WideShapes Go.ChangeAt Go.WideMaps Go.WideElems Go.RowKit
theorem kindsCheckSpec_holds:Rows.KindsCheckSpecUptoCardSaid:=
 Claim7.holds_tied_plain_at .later [] [.data,.data,.data,.data,.data,.sentinel,.sentinel] true (true, "a53474fcc5b87bf35bb051f2fbe41d2a5ad01289866905bb1919b759b4be346b") true
  said3 (λ_ h=>by cases h) (by as_aux_lemma=>kernel_rfl) (λ_ h=>by cases h) kindsCheckSpecUpto_row_tie rfl ⟨rfl,rfl⟩ (by as_aux_lemma=>kernel_rfl) rfl
  (λf fn hf hfn=>by
   obtain rfl:f=3:=Option.some.inj ((show Tryz.prog.funcNamed Rows.kindsCheckSpecUptoRow.func=some 3 by as_aux_lemma=>kernel_rfl).symm.trans hf)|>.symm
   obtain rfl:fn=Tryz.f3:=(Option.some.inj (Tryz.func3.symm.trans hfn)).symm
   exact⟨by as_aux_lemma=>kernel_rfl,λj t ht=>by
    rw[Tryz.params3]at ht
    have sX:(Tryz.f3.params.toList.all λu=>!Tryz.prog.wantsStandIn u)=true:=by as_aux_lemma=>kernel_rfl
    exact(show Tryz.prog.wantsStandIn t=false by simpa using oM.1 sX t (by rw[Tryz.params3];exact qL.2 (Array.mem_of_getElem? ht)))⟩)
  (by as_aux_lemma=>kernel_rfl)
#print axioms kindsCheckSpec_holds
end Go.Proofs.YtbngedlokkndkaaGreatDoor
