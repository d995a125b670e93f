/-
  The facts of the program that the row asks. Conditions: none.
-/
import Derived.Test.YtbngedlokkndkaaGreatDoorRows
import Derived.SizedLaws
import Derived.JoinedOf
import Derived.KernelRfl

set_option maxRecDepth 20000
set_option linter.all false
set_option maxHeartbeats 1000000
namespace Go.Proofs.YtbngedlokkndkaaGreatDoor
open Go
theorem Ms:joinedFacts Tryz.pinned.checked.prog 3 Tryz.f3 (Rows.OpenSpec.upto Rows.kindsCheckSpecSpec).bare Rows.kindsCheckSpecUptoRow=true:=by
 unfold joinedFacts
 repeat' with_reducible refine Bool.and_eq_true_iff.2 ⟨?_,?_⟩
 all_goals as_aux_lemma=>kernel_rfl
end Go.Proofs.YtbngedlokkndkaaGreatDoor
