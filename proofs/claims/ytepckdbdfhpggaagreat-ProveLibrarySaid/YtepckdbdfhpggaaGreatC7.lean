/-
  A row. Conditions: none.
-/
import Derived.Test.YtepckdbdfhpggaaGreatB18
import Derived.Test.YtepckdbdfhpggaaGreatB19
import Derived.ProofKit
set_option maxRecDepth 20000
set_option linter.all false
namespace Go.Proofs.YtepckdbdfhpggaaGreat
open Go
theorem proveLibrary_holds:Rows.ProveLibrarySaid:=
 OpenClaim.holds_of_wide 7 Tryz.f7 rfl rfl rfl rfl rfl rfl rfl ⟨rfl,rfl,rfl,rfl,rfl⟩ rfl rfl rfl rfl rfl (by kernel_rfl) Tryz.func7 jfacts
  (of_decide_eq_true (by kernel_rfl)) (by unfold Func.isWrapper;first|(rw[if_pos (by decide+kernel)];kernel_rfl)|(rw[if_neg (by decide+kernel)];exact⟨rfl,rfl⟩))
  (λos started H enc _=>XD os started H enc)
end Go.Proofs.YtepckdbdfhpggaaGreat
