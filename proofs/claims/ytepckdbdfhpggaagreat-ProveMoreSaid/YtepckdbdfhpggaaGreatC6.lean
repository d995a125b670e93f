/-
  The statement ProveMore: for every input the law returns true, and the input reads as it did. Conditions: none.
-/
import Derived.Test.YtepckdbdfhpggaaGreatB18
import Derived.Test.YtepckdbdfhpggaaGreatB19
import Derived.ProofKit
set_option maxRecDepth 20000
set_option linter.all false
namespace Go.Proofs.YtepckdbdfhpggaaGreat
open Go Go.AM
theorem proveMore_holds:Rows.ProveMoreSaid:=
 OpenClaim.holds_of_wide 6 Tryz.f6 rfl rfl rfl rfl rfl rfl rfl ⟨rfl,rfl,rfl,rfl,rfl⟩ rfl rfl rfl rfl rfl (by kernel_rfl) Tryz.func6 jfacts
  (Y7 (by kernel_rfl)) (by unfold Func.isWrapper;first|(rw[X0 (by decide+kernel)];kernel_rfl)|(rw[Ww (by decide+kernel)];exact⟨rfl,rfl⟩))
  (λos started H enc _=>Wt os started H enc)
end Go.Proofs.YtepckdbdfhpggaaGreat
