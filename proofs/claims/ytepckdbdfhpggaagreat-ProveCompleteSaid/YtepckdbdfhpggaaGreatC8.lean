/-
  The statement ProveComplete: for every input the law returns true, and the input reads as it did. Conditions: none.
-/
import Derived.Test.YtepckdbdfhpggaaGreatB18
import Derived.Test.YtepckdbdfhpggaaGreatB19
import Derived.ProofKit
set_option maxRecDepth 20000
set_option linter.all false
namespace Go.Proofs.YtepckdbdfhpggaaGreat
open Go Go.AM
theorem proveComplete_holds:Rows.ProveCompleteSaid:=
 OpenClaim.holds_of_wide 8 Tryz.f8 rfl rfl rfl rfl rfl rfl rfl ⟨rfl,rfl,rfl,rfl,rfl⟩ rfl rfl rfl rfl rfl (by kernel_rfl) Tryz.func8 jfacts
  (Yj (by kernel_rfl)) (by unfold Func.isWrapper;first|(rw[Xc (by decide+kernel)];kernel_rfl)|(rw[X8 (by decide+kernel)];exact⟨rfl,rfl⟩))
  (λos started H enc _=>W5 os started H enc)
end Go.Proofs.YtepckdbdfhpggaaGreat
