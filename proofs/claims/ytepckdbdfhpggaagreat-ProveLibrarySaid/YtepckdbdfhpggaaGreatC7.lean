/-
  The statement ProveLibrary: for every input the law returns true, and the input reads as it did. Conditions: none.
-/
import Derived.Test.YtepckdbdfhpggaaGreatB18
import Derived.Test.YtepckdbdfhpggaaGreatB19
import Derived.ProofKit
set_option maxRecDepth 20000
set_option linter.all false
namespace Go.Proofs.YtepckdbdfhpggaaGreat
open Go Go.AM
theorem proveLibrary_holds:Rows.ProveLibrarySaid:=
 OpenClaim.holds_of_wide 7 Tryz.f7 rfl rfl rfl rfl rfl rfl rfl ⟨rfl,rfl,rfl,rfl,rfl⟩ rfl rfl rfl rfl rfl (by kernel_rfl) Tryz.func7 jfacts
  (Ys (by kernel_rfl)) (by unfold Func.isWrapper;first|(rw[Xg (by decide+kernel)];kernel_rfl)|(rw[Xc (by decide+kernel)];exact⟨rfl,rfl⟩))
  (λos started H enc _=>XJ os started H enc)
end Go.Proofs.YtepckdbdfhpggaaGreat
