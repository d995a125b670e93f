/-
  Proofs of lemmas: the statement ProveAdmitSpec: for every input the law returns true, and the input reads as it did. Conditions: none.
-/
import Derived.Test.YtabcmhkkohbdeaaGreatB18
import Derived.Test.YtabcmhkkohbdeaaGreatB19
set_option maxRecDepth 20000
set_option linter.all false
set_option maxHeartbeats 1000000
namespace Go.Proofs.YtabcmhkkohbdeaaGreat
open Go Go.AM
theorem proveAdmitSpec_holds:Rows.ProveAdmitSpecSaid:=
 OpenClaim.holds_of_wide 4 Tryz.f4 rfl rfl rfl rfl rfl rfl rfl ⟨rfl,rfl,rfl,rfl,rfl⟩ rfl rfl rfl rfl rfl (by kernel_rfl) Tryz.func4 ni
  (t5 (by kernel_rfl)) (by unfold Func.isWrapper;first|(rw[rt (by decide+kernel)];kernel_rfl)|(rw[rj (by decide+kernel)];exact⟨rfl,rfl⟩))
  (λos started H enc _=>eu os started H enc)
#print axioms proveAdmitSpec_holds
end Go.Proofs.YtabcmhkkohbdeaaGreat
