/-
  Proofs of lemmas: the statement ProveSpec: for every input the law returns true, and the input reads as it did. Conditions: none.
-/
import Derived.Test.YtabcmhkkohbdeaaGreatB18
import Derived.Test.YtabcmhkkohbdeaaGreatB19
set_option maxRecDepth 20000
set_option linter.all false
set_option maxHeartbeats 1000000
namespace Go.Proofs.YtabcmhkkohbdeaaGreat
open Go Go.AM
theorem proveSpec_holds:Rows.ProveSpecSaid:=
 OpenClaim.holds_of_wide 3 Tryz.f3 rfl rfl rfl rfl rfl rfl rfl ⟨rfl,rfl,rfl,rfl,rfl⟩ rfl rfl rfl rfl rfl (by kernel_rfl) Tryz.func3 oN
  (th (by kernel_rfl)) (by unfold Func.isWrapper;first|(rw[sn (by decide+kernel)];kernel_rfl)|(rw[sg (by decide+kernel)];exact⟨rfl,rfl⟩))
  (λos started H enc _=>fj os started H enc)
#print axioms proveSpec_holds
end Go.Proofs.YtabcmhkkohbdeaaGreat
