/-
  Sound lemmas: the statement SoundExact, proved of its card: for every input the law returns true, and the input reads as it did. Conditions: the tables and the errors of the libraries that the row lists are as the program's text lays them (the card ties them).
-/
import Derived.Test.YtncahiacfdihpaaGreatDoorB19
import Derived.Test.YtncahiacfdihpaaGreatDoorB20
import Derived.ProofKit

set_option maxRecDepth 20000
set_option linter.all false
set_option maxHeartbeats 1000000
namespace Go.Proofs.YtncahiacfdihpaaGreatDoor
open Go Go.AM
theorem said8:Rows.SoundExactSaid:=
 OpenClaim.holds_of_wide 8 Tryz.f8 rfl rfl rfl rfl rfl rfl rfl ⟨rfl,rfl,rfl,rfl,rfl⟩ rfl rfl rfl rfl rfl (by kernel_rfl) Tryz.func8 jfacts
  (VH (by kernel_rfl)) (by unfold Func.isWrapper;first|(rw[Vk (by decide+kernel)];kernel_rfl)|(rw[Vb (by decide+kernel)];exact⟨rfl,rfl⟩))
  (λos started H enc _=>T6 os started H enc)
end Go.Proofs.YtncahiacfdihpaaGreatDoor
