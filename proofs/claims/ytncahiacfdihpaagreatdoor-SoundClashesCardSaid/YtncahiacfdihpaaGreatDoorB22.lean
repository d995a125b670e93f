/-
  Sound lemmas: the statement SoundClashes, proved of its card: for every input the law returns true, and the input reads as it did. Conditions: the tables and the errors of the libraries that the row lists are as the program's text lays them (the card ties them).
-/
import Derived.Test.YtncahiacfdihpaaGreatDoorB20
import Derived.Test.YtncahiacfdihpaaGreatDoorB21
set_option maxRecDepth 20000
set_option linter.all false
set_option maxHeartbeats 1000000
namespace Go.Proofs.YtncahiacfdihpaaGreatDoor
open Go Go.AM
theorem said6:Rows.SoundClashesSaid:=
 OpenClaim.holds_of_wide 6 Tryz.f6 rfl rfl rfl rfl rfl rfl rfl ⟨rfl,rfl,rfl,rfl,rfl⟩ rfl rfl rfl rfl rfl (by kernel_rfl) Tryz.func6 jfacts
  (Xu (by kernel_rfl)) (by unfold Func.isWrapper;first|(rw[X0 (by decide+kernel)];kernel_rfl)|(rw[W6 (by decide+kernel)];exact⟨rfl,rfl⟩))
  (λos started H enc _=>WA os started H enc)
end Go.Proofs.YtncahiacfdihpaaGreatDoor
