/-
  Kinds of puzzles: the statement KindsBuildSpec, proved of its card: for every input the law returns true, and the input reads as it did. Conditions: the tables and the errors of the libraries that the row lists are as the program's text lays them (the card ties them).
-/
import Derived.Test.YtbohiinkdkoacaaGreatDoorB23
import Derived.Test.YtbohiinkdkoacaaGreatDoorB24
set_option maxRecDepth 20000
set_option linter.all false
set_option maxHeartbeats 1000000
namespace Go.Proofs.YtbohiinkdkoacaaGreatDoor
open Go Go.AM
theorem said3:Rows.KindsBuildSpecSaid:=
 OpenClaim.holds_of_wide 3 Tryz.f3 rfl rfl rfl rfl rfl rfl rfl ⟨rfl,rfl,rfl,rfl,rfl⟩ rfl rfl rfl rfl rfl (by kernel_rfl) Tryz.func3 jfacts
  (Wn (by kernel_rfl)) (by unfold Func.isWrapper;first|(rw[Vv (by decide+kernel)];kernel_rfl)|(rw[V5 (by decide+kernel)];exact⟨rfl,rfl⟩))
  (λos started H enc _=>U4 os started H enc)
end Go.Proofs.YtbohiinkdkoacaaGreatDoor
