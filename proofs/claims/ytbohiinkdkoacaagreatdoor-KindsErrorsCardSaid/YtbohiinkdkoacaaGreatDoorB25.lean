/-
  Kinds of puzzles: the statement KindsErrors, proved of its card: for every input the law returns true, and the input reads as it did. Conditions: the tables and the errors of the libraries that the row lists are as the program's text lays them (the card ties them).
-/
import Derived.Test.YtbohiinkdkoacaaGreatDoorB23
import Derived.Test.YtbohiinkdkoacaaGreatDoorB24
set_option maxRecDepth 20000
set_option linter.all false
set_option maxHeartbeats 1000000
namespace Go.Proofs.YtbohiinkdkoacaaGreatDoor
open Go Go.AM
theorem said5:Rows.KindsErrorsSaid:=
 OpenClaim.holds_of_wide 5 Tryz.f5 rfl rfl rfl rfl rfl rfl rfl ⟨rfl,rfl,rfl,rfl,rfl⟩ rfl rfl rfl rfl rfl (by kernel_rfl) Tryz.func5 jfacts
  (Wn (by kernel_rfl)) (by unfold Func.isWrapper;first|(rw[Vv (by decide+kernel)];kernel_rfl)|(rw[V5 (by decide+kernel)];exact⟨rfl,rfl⟩))
  (λos started H enc _=>U5 os started H enc)
end Go.Proofs.YtbohiinkdkoacaaGreatDoor
