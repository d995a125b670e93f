/-
  Kinds of puzzles: the statement KindsNames, proved of its card: for every input the law returns true, and the input reads as it did. Conditions: the tables and the errors of the libraries that the row lists are as the program's text lays them (the card ties them).
-/
import Derived.Test.YtbngedlokkndkaaGreatDoorB36
import Derived.Test.YtbngedlokkndkaaGreatDoorB37
import Derived.ProofKit

set_option maxRecDepth 20000
set_option linter.all false
set_option maxHeartbeats 1000000
namespace Go.Proofs.YtbngedlokkndkaaGreatDoor
open Go Go.AM
theorem said5:Rows.KindsNamesSaid:=
 OpenClaim.holds_of_wide 5 Tryz.f5 rfl rfl rfl rfl rfl rfl rfl ⟨rfl,rfl,rfl,rfl,rfl⟩ rfl rfl rfl rfl rfl (by kernel_rfl) Tryz.func5 Ms
  (pg (by kernel_rfl)) (by unfold Func.isWrapper;first|(rw[oE (by decide+kernel)];kernel_rfl)|(rw[og (by decide+kernel)];exact⟨rfl,rfl⟩))
  (λos started H enc _=>ck os started H enc)
end Go.Proofs.YtbngedlokkndkaaGreatDoor
