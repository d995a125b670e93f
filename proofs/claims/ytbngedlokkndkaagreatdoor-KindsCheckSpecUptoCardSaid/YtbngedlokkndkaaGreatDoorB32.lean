/-
  Kinds of puzzles: the statement KindsCheckSpec, its second form, proved of its card: for every input whose bulk is at most the bound the law returns true, and the input reads as it did. Conditions: the bulk; the tables and the errors of the libraries that the row lists are as the program's text lays them (the card ties them).
-/
import Derived.Test.YtbngedlokkndkaaGreatDoorB30
import Derived.Test.YtbngedlokkndkaaGreatDoorB31
import Derived.ProofKit
import Derived.JoinedCond

set_option maxRecDepth 20000
set_option linter.all false
set_option maxHeartbeats 1000000
namespace Go.Proofs.YtbngedlokkndkaaGreatDoor
open Go Go.AM
theorem said3:Rows.KindsCheckSpecUptoSaid:=
 OpenClaim.holds_of_cond 3 Tryz.f3 rfl rfl rfl rfl rfl rfl rfl ⟨rfl,rfl,rfl,rfl,rfl⟩ rfl rfl rfl rfl rfl (by kernel_rfl) Tryz.func3 Ms
  (pg (by kernel_rfl)) (by unfold Func.isWrapper;first|(rw[oE (by decide+kernel)];kernel_rfl)|(rw[og (by decide+kernel)];exact⟨rfl,rfl⟩))
  (λos started H enc _ F=>by rw[OpenClaim.pre_eq_preRow];exact cg os started H enc F)
end Go.Proofs.YtbngedlokkndkaaGreatDoor
