/-
  The examples of kinds, by runs: the second source and the fourth.
  Conditions: none beyond those of its parts.
-/
import Derived.Test.YtbngedlokkndkaaGreatDoorB18

set_option maxRecDepth 20000
set_option linter.all false
namespace Go.AM
open Go.Lib Go.Proofs Go.Proofs.Tryz
def rn2:A6 prog 38 [.str na] (.sH [Ba kd2,.int .i64 0,.int .i64 0]):=HZ (ts:=ts0) (by kernel_rfl)
def rn4:A6 prog 38 [.str kA] (.sH [Ba G6,.int .i64 89,.int .i64 150]):=HZ (ts:=ts0) (by kernel_rfl)
end Go.AM
