/-
  The examples of kinds, by runs: the third source.
  Conditions: none beyond those of its parts.
-/
import Derived.Test.YtbngedlokkndkaaGreatDoorB18

set_option maxRecDepth 20000
set_option linter.all false
namespace Go.AM
open Go.Lib Go.Proofs Go.Proofs.Tryz
def rn3:A6 prog 38 [.str nf] (.sH [Ba kd3,.int .i64 0,.int .i64 0]):=HZ (ts:=ts0) (by kernel_rfl)
end Go.AM
