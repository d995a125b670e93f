/-
  Parts of the proof. Conditions: none.
-/
import Derived.Test.YtbohiinkdkoacaaGreatDoorB18
set_option maxRecDepth 20000
set_option linter.all false
namespace Go.AM
open Go.Lib Go.Proofs Go.Proofs.Tryz
def rn3:Pur prog 84 [.str ex3] (.tup [encD kd3,.int .i64 0,.int .i64 0]):=F5 (ts:=ts0) (by kernel_rfl)
end Go.AM
