/-
  The facts of the program that the row asks. Conditions: none.
-/
import Derived.Test.YtepckdbdfhpggaaGreatRows
import Derived.SizedLaws
import Derived.JoinedOf
import Derived.KernelRfl
set_option maxRecDepth 20000
set_option linter.all false
set_option maxHeartbeats 1000000
namespace Go.Proofs.YtepckdbdfhpggaaGreat
open Go
theorem jfacts:joinedFacts Tryz.pinned.checked.prog 7 Tryz.f7 Rows.proveLibrarySpec Rows.proveLibraryRow=true:=by kernel_rfl
end Go.Proofs.YtepckdbdfhpggaaGreat
