/-
  The law, lifted to the row. Conditions: none.
-/
import Derived.Test.YtepckdbdfhpggaaGreatB17
import Derived.ProofKit
set_option maxRecDepth 20000
set_option linter.all false
set_option maxHeartbeats 1000000
namespace Go.Proofs.YtepckdbdfhpggaaGreat
open Go Go.AM Go.ChangeShapes Go.WideShapes Go.ChangeAt Go.WideMaps Go.WideElems Go.RowKit
set_option maxRecDepth 100000 in
theorem XJ (os:Os) (started:os.Started) (H:Type) (enc:TypeId×Value->H):
  ReturnsInHanded {} Tryz.checked os 7 .any (Rows.proveLibrarySpec.pre6 enc Tryz.prog Tryz.f7 Rows.proveLibraryRow.domain false)
   (Rows.proveLibrarySpec.post enc Tryz.prog Tryz.f7 false true false false):=by
 refine returnsInHanded_of_change_sized (C:=Tryz.checked) own started (by kernel_rfl) Tryz.func7
  (ChangeSpec.witness6 (enc:=enc) (C:=Tryz.checked) false ⟨#[], #[.agg #[.string ByteArray.empty,.int .i64 0,.int .i64 0,.int .i64 0,.int .i64 0,.slice none 0 0,.slice none 0 0,.slice none 0 0,.slice none 0 0,.slice none 0 0,.int .i64 0,.int .i64 0,.int .i64 0,.slice none 0 0,.slice none 0 0,.slice none 0 0,.slice none 0 0],.agg #[.slice none 0 0,.slice none 0 0],.agg #[.string ByteArray.empty,.int .i64 0,.slice none 0 0,.slice none 0 0,.slice none 0 0,.slice none 0 0,.int .i64 0,.int .i64 0],.int .i64 0],[]⟩ 8 (by kernel_rfl) (by kernel_rfl) (by kernel_rfl) (by kernel_rfl)) ?_
 intro W base args ds gs before hval hW _ hwt _
 refine RI (P:=Tryz.prog) (tb:=4) [shKn,shLb,shX,.int .i64] hval hW hwt rfl (λds h=>?_) (by kernel_rfl) (by kernel_rfl) Tryz.underlying4 (by kernel_rfl) (by kernel_rfl) (by kernel_rfl) (by kernel_rfl) (Mx W).1 (Mx W).2 ?_
 ·match ds,h with
  |[_,_,_,_],_=>rfl
 ·intro av h
  obtain⟨k,l,x,n,hk,rfl⟩:=V7 h
  exact p7 k l x n hk
end Go.Proofs.YtepckdbdfhpggaaGreat
