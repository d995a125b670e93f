/-
  The law, lifted to the row. Conditions: none.
-/
import Derived.Test.YtepckdbdfhpggaaGreatB17
import Derived.ProofKit
set_option maxRecDepth 20000
set_option linter.all false
set_option maxHeartbeats 1000000
namespace Go.Proofs.YtepckdbdfhpggaaGreat
open Go Go.AM Go.ChangeShapes Go.WideShapes Go.ChangeAt Go.WideMaps Go.WideElems Go.RowKit
set_option maxRecDepth 100000 in
theorem W5 (os:Os) (started:os.Started) (H:Type) (enc:TypeId×Value->H):
  ReturnsInHanded {} Tryz.checked os 8 .any (Rows.proveCompleteSpec.pre6 enc Tryz.prog Tryz.f8 Rows.proveCompleteRow.domain false)
   (Rows.proveCompleteSpec.post enc Tryz.prog Tryz.f8 false true false false):=by
 refine returnsInHanded_of_change_sized (C:=Tryz.checked) own started (by kernel_rfl) Tryz.func8
  (ChangeSpec.witness6 (enc:=enc) (C:=Tryz.checked) false ⟨#[], #[.agg #[.string ByteArray.empty,.int .i64 0,.int .i64 0,.int .i64 0,.int .i64 0,.slice none 0 0,.slice none 0 0,.slice none 0 0,.slice none 0 0,.slice none 0 0,.int .i64 0,.int .i64 0,.int .i64 0,.slice none 0 0,.slice none 0 0,.slice none 0 0,.slice none 0 0],.agg #[.string ByteArray.empty,.int .i64 0,.slice none 0 0,.slice none 0 0,.slice none 0 0,.slice none 0 0,.int .i64 0,.int .i64 0]],[]⟩ 8 (by kernel_rfl) (by kernel_rfl) (by kernel_rfl) (by kernel_rfl)) ?_
 intro W base args ds gs before hval hW _ hwt _
 refine Q2 (P:=Tryz.prog) (tb:=4) [shKn,shX] hval hW hwt rfl (λds h=>?_) (by kernel_rfl) (by kernel_rfl) Tryz.underlying4 (by kernel_rfl) (by kernel_rfl) (by kernel_rfl) (by kernel_rfl) (Mp W).1 (Mp W).2 ?_
 ·match ds,h with
  |[_,_],_=>rfl
 ·intro av h
  obtain⟨k,x,hk,rfl⟩:=argKX h
  exact p8 k x hk
end Go.Proofs.YtepckdbdfhpggaaGreat
