/-
  Proofs of lemmas: the statement ProveSpec: for every input the law returns true, and the input reads as it did. Conditions: none.
-/
import Derived.Test.YtabcmhkkohbdeaaGreatB17
set_option maxRecDepth 20000
set_option linter.all false
set_option maxHeartbeats 1000000
namespace Go.Proofs.YtabcmhkkohbdeaaGreat
open Go Go.AM Go.ChangeShapes Go.WideShapes Go.ChangeAt Go.WideMaps Go.WideElems Go.RowKit
set_option maxRecDepth 100000 in
theorem fj(os:Os)(started:os.Started)(H:Type)(enc:TypeId×Value->H):
  ReturnsInHanded {} Tryz.checked os 3 .any (Rows.proveSpecSpec.pre6 enc Tryz.prog Tryz.f3 Rows.proveSpecRow.domain false)
   (Rows.proveSpecSpec.post enc Tryz.prog Tryz.f3 false true false false):=by
 refine returnsInHanded_of_change_sized (C:=Tryz.checked) own started (by kernel_rfl) Tryz.func3
  (ChangeSpec.witness6 (enc:=enc) (C:=Tryz.checked) false ⟨#[], #[.agg #[.string ByteArray.empty,.int .i64 0,.int .i64 0,.int .i64 0,.int .i64 0,.slice none 0 0,.slice none 0 0,.slice none 0 0,.slice none 0 0,.slice none 0 0,.int .i64 0,.int .i64 0,.int .i64 0,.slice none 0 0,.slice none 0 0,.slice none 0 0,.slice none 0 0],.agg #[.string ByteArray.empty,.int .i64 0,.slice none 0 0,.slice none 0 0,.slice none 0 0,.slice none 0 0,.int .i64 0,.int .i64 0]],[]⟩ 8 (by kernel_rfl) (by kernel_rfl) (by kernel_rfl) (by kernel_rfl)) ?_
 intro W base args ds gs before hval hW _ hwt _
 refine YJ (P:=Tryz.prog) (tb:=4) [fi,shX] hval hW hwt rfl (λds h=>?_) (by kernel_rfl) (by kernel_rfl) Tryz.underlying4 (by kernel_rfl) (by kernel_rfl) (by kernel_rfl) (by kernel_rfl) (SP W).1 (SP W).2 ?_
 ·match ds,h with
  |[_,_],_=>rfl
 ·intro av h
  obtain⟨k,x,hk,rfl⟩:=argKX h
  exact p3 k x hk
end Go.Proofs.YtabcmhkkohbdeaaGreat
