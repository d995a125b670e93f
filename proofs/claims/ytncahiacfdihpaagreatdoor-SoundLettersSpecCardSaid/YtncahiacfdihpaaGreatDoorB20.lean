/-
  Sound lemmas: the statement SoundLettersSpec, proved of its card: for every input the law returns true, and the input reads as it did. Conditions: the tables and the errors of the libraries that the row lists are as the program's text lays them (the card ties them).
-/
import Derived.Test.YtncahiacfdihpaaGreatDoorB19
import Derived.Test.YtncahiacfdihpaaGreatDoorB18
import Derived.Test.YtncahiacfdihpaaGreatDoorTie
import Derived.Test.YtncahiacfdihpaaGreatDoorCards
import Derived.SevenTiedAt
set_option maxRecDepth 20000
set_option linter.all false
set_option maxHeartbeats 1000000
namespace Go.Proofs.YtncahiacfdihpaaGreatDoor
open Go Go.AM Go.ChangeShapes Go.WideShapes Go.ChangeAt Go.WideMaps Go.WideElems Go.RowKit
set_option maxRecDepth 100000 in
theorem Vq(os:Os)(started:os.Started)(H:Type)(enc:TypeId×Value->H):
  ReturnsInHanded {} Tryz.checked os 3 .any (λw args=>(Rows.soundLettersSpecSpec.pre enc Tryz.prog Tryz.f3 [] false w args/\laidMetH Tryz.prog P6 w)/\sizedMet enc Tryz.prog Tryz.f3 (OpenSpec.ofChange Rows.soundLettersSpecSpec) false w args)
   (Rows.soundLettersSpecSpec.post enc Tryz.prog Tryz.f3 false true false false):=by
 refine returnsInHanded_of_change_and (C:=Tryz.checked) (X:=λw _=>laidMetH Tryz.prog P6 w) (λ_ _ _ hh h=>h.of_heap hh) own started (by kernel_rfl) Tryz.func3
  (ChangeSpec.witness_shaped (enc:=enc) (C:=Tryz.checked) (os:=os) (X:=λw _=>laidMetH Tryz.prog P6 w) false (World.doorLaid Tryz.prog 400 os) #[.agg #[.string ByteArray.empty,.int .i64 0,.int .i64 0,.int .i64 0,.int .i64 0,.slice none 0 0,.slice none 0 0,.slice none 0 0,.slice none 0 0,.slice none 0 0,.int .i64 0,.int .i64 0,.int .i64 0,.slice none 0 0,.slice none 0 0,.slice none 0 0,.slice none 0 0],.int .i64 0,.agg #[.int .i64 0,.slice none 0 0,.slice none 0 0,.int .i64 0],.slice none 0 0,.slice none 0 0] 8 rfl (World.shaped_of_RefB (by kernel_rfl) (by kernel_rfl)) (by kernel_rfl) (by kernel_rfl) (by kernel_rfl) (Sm os _)) ?_
 intro W base args ds gs before hval hW _ hwt hL _
 refine Q8 (P:=Tryz.prog) (tb:=4) [shKn,shI,shQ,shIs,shIs] hval hW hwt rfl (λds h=>?_) (by kernel_rfl) (by kernel_rfl) Tryz.underlying4 (by kernel_rfl) (by kernel_rfl) (by kernel_rfl) (by kernel_rfl) (Mm hL).1 (Mm hL).2 ?_
 ·match ds,h with
  |[_,_,_,_,_],_=>rfl
 ·intro av h
  obtain⟨k,n,q,a,b,hk,rfl⟩:=Nz h
  exact p3 k n q a b hk
end Go.Proofs.YtncahiacfdihpaaGreatDoor
