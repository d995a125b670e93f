/-
  Kinds of puzzles: the statement KindsNames, proved of its card: for every input the law returns true, and the input reads as it did. Conditions: the tables and the errors of the libraries that the row lists are as the program's text lays them (the card ties them).
-/
import Derived.Test.YtbngedlokkndkaaGreatDoorB26
import Derived.Test.YtbngedlokkndkaaGreatDoorB27
import Derived.Test.YtbngedlokkndkaaGreatDoorTie
import Derived.Test.YtbngedlokkndkaaGreatDoorCards
import Derived.SevenTiedAt

set_option maxRecDepth 20000
set_option linter.all false
set_option maxHeartbeats 1000000
namespace Go.Proofs.YtbngedlokkndkaaGreatDoor
open Go Go.AM Go.ChangeShapes Go.WideShapes Go.ChangeAt Go.WideMaps Go.WideElems Go.RowKit
set_option maxRecDepth 100000 in
theorem ck(os:Os)(started:os.Started)(H:Type)(enc:TypeId×Value->H):
  ReturnsInHanded {} Tryz.checked os 5 .any (λw args=>(Rows.kindsNamesSpec.pre enc Tryz.prog Tryz.f5 [] false w args/\laidMetH Tryz.prog Ip w)/\sizedMet enc Tryz.prog Tryz.f5 (OpenSpec.ofChange Rows.kindsNamesSpec) false w args)
   (Rows.kindsNamesSpec.post enc Tryz.prog Tryz.f5 false true false false):=by
 refine returnsInHanded_of_change_and (C:=Tryz.checked) (X:=λw _=>laidMetH Tryz.prog Ip w) (λ_ _ _ hh h=>h.of_heap hh) own started (by kernel_rfl) Tryz.func5
  (ChangeSpec.witness_shaped (enc:=enc) (C:=Tryz.checked) (os:=os) (X:=λw _=>laidMetH Tryz.prog Ip w) false (World.doorLaid Tryz.prog 400 os) #[.agg #[.string ByteArray.empty,.int .i64 0,.int .i64 0,.int .i64 0,.int .i64 0,.slice none 0 0,.slice none 0 0,.slice none 0 0,.slice none 0 0,.slice none 0 0],.string ByteArray.empty] 8 rfl (World.shaped_of_RefB (by kernel_rfl) (by kernel_rfl)) (by kernel_rfl) (by kernel_rfl) (by kernel_rfl) (Mf os _)) ?_
 intro W base args ds gs before hval hW _ hwt hL _
 refine Ol (P:=Tryz.prog) (tb:=4) [gC,.str] hval hW hwt rfl (λds h=>?_) (by kernel_rfl) (by kernel_rfl) Tryz.underlying4 (by kernel_rfl) (by kernel_rfl) (by kernel_rfl) (by kernel_rfl) (Gd hL).1 (Gd hL).2 ?_
 ·match ds,h with
  |[_,_],_=>rfl
 ·intro av h
  obtain⟨d,m,hm,rfl⟩:=argDS h
  exact p5 d m hm
end Go.Proofs.YtbngedlokkndkaaGreatDoor
