/-
  Declarations as text: the statement SyntaxPrintSpec, proved of its card: for every input the law returns true, and the input reads as it did. Conditions: the tables and the errors of the libraries that the row lists are as the program's text lays them (the card ties them).
-/
import Derived.Test.YtbliialnfeoodaaGreatDoorB11
import Derived.Test.YtbliialnfeoodaaGreatDoorTie
import Derived.Test.YtbliialnfeoodaaGreatDoorCards
import Derived.SevenTiedAt

section
set_option maxRecDepth 20000
set_option linter.all false
set_option maxHeartbeats 1000000
namespace Go.Proofs.YtbliialnfeoodaaGreatDoor
open Go Go.AM Go.ChangeShapes Go.WideShapes Go.ChangeAt Go.WideMaps Go.WideElems Go.RowKit
set_option maxRecDepth 100000 in
theorem Tv (os:Os) (started:os.Started) (H:Type) (enc:TypeId×Value→H):
  ReturnsInHanded {} Tryz.checked os 4 .any (fun w args=>(Rows.syntaxPrintSpecSpec.pre enc Tryz.prog Tryz.f4 [] false w args∧laidMetH Tryz.prog I9 w)∧sizedMet enc Tryz.prog Tryz.f4 (OpenSpec.ofChange Rows.syntaxPrintSpecSpec) false w args)
   (Rows.syntaxPrintSpecSpec.post enc Tryz.prog Tryz.f4 false true false false):=by
 refine returnsInHanded_of_change_and (C:=Tryz.checked) (X:=fun w _=>laidMetH Tryz.prog I9 w) (fun _ _ _ hh h=>h.of_heap hh) own started (by kernel_rfl) Tryz.func4
  (ChangeSpec.witness_shaped (enc:=enc) (C:=Tryz.checked) (os:=os) (X:=fun w _=>laidMetH Tryz.prog I9 w) false (World.doorLaid Tryz.prog 400 os) #[.agg #[.string ByteArray.empty,.int .i64 0,.int .i64 0,.int .i64 0,.int .i64 0,.slice none 0 0,.slice none 0 0,.slice none 0 0,.slice none 0 0,.slice none 0 0],.agg #[.string ByteArray.empty,.int .i64 0,.int .i64 0,.int .i64 0,.int .i64 0,.slice none 0 0,.slice none 0 0,.slice none 0 0,.slice none 0 0,.slice none 0 0]] 8 rfl (World.shaped_of_RefB (by kernel_rfl) (by kernel_rfl)) (by kernel_rfl) (by kernel_rfl) (by kernel_rfl) (PS os _)) ?_
 intro W base args ds gs before hval hW _ hwt hL _
 refine OE (P:=Tryz.prog) (tb:=4) [shD,shD] hval hW hwt rfl (fun ds h=>?_) (by kernel_rfl) (by kernel_rfl) Tryz.underlying4 (by kernel_rfl) (by kernel_rfl) (by kernel_rfl) (by kernel_rfl) (K1 hL).1 (K1 hL).2 ?_
 ·match ds,h with
  |[_,_],_=>rfl
 ·intro av h
  obtain⟨a,b,rfl⟩:=argDD h
  exact p4 a b
theorem said4:Rows.SyntaxPrintSpecSaid:=
 OpenClaim.holds_of_wide 4 Tryz.f4 rfl rfl rfl rfl rfl rfl rfl ⟨rfl,rfl,rfl,rfl,rfl⟩ rfl rfl rfl rfl rfl (by kernel_rfl) Tryz.func4 (by kernel_rfl)
  (of_decide_eq_true (by kernel_rfl)) (by unfold Func.isWrapper;first|(rw[if_pos (by decide+kernel)];kernel_rfl)|(rw[if_neg (by decide+kernel)];exact⟨rfl,rfl⟩))
  (fun os started H enc _=>Tv os started H enc)
theorem syntaxPrintSpec_holds:Rows.SyntaxPrintSpecCardSaid:=
 Claim7.holds_tied_plain_at .later [] [.data,.data,.data,.sentinel,.sentinel] true (true, "46269e7f97271dfae8c78bf473cdef7b983c906943449b43327f1f053a30a335") true
  said4 (fun _ h=>by cases h) (by kernel_rfl) (fun _ h=>by cases h) syntaxPrintSpec_row_tie rfl ⟨rfl,rfl⟩ (by kernel_rfl) rfl
  (fun f fn hf hfn=>by
   obtain rfl:f=4:=Option.some.inj ((show Tryz.prog.funcNamed Rows.syntaxPrintSpecRow.func=some 4 by kernel_rfl).symm.trans hf)|>.symm
   obtain rfl:fn=Tryz.f4:=(Option.some.inj (Tryz.func4.symm.trans hfn)).symm
   exact⟨by kernel_rfl,fun j t ht=>by
    rw[Tryz.params4]at ht
    have hall:(Tryz.f4.params.toList.all fun u=>!Tryz.prog.wantsStandIn u)=true:=by kernel_rfl
    exact(show Tryz.prog.wantsStandIn t=false by simpa using List.all_eq_true.1 hall t (by rw[Tryz.params4];exact Array.mem_toList_iff.2 (Array.mem_of_getElem? ht)))⟩)
  (by kernel_rfl)
#print axioms syntaxPrintSpec_holds
end Go.Proofs.YtbliialnfeoodaaGreatDoor
end
