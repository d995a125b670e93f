/-
  Parts of the proof. Conditions: none.
-/
import Derived.Test.YtncahiacfdihpaaGreatDoorB15
import Derived.Test.YtncahiacfdihpaaGreatDoorRows
import Derived.LaidLaws
set_option maxRecDepth 20000
set_option linter.all false
namespace Go.AM
open Go.ChangeAt Go.ChangeShapes Go.Lib Go.Proofs Go.RowKit Go.WideElems Go.WideMaps Go.WideShapes Go.Proofs.Tryz
section
def own:ownKnob prog.godebug=none:=by kernel_rfl
abbrev P6:List (String×DataW Unit):=Go.Proofs.YtncahiacfdihpaaGreatDoor.Rows.soundSpecRow.laid
def Sm(os:Os)(args:Array Value):laidMetH prog P6 ((World.doorLaid prog 400 os).forCall (λ_ _=>0) ⟨#[],args,[]⟩).memory:=
 laidMetH_of_parts3 (fuel:=8) (laidMet_of_run' 8 (by kernel_rfl) (by kernel_rfl)) (by kernel_rfl) (by kernel_rfl)
def Mm{W:World}(h:laidMetH prog P6 W):Dl (gW W)/\Fv W:=⟨(λi cs hi=>(by cases hi)),(λi cs hi=>(by cases hi))⟩
abbrev big(n:Nat):Prop:=n<=140737488355328
variable {α:Type}
theorem DU{l:List α}(h:big l.length):wide l:=by show l.length<_;omega
abbrev shI:Sh:=.int .i64
abbrev shIs:Sh:=.sl (.int .i64)
abbrev shSy:Sh:=.st [.str,.int .i64]
abbrev shRg:Sh:=.st [.str,.sl shIs]
abbrev shCl:Sh:=.st [.str,.str,.int .i64,.int .i64,.int .i64,.int .i64]
abbrev shRu:Sh:=.st [.str,.str,.int .i64,.int .i64,.sl .str,.sl .str,.int .i64,.int .i64,.int .i64,.int .i64,.str,.int .i64]
abbrev shD:Sh:=.st [.str,.int .i64,.int .i64,.int .i64,.int .i64,shIs,.sl shSy,.sl shRg,.sl shCl,.sl shRu]
abbrev shGr:Sh:=.st [.int .i64,.int .i64,.int .i64,shIs,shIs]
abbrev shKn:Sh:=.st [shD,shGr,.sl shIs,.sl (.sl shIs)]
abbrev shQ:Sh:=.st [.int .i64,shIs,shIs,.int .i64]
theorem rb{n:Nat}(h:n<=reachBytes):big n:=Xb h zd
theorem EF{e:Sh}{enc:α->Fs}{Q:α->Prop}(he:∀vs,e.rd vs->∃a,Q a/\e.wrap vs=enc a){av:List Fs}(h:(Sh.sl e).rd av):∃l:List α,big l.length/\(∀x∈l,Q x)/\av=[.sl (.none e.size) (l.map enc)]:=by
 simp only[Sh.rd]at h;obtain⟨l,rfl,m9,h⟩:=h
 suffices ∃m:List α,m.length=l.length/\(∀x∈m,Q x)/\l.map e.wrap=m.map enc by
  obtain⟨m,hm,hq,u0⟩:=this;exact⟨m,by rw[hm];exact rb m9,hq,by rw[u0]⟩
 clear m9;induction l with
 |nil=>exact⟨[],rfl,(λx hx=>by cases hx),rfl⟩
 |cons x l ih=>
  obtain⟨m,h1,h2,h3⟩:=ih λy hy=>h y (by simp [hy])
  obtain⟨a,hq,ha⟩:=he x (h x zw);exact⟨a::m,by simp [h1],λy hy=>by
   rcases X7.1 hy with rfl|hy
   ·exact hq
   ·exact h2 y hy,by rw[Wu,Wu,h3,ha]⟩
theorem rdI'(vs:List Fs)(h:(Sh.int .i64).rd vs):∃n:Int,True/\(Sh.int .i64).wrap vs=eI n:=by
 obtain⟨n,rfl,_⟩:=h;exact⟨n,trivial,rfl⟩
theorem rdS'(vs:List Fs)(h:Sh.str.rd vs):∃s:Bs,big s.length/\Sh.str.wrap vs= .str s:=by
 obtain⟨s,rfl,hs⟩:=h;exact⟨s,rb hs,rfl⟩
theorem rdIs'(vs:List Fs)(h:(Sh.sl (.int .i64)).rd vs):∃l:List Int,big l.length/\(Sh.sl (.int .i64)).wrap vs=eIs l:=by
 obtain⟨l,h1,-,rfl⟩:=EF rdI' h;exact⟨l,h1,rfl⟩
theorem rdM0{e:Sh}{enc:α->Fs}(he:∀vs,e.rd vs->∃a,e.wrap vs=enc a){av:List Fs}(h:(Sh.sl e).rd av):∃l:List α,av=[.sl (.none e.size) (l.map enc)]:=by
 obtain⟨l,-,-,h⟩:=EF (Q:=λ_=>True) (λvs h=>by obtain⟨a,ha⟩:=he vs h;exact⟨a,trivial,ha⟩) h;exact⟨l,h⟩
theorem rdI0(vs:List Fs)(h:(Sh.int .i64).rd vs):∃n:Int,(Sh.int .i64).wrap vs=eI n:=by
 obtain⟨n,-,h⟩:=rdI' vs h;exact⟨n,h⟩
theorem P7(vs:List Fs)(h:(Sh.sl (.int .i64)).rd vs):∃l:List Int,wide l/\(Sh.sl (.int .i64)).wrap vs=eIs l:=by
 obtain⟨l,h1,h2⟩:=rdIs' vs h;exact⟨l,DU h1,h2⟩
theorem rdLlW(vs:List Fs)(h:(Sh.sl (.sl (.int .i64))).rd vs):∃l:List (List Int),(wide l/\∀m∈l,wide m)/\(Sh.sl (.sl (.int .i64))).wrap vs=eLl l:=by
 obtain⟨l,h1,h2,rfl⟩:=EF P7 h;exact⟨l,⟨DU h1,h2⟩,rfl⟩
theorem rdSy(vs:List Fs)(h:shSy.rd vs):∃s:Zq,shSy.wrap vs=IB s:=by
 simp only[Sh.rd.eq_5,Sh.rdL]at h;obtain⟨_,_,rfl,⟨nm,rfl,h1⟩,_,_,rfl,⟨v,rfl,_⟩,rfl⟩:=h;exact⟨⟨nm,v⟩,rfl⟩
theorem rdRg(vs:List Fs)(h:shRg.rd vs):∃r:Zl,(∀l∈r.ls,wide l)/\shRg.wrap vs=Fg r:=by
 simp only[Sh.rd.eq_5,Sh.rdL]at h;obtain⟨_,_,rfl,⟨nm,rfl,h1⟩,_,_,rfl,h2,rfl⟩:=h;obtain⟨ls,-,l2,rfl⟩:=EF P7 h2;exact⟨⟨nm,ls⟩,l2,rfl⟩
theorem rdCl(vs:List Fs)(h:shCl.rd vs):∃c:Zj,shCl.wrap vs=B7 c:=by
 simp only[Sh.rd.eq_5,Sh.rdL]at h;obtain⟨_,_,rfl,⟨nm,rfl,h1⟩,_,_,rfl,⟨on,rfl,h2⟩,_,_,rfl,⟨a,rfl,_⟩,_,_,rfl,⟨b,rfl,_⟩,_,_,rfl,⟨c,rfl,_⟩,_,_,rfl,⟨d,rfl,_⟩,rfl⟩:=h;exact⟨⟨nm,on,a,b,c,d⟩,rfl⟩
theorem rdRu(vs:List Fs)(h:shRu.rd vs):∃r:Zf,(wide r.ns/\wide r.os)/\shRu.wrap vs=BT r:=by
 simp only[Sh.rd.eq_5,Sh.rdL]at h;obtain⟨_,_,rfl,⟨nm,rfl,h1⟩,_,_,rfl,⟨on,rfl,h2⟩,_,_,rfl,⟨k,rfl,_⟩,_,_,rfl,⟨f,rfl,_⟩,_,_,rfl,h3,_,_,rfl,h4,_,_,rfl,⟨set,rfl,_⟩,_,_,rfl,⟨oth,rfl,_⟩,_,_,rfl,⟨op,rfl,_⟩,_,_,rfl,⟨n,rfl,_⟩,_,_,rfl,⟨b,rfl,h5⟩,_,_,rfl,⟨c,rfl,_⟩,rfl⟩:=h;obtain⟨ns,n1,n2,rfl⟩:=EF rdS' h3;obtain⟨os,o1,o2,rfl⟩:=EF rdS' h4;exact⟨⟨nm,on,k,f,ns,os,set,oth,op,n,b,c⟩,⟨DU n1,DU o1⟩,rfl⟩
theorem rdD(vs:List Fs)(h:shD.rd vs):∃d:Zo,((∀r∈d.regs,∀l∈r.ls,wide l)/\∀r∈d.ruls,wide r.ns/\wide r.os)/\vs=AH d:=by
 simp only[Sh.rd.eq_5,Sh.rdL]at h;obtain⟨_,_,rfl,⟨nm,rfl,h1⟩,_,_,rfl,⟨v,rfl,_⟩,_,_,rfl,⟨sh,rfl,_⟩,_,_,rfl,⟨w,rfl,_⟩,_,_,rfl,⟨hh,rfl,_⟩,_,_,rfl,h2,_,_,rfl,h3,_,_,rfl,h4,_,_,rfl,h5,_,_,rfl,h6,rfl⟩:=h;obtain⟨ho,rfl⟩:=rdM0 rdI0 h2;obtain⟨sy,rfl⟩:=rdM0 rdSy h3;obtain⟨rg,-,c2,rfl⟩:=EF rdRg h4;obtain⟨cl,rfl⟩:=rdM0 rdCl h5;obtain⟨ru,-,e2,rfl⟩:=EF rdRu h6;exact⟨⟨nm,v,sh,w,hh,ho,sy,rg,cl,ru⟩,⟨c2,e2⟩,rfl⟩
theorem rdGr(vs:List Fs)(h:shGr.rd vs):∃g:Zs,vs=AD g.sh g.w g.h g.holes g.cells:=by
 simp only[Sh.rd.eq_5,Sh.rdL]at h;obtain⟨_,_,rfl,⟨sh,rfl,_⟩,_,_,rfl,⟨w,rfl,_⟩,_,_,rfl,⟨hh,rfl,_⟩,_,_,rfl,h2,_,_,rfl,h3,rfl⟩:=h;obtain⟨ho,rfl⟩:=rdM0 rdI0 h2;obtain⟨ce,rfl⟩:=rdM0 rdI0 h3;exact⟨⟨sh,w,hh,ho,ce⟩,rfl⟩
theorem rdKn(vs:List Fs)(h:shKn.rd vs):∃k:Zm,WdS k/\shKn.wrap vs=Bh k:=by
 rw[Sh.rd.eq_5]at h;simp only[Sh.rdL]at h;obtain⟨_,_,rfl,h1,_,_,rfl,h2,_,_,rfl,h3,_,_,rfl,h4,rfl⟩:=h;obtain⟨d,⟨w1,w2⟩,rfl⟩:=rdD _ h1;obtain⟨g,rfl⟩:=rdGr _ h2;obtain⟨nb,n1,w3,rfl⟩:=EF P7 h3;obtain⟨ls,n2,w4,rfl⟩:=EF rdLlW h4;exact⟨⟨d,g,nb,ls⟩,⟨⟨DU n1,w3⟩,DU n2,w4⟩,rfl⟩
theorem rdQ(vs:List Fs)(h:shQ.rd vs):∃q:Cnd,(wide q.cs/\wide q.ls)/\shQ.wrap vs=encQ q:=by
 simp only[Sh.rd.eq_5,Sh.rdL]at h;obtain⟨_,_,rfl,⟨k,rfl,_⟩,_,_,rfl,h1,_,_,rfl,h2,_,_,rfl,⟨n,rfl,_⟩,rfl⟩:=h;obtain⟨cs,c1,-,rfl⟩:=EF rdI' h1;obtain⟨ls,l1,-,rfl⟩:=EF rdI' h2;exact⟨⟨k,cs,ls,n⟩,⟨DU c1,DU l1⟩,rfl⟩
end
section
variable {av:List Fs}
theorem Nz(h:Sh.rdA [shKn,shI,shQ,shIs,shIs] av):∃(k:Zm) (n:Int) (q:Cnd) (a b:List Int),WdS k/\av=[Bh k,.int .i64 n,encQ q,eIs a,eIs b]:=by
 simp only[Sh.rdA]at h;obtain⟨_,_,rfl,h1,_,_,rfl,⟨n,rfl,_⟩,_,_,rfl,h2,_,_,rfl,h3,_,_,rfl,h4,rfl⟩:=h;obtain⟨k,hk,e1⟩:=rdKn _ h1;obtain⟨q,-,e2⟩:=rdQ _ h2;obtain⟨a,-,e3⟩:=P7 _ h3;obtain⟨b,-,e4⟩:=P7 _ h4;exact⟨k,n,q,a,b,hk,by rw[e1,e2,e3,e4];rfl⟩
end
end Go.AM
