/-
  Arguments of the laws of kinds: a declaration and a name, a declaration and four numbers.
  Conditions: none beyond those of its parts.
-/
import Derived.Test.YtbngedlokkndkaaGreatDoorB26
import Derived.Test.YtbngedlokkndkaaGreatDoorB23

set_option maxRecDepth 20000
set_option linter.all false
namespace Go.AM
open Go.Lib Go.Proofs
def rdSyB(vs:List Fs)(h:Sy.rd vs):∃s:xz,WD s.nm.length/\Sy.wrap vs=Cb s:=by
 simp only[Sh.rd.eq_5,Sh.rdL]at h;obtain⟨_,_,rfl,⟨nm,rfl,h1⟩,_,_,rfl,⟨v,rfl,_⟩,rfl⟩:=h;exact⟨⟨nm,v⟩,rb h1,rfl⟩
def rdRuB(vs:List Fs)(h:Sz.rd vs):∃r:zj,((∀x∈r.ns,WD x.length)/\∀x∈r.os,WD x.length)/\Sz.wrap vs=Ao r:=by
 simp only[Sh.rd.eq_5,Sh.rdL]at h;obtain⟨_,_,rfl,⟨nm,rfl,h1⟩,_,_,rfl,⟨on,rfl,h2⟩,_,_,rfl,⟨k,rfl,_⟩,_,_,rfl,⟨f,rfl,_⟩,_,_,rfl,h3,_,_,rfl,h4,_,_,rfl,⟨set,rfl,_⟩,_,_,rfl,⟨sU,rfl,_⟩,_,_,rfl,⟨op,rfl,_⟩,_,_,rfl,⟨n,rfl,_⟩,_,_,rfl,⟨b,rfl,h5⟩,_,_,rfl,⟨c,rfl,_⟩,rfl⟩:=h;obtain⟨ns,n1,n2,rfl⟩:=FP cY h3;obtain⟨os,o1,o2,rfl⟩:=FP cY h4;exact⟨⟨nm,on,k,f,ns,os,set,sU,op,n,b,c⟩,⟨n2,o2⟩,rfl⟩
def rdDB(vs:List Fs)(h:gC.rd vs):∃d:x8,((∀s∈d.sI,WD s.nm.length)/\∀r∈d.sC,(∀x∈r.ns,WD x.length)/\∀x∈r.os,WD x.length)/\vs=AL d:=by
 simp only[Sh.rd.eq_5,Sh.rdL]at h;obtain⟨_,_,rfl,⟨nm,rfl,h1⟩,_,_,rfl,⟨v,rfl,_⟩,_,_,rfl,⟨sh,rfl,_⟩,_,_,rfl,⟨w,rfl,_⟩,_,_,rfl,⟨hh,rfl,_⟩,_,_,rfl,h2,_,_,rfl,h3,_,_,rfl,h4,_,_,rfl,h5,_,_,rfl,h6,rfl⟩:=h;obtain⟨ho,rfl⟩:=Yp rdI0 h2;obtain⟨sy,-,s2,rfl⟩:=FP rdSyB h3;obtain⟨rg,-,c2,rfl⟩:=FP rdRg h4;obtain⟨cl,rfl⟩:=Yp rdCl h5;obtain⟨ru,-,e2,rfl⟩:=FP rdRuB h6;exact⟨⟨nm,v,sh,w,hh,ho,sy,rg,cl,ru⟩,⟨s2,e2⟩,rfl⟩
def argDS{av:List Fs}(h:Sh.rdA [gC,.str] av):∃(d:x8) (m:Bs),(¬100<m.length->Ph m d)/\av=[Ba d,.str m]:=by
 simp only[Sh.rdA]at h;obtain⟨_,_,rfl,h1,_,_,rfl,⟨m,rfl,_⟩,rfl⟩:=h;obtain⟨d,⟨b1,b2⟩,e⟩:=rdDB _ h1;have ad:∀{k j:Nat},WD k->¬100<j->k+j<=9223372036854775807:=λh g=>by unfold WD at h;omega
 exact⟨d,m,λg=>⟨λs hs=>ad (b1 s hs) g,λr hr=>⟨λx hx=>ad ((b2 r hr).1 x hx) g,λx hx=>ad ((b2 r hr).2 x hx) g⟩⟩,by rw[e];rfl⟩
end Go.AM
