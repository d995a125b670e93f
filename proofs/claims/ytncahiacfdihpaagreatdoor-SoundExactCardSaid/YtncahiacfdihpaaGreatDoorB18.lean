/-
  Sound: from the rows to the abstract machine · Sound: from the rows to the abstract machine: proofs, numbers, lists of n.
  Conditions: none beyond those of its parts.
-/
import Derived.Test.YtncahiacfdihpaaGreatDoorB15
import Derived.Test.YtncahiacfdihpaaGreatDoorRows
import Derived.SizedLaws
import Derived.LaidLaws

set_option maxRecDepth 20000
set_option linter.all false
namespace Go.AM
open Go.Proofs Go.Lib Go.ChangeShapes Go.WideShapes Go.ChangeAt Go.WideMaps Go.WideElems Go.RowKit
theorem own:ownKnob Tryz.prog.godebug=none:=by kernel_rfl
abbrev JQ:List (String×DataW Unit):=Go.Proofs.YtncahiacfdihpaaGreatDoor.Rows.soundSpecRow.laid
theorem gPow:Tryz.prog.globalNamed ((JQ[2]?.map (·.1)).getD "")=some 3:=by kernel_rfl
theorem gRng:Tryz.prog.globalNamed ((JQ[3]?.map (·.1)).getD "")=some 2:=by kernel_rfl
theorem gSyn:Tryz.prog.globalNamed ((JQ[4]?.map (·.1)).getD "")=some 1:=by kernel_rfl
theorem RH(os:Os)(args:Array Value):laidMetH Tryz.prog JQ ((World.doorLaid Tryz.prog 400 os).forCall (λ_ _=>0) ⟨#[],args,[]⟩).memory:=
 laidMetH_of_parts3 (fuel:=8) (laidMet_of_run' 8 (by kernel_rfl) (by kernel_rfl)) (by kernel_rfl) (by kernel_rfl)
theorem starE: "*" ++ "errors.errorString" = "*errors.errorString" :=by decide
theorem row159(u:TypeId)(h:Tryz.prog.typeName? 3 u=some "*errors.errorString"):u=328:=
 typeName_ptr_named (nm:= "errors.errorString") (by rw[starE];kernel_rfl) (by kernel_rfl) (by decide) u (by rw[starE];exact h)
theorem Tz{W:World}{a:Addr}(h:Value.okWide Tryz.prog W .any 0 328 (.pointer (some a))):a.spot=none:=by
 unfold Value.okWide at h
 simp only[Tryz.underlying328]at h
 unfold Cell.okWide at h
 simp only[Tryz.underlying328,Cell.ok]at h
 exact h.2.1
def T0:List Int:=[1,10,100,1000,10000,100000,1000000,10000000,100000000,1000000000,10000000000,100000000000,1000000000000,10000000000000,100000000000000,1000000000000000,10000000000000000,100000000000000000,1000000000000000000,10000000000000000000]
theorem JR{W:World}{gi fuel:Nat}{cs:Array Value}{text:List UInt8}{p:List MemPlace}{nm:String}(hnm:nm= "*errors.errorString")(hcell:∀off,W.cell? ⟨gi,off,none⟩=cs[off]?)
  (h:DataW.trod (λ_=>()) Tryz.prog W 0 (λ_=>true) false fuel 213 cs.toList=some (.iface nm (.ptr (.agg [.lit (.string text)])),p))
  (hok:∀u v,cs.toList=[.iface u v]->Value.okWide Tryz.prog W .any 0 u v):PStab (gW W) ((gW W).σ gi) 0 [.ifc 328 (.ep [.str text])]/\cs.size=1:=by
 subst hnm
 obtain⟨a,s,e1,e2,e3,_,_⟩:=errorString_of_trod Tryz.underlying213 row159 Tryz.underlying328 Tryz.underlying330 rfl rfl Tryz.underlying9 (by kernel_rfl) (by kernel_rfl) h hok
 have hsp:=Tz (hok _ _ e1)
 obtain⟨b,o,sp⟩:=a
 have hsp':sp=none:=hsp
 subst hsp'
 have hc0:cs[0]?=some (.iface 328 (.pointer (some ⟨b,o,none⟩))):=by
  rw[<-VT,e1];rfl
 refine⟨⟨⟨_,(hcell 0).trans hc0,⟨_,rfl,b,o,rfl,⟨_,e2,?_,rfl⟩,trivial⟩,rfl⟩,trivial⟩,by rw[<-Vx,e1];rfl⟩
 show Value.string s=Value.string ⟨text.toArray⟩
 rw[<-e3]
theorem GK{W:World}{n:String}{g:Nat}{cs:Array Value}(hg:Tryz.prog.globalNamed n=some g)(h:W.var? Tryz.prog n=some cs):∃e fz,W.heap[g]?=some (.cells cs e fz):=by
 simp only[World.var?,hg,Option.bind_some]at h
 split at h
 ·rename_i c e fz hh
  cases h;exact⟨e,fz,hh⟩
 ·cases h
theorem Ls{W:World}(h:laidMetH Tryz.prog JQ W):C1 (gW W)/\E7 W:=by
 rw[MakeChecks.laidMetH_plain _ _ _ (by kernel_rfl)]at h
 obtain⟨ps,⟨g0,t0,cs0,f0,p0,q0,hg0,ht0,hv0,hd0,⟨g1,t1,cs1,f1,p1,q1,hg1,ht1,hv1,hd1,⟨g2,t2,cs2,f2,p2,q2,hg2,ht2,hv2,hd2,⟨g3,t3,cs3,f3,p3,q3,hg3,ht3,hv3,hd3,⟨g4,t4,cs4,f4,p4,q4,hg4,ht4,hv4,hd4,z4,w4⟩,w3⟩,w2⟩,w1⟩,w0⟩,hnd,hrows⟩:=h
 obtain rfl:=Option.some.inj (gPow.symm.trans hg2)
 obtain rfl:=Option.some.inj (gRng.symm.trans hg3)
 obtain rfl:=Option.some.inj (gSyn.symm.trans hg4)
 obtain rfl:=Option.some.inj ((show(Tryz.prog.globals[3]?).map (·.type)=some 332 by kernel_rfl).symm.trans ht2)
 obtain rfl:=Option.some.inj ((show(Tryz.prog.globals[2]?).map (·.type)=some 213 by kernel_rfl).symm.trans ht3)
 obtain rfl:=Option.some.inj ((show(Tryz.prog.globals[1]?).map (·.type)=some 213 by kernel_rfl).symm.trans ht4)
 have c2:=λoff=>World.var?_cell hg2 hv2 off
 have c3:=λoff=>World.var?_cell hg3 hv3 off
 have c4:=λoff=>World.var?_cell hg4 hv4 off
 have ok3:∀u v,cs3.toList=[.iface u v]->Value.okWide Tryz.prog W .any 0 u v:=λu v e=>by
  have hs:cs3.size=1:=by rw[<-Vx,e];rfl
  refine(hrows 2 0 (by rw[w0,w1,w2,w3,hs];simp [MemPlace.row])).2 u v ?_
  rw[c3 0,<-VT,e];rfl
 have ok4:∀u v,cs4.toList=[.iface u v]->Value.okWide Tryz.prog W .any 0 u v:=λu v e=>by
  have hs:cs4.size=1:=by rw[<-Vx,e];rfl
  refine(hrows 1 0 (by rw[w0,w1,w2,w3,w4,hs];simp [MemPlace.row])).2 u v ?_
  rw[c4 0,<-VT,e];rfl
 obtain⟨s3,z3⟩:=JR rfl c3 hd3 ok3
 obtain⟨s4,z4'⟩:=JR rfl c4 hd4 ok4
 have s2:PStab (gW W) ((gW W).σ 3) 0 (T0.map (.int .u64)):=LG (ns:=T0) Tryz.underlying332 Tryz.underlying306 (by kernel_rfl) c2 hd2
 have z2:cs2.size=20:=by
  have:=Go.Lib.cells_of_tab (zs:=T0) (k:=.u64) Tryz.underlying332 Tryz.underlying306 (by kernel_rfl) (by kernel_rfl) hd2
  rw[<-Vx,this];rfl
 constructor
 ·intro i cs hi
  match i,hi with
  |1,hi=>obtain rfl:=Option.some.inj hi;exact s4
  |2,hi=>obtain rfl:=Option.some.inj hi;exact s3
  |3,hi=>obtain rfl:=Option.some.inj hi;exact s2
 ·intro i cs hi
  match i,hi with
  |1,hi=>obtain rfl:=Option.some.inj hi;obtain⟨e,fz,k⟩:=GK hg4 hv4;exact⟨_,_,_,k,z4'⟩
  |2,hi=>obtain rfl:=Option.some.inj hi;obtain⟨e,fz,k⟩:=GK hg3 hv3;exact⟨_,_,_,k,z3⟩
  |3,hi=>obtain rfl:=Option.some.inj hi;obtain⟨e,fz,k⟩:=GK hg2 hv2;exact⟨_,_,_,k,z2⟩
abbrev big(n:Nat):Prop:=n<=140737488355328
theorem B6{α:Type}{l:List α}(h:big l.length):wide l:=by show l.length<_;omega
abbrev shI:Sh:=.int .i64
abbrev shIs:Sh:=.sl (.int .i64)
abbrev shSy:Sh:=.st [.str,.int .i64]
abbrev shRg:Sh:=.st [.str,.sl shIs]
abbrev shCl:Sh:=.st [.str,.str,.int .i64,.int .i64,.int .i64,.int .i64]
abbrev shRu:Sh:=.st [.str,.str,.int .i64,.int .i64,.sl .str,.sl .str,.int .i64,.int .i64,.int .i64,.int .i64,.str,.int .i64]
abbrev shD:Sh:=.st [.str,.int .i64,.int .i64,.int .i64,.int .i64,shIs,.sl shSy,.sl shRg,.sl shCl,.sl shRu]
abbrev shGr:Sh:=.st [.int .i64,.int .i64,.int .i64,shIs,shIs]
abbrev shKn:Sh:=.st [shD,shGr,.sl shIs,.sl (.sl shIs)]
abbrev shQ:Sh:=.st [.int .i64,shIs,shIs,.int .i64]
abbrev shM:Sh:=.st [.int .i64,shIs]
abbrev shX:Sh:=.st [.str,.int .i64,.sl .str,.sl .str,.sl shQ,.sl shM,.int .i64,.int .i64]
abbrev shCa:Sh:=.st [.int .i64,.int .i64]
abbrev shPf:Sh:=.st [.sl (.sl shCa)]
theorem rb{n:Nat}(h:n<=reachBytes):big n:=W1 h (by decide)
theorem Cl{e:Sh}{α:Type}{enc:α->AVal}{Q:α->Prop}(he:∀vs,e.rd vs->∃a,Q a/\e.wrap vs=enc a){av:List AVal}(h:(Sh.sl e).rd av):∃l:List α,big l.length/\(∀x∈l,Q x)/\av=[.sl (.none e.size) (l.map enc)]:=by
 simp only[Sh.rd]at h
 obtain⟨l,rfl,hln,h⟩:=h
 suffices ∃m:List α,m.length=l.length/\(∀x∈m,Q x)/\l.map e.wrap=m.map enc by
  obtain⟨m,hm,hq,hm2⟩:=this
  exact⟨m,by rw[hm];exact rb hln,hq,by rw[hm2]⟩
 clear hln
 induction l with
 |nil=>exact⟨[],rfl,(λx hx=>by cases hx),rfl⟩
 |cons x l ih=>
  obtain⟨m,h1,h2,h3⟩:=ih λy hy=>h y (by simp [hy])
  obtain⟨a,hq,ha⟩:=he x (h x (by simp))
  exact⟨a::m,by simp [h1],λy hy=>by
   rcases Vz.1 hy with rfl|hy
   ·exact hq
   ·exact h2 y hy,by rw[Vs,Vs,h3,ha]⟩
theorem rdI'(vs:List AVal)(h:(Sh.int .i64).rd vs):∃n:Int,True/\(Sh.int .i64).wrap vs=eI n:=by
 obtain⟨n,rfl,_⟩:=h
 exact⟨n,trivial,rfl⟩
theorem rdS'(vs:List AVal)(h:Sh.str.rd vs):∃s:Bs,big s.length/\Sh.str.wrap vs= .str s:=by
 obtain⟨s,rfl,hs⟩:=h
 exact⟨s,rb hs,rfl⟩
theorem rdIs'(vs:List AVal)(h:(Sh.sl (.int .i64)).rd vs):∃l:List Int,big l.length/\(Sh.sl (.int .i64)).wrap vs=eIs l:=by
 obtain⟨l,h1,-,rfl⟩:=Cl rdI' h
 exact⟨l,h1,rfl⟩
theorem rdM0{e:Sh}{α:Type}{enc:α->AVal}(he:∀vs,e.rd vs->∃a,e.wrap vs=enc a){av:List AVal}(h:(Sh.sl e).rd av):∃l:List α,av=[.sl (.none e.size) (l.map enc)]:=by
 obtain⟨l,-,-,h⟩:=Cl (Q:=λ_=>True) (λvs h=>by obtain⟨a,ha⟩:=he vs h;exact⟨a,trivial,ha⟩) h
 exact⟨l,h⟩
theorem rdI0(vs:List AVal)(h:(Sh.int .i64).rd vs):∃n:Int,(Sh.int .i64).wrap vs=eI n:=by
 obtain⟨n,-,h⟩:=rdI' vs h
 exact⟨n,h⟩
theorem rdS0(vs:List AVal)(h:Sh.str.rd vs):∃s:Bs,Sh.str.wrap vs= .str s:=by
 obtain⟨n,-,h⟩:=rdS' vs h
 exact⟨n,h⟩
theorem T5(vs:List AVal)(h:(Sh.sl (.int .i64)).rd vs):∃l:List Int,wide l/\(Sh.sl (.int .i64)).wrap vs=eIs l:=by
 obtain⟨l,h1,h2⟩:=rdIs' vs h
 exact⟨l,B6 h1,h2⟩
theorem rdLlW(vs:List AVal)(h:(Sh.sl (.sl (.int .i64))).rd vs):∃l:List (List Int),(wide l/\∀m∈l,wide m)/\(Sh.sl (.sl (.int .i64))).wrap vs=eLl l:=by
 obtain⟨l,h1,h2,rfl⟩:=Cl T5 h
 exact⟨l,⟨B6 h1,h2⟩,rfl⟩
theorem rdSy(vs:List AVal)(h:shSy.rd vs):∃s:DSym,shSy.wrap vs=HJ s:=by
 simp only[Sh.rd.eq_5,Sh.rdL]at h
 obtain⟨_,_,rfl,⟨nm,rfl,h1⟩,_,_,rfl,⟨v,rfl,_⟩,rfl⟩:=h
 exact⟨⟨nm,v⟩,rfl⟩
theorem rdRg(vs:List AVal)(h:shRg.rd vs):∃r:DReg,(∀l∈r.ls,wide l)/\shRg.wrap vs=Ft r:=by
 simp only[Sh.rd.eq_5,Sh.rdL]at h
 obtain⟨_,_,rfl,⟨nm,rfl,h1⟩,_,_,rfl,h2,rfl⟩:=h
 obtain⟨ls,-,l2,rfl⟩:=Cl T5 h2
 exact⟨⟨nm,ls⟩,l2,rfl⟩
theorem rdCl(vs:List AVal)(h:shCl.rd vs):∃c:DClu,shCl.wrap vs=Bn c:=by
 simp only[Sh.rd.eq_5,Sh.rdL]at h
 obtain⟨_,_,rfl,⟨nm,rfl,h1⟩,_,_,rfl,⟨on,rfl,h2⟩,_,_,rfl,⟨a,rfl,_⟩,_,_,rfl,⟨b,rfl,_⟩,_,_,rfl,⟨c,rfl,_⟩,_,_,rfl,⟨d,rfl,_⟩,rfl⟩:=h
 exact⟨⟨nm,on,a,b,c,d⟩,rfl⟩
theorem rdRu(vs:List AVal)(h:shRu.rd vs):∃r:DRul,(wide r.ns/\wide r.os)/\shRu.wrap vs=BX r:=by
 simp only[Sh.rd.eq_5,Sh.rdL]at h
 obtain⟨_,_,rfl,⟨nm,rfl,h1⟩,_,_,rfl,⟨on,rfl,h2⟩,_,_,rfl,⟨k,rfl,_⟩,_,_,rfl,⟨f,rfl,_⟩,_,_,rfl,h3,_,_,rfl,h4,_,_,rfl,⟨set,rfl,_⟩,_,_,rfl,⟨oth,rfl,_⟩,_,_,rfl,⟨op,rfl,_⟩,_,_,rfl,⟨n,rfl,_⟩,_,_,rfl,⟨b,rfl,h5⟩,_,_,rfl,⟨c,rfl,_⟩,rfl⟩:=h
 obtain⟨ns,n1,n2,rfl⟩:=Cl rdS' h3
 obtain⟨os,o1,o2,rfl⟩:=Cl rdS' h4
 exact⟨⟨nm,on,k,f,ns,os,set,oth,op,n,b,c⟩,⟨B6 n1,B6 o1⟩,rfl⟩
theorem rdD(vs:List AVal)(h:shD.rd vs):∃d:Dcl,((∀r∈d.regs,∀l∈r.ls,wide l)/\∀r∈d.ruls,wide r.ns/\wide r.os)/\vs=AO d:=by
 simp only[Sh.rd.eq_5,Sh.rdL]at h
 obtain⟨_,_,rfl,⟨nm,rfl,h1⟩,_,_,rfl,⟨v,rfl,_⟩,_,_,rfl,⟨sh,rfl,_⟩,_,_,rfl,⟨w,rfl,_⟩,_,_,rfl,⟨hh,rfl,_⟩,_,_,rfl,h2,_,_,rfl,h3,_,_,rfl,h4,_,_,rfl,h5,_,_,rfl,h6,rfl⟩:=h
 obtain⟨ho,rfl⟩:=rdM0 rdI0 h2
 obtain⟨sy,rfl⟩:=rdM0 rdSy h3
 obtain⟨rg,-,c2,rfl⟩:=Cl rdRg h4
 obtain⟨cl,rfl⟩:=rdM0 rdCl h5
 obtain⟨ru,-,e2,rfl⟩:=Cl rdRu h6
 exact⟨⟨nm,v,sh,w,hh,ho,sy,rg,cl,ru⟩,⟨c2,e2⟩,rfl⟩
theorem rdGr(vs:List AVal)(h:shGr.rd vs):∃g:Grd,vs=AG g.sh g.w g.h g.holes g.cells:=by
 simp only[Sh.rd.eq_5,Sh.rdL]at h
 obtain⟨_,_,rfl,⟨sh,rfl,_⟩,_,_,rfl,⟨w,rfl,_⟩,_,_,rfl,⟨hh,rfl,_⟩,_,_,rfl,h2,_,_,rfl,h3,rfl⟩:=h
 obtain⟨ho,rfl⟩:=rdM0 rdI0 h2
 obtain⟨ce,rfl⟩:=rdM0 rdI0 h3
 exact⟨⟨sh,w,hh,ho,ce⟩,rfl⟩
theorem rdKn(vs:List AVal)(h:shKn.rd vs):∃k:Knd,WdS k/\shKn.wrap vs=Bq k:=by
 rw[Sh.rd.eq_5]at h
 simp only[Sh.rdL]at h
 obtain⟨_,_,rfl,h1,_,_,rfl,h2,_,_,rfl,h3,_,_,rfl,h4,rfl⟩:=h
 obtain⟨d,⟨w1,w2⟩,rfl⟩:=rdD _ h1
 obtain⟨g,rfl⟩:=rdGr _ h2
 obtain⟨nb,n1,w3,rfl⟩:=Cl T5 h3
 obtain⟨ls,n2,w4,rfl⟩:=Cl rdLlW h4
 exact⟨⟨d,g,nb,ls⟩,⟨⟨B6 n1,w3⟩,B6 n2,w4⟩,rfl⟩
theorem rdQ(vs:List AVal)(h:shQ.rd vs):∃q:Cnd,(wide q.cs/\wide q.ls)/\shQ.wrap vs=encQ q:=by
 simp only[Sh.rd.eq_5,Sh.rdL]at h
 obtain⟨_,_,rfl,⟨k,rfl,_⟩,_,_,rfl,h1,_,_,rfl,h2,_,_,rfl,⟨n,rfl,_⟩,rfl⟩:=h
 obtain⟨cs,c1,-,rfl⟩:=Cl rdI' h1
 obtain⟨ls,l1,-,rfl⟩:=Cl rdI' h2
 exact⟨⟨k,cs,ls,n⟩,⟨B6 c1,B6 l1⟩,rfl⟩
theorem rdMm(vs:List AVal)(h:shM.rd vs):∃p:Prm,wide p.ls/\shM.wrap vs=encM p:=by
 simp only[Sh.rd.eq_5,Sh.rdL]at h
 obtain⟨_,_,rfl,⟨c,rfl,_⟩,_,_,rfl,h1,rfl⟩:=h
 obtain⟨ls,l1,-,rfl⟩:=Cl rdI' h1
 exact⟨⟨c,ls⟩,B6 l1,rfl⟩
theorem rdX(vs:List AVal)(h:shX.rd vs):∃x:Lma,shX.wrap vs=encL x:=by
 simp only[Sh.rd.eq_5,Sh.rdL]at h
 obtain⟨_,_,rfl,⟨nm,rfl,_⟩,_,_,rfl,⟨lv,rfl,_⟩,_,_,rfl,h1,_,_,rfl,h2,_,_,rfl,h3,_,_,rfl,h4,_,_,rfl,⟨c,rfl,_⟩,_,_,rfl,⟨l,rfl,_⟩,rfl⟩:=h
 obtain⟨cs,rfl⟩:=rdM0 rdS0 h1
 obtain⟨ls,rfl⟩:=rdM0 rdS0 h2
 obtain⟨qs,rfl⟩:=rdM0 (λvs h=>by obtain⟨q,-,e⟩:=rdQ vs h;exact⟨q,e⟩) h3
 obtain⟨ps,rfl⟩:=rdM0 (λvs h=>by obtain⟨q,-,e⟩:=rdMm vs h;exact⟨q,e⟩) h4
 exact⟨⟨nm,lv,cs,ls,qs,ps,c,l⟩,rfl⟩
theorem rdCa(vs:List AVal)(h:shCa.rd vs):∃c:Cas,shCa.wrap vs=encC c:=by
 simp only[Sh.rd.eq_5,Sh.rdL]at h
 obtain⟨_,_,rfl,⟨k,rfl,_⟩,_,_,rfl,⟨a,rfl,_⟩,rfl⟩:=h
 exact⟨⟨k,a⟩,rfl⟩
theorem rdCs(vs:List AVal)(h:(Sh.sl shCa).rd vs):∃l:List Cas,(Sh.sl shCa).wrap vs=eCs l:=by
 obtain⟨l,rfl⟩:=rdM0 rdCa h
 exact⟨l,rfl⟩
end Go.AM
namespace Go.AM
open Go.Proofs Go.Lib Go.ChangeShapes Go.WideShapes Go.ChangeAt Go.WideMaps Go.WideElems Go.RowKit
theorem rdPfW(vs:List AVal)(h:shPf.rd vs):∃p:List (List Cas),wide p/\shPf.wrap vs=EC p:=by
 simp only[Sh.rd.eq_5,Sh.rdL]at h
 obtain⟨_,_,rfl,h1,rfl⟩:=h
 obtain⟨p,p1,-,rfl⟩:=Cl (Q:=λ_=>True) (λvs h=>by obtain⟨l,e⟩:=rdCs vs h;exact⟨l,trivial,e⟩) h1
 exact⟨p,B6 p1,rfl⟩
theorem RI{av:List AVal}(h:Sh.rdA [shKn,shX,shPf,shI,shCa] av):∃(k:Knd) (x:Lma) (p:List (List Cas)) (n:Int) (c:Cas),WdS k/\wide p/\av=[Bq k,encL x,EC p,.int .i64 n,encC c]:=by
 simp only[Sh.rdA]at h
 obtain⟨_,_,rfl,h1,_,_,rfl,h2,_,_,rfl,h3,_,_,rfl,⟨n,rfl,_⟩,_,_,rfl,h5,rfl⟩:=h
 obtain⟨k,hk,e1⟩:=rdKn _ h1
 obtain⟨x,e2⟩:=rdX _ h2
 obtain⟨p,hp,e3⟩:=rdPfW _ h3
 obtain⟨c,e5⟩:=rdCa _ h5
 exact⟨k,x,p,n,c,hk,hp,by rw[e1,e2,e3,e5];rfl⟩
end Go.AM
