/-
  Kinds: from the rows to the abstract machine.
  Conditions: none beyond those of its parts.
-/
import Derived.Test.YtbngedlokkndkaaGreatDoorB8
import Derived.Test.YtbngedlokkndkaaGreatDoorB12
import Derived.Test.YtbngedlokkndkaaGreatDoorRows
import Derived.SizedLaws
import Derived.LaidLaws

set_option maxRecDepth 20000
set_option linter.all false
namespace Go.AM
open Go.ChangeAt Go.ChangeShapes Go.Lib Go.Proofs Go.RowKit Go.WideElems Go.WideMaps Go.WideShapes Go.Proofs.Tryz
section
def own:ownKnob prog.godebug=none:=by kernel_rfl
abbrev Ip:List (String×DataW Unit):=Go.Proofs.YtbngedlokkndkaaGreatDoor.Rows.kindsDerivedRow.laid
def kb:prog.globalNamed ((Ip[3]?.map (·.1)).getD "")=some 0:=by kernel_rfl
def gNums:prog.globalNamed ((Ip[4]?.map (·.1)).getD "")=some 1:=by kernel_rfl
def Mf(os:Os)(args:Array Value):laidMetH prog Ip ((World.doorLaid prog 400 os).forCall (λ_ _=>0) ⟨#[],args,[]⟩).memory:=
 laidMetH_of_parts3 (fuel:=8) (laidMet_of_run' 8 (by kernel_rfl) (by kernel_rfl)) (by kernel_rfl) (by kernel_rfl)
def Sx:List Int:=[1779033703,3144134277,1013904242,2773480762,1359893119,2600822924,528734635,1541459225]
def ke:List Int:=[1116352408,1899447441,3049323471,3921009573,961987163,1508970993,2453635748,2870763221,3624381080,310598401,607225278,1426881987,1925078388,2162078206,2614888103,3248222580,3835390401,4022224774,264347078,604807628,770255983,1249150122,1555081692,1996064986,2554220882,2821834349,2952996808,3210313671,3336571891,3584528711,113926993,338241895,666307205,773529912,1294757372,1396182291,1695183700,1986661051,2177026350,2456956037,2730485921,2820302411,3259730800,3345764771,3516065817,3600352804,4094571909,275423344,430227734,506948616,659060556,883997877,958139571,1322822218,1537002063,1747873779,1955562222,2024104815,2227730452,2361852424,2428436474,2756734187,3204031479,3329325298]
def OT{W:World}{n:String}{g:Nat}{cs:Array Value}(hg:prog.globalNamed n=some g)(h:W.var? prog n=some cs):∃e fz,W.heap[g]?=some (.cells cs e fz):=by
 simp only[World.var?,hg,rI]at h;split at h
 ·rename_i c e fz hh;cases h;exact⟨e,fz,hh⟩
 ·cases h
def Gd{W:World}(h:laidMetH prog Ip W):EN (gW W)/\F7 W:=by
 rw[MakeChecks.laidMetH_plain _ _ _ (by kernel_rfl)]at h;obtain⟨ps,⟨g0,t0,cs0,f0,p0,q0,hg0,ht0,hv0,hd0,⟨g1,t1,cs1,f1,p1,q1,hg1,v9,hv1,hd1,⟨g2,t2,cs2,f2,p2,q2,hg2,y9,hv2,tg,⟨g3,t3,cs3,f3,p3,q3,hg3,ht3,hv3,hd3,⟨g4,t4,cs4,f4,p4,q4,hg4,ht4,hv4,hd4,⟨g5,t5,cs5,f5,p5,q5,hg5,ht5,hv5,hd5,⟨g6,t6,cs6,f6,p6,q6,hg6,ht6,hv6,hd6,z6,w6⟩,w5⟩,w4⟩,w3⟩,w2⟩,w1⟩,w0⟩,sg,hrows⟩:=h;obtain rfl:=Option.some.inj (kb.symm.trans hg3);obtain rfl:=Option.some.inj (gNums.symm.trans hg4);obtain rfl:=Option.some.inj ((show(prog.globals[0]?).map (·.type)=some 140 by kernel_rfl).symm.trans ht3);obtain rfl:=Option.some.inj ((show(prog.globals[1]?).map (·.type)=some 215 by kernel_rfl).symm.trans ht4);have c3:=λoff=>World.var?_cell hg3 hv3 off
 have c4:=λoff=>World.var?_cell hg4 hv4 off
 have s3:sL (gW W) ((gW W).σ 0) 0 (Sx.map (.int .u32)):=LL (ns:=Sx) underlying140 underlying139 (by kernel_rfl) c3 hd3;have s4:sL (gW W) ((gW W).σ 1) 0 (ke.map (.int .u32)):=LL (ns:=ke) underlying215 underlying139 (by kernel_rfl) c4 hd4;have z3:cs3.size=8:=by
  have:=Go.Lib.cells_of_tab (zs:=Sx) (k:=.u32) underlying140 underlying139 (by kernel_rfl) (by kernel_rfl) hd3;rw[<-pq,this];rfl
 have z4':cs4.size=64:=by
  have:=Go.Lib.cells_of_tab (zs:=ke) (k:=.u32) underlying215 underlying139 (by kernel_rfl) (by kernel_rfl) hd4;rw[<-pq,this];rfl
 constructor
 ·intro i cs hi
  match i,hi with
  |0,hi=>obtain rfl:=Option.some.inj hi;exact s3
  |1,hi=>obtain rfl:=Option.some.inj hi;exact s4
 ·intro i cs hi
  match i,hi with
  |0,hi=>obtain rfl:=Option.some.inj hi;obtain⟨e,fz,k⟩:=OT hg3 hv3;exact⟨_,_,_,k,z3⟩
  |1,hi=>obtain rfl:=Option.some.inj hi;obtain⟨e,fz,k⟩:=OT hg4 hv4;exact⟨_,_,_,k,z4'⟩
abbrev WD(n:Nat):Prop:=n<=140737488355328
variable {α:Type}
theorem Mg{l:List α}(h:WD l.length):wide l:=by show l.length<_;omega
abbrev WE:Sh:=.sl (.int .i64)
abbrev Sy:Sh:=.st [.str,.int .i64]
abbrev Yn:Sh:=.st [.str,.sl WE]
abbrev Yo:Sh:=.st [.str,.str,.int .i64,.int .i64,.int .i64,.int .i64]
abbrev Sz:Sh:=.st [.str,.str,.int .i64,.int .i64,.sl .str,.sl .str,.int .i64,.int .i64,.int .i64,.int .i64,.str,.int .i64]
abbrev gC:Sh:=.st [.str,.int .i64,.int .i64,.int .i64,.int .i64,WE,.sl Sy,.sl Yn,.sl Yo,.sl Sz]
theorem rb{n:Nat}(h:n<=reachBytes):WD n:=pu h zd
theorem FP{e:Sh}{enc:α->Fs}{Q:α->Prop}(he:∀vs,e.rd vs->∃a,Q a/\e.wrap vs=enc a){av:List Fs}(h:(Sh.sl e).rd av):∃l:List α,WD l.length/\(∀x∈l,Q x)/\av=[.sl (.none e.size) (l.map enc)]:=by
 simp only[Sh.rd]at h;obtain⟨l,rfl,uz,h⟩:=h
 suffices ∃m:List α,m.length=l.length/\(∀x∈m,Q x)/\l.map e.wrap=m.map enc by
  obtain⟨m,hm,hq,hm2⟩:=this;exact⟨m,by rw[hm];exact rb uz,hq,by rw[hm2]⟩
 clear uz;induction l with
 |nil=>exact⟨[],rfl,(λx hx=>by cases hx),rfl⟩
 |cons x l ih=>
  obtain⟨m,h1,h2,h3⟩:=ih λy hy=>h y (by simp [hy])
  obtain⟨a,hq,ha⟩:=he x (h x zw);exact⟨a::m,by simp [h1],λy hy=>by
   rcases ph.1 hy with rfl|hy
   ·exact hq
   ·exact h2 y hy,by rw[oL,oL,h3,ha]⟩
theorem rdI'(vs:List Fs)(h:(Sh.int .i64).rd vs):∃n:Int,True/\(Sh.int .i64).wrap vs=eI n:=by
 obtain⟨n,rfl,_⟩:=h;exact⟨n,zt,rfl⟩
theorem cY(vs:List Fs)(h:Sh.str.rd vs):∃s:Bs,WD s.length/\Sh.str.wrap vs= .str s:=by
 obtain⟨s,rfl,hs⟩:=h;exact⟨s,rb hs,rfl⟩
theorem rdIs'(vs:List Fs)(h:(Sh.sl (.int .i64)).rd vs):∃l:List Int,WD l.length/\(Sh.sl (.int .i64)).wrap vs=BY l:=by
 obtain⟨l,h1,-,rfl⟩:=FP rdI' h;exact⟨l,h1,rfl⟩
theorem Yp{e:Sh}{enc:α->Fs}(he:∀vs,e.rd vs->∃a,e.wrap vs=enc a){av:List Fs}(h:(Sh.sl e).rd av):∃l:List α,av=[.sl (.none e.size) (l.map enc)]:=by
 obtain⟨l,-,-,h⟩:=FP (Q:=λ_=>True) (λvs h=>by obtain⟨a,ha⟩:=he vs h;exact⟨a,zt,ha⟩) h;exact⟨l,h⟩
theorem rdI0(vs:List Fs)(h:(Sh.int .i64).rd vs):∃n:Int,(Sh.int .i64).wrap vs=eI n:=by
 obtain⟨n,-,h⟩:=rdI' vs h;exact⟨n,h⟩
theorem rdIsW(vs:List Fs)(h:(Sh.sl (.int .i64)).rd vs):∃l:List Int,wide l/\(Sh.sl (.int .i64)).wrap vs=BY l:=by
 obtain⟨l,h1,h2⟩:=rdIs' vs h;exact⟨l,Mg h1,h2⟩
theorem rdSy(vs:List Fs)(h:Sy.rd vs):∃s:xz,Sy.wrap vs=Cb s:=by
 simp only[Sh.rd.eq_5,Sh.rdL]at h;obtain⟨_,_,rfl,⟨nm,rfl,h1⟩,_,_,rfl,⟨v,rfl,_⟩,rfl⟩:=h;exact⟨⟨nm,v⟩,rfl⟩
theorem rdRg(vs:List Fs)(h:Yn.rd vs):∃r:x9,(∀l∈r.ls,wide l)/\Yn.wrap vs=Fb r:=by
 simp only[Sh.rd.eq_5,Sh.rdL]at h;obtain⟨_,_,rfl,⟨nm,rfl,h1⟩,_,_,rfl,h2,rfl⟩:=h;obtain⟨ls,-,l2,rfl⟩:=FP rdIsW h2;exact⟨⟨nm,ls⟩,l2,rfl⟩
theorem rdCl(vs:List Fs)(h:Yo.rd vs):∃c:x7,Yo.wrap vs=BO c:=by
 simp only[Sh.rd.eq_5,Sh.rdL]at h;obtain⟨_,_,rfl,⟨nm,rfl,h1⟩,_,_,rfl,⟨on,rfl,h2⟩,_,_,rfl,⟨a,rfl,_⟩,_,_,rfl,⟨b,rfl,_⟩,_,_,rfl,⟨c,rfl,_⟩,_,_,rfl,⟨d,rfl,_⟩,rfl⟩:=h;exact⟨⟨nm,on,a,b,c,d⟩,rfl⟩
theorem rdRu(vs:List Fs)(h:Sz.rd vs):∃r:zj,(wide r.ns/\wide r.os)/\Sz.wrap vs=Ao r:=by
 simp only[Sh.rd.eq_5,Sh.rdL]at h;obtain⟨_,_,rfl,⟨nm,rfl,h1⟩,_,_,rfl,⟨on,rfl,h2⟩,_,_,rfl,⟨k,rfl,_⟩,_,_,rfl,⟨f,rfl,_⟩,_,_,rfl,h3,_,_,rfl,h4,_,_,rfl,⟨set,rfl,_⟩,_,_,rfl,⟨sU,rfl,_⟩,_,_,rfl,⟨op,rfl,_⟩,_,_,rfl,⟨n,rfl,_⟩,_,_,rfl,⟨b,rfl,h5⟩,_,_,rfl,⟨c,rfl,_⟩,rfl⟩:=h;obtain⟨ns,n1,n2,rfl⟩:=FP cY h3;obtain⟨os,o1,o2,rfl⟩:=FP cY h4;exact⟨⟨nm,on,k,f,ns,os,set,sU,op,n,b,c⟩,⟨Mg n1,Mg o1⟩,rfl⟩
theorem rdD(vs:List Fs)(h:gC.rd vs):∃d:x8,((∀r∈d.sJ,∀l∈r.ls,wide l)/\∀r∈d.sC,wide r.ns/\wide r.os)/\vs=AL d:=by
 simp only[Sh.rd.eq_5,Sh.rdL]at h;obtain⟨_,_,rfl,⟨nm,rfl,h1⟩,_,_,rfl,⟨v,rfl,_⟩,_,_,rfl,⟨sh,rfl,_⟩,_,_,rfl,⟨w,rfl,_⟩,_,_,rfl,⟨hh,rfl,_⟩,_,_,rfl,h2,_,_,rfl,h3,_,_,rfl,h4,_,_,rfl,h5,_,_,rfl,h6,rfl⟩:=h;obtain⟨ho,rfl⟩:=Yp rdI0 h2;obtain⟨sy,rfl⟩:=Yp rdSy h3;obtain⟨rg,-,c2,rfl⟩:=FP rdRg h4;obtain⟨cl,rfl⟩:=Yp rdCl h5;obtain⟨ru,-,e2,rfl⟩:=FP rdRu h6;exact⟨⟨nm,v,sh,w,hh,ho,sy,rg,cl,ru⟩,⟨c2,e2⟩,rfl⟩
end
end Go.AM
