/-
  Parts of the proof. Conditions: none.
-/
import Derived.Test.YtncahiacfdihpaaGreatDoorB13
set_option maxRecDepth 20000
set_option linter.all false
namespace Go.AM
open Go.Lib Go.Proofs Go.Proofs.Tryz
section
abbrev Bv(k:Zm)(x:Zt)(letters:List Int)(w:Fs):List Fs:=AJ k++(BM x++[eIs letters,w])
def G0(x:Zt)(letters:List Int)(c:Int):Fs:=match Ht x c with
 |none=>.tup [.sl .nil [],.bool false]
 |some p=>.tup [eIs (p.ls.map (at0 letters)),.bool true]
def LU(x:Zt)(letters:List Int)(c:Int)(n:Nat):(G0 x letters c).under n:=by
 unfold G0;split
 ·exact⟨⟨trivial,trivial⟩,trivial,trivial⟩
 ·exact⟨AR n _,trivial,trivial⟩
structure VPm where
 i:Nat
 H:AC
 n:Nat
structure VPl where
 j:Nat
 tk:Zu
 H:AC
 n:Nat
structure IPm(H0:AC)(n0:Nat)(x:Zt)(c:Int)(v:VPm):Prop where
 hi:v.i<=x.ps.length
 fr:AQ v.H v.n
 hn:n0<=v.n
 kp:B5 H0 v.H
 he:Ht x c=(x.ps.drop v.i).find? λp=>decide (p.c=c)
structure IPl(H0:AC)(n0:Nat)(p:Prm)(letters:List Int)(v:VPl):Prop where
 hj:v.j<=p.ls.length
 fr:AQ v.H v.n
 hn:n0<=v.n
 kp:B5 H0 v.H
 tok:tkG 1 n0 v.H v.tk
 es:v.tk.esz=1\/(p.ls.take v.j).map (at0 letters)=[]
variable {H:AC} {k:Zm} {letters cells vals:List Int} {x:Zt} {n rp:Nat} {p:Prm}
theorem Np{H0:AC}{n0 e:Nat}{tk:Zu}(hf:AQ H0 n0)(h:tkG e n0 H tk)(hk:B5 H0 H):B5 H0 (AO H tk):=λid ob h0=>by
 rw[AV h (.inl (hf.lt h0))];exact hk id ob h0
theorem t_prem{w:Fs}(c:Int)(hf:AQ H n)(hq:hget H rp=some (.box (Bv k x letters w)))(hps:few x.ps)(r9:∀p∈x.ps,few p.ls/\∀c∈p.ls,0<=c/\c<(letters.length:Int)):
  AP prog 81 [.ptr rp 0,.int .i64 c] H n (QRet H (G0 x letters c)):=by
 have hpsl:x.ps.length<1000000000:=hps;have hq0:=hq;simp only[Bv,AJ,AD,AH,BM,X3,X1]at hq;refine c81.a (AF AI.tnil (AG ?_));simp only[eE,eN,seval,W0,c81,hq];refine AL (λv:VPm=>⟨[(0,true,.ptr rp 0),(1,true,.int .i64 c),(4,true,.sl .nil []),(14,true,.sl (.none 2) (x.ps.map encM)),(15,true,.int .i64 x.ps.length),(16,true,.int .i64 v.i)],v.H,v.n⟩) (IPm H n x c) (λv=>x.ps.length-v.i)
  ⟨0,H,n⟩ rfl ⟨We _,hf,W8 _,B5.refl _,rfl⟩ ?_
 rintro⟨i,H1,n1⟩ ⟨hi,hf1,j8,hk1,he⟩;simp only at hi hf1 j8 hk1 he;by_cases c5:i<x.ps.length;case neg=>
  obtain rfl:i=x.ps.length:=zo
  rw[Xc]at he;simp only[eZ,seval,lt_F c5];unfold G0;rw[he];exact⟨Wk.refl _,hk1⟩
 have hg:=W2 c5;have e:=AE (k:=i) zo;obtain⟨hpf,hpi⟩:=r9 _ (Wn c5);rw[Wy c5]at he;generalize x.ps[i]=p at hg hpf hpi he;have j7:∀{ob:Zk} {j:Nat},n1<=j->B5 H (hset H1 j ob):=λhj=>hk1.new hf zo
 by_cases hc:p.c=c;case neg=>
  rw[List.find?_cons_of_neg (by simpa using hc)]at he;simp only[eZ,seval,eY,lt_T c5,hg,fr1 hf1,AN,W4 hc,e];exact .mk ⟨i+1,hset H1 (n1+2) (.box [.int .i64 p.c,eIs p.ls]),n1+4⟩ rfl ⟨c5,hf1.hset (m:=n1+4) zo zo,zp,j7 zo,he⟩ zp
 rw[List.find?_cons_of_pos (by simpa using hc)]at he;have hpl':p.ls.length<1000000000:=hpf;simp only[eZ,seval,eY,lt_T c5,hg,fr1 hf1,AN,W1 hc];refine AL (λv:VPl=>⟨[(0,true,.ptr rp 0),(4,true,.sl v.tk (((p.ls.take v.j).map (at0 letters)).map eI)),(25,true,eIs p.ls),(26,true,.int .i64 p.ls.length),(27,true,.int .i64 v.j)],v.H,v.n⟩) (IPl H n p letters) (λv=>p.ls.length-v.j)
  ⟨0,.nil,hset H1 (n1+2) (.box [.int .i64 p.c,eIs p.ls]),n1+4⟩ rfl ⟨We _,hf1.hset (m:=n1+4) zo zo,zp,j7 zo,.inl rfl,.inr rfl⟩ ?_
 rintro⟨j,tk,H2,n2⟩ ⟨hj,l9,hn2,hk2',c7,d7⟩;simp only at hj l9 hn2 hk2' c7 d7;by_cases hlj:j<p.ls.length;case neg=>
  obtain rfl:j=p.ls.length:=zo
  rw[Wj]at d7;simp only[eZ,seval,lt_F hlj];rw[Wj];unfold G0;rw[he];exact⟨Wk.tup (.cons (Wk.sl (d7.imp id λq=>by rw[q];rfl)) (.cons (Wk.refl _) .nil)),hk2'⟩
 have hg:=W2 hlj;have e:=AE (k:=j) zo;have hci:=hpi _ (Wn hlj);have htake:p.ls.take (j+1)=p.ls.take j++[p.ls[j]]:=by rw[Wl,hg];rfl
 generalize p.ls[j]=y at hg hci htake;have hgx:=CQ hci.1 hci.2;have hX:((p.ls.take j).map (at0 letters)).length<=j:=by simp;omega
 have q1:A5 H2 1 tk=True:=W1 c7.app;have q2:(((p.ls.take j).map (at0 letters)).length<=35184372088831)=True:=W1 zo;have q3:Aj (((p.ls.take j).map (at0 letters)).length+1) 8=True:=W1 (AX zo zd);have hrp:=hk2' _ _ hq;generalize hXd:(p.ls.take j).map (at0 letters)=X at hX q2 q3 d7;simp only[eZ,seval,eY,lt_T hlj,hg,hrp,W1 hci.1,W1 hci.2,hgx,q1,q2,q3,fr1 l9,e];refine .mk ⟨j+1,.own (n2+9) 1,hset (AO H2 tk) (n2+9) .tok,n2+11⟩ ?_ ⟨hlj,(AU c7 l9).hset (m:=n2+11) zo zo,zp,B5.new hf zo (Np hf c7 hk2'),.inr (.inr ⟨n2+9,rfl,zo,AB ..⟩),.inl rfl⟩ zp;simp only[htake,Wh,Wu,X5,hXd]
theorem q_prem{w:Fs}(c:Int)(hq:hget H rp=some (.box (Bv k x letters w)))(hps:few x.ps)(r9:∀p∈x.ps,few p.ls/\∀c∈p.ls,0<=c/\c<(letters.length:Int)):
  Am prog 81 [.ptr rp 0,.int .i64 c] H n (G0 x letters c):=
 Am.of c81.l (LU x letters c n) λhf=>t_prem c hf hq hps r9
structure RdC(k:Zm)(x:Zt)(letters:List Int):Prop where
 ck:BF k=0
 fd:Zh k.d
 fx:FewL x
 ox:OKL x
 ll:letters.length=x.ls.length
structure ClC(k:Zm)(x:Zt)(cells:List Int):Prop where
 len:cells.length=x.cs.length
 sy:∀s∈cells,0<=s->okSy k s
def RdAt(H:AC)(rp:Nat)(k:Zm)(x:Zt)(letters:List Int):Prop:=∃w,hget H rp=some (.box (Bv k x letters w))
theorem Fu(h:BF k=0):∀y∈k.d.syms,0<=y.v/\y.v<=99:=by
 have h1:Gt k=true:=by
  unfold BF at h;split at h
  ·assumption
  ·cases h
 obtain⟨x,cells,-,h3,-,h4⟩:=I3 (MW h1);have h5:k.d=x:=by rw[h4];rfl
 rw[<-h5]at h3;have h6:=(TW.1 h3).1.form;unfold Ba at h6;simp only[W5,Wo,W9]at h6;intro y hy;exact h6.1.1.1 y hy
theorem SV(h:RdC k x letters):∀p∈x.ps,few p.ls/\∀c∈p.ls,0<=c/\c<(letters.length:Int):=by
 intro p hp;refine⟨h.fx.p p hp,λc hc=>?_⟩;have:=Wo.1 (D8 (h.ox.ps p hp).1) c hc;simp only[W5,W9]at this;rw[h.ll];exact this
theorem Pj(h:OKL x)(hp:p∈x.ps):0<=p.c/\p.c<(x.cs.length:Int):=by
 have:=Wo.1 (D8 h.pc) p.c (Xh.2 ⟨p,hp,rfl⟩);simpa only[W5,W9]using this
theorem JF{ps:List Prm}(h:BA (ps.map (·.c))=true)(hp:p∈ps):ps.find? (λq=>decide (q.c=p.c))=some p:=by
 induction ps with
 |nil=>cases hp
 |cons q ps ih=>
  rw[Wu,BA,W5]at h;rcases X7.1 hp with rfl|hp
  ·rw[List.find?_cons_of_pos zw]
  ·grind
theorem Pk(h:OKL x)(hp:p∈x.ps):Ht x p.c=some p:=by
 have:=h.pc;unfold difI at this;rw[W5]at this;exact JF this.2 hp
theorem Dd{α:Type}[DecidableEq α]:∀{l:List α},BA l=true->l.Nodup
 |[],_=>Za
 |x::r,h=>by
  rw[BA,W5]at h;refine Yc.2 ⟨λhx=>?_,Dd h.2⟩;have h1:=h.1;simp only[XQ,YG,W9]at h1;exact h1 x hx rfl
theorem LW{l:List Int}(h:difI l n=true):l.length<=n:=by
 have h1:=D8 h;unfold difI at h;rw[W5]at h;have:=Gw (b:=symI n) (Dd h.2) λc hc=>by
  have:=Wo.1 h1 c hc;simp only[W5,W9]at this;exact Gn.2 this
 unfold symI at this;simpa using this
theorem cl_ok(h:RdC k x letters)(hc:ClC k x cells){q:Cnd}(hq:q∈x.qs):ClOK k q letters cells:=by
 have h1:=RI (h.ox.qs q hq);have hf:=h.fx.q q hq;have q8:=h.ox.cs.2.2.2;refine⟨by rcases h1.kind with h|h|h|h|h<;>omega,?_,hf.1,λc hcc=>?_,hf.2,λc hcc=>?_,hc.sy,Fu h.ck⟩
 ·have:=LW h1.cs;rcases h1.kind with h|h|h|h|h<;>omega
 ·have:=Wo.1 (D8 h1.cs) c hcc;simp only[W5,W9]at this;rw[hc.len];exact this
 ·have:=Wo.1 (D8 h1.ls) c hcc;simp only[W5,W9]at this;rw[h.ll];exact this
theorem SW{i:Int}(h:i<0):CP vals x letters cells i=false:=by unfold CP;rw[Wg h]
theorem SX{a:Nat}(h:x.qs.length+x.ps.length<=a):CP vals x letters cells (a:Int)=false:=by simp_all [CP,K9,Wf]
theorem comp_q{a:Nat}{q:Cnd}(h:x.qs[a]?=some q):CP vals x letters cells (a:Int)=El vals q letters cells:=by
 unfold CP K9;have:=(Xx.1 h).1;rw[W7 zo,Wf,Xr (by simpa using this),Wq,h];rfl
theorem comp_p{b:Nat}(h:x.ps[b]?=some p):CP vals x letters cells ((x.qs.length+b:Nat):Int)=Ri p letters cells:=by
 unfold CP K9;rw[W7 zo,Wf,Xv zw,W0,Nat.add_sub_cancel_left,Wq,h];rfl
def F8(k:Zm):List Fs->AC->Prop×Fs:=λa H=>match a with
 |[K,Q,.sl t L,av]=>(dKn.ok K/\dKn.dec K=k/\dQ.ok Q/\dIs.ok (.sl t L)/\RdI H av (rdL H av)/\ClOK k (dQ.dec Q) (L.map toI) (rdL H av),.bool (El (AZ k) (dQ.dec Q) (L.map toI) (rdL H av)))
 |_=>(False,.tup [])
theorem Pm(k:Zm):∀args H n,(F8 k args H).1->Am prog 41 args H n (F8 k args H).2:=by
 intro args H m hh;unfold F8 at hh⊢;split at hh
 ·obtain⟨h1,h2,h3,h4,h5,h6⟩:=hh;have w1:=dKn.wk _ h1;rw[h2]at w1;exact(p41 k _ _ _ h6).view trivial (.cons (.wk w1) (.cons (.wk (dQ.wk _ h3)) (.cons (.wk (dIs.wk _ h4)) (.cons (Pg h5) .nil)))) m
 ·exact hh.elim
def Hw(k:Zm)(x:Zt)(letters:List Int):List Fs->AC->Prop×Fs:=λa H=>match a with
 |[.ptr rp 0,.int .i64 c]=>(RdAt H rp k x letters,G0 x letters c)
 |_=>(False,.tup [])
theorem rowPmq(h:RdC k x letters):∀args H n,(Hw k x letters args H).1->Am prog 81 args H n (Hw k x letters args H).2:=by
 intro args H m hh;unfold Hw at hh⊢;split at hh
 ·obtain⟨w,hw⟩:=hh;exact q_prem _ hw h.fx.ps (SV h)
 ·exact hh.elim
def Tcp(k:Zm)(x:Zt)(letters:List Int):Tab:=tadd 41 (F8 k) (tadd 81 (Hw k x letters) (tadd 36 CL tnil))
theorem UB(h:RdC k x letters):AI prog (Tcp k x letters):=((AI.tnil.add LS).add (rowPmq h)).add (Pm k)
theorem t_comp{av:Fs}(at':Int)(h:RdC k x letters)(hc:ClC k x cells)(hr:RdAt H rp k x letters)(hv:RdI H av cells):
  AP prog 50 [.ptr rp 0,.int .i64 at',av] H n (QRet H (.bool (CP (AZ k) x letters cells at'))):=by
 have hr0:=hr;obtain⟨w,hq⟩:=hr;simp only[Bv,AJ,AD,AH,BM,X3,X1]at hq;have hnq:x.qs.length<1000000000:=h.fx.qs;have hnp:x.ps.length<1000000000:=h.fx.ps;have hw1:IntKind.wrap .i64 ((x.qs.length:Int)+(x.ps.length:Int))=((x.qs.length+x.ps.length:Nat):Int):=by rw[Aq zo zo];omega
 have u1:dKn.ok (.agg (AJ k))=True:=DE k;have u2:dKn.dec (.agg (AJ k))=k:=CC k;simp only[AJ,AD,AH,X3,X1]at u1 u2;have s6:dIs.ok (eIs letters):=(Ad letters).mpr trivial;refine c50.a (AF (UB h) (AG ?_));by_cases h0:at'<0
 ·rw[SW h0];simp only[eZ,seval,W3,W0,c50,hq,W1 h0];exact B5.refl _
 obtain⟨a,rfl⟩:=XZ (Int.not_lt.1 h0);by_cases h1:x.qs.length+x.ps.length<=a
 ·rw[SX h1];have h1':((x.qs.length+x.ps.length:Nat):Int)<=(a:Int):=zo
  simp only[eZ,seval,W0,c50,hq,W4 h0,hw1,W1 h1'];exact B5.refl _
 have h1':¬((x.qs.length+x.ps.length:Nat):Int)<=(a:Int):=zo
 by_cases h2:a<x.qs.length
 ·have hg:=W2 h2;have m5:=cl_ok h hc (Wn h2);generalize x.qs[a]=q at hg m5;have hql:dQ.ok (.agg [.int .i64 q.k,eIs q.cs,eIs q.ls,.int .i64 q.n])=True:=Rn q;have hqd:dQ.dec (.agg [.int .i64 q.k,eIs q.cs,eIs q.ls,.int .i64 q.n])=q:=LE q;rw[comp_q hg];simp only[eZ,seval,eY,c50,hq,W4 h0,hw1,W4 h1',lt_T h2,hg,Tcp,F8,u1,u2,As,hql,hqd,JD hv,W1 hv,W1 m5,W1 s6,tadd];exact B5.refl _
 obtain⟨b,rfl⟩:∃b,a=x.qs.length+b:=⟨a-x.qs.length,zo⟩;have hb:b<x.ps.length:=zo
 have hg:=W2 hb;have hmem:=Wn hb;generalize x.ps[b]=p at hg hmem;rw[comp_p hg];have hw2:IntKind.wrap .i64 (((x.qs.length+b:Nat):Int)-(x.qs.length:Int))=(b:Int):=by rw[Aq zo zo];omega
 have hpv:G0 x letters p.c= .tup [eIs (p.ls.map (at0 letters)),.bool true]:=by unfold G0;rw[Pk h.ox hmem]
 have hpc:=Pj h.ox hmem;rw[<-hc.len]at hpc;have hgc:=CQ hpc.1 hpc.2;have hfl:few (p.ls.map (at0 letters)):=by show(p.ls.map _).length<_;rw[W0];exact h.fx.p p hmem
 have hrd:RdI H (eIs (p.ls.map (at0 letters))) (p.ls.map (at0 letters)):=.inl ⟨_,rfl,.inl rfl⟩;have hd:Ri p letters cells=(decide (0<=at0 cells p.c)&& !(p.ls.map (at0 letters)).contains (at0 cells p.c)):=rfl;rw[hd];generalize p.ls.map (at0 letters)=L at hpv hfl hrd;generalize at0 cells p.c=s at hgc;have j9:p.c.toNat<cells.length:=zo
 have r1:=JD hrd;rcases hv with⟨t,rfl,ht⟩|⟨id,cap,rest,rfl,ha,hcap⟩
 ·have ht':(t.esz=1)=True:=W1 (ht.resolve_right λe=>by rw[e]at j9;simp at j9);by_cases hs:0<=s
  ·simp only[eZ,seval,eY,c50,hq,W4 h0,hw1,W4 h1',lt_F h2,lt_T hb,hg,hw2,Tcp,Hw,CL,W1 hr0,hpv,W1 hpc.1,W1 hpc.2,hgc,ht',W1 hs,r1,W1 hrd,W1 hfl,tadd];exact B5.refl _
  ·simp only[eZ,seval,eY,c50,hq,W4 h0,hw1,W4 h1',lt_F h2,lt_T hb,hg,hw2,Tcp,Hw,CL,W1 hr0,hpv,W1 hpc.1,W1 hpc.2,hgc,ht',W4 hs,r1,W1 hrd,W1 hfl,tadd];exact B5.refl _
 ·have hga:(cells++rest)[p.c.toNat]?=some s:=by rw[Xr j9];exact hgc
  have hla:(p.c.toNat<(cells++rest).length)=True:=W1 (by simp;omega);by_cases hs:0<=s
  ·simp only[eZ,seval,eY,c50,hq,W4 h0,hw1,W4 h1',lt_F h2,lt_T hb,hg,hw2,Tcp,Hw,CL,W1 hr0,hpv,W1 hpc.1,W1 hpc.2,ha,hga,hla,W1 hs,r1,W1 hrd,W1 hfl,tadd];exact B5.refl _
  ·simp only[eZ,seval,eY,c50,hq,W4 h0,hw1,W4 h1',lt_F h2,lt_T hb,hg,hw2,Tcp,Hw,CL,W1 hr0,hpv,W1 hpc.1,W1 hpc.2,ha,hga,hla,W4 hs,r1,W1 hrd,W1 hfl,tadd];exact B5.refl _
theorem q_comp{av:Fs}(at':Int)(h:RdC k x letters)(hc:ClC k x cells)(hr:RdAt H rp k x letters)(hv:RdI H av cells):
  Am prog 50 [.ptr rp 0,.int .i64 at',av] H n (.bool (CP (AZ k) x letters cells at')):=
 Am.of c50.l trivial λ_=>t_comp at' h hc hr hv
end
section
abbrev encC(c:Cas):Fs:=.agg [.int .i64 c.k,.int .i64 c.a]
abbrev eCs(l:List Cas):Fs:=.sl (.none 2) (l.map encC)
def CU(rp n:Nat)(H H':AC):Prop:=∀i,i<n->i≠rp->hget H' i=hget H i
variable {H H':AC} {k:Zm} {letters:List Int} {x:Zt} {rp n:Nat}
theorem CU.refl(H:AC):CU rp n H H:=λ_ _ _=>rfl
theorem CU.trans{n':Nat}{H'':AC}(h:CU rp n H H')(k:CU rp n' H' H'')(hn:n<=n'):CU rp n H H'':=λi hi hr=>(k i zo hr).trans (h i hi hr)
theorem CU.new{j:Nat}{ob:Zk}(h:CU rp n H H')(hj:n<=j):CU rp n H (hset H' j ob):=λi hi hr=>by
 rw[AA _ _ _ _ zo];exact h i hi hr
theorem CU.set{ob:Zk}(h:CU rp n H H'):CU rp n H (hset H' rp ob):=λi hi hr=>by
 rw[AA _ _ _ _ (Ne.symm hr)];exact h i hi hr
def VH(rp:Nat)(k:Zm)(x:Zt)(letters:List Int)(H:AC)(n:Nat)(r:Option (List Cas)):Zr->AC->Nat->Prop:=λo H' n'=>
 AQ H' n'/\n<=n'/\CU rp n H H'/\match r with
  |some l=>o= .ret (.bool true)/\hget H' rp=some (.box (Bv k x letters (eCs l)))
  |none=>o= .ret (.bool false)
def J4(k:Zm)(x:Zt)(letters:List Int):List Fs->AC->Prop×Fs:=λa H=>match a with
 |[.ptr rp 0,.int .i64 c,av]=>(RdAt H rp k x letters/\RdI H av (rdL H av)/\ClC k x (rdL H av),.bool (CP (AZ k) x letters (rdL H av) c))
 |_=>(False,.tup [])
theorem rowCmq(h:RdC k x letters):∀args H n,(J4 k x letters args H).1->Am prog 50 args H n (J4 k x letters args H).2:=by
 intro args H m hh;unfold J4 at hh⊢;split at hh
 ·exact q_comp _ h hh.2.2 hh.1 hh.2.1
 ·exact hh.elim
def Ttr(k:Zm)(x:Zt)(letters:List Int):Tab:=tadd 50 (J4 k x letters) (Tcp k x letters)
theorem UC(h:RdC k x letters):AI prog (Ttr k x letters):=(UB h).add (rowCmq h)
theorem Ttr_m(k:Zm)(x:Zt)(letters:List Int)(a:List Fs)(H:AC):Ttr k x letters 50 a H=J4 k x letters a H:=rfl
theorem Ttr_p(k:Zm)(x:Zt)(letters:List Int)(a:List Fs)(H:AC):Ttr k x letters 81 a H=Hw k x letters a H:=rfl
theorem VI(k:Zm)(x:Zt)(letters:List Int)(a:List Fs)(H:AC):Ttr k x letters 36 a H=CL a H:=rfl
def conB(x:Zt)(letters:List Int)(c s:Int):Bool:=match Ht x c with
 |none=>true
 |some p=>(p.ls.map (at0 letters)).contains s
theorem Pn(m:Nat)(x:Zt)(letters:List Int)(c:Int):NV m x letters c=(symI m).filter (conB x letters c):=by
 unfold NV conB;cases Ht x c with
 |none=>exact(Yy.2 λ_ _=>rfl).symm
 |some p=>rfl
theorem Po{F:Int->List Cas->Option (List Cas)}(hF:∀s l r,F s l=some r->r.length<=l.length):∀(ss:List Int) (l r:List Cas),seqT F ss l=some r->r.length<=l.length
 |[],l,r,h=>by rw[seqT]at h;cases h;exact W8 _
 |s::ss,l,r,h=>by
  rw[seqT]at h;obtain⟨l1,h1,h2⟩:=Option.bind_eq_some_iff.1 h;exact Xb (Po hF ss l1 r h2) (hF s l l1 h1)
theorem Md{vals:List Int}:∀(f:Nat) (cells:List Int) (l r:List Cas),Ct vals x letters f cells l=some r->r.length<=l.length
 |_,_,[],r,h=>by rw[Ct]at h;cases h
 |0,cells,n::l,r,h=>by
  rw[Ct]at h;split at h
  ·split at h
   ·cases h;simp
   ·cases h
  ·split at h<;>cases h
 |f+1,cells,n::l,r,h=>by
  rw[Ct]at h;split at h
  ·split at h
   ·cases h;simp
   ·cases h
  ·split at h
   ·have:=Po (λs l r=>Md f (cells.set n.a.toNat s) l r) _ _ _ h;simp;omega
   ·cases h
theorem Pp(h:RdC k x letters)(c:Int):∃L ok t,G0 x letters c= .tup [.sl t (L.map eI),.bool ok]/\(t.esz=1\/L=[])/\few L/\∀s,conB x letters c s=(!ok||L.contains s):=by
 unfold G0 conB;cases hp:Ht x c with
 |none=>exact⟨[],false,.nil,rfl,.inr rfl,(by show(0:Nat)<_;decide),λs=>rfl⟩
 |some p=>
  refine⟨p.ls.map (at0 letters),true,.none 1,rfl,.inl rfl,?_,λs=>rfl⟩;show(p.ls.map _).length<_;rw[W0];exact h.fx.p p (List.mem_of_find?_eq_some hp)
theorem con_f{ok b:Bool}(h:false=(!ok||b)):ok=true/\b=false:=by cases ok<;>cases b<;>simp at h⊢
theorem con_t{ok b:Bool}(h:true=(!ok||b)):ok=false\/ok=true/\b=true:=by cases ok<;>cases b<;>simp at h⊢
theorem SY{m i:Nat}(h:i<m):(symI m).drop i=(i:Int)::(symI m).drop (i+1):=by
 unfold symI;rw[<-List.map_drop,<-List.map_drop,Wy (by simpa using h)];simp
structure VTr where
 i:Nat
 l:List Cas
 H:AC
 n:Nat
structure ITr(rp:Nat)(k:Zm)(x:Zt)(letters:List Int)(F:Int->List Cas->Option (List Cas))(p:Int->Bool)(R:Option (List Cas))(H0:AC)(n0:Nat)(v:VTr):Prop where
 hi:v.i<=k.d.syms.length
 fr:AQ v.H v.n
 hn:n0<=v.n
 kp:CU rp n0 H0 v.H
 hr:hget v.H rp=some (.box (Bv k x letters (eCs v.l)))
 he:R=seqT F (((symI k.d.syms.length).drop v.i).filter p) v.l
 hl:v.l.length<1000000000
theorem Pq(h:RdC k x letters)(rp:Nat)(f:Nat)(cells:List Int)
  (ih:∀(cells':List Int) (l:List Cas) (H:AC) (n id cap:Nat) (rest:List Int),AQ H n->hget H rp=some (.box (Bv k x letters (eCs l)))->hget H id=some (.arr 1 ((cells'++rest).map eI))->cells'.length<=cap->ClC k x cells'->negs cells'+1=negs cells->l.length<1000000000->
   AP prog 46 [.ptr rp 0,.ref id 1 0 cells'.length cap] H n (VH rp k x letters H n (Ct (AZ k) x letters f cells' l)))
  (l:List Cas) (H:AC) (n id cap:Nat) (rest:List Int) (hf:AQ H n) (hrp:hget H rp=some (.box (Bv k x letters (eCs l)))) (hidq:hget H id=some (.arr 1 ((cells++rest).map eI))) (hcap:cells.length<=cap) (hC:ClC k x cells) (hl:l.length<1000000000):
  AP prog 46 [.ptr rp 0,.ref id 1 0 cells.length cap] H n (VH rp k x letters H n (Ct (AZ k) x letters (f+1) cells l)):=by
 have hq:=hrp;simp only[Bv,AJ,AD,AH,BM,X3,X1]at hq;refine c46.a (AF (UC h) (AG ?_));cases l with
 |nil=>
  simp only[eZ,seval,c0,c46,hq];exact⟨hf,W8 _,CU.refl _,by rw[Ct]⟩
 |cons c l=>
 have g1:(((l.length+1:Nat):Int)=0)=False:=cS0;have g2:(n+6=rp)=False:=W4 (by have:=hf.lt hrp;omega);have g3:(rp=n+6)=False:=W4 (by have:=hf.lt hrp;omega);have g4:((1:Int)<=((l.length+1:Nat):Int))=True:=W1 zo;have hck:Ct (AZ k) x letters (f+1) cells (c::l)=if c.k=NT then(if CP (AZ k) x letters cells c.a then some l else none)
  else if c.k=NU/\0<=c.a/\c.a<cells.length/\at0 cells c.a<0 then seqT (λs l=>Ct (AZ k) x letters f (cells.set c.a.toNat s) l) (NV (AZ k).length x letters c.a) l else none:=by rw[Ct]
 rw[hck];clear hck;have g5:((0:Int)<((l.length+1:Nat):Int))=True:=W1 zo;have htl:List.take l.length (l.map encC)=l.map encC:=Xp zw;have hrpn:=hf.lt hrp;have hidn:=hf.lt hidq;have d8:rp≠id:=λe=>by rw[e,hidq]at hrp;cases hrp
 obtain⟨H2,hH2⟩:∃H2,hset (hset H (n+6) (.box [.int .i64 c.k,.int .i64 c.a])) rp (.box (Bv k x letters (eCs l)))=H2:=⟨_,rfl⟩;have l9:AQ H2 (n+8):=by rw[<-hH2];exact(hf.hset (m:=n+8) zo zo).hset (W8 _) zo
 have hrp2:hget H2 rp=some (.box (Bv k x letters (eCs l))):=by rw[<-hH2,AB]
 have hid2:hget H2 id=some (.arr 1 ((cells++rest).map eI)):=by rw[<-hH2,AA _ _ _ _ d8,AA _ _ _ _ zo];exact hidq
 have hnb2:hget H2 (n+6)=some (.box [.int .i64 c.k,.int .i64 c.a]):=by rw[<-hH2,AA _ _ _ _ zo,AB]
 have hkb2:CU rp n H H2:=by rw[<-hH2];exact((CU.refl H).new zo).set
 have hRd2:RdAt H2 rp k x letters:=⟨_,hrp2⟩;have hRI2:RdI H2 (.ref id 1 0 cells.length cap) cells:=.inr ⟨id,cap,rest,rfl,hid2,hcap⟩;have hrd:=JD hRI2;simp only[Bv,AJ,AD,AH,BM,X3,X1]at hH2;by_cases j7:c.k=2
 ·have hz:c.k=NT:=j7;rw[Wg hz];simp only[eZ,seval,eY,c46,hq,g1,g2,g4,g5,htl,fr1 hf,AN,hH2,hnb2,W1 j7,Ttr_m,J4,hrd,W1 hRI2,W1 hRd2,W1 hC];refine⟨l9,zo,hkb2,?_⟩;cases hcm:CP (AZ k) x letters cells c.a with
  |true=>exact⟨rfl,hrp2⟩
  |false=>rfl
 have hk2':¬c.k=NT:=j7;rw[W7 hk2'];by_cases hk1:c.k=1;case neg=>
  have hk1':¬(c.k=NU/\0<=c.a/\c.a<cells.length/\at0 cells c.a<0):=λq=>hk1 q.1
  rw[W7 hk1'];simp only[eZ,seval,eY,c46,hq,g1,g2,g4,g5,htl,fr1 hf,AN,hH2,hnb2,W4 j7,W4 hk1];exact⟨l9,zo,hkb2,rfl⟩
 by_cases ha0:c.a<0
 ·rw[W7 zo];simp only[eZ,seval,W3,eY,c46,hq,g1,g2,g4,g5,htl,fr1 hf,AN,hH2,hnb2,W4 j7,W1 hk1,W1 ha0];exact⟨l9,zo,hkb2,rfl⟩
 by_cases l6:(cells.length:Int)<=c.a
 ·rw[W7 zo];simp only[eZ,seval,W3,eY,c46,hq,g1,g2,g4,g5,htl,fr1 hf,AN,hH2,hnb2,W4 j7,W1 hk1,W4 ha0,W1 l6];exact⟨l9,zo,hkb2,rfl⟩
 obtain⟨a,ha⟩:=XZ (Int.not_lt.1 ha0);have hal':a<cells.length:=zo
 have hgc:cells[a]?=some (at0 cells c.a):=by have:=CQ (l:=cells) (i:=c.a) zo zo;rwa[show c.a.toNat=a by omega]at this
 have hga:(cells++rest)[a]?=some (at0 cells c.a):=by rw[Xr hal'];exact hgc
 have hla:(a<(cells++rest).length)=True:=W1 (by simp;omega);have u9:c.a.toNat=a:=zo
 rw[u9];generalize hs:at0 cells c.a=s at hgc hga;have b0:(0<=c.a)=True:=W1 zo;have b1:(c.a<(cells.length:Int))=True:=W1 zo;by_cases hs0:0<=s
 ·rw[W7 zo];simp only[eZ,seval,eY,c46,hq,g1,g2,g4,g5,htl,fr1 hf,AN,hH2,hnb2,W4 j7,W1 hk1,W4 ha0,W4 l6,hid2,u9,hga,hla,b0,b1,W1 hs0];exact⟨l9,zo,hkb2,rfl⟩
 rw[Wg ⟨hk1,zo,zo,zo⟩];obtain⟨L,ok,t,hpv,hLt,hLf,hcon⟩:=Pp h c.a;have hq2:=hrp2;simp only[Bv,AJ,AD,AH,BM,X3,X1]at hq2;have hvl:(AZ k).length=k.d.syms.length:=by unfold AZ;rw[W0]
 have hsy:=B1 h.ck;rw[Pn,hvl];simp only[eZ,seval,eY,c46,hq,g1,g2,g4,g5,htl,fr1 hf,AN,hH2,hnb2,hq2,W4 j7,W1 hk1,W4 ha0,W4 l6,hid2,u9,hga,hla,b0,b1,W4 hs0,Ttr_p,Hw,W1 hRd2,hpv];refine AL (λv:VTr=>⟨[(0,true,.ptr rp 0),(1,true,.ref id 1 0 cells.length cap),(5,true,.ptr (n+6) 0),(6,true,.sl t (L.map eI)),(7,true,.bool ok),(72,true,.int .i64 k.d.syms.length),(73,true,.int .i64 v.i)],v.H,v.n⟩)
  (ITr rp k x letters (λs l=>Ct (AZ k) x letters f (cells.set a s) l) (conB x letters c.a) (seqT (λs l=>Ct (AZ k) x letters f (cells.set a s) l) ((symI k.d.syms.length).filter (conB x letters c.a)) l) H2 (n+8)) (λv=>k.d.syms.length-v.i)
  ⟨0,l,H2,n+8⟩ rfl ⟨We _,l9,W8 _,CU.refl _,hrp2,rfl,by simp only[Ww]at hl;simp only[];omega⟩ ?_
 rintro⟨i,l1,H1,n1⟩ ⟨hi,hf1,j8,hk,hr1,he,hl1⟩;simp only at hi hf1 j8 hk hr1 he hl1;rw[he];by_cases c5:i<k.d.syms.length;case neg=>
  obtain rfl:i=k.d.syms.length:=zo
  rw[Yp (by unfold symI;simp)];simp only[eZ,seval,lt_F c5];exact⟨hf1,zo,hkb2.trans hk zo,rfl,hr1⟩
 have e:=AE (k:=i) zo;have hd:=SY c5;have hci:=hcon (i:Int);have hid1:hget H1 id=some (.arr 1 ((cells++rest).map eI)):=(hk id zo (Ne.symm d8)).trans hid2;have hnb1:hget H1 (n+6)=some (.box [.int .i64 c.k,.int .i64 c.a]):=(hk (n+6) zo zo).trans hnb2;have hRI1:RdI H1 (.ref id 1 0 cells.length cap) cells:=.inr ⟨id,cap,rest,rfl,hid1,hcap⟩;have hRL:RdI H1 (.sl t (L.map eI)) L:=.inl ⟨t,rfl,hLt⟩;have r1:=JD hRL;by_cases m6:conB x letters c.a (i:Int)=true;case neg=>
  have hcb':conB x letters c.a (i:Int)=false:=by simpa using m6
  rw[hd,List.filter_cons_of_neg m6];rw[hcb']at hci;have h2:=con_f hci;obtain⟨rfl,h2⟩:=h2;simp only[eZ,seval,W6,lt_T c5,VI,CL,r1,W1 hRL,W1 hLf,h2,W6,e];exact .mk ⟨i+1,l1,H1,n1⟩ rfl ⟨c5,hf1,j8,hk,hr1,rfl,hl1⟩ zp
 rw[hd,List.filter_cons_of_pos m6,seqT];rw[m6]at hci;have h2:=con_t hci;have hcf:few cells:=by show cells.length<_;have:=h.ox.cs.2.2.2;rw[hC.len];omega
 rcases h2 with rfl|⟨rfl,h2⟩
 case' inl=>simp only[eZ,seval,lt_T c5,VI,CL,r1,W1 hRL,W1 hLf]
 case' inr=>simp only[eZ,seval,W3,lt_T c5,VI,CL,r1,W1 hRL,W1 hLf,h2,W3]
 all_goals
  refine(PT hRI1 hcf).mono ?_;rintro o H3 n3 (⟨hz,-⟩|⟨-,rfl,rest3,rfl,rfl⟩)
  ·rw[hz]at hal';simp at hal'
  have y1:(n1=n+4)=False:=W4 zo;have hla3:(a<(cells++rest3).length)=True:=W1 (by simp;omega);simp only[eZ,seval,eY,retK,hnb1,y1,b0,b1,u9,hla3,AN];have eset:((cells++rest3).map eI).set a (.int .i64 (i:Int))=((cells.set a (i:Int))++rest3).map eI:=by
   rw[<-Z1 _ _ hal',List.map_set]
  have hlen:(cells.set a (i:Int)).length=cells.length:=YD;have hrpn1:=hf1.lt hr1;have hC':ClC k x (cells.set a (i:Int)):=⟨by rw[hlen];exact hC.len,λs hs h0=>by
   rcases YJ hs with q|q
   ·exact hC.sy s q h0
   ·rw[q];exact⟨zo,zo⟩⟩
  have hng:=NW hgc zo (show(0:Int)<=(i:Int)by omega);rw[eset];have hcall:=ih (cells.set a (i:Int)) l1 (hset H1 (n1+2) (.arr 1 (((cells.set a (i:Int))++rest3).map eI))) (n1+4) (n1+2) (cells.length+rest3.length) rest3 (hf1.hset zo zo) (by rw[AA _ _ _ _ zo];exact hr1) (AB ..) (by rw[hlen];omega) hC' hng hl1;rw[hlen]at hcall;refine hcall.mono ?_;rintro o H4 n4 ⟨hf4,hn4,hk4,hres⟩;have hk4':CU rp (n+8) H2 H4:=(hk.new zo).trans hk4 zo;cases htr:Ct (AZ k) x letters f (cells.set a (i:Int)) l1 with
  |none=>
   rw[htr]at hres;obtain rfl:o= .ret (.bool false):=hres;simp only[eZ,seval,W6,retK,W6];exact⟨hf4,zo,hkb2.trans hk4' zo,rfl⟩
  |some l2=>
   rw[htr]at hres;obtain⟨rfl,hr4⟩:=hres;have hl2:=Md _ _ _ _ htr;simp only[eZ,seval,W3,retK,W3,e];exact .mk ⟨i+1,l2,H4,n4⟩ rfl ⟨c5,hf4,zp,hk4',hr4,rfl,zp⟩ zp
theorem Pr{cells:List Int}{a:Nat}{t:Int}(h:negs cells=0)(ha:cells[a]?=some t):0<=t:=by
 apply Classical.byContradiction;intro q;have h1:t∈cells.filter λs=>decide (s<0):=Y6.2 ⟨XB ha,by simp;omega⟩
 unfold negs at h;rw[Xg h]at h1;cases h1
theorem Ps{vals:List Int}{cells:List Int}(h:negs cells=0)(l:List Cas):Ct vals x letters 0 cells l=Ct vals x letters 1 cells l:=by
 cases l with
 |nil=>rw[Ct,Ct]
 |cons c l=>
  rw[Ct,Ct];have e9:¬(c.k=NU/\0<=c.a/\c.a<cells.length/\at0 cells c.a<0):=λq=>by
   have:=Pr h (CQ q.2.1 q.2.2.1);omega
  rw[W7 e9,W7 e9]
theorem UD(h:RdC k x letters)(rp:Nat):∀(f:Nat) (cells:List Int) (l:List Cas) (H:AC) (n id cap:Nat) (rest:List Int),AQ H n->hget H rp=some (.box (Bv k x letters (eCs l)))->hget H id=some (.arr 1 ((cells++rest).map eI))->cells.length<=cap->ClC k x cells->negs cells<=f->l.length<1000000000->
  AP prog 46 [.ptr rp 0,.ref id 1 0 cells.length cap] H n (VH rp k x letters H n (Ct (AZ k) x letters f cells l))
 |0,cells,l,H,n,id,cap,rest,hf,hrp,hidq,hcap,hC,hneg,hl=>by
  rw[Ps zo];exact Pq h rp 0 cells (λcells' l H n id cap rest _ _ _ _ _ hn _=>zo) l H n id cap rest hf hrp hidq hcap hC hl
 |f+1,cells,l,H,n,id,cap,rest,hf,hrp,hidq,hcap,hC,hneg,hl=>
  Pq h rp f cells (λcells' l H n id cap rest a1 a2 a3 a4 a5 hn a6=>UD h rp f cells' l H n id cap rest a1 a2 a3 a4 a5 zo a6) l H n id cap rest hf hrp hidq hcap hC hl
end
section
def Cu(k:Zm)(x:Zt):Int:=if BF k≠0 then BF k else chk x
def Tsv:Tab:=tadd 39 (s1 dX FewL λx=>eI (chk x)) Tlt
def Tsv_ok:AI prog Tsv:=UA.add (q1 λx h=>p39 x h)
theorem Tsv_c(a:List Fs)(H:AC):Tsv 32 a H=s1 dKn (λk=>Zh k.d) (λk=>.int .i64 (BF k)) a H:=rfl
theorem Tsv_m(a:List Fs)(H:AC):Tsv 39 a H=s1 dX FewL (λx=>eI (chk x)) a H:=rfl
def p45(k:Zm)(x:Zt)(hk:Zh k.d)(hx:FewL x):Pur prog 45 [Bh k,encL x] (eI (Cu k x)):=by
 have u1:dKn.ok (.agg (AJ k))=True:=DE k;have u2:dKn.dec (.agg (AJ k))=k:=CC k;simp only[AJ,AD,AH,X3,X1]at u1 u2;have v1:dX.ok (.agg (BM x))=True:=To x;have v2:dX.dec (.agg (BM x))=x:=Nb x;simp only[BM]at v1 v2;refine .mk ⟨Ah 0 k,Du 0 x,trivial⟩ trivial (c45.a (AF Tsv_ok (AG ?_)));unfold Cu;by_cases h:BF k=0
 ·simp only[eZ,seval,W3,c45,AJ,AD,AH,Tsv_c,Tsv_m,s1,u1,u2,v1,v2,W1 hk,W1 hx,W1 h]
 ·simp only[eZ,seval,W6,c45,AJ,AD,AH,Tsv_c,s1,u1,u2,W1 hk,W4 h]
def i04:((0:Int)<4)=True:=W1 zd
abbrev eTr(t:List (List Cas)):Fs:=.sl (.none 1) (t.map eCs)
abbrev encPf(t:List (List Cas)):Fs:=.agg [eTr t]
def Pt(n:Nat)(l:List Cas):(eCs l).under n:=⟨trivial,Au (f:=encC) (λc=>⟨trivial,trivial,trivial⟩) _⟩
def LX(n:Nat)(t:List (List Cas)):(encPf t).under n:=⟨⟨trivial,Au (Pt n) _⟩,trivial⟩
abbrev eCk:List (Nat×Bool×Fs):=[(3,true,.ptr 0 0),(4,true,.ptr 1 0),(5,true,.ptr 2 0),(6,true,.ptr 3 0),(7,true,.ptr 4 0),(8,true,.ptr 5 0),(25,true,clC 8 7)]
noncomputable abbrev lpCk (l':Nat) (st:LoopState) (pend:Option Code):Zk:=.lp ⟨l',st,pend,75,eCk, #[26],Im,Iq⟩
def UE(k:Zm)(x:Zt)(trees:List (List Cas))(D:List (List Int)):Prop:=∀(i:Nat) l,D[i]?=some l->∃t,trees[i]?=some t/\Ct (AZ k) x l x.cs.length (begC x l) t=some []
structure CkJ(k:Zm)(x:Zt)(trees:List (List Cas))(l':Nat)(F:Nat->Prop)(D:List (List Int))(H:AC)(m:Nat):Prop where
 fr:AQ H m
 lm:11<=m
 nF:∀i,F i->i=7\/i=8\/11<=i
 h0:hget H 0=some (.box (AJ k))
 h1:hget H 1=some (.box (BM x))
 h2:hget H 2=some (.box [eTr trees])
 h3:hget H 3=some (.box [.bool false])
 h4:hget H 4=some (.box [.int .i64 0])
 h5:hget H 5=some (.box [.int .i64 D.length])
 hL:hget H 10=some (lpCk l' .ready none)
 ok:UE k x trees D
def CkS(k:Zm)(x:Zt)(trees:List (List Cas))(l':Nat)(H:AC)(m:Nat):Prop:=
 hget H 3=some (.box [.bool false])/\hget H 4=some (.box [.int .i64 0])/\hget H 10=some (lpCk l' .done (some .ret))/\GR (AZ k) x trees=false
variable {k:Zm} {x:Zt}
theorem VJ{trees:List (List Cas)}{l':Nat}(hR:∀letters∈chs (AZ k).length x.ls.length,RdC k x letters)(htr':few trees)(ht:∀t∈trees,few t):Gen (chs (AZ k).length x.ls.length) l' (CkJ k x trees l') (CkS k x trees l') where
 fr:=λF D H m h=>h.fr
 frame:=by
  rintro F F' D H H' m m' ⟨fr,lm,nF,h0,h1,h2,h3,h4,h5,hL,ok⟩ hF hH hf hm;have n1:∀i,i<11->i≠7->i≠8->hget H' i=hget H i:=λi a b c=>hH i λq=>by
   rcases hF i q with q|q
   ·have:=nF i q;omega
   ·omega
  exact⟨hf,zo,λi h=>(hF i h).elim (nF i) (λq=>zo),by rw[n1 0 zd zd zd];exact h0,by rw[n1 1 zd zd zd];exact h1,by rw[n1 2 zd zd zd];exact h2,
   by rw[n1 3 zd zd zd];exact h3,by rw[n1 4 zd zd zd];exact h4,by rw[n1 5 zd zd zd];exact h5,by rw[n1 10 zd zd zd];exact hL,ok⟩
 yld:=by
  rintro F D letters H m R ⟨fr,lm,nF,h0,h1,h2,h3,h4,h5,hL,ok⟩ hF hA hRt hRf;refine y18_0 hL rfl (AF AI.tnil (AG ?_));simp only[eE,eN,seval,RA,renv,Yj,Ym,XM,Yz];refine⟨_,hL,rfl,AF AI.tnil (AG ?_)⟩;have hf':AQ (hset H 10 (lpCk l' .busy none)) m:=fr.hset (W8 _) zo;generalize hH1:hset H 10 (lpCk l' .busy none)=H1 at hf'⊢;have k1:∀i,i≠10->hget H1 i=hget H i:=λi hi=>by rw[<-hH1,AA _ _ _ _ hi.symm]
  have hL1:hget H1 10=some (lpCk l' .busy none):=by rw[<-hH1,AB]
  have a0:=(k1 0 zd).trans h0;have a1:=(k1 1 zd).trans h1;have a2:=(k1 2 zd).trans h2;have a3:=(k1 3 zd).trans h3;have a4:=(k1 4 zd).trans h4;have a5:=(k1 5 zd).trans h5;clear hH1;have hmem:letters∈chs (AZ k).length x.ls.length:=by
   obtain⟨t,ht⟩:=hA;rw[<-ht];simp
  have hrd:=hR _ hmem;simp only[AJ,AD,AH,X3,X1]at a0;by_cases hl:D.length=trees.length
  ·have hl':((D.length:Int)=(trees.length:Int))=True:=W1 zo;have hl2:decide ((D.length:Int)=(trees.length:Int))=true:=by simp;omega
   simp only[eZ,seval,W0,NH,a5,a2,hl',a3,a4];refine⟨⟨l',.busy,none,75,eCk, #[26],Im,Iq⟩,by rw[AA _ _ _ _ zd,AA _ _ _ _ zd];exact hL1,hRf _ _ ⟨?_,?_,AB ..,?_⟩⟩
   ·simp_all [AA,decide,AB]
   ·rw[AA _ _ _ _ zd,AB]
   ·unfold GR;obtain⟨t,hA⟩:=hA;have hlen:(chs (AZ k).length x.ls.length).length≠trees.length:=by
     rw[<-hA];simp;omega
    rw[Wp hlen,Ys]
  have hl':((D.length:Int)=(trees.length:Int))=False:=W4 zo;have hl2:decide ((D.length:Int)=(trees.length:Int))=false:=by simp;omega
  have hDl:D.length<trees.length:=by
   have:D.length<=trees.length:=by
    apply Classical.byContradiction;intro q;obtain⟨t,h1,-⟩:=ok trees.length D[trees.length] (W2 zo);rw[Yu zo]at h1;cases h1
   omega
  have hgt:=W2 hDl;have htf:=ht _ (Wn hDl);generalize trees[D.length]=tr at hgt htf;have hX:=hrd.ox;have hxc:=hX.c;have hxl:=hX.l;have hx4:=hX.cs.2.2;rw[<-hrd.ll]at hxl;have hgl:=CQ hxl.1 hxl.2;have z:∀j,j<11->(m=j)=False:=λj hj=>W4 zo
  have z':∀j,j<11->(j=m)=False:=λj hj=>W4 zo
  have z0:=z 0 zd;have z1:=z 1 zd;have z2:=z 2 zd;have z3:=z 3 zd;have z4:=z 4 zd;have z5:=z 5 zd;have z10:=z 10 zd;have w1:((x.cs.length:Int)<=4)=True:=W1 zo;have w2:(0<=x.c)=True:=W1 hxc.1;have w3:(x.c<(x.cs.length:Int))=True:=W1 hxc.2;have w4:(x.c.toNat<4)=True:=W1 zo;have w5:(0<=x.l)=True:=W1 hxl.1;have w6:(x.l<(letters.length:Int))=True:=W1 hxl.2;have w7:(x.l.toNat<letters.length)=True:=W1 zo;simp only[BM]at a1;simp only[eZ,seval,xE,eY,NH,a5,a2,hl',a0,a1,fr1 hf',fr0 hf',bsmS,bsmF,z0,z1,z2,z5,w1,w2,w3,w4,w5,w6,hgl,hgt,lt_T hDl,Nat.sub_zero,c4n,i04,AN];have hbeg:([.int .i64 (-1),.int .i64 (-1),.int .i64 (-1),.int .i64 (-1)]:List Fs).set x.c.toNat (eI (at0 letters x.l))=((begC x letters)++List.replicate (4-x.cs.length) (-1)).map eI:=by
   unfold begC;rw[<-Z1 _ _ (by rw[Y7];omega),List.replicate_append_replicate,show x.cs.length+(4-x.cs.length)=4 by omega,List.map_set];rfl
  rw[hbeg];generalize hHa:hset H1 m (Zk.arr 1 _)=Ha;have hfa:AQ Ha (m+15):=by rw[<-hHa];exact hf'.hset zo zo
  have hbl:=Jl x letters;have hC:ClC k x (begC x letters):=by
   refine⟨hbl,λs hs h0=>?_⟩;have hb:=I0 hX hmem;unfold begC at hs;rcases YJ hs with q|q
   ·rw[List.mem_replicate]at q;omega
   ·grind [AZ,List.length_map]
  have hcall:=UD hrd (m+15) x.cs.length (begC x letters) tr (hset Ha (m+15) (.box (Bv k x letters (eCs tr)))) (m+17) m 4 (List.replicate (4-x.cs.length) (-1)) (hfa.hset zo zo) (AB ..) (by rw[AA _ _ _ _ zo,<-hHa,AB]) (by rw[hbl];omega) hC Tm htf;rw[hbl]at hcall;refine hcall.mono ?_;rintro o H4 n4 ⟨hf4,hn4,hk4,hres⟩;have hkeep:∀i,i<m->hget H4 i=hget H1 i:=λi hi=>by
   rw[hk4 i zo zo,AA _ _ _ _ zo,<-hHa,AA _ _ _ _ zo]
  have b3:=(hkeep 3 zo).trans a3;have b4:=(hkeep 4 zo).trans a4;have b5:=(hkeep 5 zo).trans a5;have b10:=(hkeep 10 zo).trans hL1;have hwrong:∀q,Ct (AZ k) x letters x.cs.length (begC x letters) tr=q->q≠some []->GR (AZ k) x trees=false:=λq hq d8=>by
   unfold GR;rw[YU];by_cases hlen:(chs (AZ k).length x.ls.length).length=trees.length
   ·right;rw[YS];obtain⟨t,hA⟩:=hA;refine⟨(letters,tr),?_,by rw[hq];simpa using d8⟩;rw[List.mem_iff_getElem?];refine⟨D.length,?_⟩;rw[List.getElem?_zip_eq_some];refine⟨?_,hgt⟩;rw[<-hA];simp
   ·exact .inl (Wp hlen)
  have stop:GR (AZ k) x trees=false->UV 10 R Zg.ret ⟨[],hset (hset H4 3 (.box [.bool false])) 4 (.box [.int .i64 0]),n4⟩:=λhw=>by
   refine⟨⟨l',.busy,none,75,eCk, #[26],Im,Iq⟩,by rw[AA _ _ _ _ zd,AA _ _ _ _ zd];exact b10,hRf _ _ ⟨?_,?_,AB ..,hw⟩⟩
   ·simp_all [AA,decide,AB]
   ·rw[AA _ _ _ _ zd,AB]
  cases htr:Ct (AZ k) x letters x.cs.length (begC x letters) tr with
  |none=>
   rw[htr]at hres;obtain rfl:o= .ret (.bool false):=hres;simp only[eZ,seval,W3,W6,retK,b3,b4,W6];exact stop (hwrong _ htr zw)
  |some l2=>
   rw[htr]at hres;obtain⟨rfl,hr4⟩:=hres;simp only[Bv,AJ,AD,AH,BM,X3,X1]at hr4;cases l2 with
   |cons c2 l2=>
    have g2:((0:Int)<((l2.length+1:Nat):Int))=True:=cS1;simp only[eZ,seval,W3,W0,retK,b3,b4,hr4,W3,g2];exact stop (hwrong _ htr zw)
   |nil=>
    have e:=AE (k:=D.length) (by have:trees.length<1000000000:=htr';omega);simp only[eZ,seval,W3,eY,retK,b5,hr4,W3,e];have hF':∀i,F i->i≠5/\i≠10:=λi hi=>by have:=nF i hi;omega
    refine⟨⟨l',.busy,none,75,eCk, #[26],Im,Iq⟩,by rw[AA _ _ _ _ zd];exact b10,hRt _ _ ⟨(hf4.hset (m:=n4) (W8 _) zo).hset (m:=n4) (W8 _) zo,zp,nF,?_,?_,?_,?_,?_,?_,AB ..,?_⟩ (λi hi=>?_) zp⟩
    ·rw[AA _ _ _ _ zd,AA _ _ _ _ zd,hkeep 0 zo,k1 0 zd];exact h0
    ·rw[AA _ _ _ _ zd,AA _ _ _ _ zd,hkeep 1 zo,k1 1 zd];exact h1
    ·rw[AA _ _ _ _ zd,AA _ _ _ _ zd,hkeep 2 zo];exact a2
    ·rw[AA _ _ _ _ zd,AA _ _ _ _ zd];exact b3
    ·rw[AA _ _ _ _ zd,AA _ _ _ _ zd];exact b4
    ·rw[AA _ _ _ _ zd,AB,Wr];rfl
    ·intro i l hl;by_cases q:i<D.length
     ·rw[Xr q]at hl;exact ok i l hl
     ·grind
    ·have:=hF i hi;rw[AA _ _ _ _ (λq=>(hF' i hi).2 q.symm),AA _ _ _ _ (λq=>(hF' i hi).1 q.symm),hkeep i zo,k1 i (hF' i hi).2]
theorem Pu{trees:List (List Cas)}(h:UE k x trees (chs (AZ k).length x.ls.length)):GR (AZ k) x trees=decide ((chs (AZ k).length x.ls.length).length=trees.length):=by
 unfold GR;rw[Bool.and_eq_left_iff_imp];intro hl;rw[Wo];rintro⟨l,t⟩ hm;obtain⟨i,hi⟩:=List.mem_iff_getElem?.1 hm;rw[List.getElem?_zip_eq_some]at hi;obtain⟨t',h1,h2⟩:=h i l hi.1;rw[hi.2]at h1;cases h1;exact Wv h2
def JG(k:Zm)(x:Zt)(trees:List (List Cas)):Fs:=if Cu k x≠0 then .tup [.bool false,.int .i64 (Cu k x)]else .tup [.bool (GR (AZ k) x trees),.int .i64 0]
theorem Me(hk:Zh k.d)(hx:FewL x)(h:Cu k x=0){letters:List Int}(hl:letters∈chs (AZ k).length x.ls.length):RdC k x letters:=by
 unfold Cu at h;by_cases hc:BF k=0
 ·rw[W7 (by simpa using hc)]at h;have ho:Ga x=true:=by
   unfold chk at h;split at h
   ·assumption
   ·cases h
  exact⟨hc,hk,hx,(MG x).1 ho,(Jk hl).1⟩
 ·rw[Wg hc]at h;exact absurd h hc
def rowVd:List Fs->AC->Prop×Fs:=s2 dKn dX (λk x=>Zh k.d/\FewL x) λk x=>eI (Cu k x)
def Tsc:Tab:=tadd 45 rowVd tnil
theorem UF:AI prog Tsc:=AI.tnil.add (q2 λk x h=>p45 k x h.1 h.2)
theorem SZ(a:List Fs)(H:AC):Tsc 45 a H=s2 dKn dX (λk x=>Zh k.d/\FewL x) (λk x=>eI (Cu k x)) a H:=rfl
theorem p18(k:Zm)(x:Zt)(trees:List (List Cas))(hk:Zh k.d)(hx:FewL x)(htr:few trees)(ht:∀t∈trees,few t):Pur prog 18 [Bh k,encL x,encPf trees] (JG k x trees):=by
 have u1:dKn.ok (.agg (AJ k))=True:=DE k;have u2:dKn.dec (.agg (AJ k))=k:=CC k;simp only[AJ,AD,AH,X3,X1]at u1 u2;have v1:dX.ok (.agg (BM x))=True:=To x;have v2:dX.dec (.agg (BM x))=x:=Nb x;simp only[BM]at v1 v2;refine .mk ⟨Ah 0 k,Du 0 x,LX 0 trees,trivial⟩ ?_ (a18 (AF UF (AG ?_)))
 ·unfold JG;split<;>exact⟨trivial,trivial,trivial⟩
 unfold JG;by_cases hv:Cu k x=0;case neg=>simp only[eZ,eX,seval,W6,BG,c18,AJ,AD,AH,SZ,s2,u1,u2,v1,v2,W1 hk,W1 hx,W4 hv];exact Wk.refl _
 have hvl:(AZ k).length=k.d.syms.length:=by unfold AZ;rw[W0]
 simp only[eZ,seval,W3,W0,c18,AJ,AD,AH,SZ,s2,u1,u2,v1,v2,W1 hk,W1 hx,W1 hv,AN];rw[hv];have hck:BF k=0:=by simp_all [Cu]<;>omega
 have hsy:=B1 hck;generalize hHa:hset (hset _ 4 _) 5 (Zk.box _)=Ha;have fa:AQ Ha 7:=by
  rw[<-hHa];repeat' (first|exact AQ.nil.hset (m:=7) (We _) zd|refine AQ.hset ?_ (W8 _) zd)
 have f0:hget Ha 0=some (.box (AJ k)):=by rw[<-hHa];rfl
 have f1:hget Ha 1=some (.box (BM x)):=by rw[<-hHa];rfl
 have f2:hget Ha 2=some (.box [eTr trees]):=by rw[<-hHa];rfl
 have f3:hget Ha 3=some (.box [.bool false]):=by rw[<-hHa];rfl
 have f4:hget Ha 4=some (.box [.int .i64 0]):=by rw[<-hHa];rfl
 have f5:hget Ha 5=some (.box [.int .i64 0]):=by rw[<-hHa];rfl
 clear hHa;have s6:x.ls.length<=1000:=by
  have ho:Ga x=true:=by
   unfold Cu at hv;rw[W7 (by simpa using hck)]at hv;unfold chk at hv;split at hv
   ·assumption
   ·cases hv
  have:=((MG x).1 ho).ls.2.2.2;omega
 refine(FB (M:=k.d.syms.length) (n:=x.ls.length) fa).mono ?_;rintro o H1 n1 ⟨rfl,rfl,rfl⟩;simp only[eE,eN,seval,retK,FE];intro l';generalize hHb:hset (hset (hset Ha 7 _) _ _) _ (Zk.lp _)=Hb;have kb:∀i,i<7->hget Hb i=hget Ha i:=λi hi=>by
  rw[<-hHb,AA _ _ _ _ zo,AA _ _ _ _ zo,AA _ _ _ _ zo]
 have e8:hget Hb 8=some (.box [.int .i64 x.ls.length]):=by rw[<-hHb,AA _ _ _ _ zd];exact AB ..
 have e7:hget Hb 7=some (.box [.int .i64 (AZ k).length]):=by rw[<-hHb,AA _ _ _ _ zd,AA _ _ _ _ zd,hvl];exact AB ..
 have hJ:CkJ k x trees l' (λi=>i=7\/i=8) [] Hb 11:=by
  refine⟨?_,W8 _,λi h=>zo,(kb 0 zd).trans f0,(kb 1 zd).trans f1,(kb 2 zd).trans f2,(kb 3 zd).trans f3,(kb 4 zd).trans f4,(kb 5 zd).trans f5,by rw[<-hHb];exact AB ..,λi l h=>by simp at h⟩;rw[<-hHb];exact((fa.hset (m:=11) zd zd).hset (W8 _) zd).hset (W8 _) zd
 have hgen:=VJ (k:=k) (x:=x) (trees:=trees) (l':=l') (λletters hl=>Me hk hx hv hl) htr ht;have hM:(AZ k).length<=1000:=zo
 refine(LT hgen hM s6 hJ (λi h=>zo) (.inr rfl) (.inl rfl) e8 e7).mono ?_;rintro o H' m' ⟨rfl,⟨F',-,hF',hj⟩|⟨s3,s4,sL,hw⟩⟩
 ·obtain⟨fr,lm,nF,h0,h1,h2,h3,h4,h5,hL,ok⟩:=hj;rw[Pu ok];generalize (chs (AZ k).length x.ls.length).length=cl at h5;simp only[eE,eN,seval,BG,W0,FD,hL,h2,h3,h4,h5];rw[show decide ((cl:Int)=(trees.length:Int))=decide (cl=trees.length)from decide_eq_decide.2 zo];exact Wk.refl _
 ·simp only[eE,eN,seval,BG,FD,sL,s3,s4,hw];exact Wk.refl _
end
def nms:List Bs:=[[97],[98],[99],[100]]
def lemS(q:Cnd)(nc nl:Nat):Zt:=⟨[120],1,nms.take nc,nms.take nl,[q],[],0,0⟩
def p40(q:Cnd)(nc nl:Nat)(h1:nc<=4)(h2:nl<=4):Pur prog 40 [encQ q,.int .i64 nc,.int .i64 nl] (encL (lemS q nc nl)):=by
 refine .mk ⟨CI 0 q,trivial,trivial,trivial⟩ (Du 0 _) (c40.a (AF AI.tnil (AG ?_)));have w1:((nc:Int)<=4)=True:=W1 zo;have w2:((nl:Int)<=4)=True:=W1 zo;simp only[eE,eN,seval,BG,eY,c40,w1,w2,c4n];have hn:∀(b:Bool) (m:Nat),Wk (.sl (if b=true then Zu.exact 1 else Zu.none 1) (List.take m [.str [97],.str [98],.str [99],.str [100]])) (.sl (.none 1) ((nms.take m).map .str)):=λb m=>by
  rw[List.map_take];exact Wk.sl (.inl (by cases b<;>rfl))
 have hn':∀(p:Prop) [Decidable p] (m:Nat),Wk (.sl (if p then Zu.exact 1 else Zu.none 1) (List.take m [.str [97],.str [98],.str [99],.str [100]])) (.sl (.none 1) ((nms.take m).map .str)):=λp _ m=>by
  have:=hn (decide p) m;simpa only[W9]using this
 exact Wk.agg (.cons (Wk.refl _) (.cons (Wk.refl _) (.cons (hn' _ _) (.cons (hn' _ _) (.cons (Wk.sl (.inl rfl)) (.cons (Wk.sl (.inr rfl)) (.cons (Wk.refl _) (.cons (Wk.refl _) .nil))))))))
def p38(s m:Int):Pur prog 38 [eI s,.ep [.int .i64 m]] (.bool (decide (s< -1)||decide (m<=s))):=by
 refine .mk ⟨trivial,⟨trivial,trivial⟩,trivial⟩ trivial (c38.a (AF AI.tnil (AG ?_)));by_cases h:s< -1
 ·simp only[eZ,seval,W3,c38,W1 h]
 ·simp only[eZ,seval,c38,W4 h]
def fIx(l:List Int)(p:Int->Bool):Int:=match l.findIdx? p with
 |some i=>i
 |none=>-1
def VK(l:List Int)(p:Int->Bool):decide (0<=fIx l p)=l.any p:=by
 unfold fIx;cases h:l.findIdx? p with
 |none=>simp_all
 |some i=>
  obtain⟨hi,h1,-⟩:=Xq.1 h;rw[show l.any p=true from Yk.2 ⟨_,Wn hi,h1⟩];simp
theorem p_ixfI{g:FuncId}{cap:List Fs}{p:Int->Bool}(l:List Int)(hl:few l)(hcap:unders 0 cap)(hq:∀x,x∈l->Pur prog g (eI x::cap) (.bool (p x))):
  Pur prog 65 [eIs l,.fn (.func g) [] cap] (.int .i64 (fIx l p)):=by
 have hT:AI prog (tadd g (rowS cap (λx=>x∈l) λx=>.bool (p x)) tnil):=AI.tnil.add (VB hq);have hTe:∀a H,tadd g (rowS cap (λx=>x∈l) λx=>.bool (p x)) tnil g a H=rowS cap (λx=>x∈l) (λx=>.bool (p x)) a H:=λa H=>by unfold tadd;rw[Wg rfl]
 generalize tadd g (rowS cap (λx=>x∈l) λx=>.bool (p x)) tnil=T at hT hTe;refine .mk ⟨AR 0 _,⟨trivial,hcap⟩,trivial⟩ trivial (c65.a (AF hT (AG ?_)));have l8:l.length<1000000000:=hl;simp only[eE,eN,seval,W0,c65];refine AL (λi:Nat=>⟨[(0,true,eIs l),(1,true,.fn (.func g) [] cap),(7,true,.int .i64 l.length),(8,true,.int .i64 i)],hnil,0⟩) (λi=>i<=l.length/\∀(j:Nat) x,j<i->l[j]?=some x->p x=false) (λi=>l.length-i) 0 rfl ⟨We _,λj x h=>zo⟩ ?_;rintro i ⟨hi,he⟩;by_cases c5:i<l.length;case neg=>
  obtain rfl:i=l.length:=zo
  have:fIx l p= -1:=by
   unfold fIx;rw[Yi.2 λx hx=>by
    obtain⟨j,hj,rfl⟩:=X9.1 hx;exact he j _ hj (W2 hj)]
  rw[this];simp only[eZ,seval,lt_F c5]
 have hg:=W2 c5;have hm:=Wn c5;have e:=AE (k:=i) zo;have hfx:p l[i]=true->fIx l p=(i:Int):=λhp=>by
  unfold fIx;rw[Xq.2 ⟨c5,hp,λj hj=>by
   have:=he j _ hj (W2 zo);rw[this];decide⟩]
 generalize l[i]=x at hg hm hfx;cases hp:p x with
 |true=>
  rw[hfx hp];simp only[eZ,seval,eY,lt_T c5,hg,hTe,rowS,W1 hm,hp]
 |false=>
  simp only[eZ,seval,eY,lt_T c5,hg,hTe,rowS,W1 hm,hp,e];refine .mk (i+1) rfl ⟨c5,λj y hj hy=>?_⟩ zo;by_cases q:j<i
  ·exact he j y q hy
  ·obtain rfl:j=i:=zo
   rw[hg]at hy;cases hy;exact hp
def p_cfI{g:FuncId}{cap:List Fs}{p:Int->Bool}(l:List Int)(hl:few l)(hcap:unders 0 cap)(hq:∀x,x∈l->Pur prog g (eI x::cap) (.bool (p x))):
  Pur prog 37 [eIs l,.fn (.func g) [] cap] (.bool (l.any p)):=by
 have hp:=p_ixfI l hl hcap hq;refine .mk ⟨AR 0 _,⟨trivial,hcap⟩,trivial⟩ trivial (c37.a (AF (T:=tadd 65 (rowX [eIs l,.fn (.func g) [] cap] (λ_=>True) (.int .i64 (fIx l p))) tnil) (AI.tnil.add (LQ λH n _=>hp.quiet H n)) (AG ?_)));have hTe:∀a H,tadd 65 (rowX [eIs l,.fn (.func g) [] cap] (λ_=>True) (.int .i64 (fIx l p))) tnil 65 a H=rowX [eIs l,.fn (.func g) [] cap] (λ_=>True) (.int .i64 (fIx l p)) a H:=λa H=>by unfold tadd;rw[Wg rfl]
 simp only[eE,eN,seval,c37,rowX];rw[VK]
def Sa(q:Cnd){nc nl:Nat}(h1:1<=nc/\nc<=4)(h2:1<=nl/\nl<=3):Ga (lemS q nc nl)=Bk q nc nl:=by
 have e1:Cr [120]=true:=zd
 have e2:Cr [97]=true:=zd
 have e3:Cr [98]=true:=zd
 have e4:Cr [99]=true:=zd
 have e5:Cr [100]=true:=zd
 have a:nc=1\/nc=2\/nc=3\/nc=4:=zo
 have b:nl=1\/nl=2\/nl=3:=zo
 rcases a with rfl|rfl|rfl|rfl<;>rcases b with rfl|rfl|rfl<;>simp [Ga,lemS,DN,difI,BA,nms,e1,e2,e3,e4,e5]
theorem E5{α:Type}[DecidableEq α]:∀{l:List α},l.Nodup->BA l=true
 |[],_=>rfl
 |x::r,h=>by
  obtain⟨h1,h2⟩:=Yc.1 h;rw[BA,E5 h2,Bool.and_true,XQ,YG];intro y hy;simp only[W9];rintro rfl;exact h1 hy
def DG{l:List Int}{n:Nat}:difI l n=true↔(∀c∈l,0<=c/\c<(n:Int))/\l.Nodup:=by
 unfold difI;rw[W5,Wo];constructor
 ·rintro⟨h1,h2⟩;exact⟨λc hc=>by simpa using h1 c hc,Dd h2⟩
 ·rintro⟨h1,h2⟩;exact⟨λc hc=>by simpa using h1 c hc,E5 h2⟩
def ED(k:Zm)(q:Cnd)(letters cells:List Int):Fs:=
 if BF k≠0 then .tup [.bool false,.int .i64 (BF k)]
 else if letters.length<1\/3<letters.length\/cells.length<1\/4<cells.length then .tup [.bool false,.int .i64 1]
 else if difI letters k.d.syms.length=false then .tup [.bool false,.int .i64 1]
 else if(cells.any λs=>decide (s< -1)||decide ((k.d.syms.length:Int)<=s))=true then .tup [.bool false,.int .i64 1]
 else if Bk q cells.length letters.length=false then .tup [.bool false,.int .i64 300]
 else .tup [.bool (El (AZ k) q letters cells),.int .i64 0]
def LY:List Fs->AC->Prop×Fs:=λa H=>match a with
 |[Q,.int .i64 nc,.int .i64 nl]=>(dQ.ok Q/\(0<=nc/\nc<=4)/\0<=nl/\nl<=4,encL (lemS (dQ.dec Q) nc.toNat nl.toNat))
 |_=>(False,.tup [])
def rowLeq:∀args H n,(LY args H).1->Am prog 40 args H n (LY args H).2:=by
 intro args H m hh;unfold LY at hh⊢;split at hh
 ·rename_i Q nc nl;obtain⟨h1,h2,h3⟩:=hh;obtain⟨a,rfl⟩:=XZ h2.1;obtain⟨b,rfl⟩:=XZ h3.1;refine AP.args ((p40 (dQ.dec Q) a b zo zo).quiet H m) ?_;rintro g vs ⟨v,r,rfl,k1,k2⟩;exact⟨v,_,rfl,dQ.wk _ h1 _ _ k1,k2⟩
 ·exact hh.elim
def J5(m:Int):List Fs->AC->Prop×Fs:=λa H=>match a with
 |[.sl t L,.fn (.func g) [] [.ptr q 0]]=>(g=38/\hget H q=some (.box [.int .i64 m])/\dIs.ok (.sl t L)/\few (L.map toI),.bool ((L.map toI).any λs=>decide (s< -1)||decide (m<=s)))
 |_=>(False,.tup [])
def rowCfq(m:Int):∀args H n,(J5 m args H).1->Am prog 37 args H n (J5 m args H).2:=by
 intro args H n hh;unfold J5 at hh⊢;split at hh
 ·obtain⟨rfl,h1,h2,h3⟩:=hh;exact(p_cfI _ h3 ⟨⟨trivial,trivial⟩,trivial⟩ (p:=λs=>decide (s< -1)||decide (m<=s)) (cap:=[.ep [.int .i64 m]]) λx _=>p38 x m).view trivial (.cons (.wk (dIs.wk _ h2)) (.cons (.fn .nil (.cons (View.ptr (off:=0) h1) .nil)) .nil)) n
 ·exact hh.elim
def Tcw(k:Zm):Tab:=tadd 32 (s1 dKn (λk=>Zh k.d) λk=>.int .i64 (BF k)) (tadd 39 (s1 dX FewL λx=>eI (chk x)) (tadd 40 LY (tadd 37 (J5 k.d.syms.length) (tadd 41 (F8 k) (tadd 36 CL tnil)))))
def Tcw_ok(k:Zm):AI prog (Tcw k):=(((((AI.tnil.add LS).add (Pm k)).add (rowCfq _)).add rowLeq).add (q1 λx h=>p39 x h)).add (q1 λk h=>p32 k h)
theorem Nq(k:Zm)(a:List Fs)(H:AC):Tcw k 32 a H=s1 dKn (λk=>Zh k.d) (λk=>.int .i64 (BF k)) a H:=rfl
theorem Tcw_m(k:Zm)(a:List Fs)(H:AC):Tcw k 39 a H=s1 dX FewL (λx=>eI (chk x)) a H:=rfl
theorem Tcw_l(k:Zm)(a:List Fs)(H:AC):Tcw k 40 a H=LY a H:=rfl
theorem VL(k:Zm)(a:List Fs)(H:AC):Tcw k 37 a H=J5 k.d.syms.length a H:=rfl
theorem Tcw_c(k:Zm)(a:List Fs)(H:AC):Tcw k 41 a H=F8 k a H:=rfl
theorem Tcw_h(k:Zm)(a:List Fs)(H:AC):Tcw k 36 a H=CL a H:=rfl
def p13(k:Zm)(q:Cnd)(letters cells:List Int)(hk:Zh k.d)(hq:few q.cs/\few q.ls)(hl:few letters)(hc:few cells):Pur prog 13 [Bh k,encQ q,eIs letters,eIs cells] (ED k q letters cells):=by
 have u1:dKn.ok (.agg (AJ k))=True:=DE k
 have u2:dKn.dec (.agg (AJ k))=k:=CC k
 simp only[AJ,AD,AH,X3,X1]at u1 u2
 have v1:dQ.ok (.agg [.int .i64 q.k,eIs q.cs,eIs q.ls,.int .i64 q.n])=True:=Rn q
 have v2:dQ.dec (.agg [.int .i64 q.k,eIs q.cs,eIs q.ls,.int .i64 q.n])=q:=LE q
 have l8:letters.length<1000000000:=hl
 have m5:cells.length<1000000000:=hc
 refine .mk ⟨Ah 0 k,CI 0 q,AR 0 _,AR 0 _,trivial⟩ ?_ (c13.a (AF (Tcw_ok k) (AG ?_)))
 ·unfold ED
  repeat' split
  all_goals exact⟨trivial,trivial,trivial⟩
 unfold ED
 by_cases h0:BF k=0
 case neg=>
  simp only[eZ,seval,W6,c13,AJ,AD,AH,Nq,s1,u1,u2,W1 hk,W4 h0]
  exact Wk.refl _
 by_cases b1:(letters.length:Int)<1
 ·simp only[eZ,seval,W3,W0,c13,AJ,AD,AH,Nq,s1,u1,u2,W1 hk,W1 h0,W1 b1]
  rw[Wg zo];exact Wk.refl _
 by_cases b2:(3:Int)<letters.length
 ·simp only[eZ,seval,W3,W0,c13,AJ,AD,AH,Nq,s1,u1,u2,W1 hk,W1 h0,W4 b1,W1 b2]
  rw[Wg zo];exact Wk.refl _
 by_cases b3:(cells.length:Int)<1
 ·simp only[eZ,seval,W3,W0,c13,AJ,AD,AH,Nq,s1,u1,u2,W1 hk,W1 h0,W4 b1,W4 b2,W1 b3]
  rw[Wg zo];exact Wk.refl _
 by_cases b4:(4:Int)<cells.length
 ·simp only[eZ,seval,W3,W0,c13,AJ,AD,AH,Nq,s1,u1,u2,W1 hk,W1 h0,W4 b1,W4 b2,W4 b3,W1 b4]
  rw[Wg zo];exact Wk.refl _
 rw[W7 (by simpa using h0),W7 zo]
 simp only[eZ,seval,W3,W0,c13,AJ,AD,AH,Nq,s1,u1,u2,W1 hk,W1 h0,W4 b1,W4 b2,W4 b3,W4 b4,AN]
 generalize hHa:hset (hset (hset hnil 0 _) 1 _) _ (Zk.box _)=Ha
 have f0:hget Ha 0=some (.box (AJ k)):=by rw[<-hHa];rfl
 have f1:hget Ha 1=some (.box [.int .i64 q.k,eIs q.cs,eIs q.ls,.int .i64 q.n]):=by rw[<-hHa];rfl
 have f8:hget Ha 8=some (.box [.int .i64 k.d.syms.length]):=by rw[<-hHa];rfl
 clear hHa
 simp only[AJ,AD,AH,X3,X1]at f0
 refine AL (λi:Nat=>⟨[(2,true,eIs letters),(3,true,eIs cells),(4,true,.ptr 0 0),(5,true,.ptr 1 0),(10,true,.ptr 8 0),(40,true,eIs letters),(41,true,.int .i64 letters.length),(42,true,.int .i64 i)],Ha,10⟩) (λi=>i<=letters.length/\difI (letters.take i) k.d.syms.length=true) (λi=>letters.length-i) 0 rfl ⟨We _,rfl⟩ ?_
 rintro i ⟨hi,he⟩
 by_cases c5:i<letters.length
 ·have hg:=W2 c5
  have e:=AE (k:=i) zo
  have htake:letters.take (i+1)=letters.take i++[letters[i]]:=by rw[Wl,hg];rfl
  have hmem:=Wn c5
  have hrng:∀s,s∈letters->¬(0<=s/\s<(k.d.syms.length:Int))->difI letters k.d.syms.length=false:=λs hs hm=>by
   rw[Yn]
   intro hd
   exact hm ((DG.1 hd).1 s hs)
  generalize letters[i]=s at hg htake hmem
  have hb':s∈letters.take i->difI letters k.d.syms.length=false:=λhm=>by
   rw[Yn]
   intro hd
   have hn:=(List.take_sublist (i+1) letters).nodup (DG.1 hd).2
   rw[htake,Y1]at hn
   exact hn.2.2 s hm s zw rfl
  have hr':=hrng s hmem
  by_cases s0:s<0
  ·rw[Wg (hr' zo)]
   simp only[eZ,seval,W3,eY,lt_T c5,hg,f8,W1 s0]
   exact Wk.refl _
  by_cases s1':(k.d.syms.length:Int)<=s
  ·rw[Wg (hr' zo)]
   simp only[eZ,seval,W3,eY,lt_T c5,hg,f8,W4 s0,W1 s1']
   exact Wk.refl _
  have hRL:RdI Ha (.sl (.none 1) ((letters.take i).map eI)) (letters.take i):=.inl ⟨_,rfl,.inl rfl⟩
  have r1:=JD hRL
  have htf:few (letters.take i):=by show(letters.take i).length<_;rw[Wx];omega
  have hile:((i:Int)<=(letters.length:Int))=True:=W1 zo
  have hmt:List.take i (letters.map eI)=(letters.take i).map eI:=List.map_take.symm
  cases s9:(letters.take i).contains s with
  |true=>
   rw[Wg (hb' (X6.1 s9))]
   simp only[eZ,seval,eY,lt_T c5,hg,f8,W4 s0,W4 s1',hile,hmt,Tcw_h,CL,r1,W1 hRL,W1 htf,s9]
   exact Wk.refl _
  |false=>
   simp only[eZ,seval,eY,lt_T c5,hg,f8,W4 s0,W4 s1',hile,hmt,Tcw_h,CL,r1,W1 hRL,W1 htf,s9,e]
   refine .mk (i+1) rfl ⟨c5,?_⟩ zo
   obtain⟨d1,d2⟩:=DG.1 he
   have m7:¬s∈letters.take i:=λhm=>by rw[X6.2 hm]at s9;cases s9
   rw[htake]
   refine DG.2 ⟨λc hc=>?_,Y1.2 ⟨d2,zw,λa ha b hb e=>?_⟩⟩
   ·rcases Xo.1 hc with q|q
    ·exact d1 c q
    ·rw[Xs.1 q];omega
   ·rw[Xs.1 hb]at e
    exact m7 (e▸ha)
 obtain rfl:i=letters.length:=zo
 rw[Wj]at he
 rw[W7 (by rw[he];decide)]
 have k1:dIs.ok (eIs cells)=True:=Ad cells
 have k2:dIs.ok (eIs letters)=True:=Ad letters
 cases hany:(cells.any λs=>decide (s< -1)||decide ((k.d.syms.length:Int)<=s))with
 |true=>
  rw[Wg rfl]
  simp only[eZ,seval,lt_F c5,f8,VL,J5,k1,As,W1 hc,hany]
  exact Wk.refl _
 |false=>
 rw[W7 zd]
 have x1:dX.ok (encL (lemS q cells.length letters.length))=True:=To _
 have x2:dX.dec (encL (lemS q cells.length letters.length))=lemS q cells.length letters.length:=Nb _
 have x3:FewL (lemS q cells.length letters.length):=by
  have t4:∀m,few (nms.take m):=λm=>by show(nms.take m).length<_;rw[Wx];exact Nat.lt_of_le_of_lt (Nat.min_le_right ..) zd
  exact⟨t4 _,t4 _,by show(1:Nat)<_;decide,by show(0:Nat)<_;decide,λp hp=>by rw[Xs.1 hp];exact hq,λp hp=>by cases hp⟩
 have x4:=Sa q (nc:=cells.length) (nl:=letters.length) zo zo
 have w1:((cells.length:Int)<=4)=True:=W1 zo
 have w2:((letters.length:Int)<=4)=True:=W1 zo
 cases hco:Bk q cells.length letters.length with
 |false=>
  have x5:chk (lemS q cells.length letters.length)=300:=by unfold chk;rw[x4,hco];rfl
  rw[Wg rfl]
  simp only[eZ,seval,W6,eY,lt_F c5,f1,f8,VL,J5,k1,As,W1 hc,hany,Tcw_l,LY,v1,v2,w1,w2,Tcw_m,s1,x1,x2,W1 x3,x5]
  exact Wk.refl _
 |true=>
  have x5:chk (lemS q cells.length letters.length)=0:=by unfold chk;rw[x4,hco];rfl
  rw[W7 zd]
  have hRC:RdI Ha (eIs cells) cells:=.inl ⟨_,rfl,.inl rfl⟩
  have r1:=JD hRC
  have hC:ClOK k q letters cells:=by
   have h1:=RI hco
   have hsy:=B1 h0
   refine⟨by rcases h1.kind with h|h|h|h|h<;>omega,?_,hq.1,λc hcc=>?_,hq.2,λc hcc=>?_,λs hs hs0=>?_,Fu h0⟩
   ·have:=LW h1.cs
    rcases h1.kind with h|h|h|h|h<;>omega
   ·have:=Wo.1 (D8 h1.cs) c hcc
    simpa only[W5,W9]using this
   ·have:=Wo.1 (D8 h1.ls) c hcc
    simpa only[W5,W9]using this
   ·grind
  simp only[eZ,seval,W3,eY,lt_F c5,f0,f1,f8,VL,J5,k1,k2,u1,u2,As,W1 hc,hany,Tcw_l,LY,v1,v2,w1,w2,Tcw_m,s1,x1,x2,W1 x3,x5,Tcw_c,F8,r1,W1 hRC,W1 hC]
  exact Wk.refl _
section
structure HoC(k:Zm)(x:Zt)(letters:List Int)(d1 d2 d3 d4 d5 rp id cap:Nat)(H:AC):Prop where
 h1:hget H d1=some (.box (BM x))
 h2:hget H d2=some (.box [.ptr rp 0])
 h3:hget H d3=some (.box [.ref id 1 0 x.cs.length cap])
 h4:hget H d4=some (.box [.fn (.func 49) [] [.ptr d1 0,.ptr d2 0,.ptr d3 0,.ptr d4 0,.ptr d5 0]])
 h5:hget H d5=some (.box (AJ k))
 hr:RdAt H rp k x letters
variable {k:Zm} {letters:List Int} {x:Zt}
theorem HoC.keep{d1 d2 d3 d4 d5 rp id cap n:Nat}{H H':AC}(h:HoC k x letters d1 d2 d3 d4 d5 rp id cap H)(hidq:∃L,hget H id=some (.arr 1 L))(hf:AQ H n)(hk:CU id n H H'):HoC k x letters d1 d2 d3 d4 d5 rp id cap H':=by
 obtain⟨L,hidq⟩:=hidq;have key:∀c cs,hget H c=some (.box cs)->hget H' c=some (.box cs):=λc cs hc=>by
  rw[hk c (hf.lt hc) (λe=>by rw[e,hidq]at hc;cases hc)];exact hc
 obtain⟨h1,h2,h3,h4,h5,w,hr⟩:=h;exact⟨key _ _ h1,key _ _ h2,key _ _ h3,key _ _ h4,key _ _ h5,w,key _ _ hr⟩
def HoP(id n:Nat)(arr:List Fs)(H:AC)(b:Bool):Zr->AC->Nat->Prop:=λo H' n'=>
 AQ H' n'/\n<=n'/\CU id n H H'/\o= .ret (.bool b)/\(b=false->hget H' id=some (.arr 1 arr))/\∃L,hget H' id=some (.arr 1 L)
theorem J6{vals:List Int}{cells:List Int}:NS vals x letters cells=true↔∀i:Nat,i<x.qs.length+x.ps.length->CP vals x letters cells (i:Int)=false:=by
 unfold NS;rw[Wo];have hl:(K9 vals x letters cells).length=x.qs.length+x.ps.length:=by unfold K9;simp
 constructor
 ·intro h i hi;unfold CP;rw[W7 zo,Wf,W2 zo,Wm];have:=h _ (Wn (l:=K9 vals x letters cells) (n:=i) zo);simpa using this
 ·intro h b hb;obtain⟨i,hi,rfl⟩:=X9.1 hb;have:=h i zo;unfold CP at this;rw[W7 zo,Wf,W2 hi,Wm]at this;rw[this];rfl
def HoG(k:Zm)(x:Zt)(letters:List Int)(d1 d2 d3 d4 d5 rp id cap j:Nat):Prop:=∀(i:Nat) (cells:List Int) (H:AC) (n:Nat) (rest:List Int),i+j=x.cs.length->AQ H n->HoC k x letters d1 d2 d3 d4 d5 rp id cap H->hget H id=some (.arr 1 ((cells++rest).map eI))->ClC k x cells->(∀(a:Nat),i<=a->a<x.cs.length->(a:Int)≠x.c->cells[a]?=some (-1))->
  AP prog 49 [.int .i64 i,.ptr d1 0,.ptr d2 0,.ptr d3 0,.ptr d4 0,.ptr d5 0] H n (HoP id n ((cells++rest).map eI) H (tryP (AZ k) x letters j i cells))
structure VHo where
 s:Nat
 cur:Int
 H:AC
 n:Nat
structure IHo(k:Zm)(x:Zt)(letters cells rest:List Int)(id i j m n0:Nat)(H0:AC)(v:VHo):Prop where
 hs:v.s<=m
 fr:AQ v.H v.n
 hn:n0<=v.n
 kp:CU id n0 H0 v.H
 ho:hget v.H id=some (.arr 1 ((cells.set i v.cur++rest).map eI))
 no:∀b:Nat,b<v.s->tryP (AZ k) x letters j (i+1) (cells.set i (b:Int))=false
theorem Mf(h:RdC k x letters)(d1 d2 d3 d4 d5 rp id cap:Nat)(hcap:x.cs.length<=cap)(j:Nat)(ih:∀j',j=j'+1->HoG k x letters d1 d2 d3 d4 d5 rp id cap j'):HoG k x letters d1 d2 d3 d4 d5 rp id cap j:=by
 intro i cells H n rest hij hf hH hidq hC hneg;have hnq:x.qs.length<1000000000:=h.fx.qs;have hnp:x.ps.length<1000000000:=h.fx.ps;have hw1:IntKind.wrap .i64 ((x.qs.length:Int)+(x.ps.length:Int))=((x.qs.length+x.ps.length:Nat):Int):=by rw[Aq zo zo];omega
 have hRI:RdI H (.ref id 1 0 x.cs.length cap) cells:=.inr ⟨id,cap,rest,by rw[hC.len],hidq,by rw[hC.len];exact hcap⟩;have hrd:=JD hRI;have hH0:=hH;obtain⟨h1,h2,h3,h4,h5,hr⟩:=hH0;simp only[BM]at h1;simp only[AJ,AD,AH,X3,X1]at h5;refine c49.a (AF (UC h) (AG ?_));simp only[eE,eN,seval,W0,c49,h1,hw1];refine AL (λa:Nat=>⟨[(0,true,.int .i64 i),(1,true,.ptr d1 0),(2,true,.ptr d2 0),(3,true,.ptr d3 0),(4,true,.ptr d4 0),(5,true,.ptr d5 0),(16,true,.int .i64 ((x.qs.length+x.ps.length:Nat):Int)),(17,true,.int .i64 a)],H,n⟩)
  (λa=>a<=x.qs.length+x.ps.length/\∀b,b<a->CP (AZ k) x letters cells (b:Int)=false) (λa=>x.qs.length+x.ps.length-a) 0 rfl ⟨We _,λb hb=>zo⟩ ?_
 rintro a ⟨ha,c8⟩;by_cases c5:a<x.qs.length+x.ps.length
 ·have e:=AE (k:=a) zo;cases hcm:CP (AZ k) x letters cells (a:Int)with
  |true=>
   have e9:tryP (AZ k) x letters j i cells=false:=by
    unfold tryP;rw[W7];rw[J6];intro q;rw[q a c5]at hcm;cases hcm
   rw[e9];simp only[eZ,seval,lt_T c5,h2,h3,Ttr,J4,hrd,W1 hRI,W1 hr,W1 hC,hcm,tadd];exact⟨hf,W8 _,CU.refl _,rfl,λ_=>hidq,_,hidq⟩
  |false=>
   simp only[eZ,seval,lt_T c5,h2,h3,Ttr,J4,hrd,W1 hRI,W1 hr,W1 hC,hcm,e,tadd];refine .mk (a+1) rfl ⟨c5,λb hb=>?_⟩ zo;by_cases q:b<a
   ·exact c8 b q
   ·obtain rfl:b=a:=zo
    exact hcm
 obtain rfl:a=x.qs.length+x.ps.length:=zo
 have d9:=J6.2 c8;cases j with
 |zero=>
  have d8:((i:Int)=(x.cs.length:Int))=True:=W1 zo;have hde:decide ((i:Int)=(x.cs.length:Int))=true:=Wv zo;rw[tryP,Wg d9];simp only[eZ,seval,lt_F c5,h3,d8];exact⟨hf,W8 _,CU.refl _,rfl,(λq=>by cases q),_,hidq⟩
 |succ j=>
 have ih:=ih j rfl;rw[tryP,Wg d9];have d8:((i:Int)=(x.cs.length:Int))=False:=W4 zo;have e1:=AE (k:=i) (by have:=h.ox.cs.2.2.2;omega);by_cases hic:(i:Int)=x.c
 ·rw[Wg hic];simp only[eZ,seval,lt_F c5,h1,h3,h4,d8,W1 hic,e1];refine(ih (i+1) cells H n rest zo hf hH hidq hC λa ha h1 h2=>hneg a zo h1 h2).mono ?_;rintro o H' n' ⟨q1,q2,q3,rfl,q5,q6⟩;simp only[eE,eN,seval,retK];exact⟨q1,q2,q3,rfl,q5,q6⟩
 rw[W7 hic];have hsy:=B1 h.ck;have hvl:(AZ k).length=k.d.syms.length:=by unfold AZ;rw[W0]
 have x6:=hneg i (W8 _) zo hic;have t6:i<cells.length:=(Xx.1 x6).1;have hse:cells.set i (-1)=cells:=by
  refine YR λa=>?_
  rw[List.getElem?_set];split
  ·rename_i q;subst q;exact x6.symm
  ·rfl
 have hidn:=hf.lt hidq;simp only[eZ,seval,W0,lt_F c5,h1,h3,h5,d8,W4 hic];refine AL (λv:VHo=>⟨[(0,true,.int .i64 i),(3,true,.ptr d3 0),(4,true,.ptr d4 0),(40,true,.int .i64 k.d.syms.length),(41,true,.int .i64 v.s)],v.H,v.n⟩) (IHo k x letters cells rest id i j k.d.syms.length n H) (λv=>k.d.syms.length-v.s)
  ⟨0,-1,H,n⟩ rfl ⟨We _,hf,W8 _,CU.refl _,by simp only[hse];exact hidq,λb hb=>by simp only[]at hb;omega⟩ ?_
 rintro⟨s,cur,H1,n1⟩ ⟨hs,hf1,j8,hk1,ho1,hno1⟩;simp only at hs hf1 j8 hk1 ho1 hno1;have hH1:=hH.keep ⟨_,hidq⟩ hf hk1;have hl1:(i<(cells.set i cur++rest).length)=True:=W1 (by simp;omega);have g1:((i:Int)<(x.cs.length:Int))=True:=W1 zo;have est:∀z:Int,((cells.set i cur++rest).map eI).set i (.int .i64 z)=((cells.set i z++rest).map eI):=λz=>by
  rw[show(.int .i64 z:Fs)=eI z from rfl,<-List.map_set,Z1 _ _ (by rw[YD];exact t6),List.set_set]
 obtain⟨e1',e2',e3',e4',e5',er'⟩:=hH1;by_cases s6:s<k.d.syms.length;case neg=>
  obtain rfl:s=k.d.syms.length:=zo
  have hany:((symI (AZ k).length).any λs=>tryP (AZ k) x letters j (i+1) (cells.set i s))=false:=by
   rw[YG];intro z hz;obtain⟨z0,z1⟩:=Gn.1 hz;obtain⟨b,rfl⟩:=XZ z0;rw[hno1 b zo];decide
  rw[hany];have est1:=est (-1);rw[hse]at est1;simp only[eZ,seval,eY,lt_F s6,e3',ho1,hl1,g1,est1];exact⟨hf1.hset (W8 _) zo,j8,hk1.set,rfl,λ_=>AB ..,_,AB ..⟩
 have e:=AE (k:=s) zo;have y4:(id=d4)=False:=W4 λq=>by rw[q,e4']at ho1;cases ho1
 simp only[eZ,seval,eY,lt_T s6,e3',e4',ho1,hl1,g1,est (s:Int),e1,y4];generalize hH2:AM.hset H1 id (Zk.arr 1 ((cells.set i (s:Int)++rest).map eI))=H2;have ho2:hget H2 id=some (.arr 1 ((cells.set i (s:Int)++rest).map eI)):=by rw[<-hH2,AB]
 have l9:AQ H2 n1:=by rw[<-hH2];exact hf1.hset (W8 _) zo
 have j7:CU id n H H2:=by rw[<-hH2];exact hk1.set
 have hC2:ClC k x (cells.set i (s:Int)):=⟨by rw[YD];exact hC.len,λz hz h0=>by
  rcases YJ hz with q|q
  ·exact hC.sy z q h0
  ·rw[q];exact⟨zo,zo⟩⟩
 refine(ih (i+1) (cells.set i (s:Int)) H2 n1 rest zo l9 (hH.keep ⟨_,hidq⟩ hf j7) ho2 hC2 λa ha h1 h2=>?_).mono ?_
 ·grind
 rintro o H3 n3 ⟨q1,q2,q3,rfl,q5,q6⟩;have hk3:CU id n H H3:=j7.trans q3 j8;cases hb:tryP (AZ k) x letters j (i+1) (cells.set i (s:Int))with
 |true=>
  have hany:((symI (AZ k).length).any λs=>tryP (AZ k) x letters j (i+1) (cells.set i s))=true:=
   Yk.2 ⟨(s:Int),Gn.2 ⟨zo,by rw[hvl];omega⟩,hb⟩
  rw[hany];simp only[eZ,seval,retK];exact⟨q1,zo,hk3,rfl,(λq=>by cases q),q6⟩
 |false=>
  rw[hb]at q5;simp only[eZ,seval,retK,e];refine .mk ⟨s+1,(s:Int),H3,n3⟩ rfl ⟨s6,q1,zp,hk3,q5 rfl,λb hb'=>?_⟩ zp;by_cases q:b<s
  ·exact hno1 b q
  ·have hb'':b<s+1:=hb';obtain rfl:b=s:=zo
   exact hb
theorem t_holds(h:RdC k x letters)(d1 d2 d3 d4 d5 rp id cap:Nat)(hcap:x.cs.length<=cap):∀j,HoG k x letters d1 d2 d3 d4 d5 rp id cap j
 |0=>Mf h d1 d2 d3 d4 d5 rp id cap hcap 0 λj' hj=>zo
 |j+1=>Mf h d1 d2 d3 d4 d5 rp id cap hcap (j+1) λj' hj=>by
  obtain rfl:j'=j:=zo
  exact t_holds h d1 d2 d3 d4 d5 rp id cap hcap j'
end
abbrev eTe:List (Nat×Bool×Fs):=[(2,true,.ptr 0 0),(3,true,.ptr 1 0),(4,true,.ptr 2 0),(5,true,.ptr 3 0),(23,true,clC 5 4)]
noncomputable abbrev lpTe (l':Nat) (st:LoopState) (pend:Option Code):Zk:=.lp ⟨l',st,pend,47,eTe, #[24],Kt,Ku⟩
structure TeJ(k:Zm)(x:Zt)(l':Nat)(F:Nat->Prop)(D:List (List Int))(H:AC)(m:Nat):Prop where
 fr:AQ H m
 lm:8<=m
 nF:∀i,F i->i=4\/i=5\/8<=i
 h0:hget H 0=some (.box (AJ k))
 h1:hget H 1=some (.box (BM x))
 h2:hget H 2=some (.box [.bool false])
 h3:hget H 3=some (.box [.int .i64 0])
 hL:hget H 7=some (lpTe l' .ready none)
 ok:∀l∈D,tryP (AZ k) x l x.cs.length 0 (begC x l)=false
def TeS(k:Zm)(x:Zt)(l':Nat)(H:AC)(m:Nat):Prop:=
 hget H 2=some (.box [.bool false])/\hget H 3=some (.box [.int .i64 0])/\hget H 7=some (lpTe l' .done (some .ret))/\LC (AZ k) x=false
def VN{k:Zm}{x:Zt}{l':Nat}(hR:∀letters∈chs (AZ k).length x.ls.length,RdC k x letters):Gen (chs (AZ k).length x.ls.length) l' (TeJ k x l') (TeS k x l') where
 fr:=λF D H m h=>h.fr
 frame:=by
  rintro F F' D H H' m m' ⟨fr,lm,nF,h0,h1,h2,h3,hL,ok⟩ hF hH hf hm;have n1:∀i,i<8->i≠4->i≠5->hget H' i=hget H i:=λi a b c=>hH i λq=>by
   rcases hF i q with q|q
   ·have:=nF i q;omega
   ·omega
  exact⟨hf,zo,λi h=>(hF i h).elim (nF i) (λq=>zo),by rw[n1 0 zd zd zd];exact h0,by rw[n1 1 zd zd zd];exact h1,by rw[n1 2 zd zd zd];exact h2,
   by rw[n1 3 zd zd zd];exact h3,by rw[n1 7 zd zd zd];exact hL,ok⟩
 yld:=by
  rintro F D letters H m R ⟨fr,lm,nF,h0,h1,h2,h3,hL,ok⟩ hF hA hRt hRf;refine y20_0 hL rfl (AF AI.tnil (AG ?_));simp only[eE,eN,seval,RD,renv,Yj,Ym,XM,Yz];refine⟨_,hL,rfl,AF AI.tnil (AG ?_)⟩;have hf':AQ (hset H 7 (lpTe l' .busy none)) m:=fr.hset (W8 _) zo;generalize hH1:hset H 7 (lpTe l' .busy none)=H1 at hf'⊢;have k1:∀i,i≠7->hget H1 i=hget H i:=λi hi=>by rw[<-hH1,AA _ _ _ _ hi.symm]
  have hL1:hget H1 7=some (lpTe l' .busy none):=by rw[<-hH1,AB]
  have a0:=(k1 0 zd).trans h0;have a1:=(k1 1 zd).trans h1;have a2:=(k1 2 zd).trans h2;have a3:=(k1 3 zd).trans h3;clear hH1;have hmem:letters∈chs (AZ k).length x.ls.length:=by
   obtain⟨t,ht⟩:=hA;rw[<-ht];simp
  have hrd:=hR _ hmem;have b0:=a0;have b1:=a1;simp only[AJ,AD,AH,X3,X1]at b0;simp only[BM]at b1;have hX:=hrd.ox;have hxc:=hX.c;have hxl:=hX.l;have hx4:=hX.cs.2.2;rw[<-hrd.ll]at hxl;have hgl:=CQ hxl.1 hxl.2;have z:∀j c,j<8->(m+c=j)=False:=λj c hj=>W4 zo
  have z':∀j c,j<8->(j=m+c)=False:=λj c hj=>W4 zo
  have z0:=λc=>z 0 c zd
  have z1:=λc=>z 1 c zd
  have z2:=λc=>z 2 c zd
  have z3:=λc=>z 3 c zd
  have z7:=λc=>z 7 c zd
  have y0:=λc=>z' 0 c zd
  have y1:=λc=>z' 1 c zd
  have w1:((x.cs.length:Int)<=4)=True:=W1 zo;have w2:(0<=x.c)=True:=W1 hxc.1;have w3:(x.c<(x.cs.length:Int))=True:=W1 hxc.2;have w4:(x.c.toNat<4)=True:=W1 zo;have w5:(0<=x.l)=True:=W1 hxl.1;have w6:(x.l<(letters.length:Int))=True:=W1 hxl.2;have w7:(x.l.toNat<letters.length)=True:=W1 zo;have mm:∀a b:Nat,(m+a=m+b)=(a=b):=λa b=>propext ⟨λh=>zo,λh=>zo⟩
  simp only[eZ,seval,xE,eY,RB,b0,b1,fr1 hf',bsmS,bsmF,z1,mm,w1,w2,w3,w4,w5,w6,hgl,Nat.sub_zero,c4n,i04,AN];have hbeg:([.int .i64 (-1),.int .i64 (-1),.int .i64 (-1),.int .i64 (-1)]:List Fs).set x.c.toNat (eI (at0 letters x.l))=((begC x letters)++List.replicate (4-x.cs.length) (-1)).map eI:=by
   unfold begC;rw[<-Z1 _ _ (by rw[Y7];omega),List.replicate_append_replicate,show x.cs.length+(4-x.cs.length)=4 by omega,List.map_set];rfl
  rw[hbeg];generalize hHa:hset _ (m+14) _=Ha;have hfa:AQ Ha (m+15):=by
   rw[<-hHa];refine AQ.hset ?_ (W8 _) zo;refine AQ.hset ?_ (W8 _) zo;refine AQ.hset ?_ (W8 _) zo;refine AQ.hset ?_ (W8 _) zo;refine AQ.hset ?_ (W8 _) zo;exact hf'.hset (m:=m+15) zo zo
  have ka:∀i,i<m->hget Ha i=hget H1 i:=λi hi=>by
   rw[<-hHa];rw[AA _ _ _ _ zo,AA _ _ _ _ zo,AA _ _ _ _ zo,AA _ _ _ _ zo,AA _ _ _ _ zo,AA _ _ _ _ zo]
  have hbl:=Jl x letters;have hidq:hget Ha (m+7)=some (.arr 1 (((begC x letters)++List.replicate (4-x.cs.length) (-1)).map eI)):=by
   rw[<-hHa,AA _ _ _ _ zo,AB]
  have hHC:HoC k x letters 1 (m+5) (m+12) (m+14) 0 (m+4) (m+7) 4 Ha:=by
   refine⟨(ka 1 zo).trans a1,?_,?_,?_,(ka 0 zo).trans a0,.sl .nil [],?_⟩
   ·grind [AA,AB]
   ·grind [AA,AB]
   ·rw[<-hHa,AB]
   ·rw[<-hHa,AA _ _ _ _ zo,AA _ _ _ _ zo,AA _ _ _ _ zo,AA _ _ _ _ zo,AA _ _ _ _ zo,AB];rfl
  have hC:ClC k x (begC x letters):=by
   refine⟨hbl,λs hs h0=>?_⟩;have hb:=I0 hX hmem;unfold begC at hs;rcases YJ hs with q|q
   ·rw[List.mem_replicate]at q;omega
   ·grind [AZ,List.length_map]
  have hcall:=t_holds hrd 1 (m+5) (m+12) (m+14) 0 (m+4) (m+7) 4 zo x.cs.length 0 (begC x letters) Ha (m+15) (List.replicate (4-x.cs.length) (-1)) zo hfa hHC hidq hC (λa _ h1 h2=>by
   unfold begC;rw[List.getElem?_set,W7 zo,List.getElem?_replicate,Wg h1])
  rw[c0]at hcall;refine hcall.mono ?_;rintro o H4 n4 ⟨hf4,hn4,hk4,rfl,-,-⟩;have hkeep:∀i,i<m->hget H4 i=hget H1 i:=λi hi=>by
   rw[hk4 i zo zo,ka i hi]
  have c2':=(hkeep 2 zo).trans a2;have c3':=(hkeep 3 zo).trans a3;have c7':=(hkeep 7 zo).trans hL1;cases htr:tryP (AZ k) x letters x.cs.length 0 (begC x letters)with
  |true=>
   simp only[eZ,seval,retK,c2',c3'];refine⟨⟨l',.busy,none,47,eTe, #[24],Kt,Ku⟩,by rw[AA _ _ _ _ zd,AA _ _ _ _ zd];exact c7',hRf _ _ ⟨?_,?_,AB ..,?_⟩⟩
   ·simp_all [AA,AB]
   ·rw[AA _ _ _ _ zd,AB]
   ·grind [LC,List.all_eq_false]
  |false=>
   simp only[eZ,seval,retK];have hF':∀i,F i->i≠7:=λi hi=>by have:=nF i hi;omega
   refine⟨⟨l',.busy,none,47,eTe, #[24],Kt,Ku⟩,c7',hRt _ _ ⟨hf4.hset (m:=n4) (W8 _) zo,zp,nF,?_,?_,?_,?_,AB ..,λl hl=>?_⟩ (λi hi=>?_) zp⟩
   ·rw[AA _ _ _ _ zd,hkeep 0 zo];exact a0
   ·rw[AA _ _ _ _ zd,hkeep 1 zo];exact a1
   ·rw[AA _ _ _ _ zd];exact c2'
   ·rw[AA _ _ _ _ zd];exact c3'
   ·grind
   ·have:=hF i hi;rw[AA _ _ _ _ (λq=>hF' i hi q.symm),hkeep i zo,k1 i (hF' i hi)]
def LZ(k:Zm)(x:Zt):Fs:=if Cu k x≠0 then .tup [.bool false,.int .i64 (Cu k x)]else .tup [.bool (LC (AZ k) x),.int .i64 0]
def p20(k:Zm)(x:Zt)(hk:Zh k.d)(hx:FewL x):Pur prog 20 [Bh k,encL x] (LZ k x):=by
 have u1:dKn.ok (.agg (AJ k))=True:=DE k;have u2:dKn.dec (.agg (AJ k))=k:=CC k;simp only[AJ,AD,AH,X3,X1]at u1 u2;have v1:dX.ok (.agg (BM x))=True:=To x;have v2:dX.dec (.agg (BM x))=x:=Nb x;simp only[BM]at v1 v2;refine .mk ⟨Ah 0 k,Du 0 x,trivial⟩ ?_ (a20 (AF UF (AG ?_)))
 ·unfold LZ;split<;>exact⟨trivial,trivial,trivial⟩
 unfold LZ;by_cases hv:Cu k x=0;case neg=>
  simp only[eZ,eX,seval,W6,BG,c20,AJ,AD,AH,SZ,s2,u1,u2,v1,v2,W1 hk,W1 hx,W4 hv];exact Wk.refl _
 have hvl:(AZ k).length=k.d.syms.length:=by unfold AZ;rw[W0]
 simp only[eZ,seval,W3,W0,c20,AJ,AD,AH,SZ,s2,u1,u2,v1,v2,W1 hk,W1 hx,W1 hv,AN];rw[hv];have hck:BF k=0:=by simp_all [Cu]<;>omega
 have hsy:=B1 hck;generalize hHa:hset _ 3 (Zk.box _)=Ha;have fa:AQ Ha 4:=by
  rw[<-hHa];repeat' (first|exact AQ.nil.hset (m:=4) (We _) zd|refine AQ.hset ?_ (W8 _) zd)
 have f0:hget Ha 0=some (.box (AJ k)):=by rw[<-hHa];rfl
 have f1:hget Ha 1=some (.box (BM x)):=by rw[<-hHa];rfl
 have f2:hget Ha 2=some (.box [.bool false]):=by rw[<-hHa];rfl
 have f3:hget Ha 3=some (.box [.int .i64 0]):=by rw[<-hHa];rfl
 clear hHa;have s6:x.ls.length<=1000:=by
  have ho:Ga x=true:=by
   unfold Cu at hv;rw[W7 (by simpa using hck)]at hv;unfold chk at hv;split at hv
   ·assumption
   ·cases hv
  have:=((MG x).1 ho).ls.2.2.2;omega
 refine(FB (M:=k.d.syms.length) (n:=x.ls.length) fa).mono ?_;rintro o H1 n1 ⟨rfl,rfl,rfl⟩;simp only[eE,eN,seval,retK,FE];intro l';generalize hHb:hset (hset (hset Ha 4 _) _ _) _ (Zk.lp _)=Hb;have kb:∀i,i<4->hget Hb i=hget Ha i:=λi hi=>by
  rw[<-hHb,AA _ _ _ _ zo,AA _ _ _ _ zo,AA _ _ _ _ zo]
 have e5:hget Hb 5=some (.box [.int .i64 x.ls.length]):=by rw[<-hHb,AA _ _ _ _ zd];exact AB ..
 have e4:hget Hb 4=some (.box [.int .i64 (AZ k).length]):=by rw[<-hHb,AA _ _ _ _ zd,AA _ _ _ _ zd,hvl];exact AB ..
 have hJ:TeJ k x l' (λi=>i=4\/i=5) [] Hb 8:=by
  refine⟨?_,W8 _,λi h=>zo,(kb 0 zd).trans f0,(kb 1 zd).trans f1,(kb 2 zd).trans f2,(kb 3 zd).trans f3,by rw[<-hHb];exact AB ..,λl h=>by cases h⟩;rw[<-hHb];exact((fa.hset (m:=8) zd zd).hset (W8 _) zd).hset (W8 _) zd
 have hgen:=VN (k:=k) (x:=x) (l':=l') (λletters hl=>Me hk hx hv hl);have hM:(AZ k).length<=1000:=zo
 refine(LT hgen hM s6 hJ (λi h=>zo) (.inr rfl) (.inl rfl) e5 e4).mono ?_;rintro o H' m' ⟨rfl,⟨F',-,hF',hj⟩|⟨s2',s3',sL,hw⟩⟩
 ·obtain⟨fr,lm,nF,h0,h1,h2,h3,hL,ok⟩:=hj;have hsp:LC (AZ k) x=true:=by
   unfold LC;rw[Wo];intro l hl;rw[ok l hl];rfl
  rw[hsp];simp only[eE,eN,seval,BG,FD,hL,h2,h3];exact Wk.refl _
 ·simp only[eE,eN,seval,BG,FD,sL,s2',s3',hw];exact Wk.refl _
end Go.AM
