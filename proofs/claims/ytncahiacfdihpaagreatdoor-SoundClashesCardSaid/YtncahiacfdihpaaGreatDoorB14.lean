/-
  Parts of the proof. Conditions: none.
-/
import Derived.Test.YtncahiacfdihpaaGreatDoorB13
set_option maxRecDepth 20000
set_option linter.all false
namespace Go.AM
open Go.Lib Go.Proofs Go.Proofs.Tryz
section
abbrev Bw(k:z8)(x:jq)(letters:List Int)(w:Fs):List Fs:=AJ k++(BN x++[eIs letters,w])
def G2(x:jq)(letters:List Int)(c:Int):Fs:=match Hv x c with
 |none=>.tup [.sl .nil [],.bool false]
 |some p=>.tup [eIs (p.ls.map (at0 letters)),.bool true]
def LY(x:jq)(letters:List Int)(c:Int)(n:Nat):(G2 x letters c).under n:=by
 unfold G2;split
 ·exact⟨⟨trivial,trivial⟩,trivial,trivial⟩
 ·exact⟨AR n _,trivial,trivial⟩
structure VPm where
 i:Nat
 H:AC
 n:Nat
structure VPl where
 j:Nat
 tk:jz
 H:AC
 n:Nat
structure IPm(H0:AC)(n0:Nat)(x:jq)(c:Int)(v:VPm):Prop where
 hi:v.i<=x.ps.length
 fr:AQ v.H v.n
 hn:n0<=v.n
 kp:B5 H0 v.H
 he:Hv x c=(x.ps.drop v.i).find? λp=>decide (p.c=c)
structure IPl(H0:AC)(n0:Nat)(p:Prm)(letters:List Int)(v:VPl):Prop where
 hj:v.j<=p.ls.length
 fr:AQ v.H v.n
 hn:n0<=v.n
 kp:B5 H0 v.H
 tok:tkG 1 n0 v.H v.tk
 es:v.tk.esz=1\/(p.ls.take v.j).map (at0 letters)=[]
variable {H:AC} {k:z8} {letters cells vals:List Int} {x:jq} {n rp:Nat} {p:Prm}
theorem Nz{H0:AC}{n0 e:Nat}{tk:jz}(hf:AQ H0 n0)(h:tkG e n0 H tk)(hk:B5 H0 H):B5 H0 (AP H tk):=λid ob h0=>by
 rw[AW h (.inl (hf.lt h0))];exact hk id ob h0
theorem t_prem{w:Fs}(c:Int)(hf:AQ H n)(hq:hget H rp=some (.box (Bw k x letters w)))(hps:few x.ps)(s8:∀p∈x.ps,few p.ls/\∀c∈p.ls,0<=c/\c<(letters.length:Int)):
  AO prog 81 [.ptr rp 0,.int .i64 c] H n (QRet H (G2 x letters c)):=by
 have hpsl:x.ps.length<1000000000:=hps;have hq0:=hq;simp only[Bw,AJ,AD,AH,BN,Xm,Xl]at hq;refine c81.a (AF AI.tnil (AG ?_));simp only[eE,eN,seval,W0,c81,hq];refine AL (λv:VPm=>⟨[(0,true,.ptr rp 0),(1,true,.int .i64 c),(4,true,.sl .nil []),(14,true,.sl (.none 2) (x.ps.map encM)),(15,true,.int .i64 x.ps.length),(16,true,.int .i64 v.i)],v.H,v.n⟩) (IPm H n x c) (λv=>x.ps.length-v.i)
  ⟨0,H,n⟩ rfl ⟨Wz _,hf,W9 _,B5.refl _,rfl⟩ ?_
 rintro⟨i,H1,n1⟩ ⟨hi,hf1,l5,hk1,he⟩;simp only at hi hf1 l5 hk1 he;by_cases c5:i<x.ps.length;case neg=>
  obtain rfl:i=x.ps.length:=zo
  rw[Xv]at he;simp only[eZ,seval,lt_F c5];unfold G2;rw[he];exact⟨Wk.refl _,hk1⟩
 have hg:=W2 c5;have e:=AE (k:=i) zo;obtain⟨hpf,hpi⟩:=s8 _ (X5 c5);rw[Xj c5]at he;generalize x.ps[i]=p at hg hpf hpi he;have l7:∀{ob:zz} {j:Nat},n1<=j->B5 H (hset H1 j ob):=λhj=>hk1.new hf zo
 by_cases hc:p.c=c;case neg=>
  rw[List.find?_cons_of_neg (by simpa using hc)]at he;simp only[eZ,seval,eY,lt_T c5,hg,fr1 hf1,AN,W4 hc,e];exact .mk ⟨i+1,hset H1 (n1+2) (.box [.int .i64 p.c,eIs p.ls]),n1+4⟩ rfl ⟨c5,hf1.hset (m:=n1+4) zo zo,zp,l7 zo,he⟩ zp
 rw[List.find?_cons_of_pos (by simpa using hc)]at he;have hpl':p.ls.length<1000000000:=hpf;simp only[eZ,seval,eY,lt_T c5,hg,fr1 hf1,AN,W1 hc];refine AL (λv:VPl=>⟨[(0,true,.ptr rp 0),(4,true,.sl v.tk (((p.ls.take v.j).map (at0 letters)).map eI)),(25,true,eIs p.ls),(26,true,.int .i64 p.ls.length),(27,true,.int .i64 v.j)],v.H,v.n⟩) (IPl H n p letters) (λv=>p.ls.length-v.j)
  ⟨0,.nil,hset H1 (n1+2) (.box [.int .i64 p.c,eIs p.ls]),n1+4⟩ rfl ⟨Wz _,hf1.hset (m:=n1+4) zo zo,zp,l7 zo,.inl rfl,.inr rfl⟩ ?_
 rintro⟨j,tk,H2,n2⟩ ⟨hj,o7,hn2,hk2',c8,d8⟩;simp only at hj o7 hn2 hk2' c8 d8;by_cases hlj:j<p.ls.length;case neg=>
  obtain rfl:j=p.ls.length:=zo
  rw[X4]at d8;simp only[eZ,seval,lt_F hlj];rw[X4];unfold G2;rw[he];exact⟨Wk.tup (.cons (Wk.sl (d8.imp id λq=>by rw[q];rfl)) (.cons (Wk.refl _) .nil)),hk2'⟩
 have hg:=W2 hlj;have e:=AE (k:=j) zo;have hci:=hpi _ (X5 hlj);have htake:p.ls.take (j+1)=p.ls.take j++[p.ls[j]]:=by rw[X7,hg];rfl
 generalize p.ls[j]=y at hg hci htake;have hgx:=BE hci.1 hci.2;have hX:((p.ls.take j).map (at0 letters)).length<=j:=by simp;omega
 have q1:A8 H2 1 tk=True:=W1 c8.app;have q2:(((p.ls.take j).map (at0 letters)).length<=35184372088831)=True:=W1 zo;have q3:Aj (((p.ls.take j).map (at0 letters)).length+1) 8=True:=W1 (AZ zo zd);have hrp:=hk2' _ _ hq;generalize hXd:(p.ls.take j).map (at0 letters)=X at hX q2 q3 d8;simp only[eZ,seval,eY,lt_T hlj,hg,hrp,W1 hci.1,W1 hci.2,hgx,q1,q2,q3,fr1 o7,e];refine .mk ⟨j+1,.own (n2+9) 1,hset (AP H2 tk) (n2+9) .tok,n2+11⟩ ?_ ⟨hlj,(AU c8 o7).hset (m:=n2+11) zo zo,zp,B5.new hf zo (Nz hf c8 hk2'),.inr (.inr ⟨n2+9,rfl,zo,AB ..⟩),.inl rfl⟩ zp;simp only[htake,X2,Xh,Xp,hXd]
theorem q_prem{w:Fs}(c:Int)(hq:hget H rp=some (.box (Bw k x letters w)))(hps:few x.ps)(s8:∀p∈x.ps,few p.ls/\∀c∈p.ls,0<=c/\c<(letters.length:Int)):
  Am prog 81 [.ptr rp 0,.int .i64 c] H n (G2 x letters c):=
 Am.of c81.l (LY x letters c n) λhf=>t_prem c hf hq hps s8
structure RdC(k:z8)(x:jq)(letters:List Int):Prop where
 ck:BG k=0
 fd:qk k.d
 fx:FewL x
 ox:OKL x
 ll:letters.length=x.ls.length
structure ClC(k:z8)(x:jq)(cells:List Int):Prop where
 len:cells.length=x.cs.length
 sy:∀s∈cells,0<=s->okSy k s
def RdAt(H:AC)(rp:Nat)(k:z8)(x:jq)(letters:List Int):Prop:=∃w,hget H rp=some (.box (Bw k x letters w))
theorem En(h:BG k=0):∀y∈k.d.syms,0<=y.v/\y.v<=99:=by
 have h1:Gv k=true:=by
  unfold BG at h;split at h
  ·assumption
  ·cases h
 obtain⟨x,cells,-,h3,-,h4⟩:=I9 (Ma h1);have h5:k.d=x:=by rw[h4];rfl
 rw[<-h5]at h3;have h6:=(Tp.1 h3).1.form;unfold Bd at h6;simp only[W5,X8,W8]at h6;intro y hy;exact h6.1.1.1 y hy
theorem So(h:RdC k x letters):∀p∈x.ps,few p.ls/\∀c∈p.ls,0<=c/\c<(letters.length:Int):=by
 intro p hp;refine⟨h.fx.p p hp,λc hc=>?_⟩;have:=X8.1 (DO (h.ox.ps p hp).1) c hc;simp only[W5,W8]at this;rw[h.ll];exact this
theorem Pt(h:OKL x)(hp:p∈x.ps):0<=p.c/\p.c<(x.cs.length:Int):=by
 have:=X8.1 (DO h.pc) p.c (XB.2 ⟨p,hp,rfl⟩);simpa only[W5,W8]using this
theorem JK{ps:List Prm}(h:A9 (ps.map (·.c))=true)(hp:p∈ps):ps.find? (λq=>decide (q.c=p.c))=some p:=by
 induction ps with
 |nil=>cases hp
 |cons q ps ih=>
  rw[Xh,A9,W5]at h;rcases Xr.1 hp with rfl|hp
  ·rw[List.find?_cons_of_pos zw]
  ·grind
theorem Pu(h:OKL x)(hp:p∈x.ps):Hv x p.c=some p:=by
 have:=h.pc;unfold difI at this;rw[W5]at this;exact JK this.2 hp
theorem Dg{α:Type}[DecidableEq α]:∀{l:List α},A9 l=true->l.Nodup
 |[],_=>Zx
 |x::r,h=>by
  rw[A9,W5]at h;refine Ys.2 ⟨λhx=>?_,Dg h.2⟩;have h1:=h.1;simp only[Y9,YD,W8]at h1;exact h1 x hx rfl
theorem JL{l:List Int}(h:difI l n=true):l.length<=n:=by
 have h1:=DO h;unfold difI at h;rw[W5]at h;have:=Gy (b:=symI n) (Dg h.2) λc hc=>by
  have:=X8.1 h1 c hc;simp only[W5,W8]at this;exact Gq.2 this
 unfold symI at this;simpa using this
theorem cl_ok(h:RdC k x letters)(hc:ClC k x cells){q:Cnd}(hq:q∈x.qs):ClOK k q letters cells:=by
 have h1:=NQ (h.ox.qs q hq);have hf:=h.fx.q q hq;have t5:=h.ox.cs.2.2.2;refine⟨by rcases h1.kind with h|h|h|h|h<;>omega,?_,hf.1,λc hcc=>?_,hf.2,λc hcc=>?_,hc.sy,En h.ck⟩
 ·have:=JL h1.cs;rcases h1.kind with h|h|h|h|h<;>omega
 ·have:=X8.1 (DO h1.cs) c hcc;simp only[W5,W8]at this;rw[hc.len];exact this
 ·have:=X8.1 (DO h1.ls) c hcc;simp only[W5,W8]at this;rw[h.ll];exact this
theorem Sp{i:Int}(h:i<0):CR vals x letters cells i=false:=by unfold CR;rw[X0 h]
theorem Sq{a:Nat}(h:x.qs.length+x.ps.length<=a):CR vals x letters cells (a:Int)=false:=by simp_all [CR,LE,X1]
theorem comp_q{a:Nat}{q:Cnd}(h:x.qs[a]?=some q):CR vals x letters cells (a:Int)=CV vals q letters cells:=by
 unfold CR LE;have:=(XW.1 h).1;rw[W6 zo,X1,XQ (by simpa using this),Xa,h];rfl
theorem comp_p{b:Nat}(h:x.ps[b]?=some p):CR vals x letters cells ((x.qs.length+b:Nat):Int)=Rz p letters cells:=by
 unfold CR LE;rw[W6 zo,X1,XV zw,W0,Nat.add_sub_cancel_left,Xa,h];rfl
def GA(k:z8):List Fs->AC->Prop×Fs:=λa H=>match a with
 |[K,Q,.sl t L,av]=>(dKn.ok K/\dKn.dec K=k/\dQ.ok Q/\dIs.ok (.sl t L)/\RdI H av (rdL H av)/\ClOK k (dQ.dec Q) (L.map toI) (rdL H av),.bool (CV (AV k) (dQ.dec Q) (L.map toI) (rdL H av)))
 |_=>(False,.tup [])
theorem Pv(k:z8):∀args H n,(GA k args H).1->Am prog 41 args H n (GA k args H).2:=by
 intro args H m hh;unfold GA at hh⊢;split at hh
 ·obtain⟨h1,h2,h3,h4,h5,h6⟩:=hh;have w1:=dKn.wk _ h1;rw[h2]at w1;exact(p41 k _ _ _ h6).view trivial (.cons (.wk w1) (.cons (.wk (dQ.wk _ h3)) (.cons (.wk (dIs.wk _ h4)) (.cons (LU h5) .nil)))) m
 ·exact hh.elim
def Hz(k:z8)(x:jq)(letters:List Int):List Fs->AC->Prop×Fs:=λa H=>match a with
 |[.ptr rp 0,.int .i64 c]=>(RdAt H rp k x letters,G2 x letters c)
 |_=>(False,.tup [])
theorem rowPmq(h:RdC k x letters):∀args H n,(Hz k x letters args H).1->Am prog 81 args H n (Hz k x letters args H).2:=by
 intro args H m hh;unfold Hz at hh⊢;split at hh
 ·obtain⟨w,hw⟩:=hh;exact q_prem _ hw h.fx.ps (So h)
 ·exact hh.elim
def Tcp(k:z8)(x:jq)(letters:List Int):Tab:=tadd 41 (GA k) (tadd 81 (Hz k x letters) (tadd 36 CK tnil))
theorem UT(h:RdC k x letters):AI prog (Tcp k x letters):=((AI.tnil.add LW).add (rowPmq h)).add (Pv k)
theorem t_comp{av:Fs}(at':Int)(h:RdC k x letters)(hc:ClC k x cells)(hr:RdAt H rp k x letters)(hv:RdI H av cells):
  AO prog 50 [.ptr rp 0,.int .i64 at',av] H n (QRet H (.bool (CR (AV k) x letters cells at'))):=by
 have hr0:=hr;obtain⟨w,hq⟩:=hr;simp only[Bw,AJ,AD,AH,BN,Xm,Xl]at hq;have hnq:x.qs.length<1000000000:=h.fx.qs;have hnp:x.ps.length<1000000000:=h.fx.ps;have hw1:IntKind.wrap .i64 ((x.qs.length:Int)+(x.ps.length:Int))=((x.qs.length+x.ps.length:Nat):Int):=by rw[An zo zo];omega
 have u1:dKn.ok (.agg (AJ k))=True:=DW k;have u2:dKn.dec (.agg (AJ k))=k:=CJ k;simp only[AJ,AD,AH,Xm,Xl]at u1 u2;have t8:dIs.ok (eIs letters):=(Ad letters).mpr trivial;refine c50.a (AF (UT h) (AG ?_));by_cases h0:at'<0
 ·rw[Sp h0];simp only[eZ,seval,W3,W0,c50,hq,W1 h0];exact B5.refl _
 obtain⟨a,rfl⟩:=Yw (Int.not_lt.1 h0);by_cases h1:x.qs.length+x.ps.length<=a
 ·rw[Sq h1];have h1':((x.qs.length+x.ps.length:Nat):Int)<=(a:Int):=zo
  simp only[eZ,seval,W0,c50,hq,W4 h0,hw1,W1 h1'];exact B5.refl _
 have h1':¬((x.qs.length+x.ps.length:Nat):Int)<=(a:Int):=zo
 by_cases h2:a<x.qs.length
 ·have hg:=W2 h2;have m7:=cl_ok h hc (X5 h2);generalize x.qs[a]=q at hg m7;have hql:dQ.ok (.agg [.int .i64 q.k,eIs q.cs,eIs q.ls,.int .i64 q.n])=True:=SA q;have hqd:dQ.dec (.agg [.int .i64 q.k,eIs q.cs,eIs q.ls,.int .i64 q.n])=q:=LI q;rw[comp_q hg];simp only[eZ,seval,eY,c50,hq,W4 h0,hw1,W4 h1',lt_T h2,hg,Tcp,GA,u1,u2,As,hql,hqd,Hy hv,W1 hv,W1 m7,W1 t8,tadd];exact B5.refl _
 obtain⟨b,rfl⟩:∃b,a=x.qs.length+b:=⟨a-x.qs.length,zo⟩;have hb:b<x.ps.length:=zo
 have hg:=W2 hb;have hmem:=X5 hb;generalize x.ps[b]=p at hg hmem;rw[comp_p hg];have hw2:IntKind.wrap .i64 (((x.qs.length+b:Nat):Int)-(x.qs.length:Int))=(b:Int):=by rw[An zo zo];omega
 have hpv:G2 x letters p.c= .tup [eIs (p.ls.map (at0 letters)),.bool true]:=by unfold G2;rw[Pu h.ox hmem]
 have hpc:=Pt h.ox hmem;rw[<-hc.len]at hpc;have hgc:=BE hpc.1 hpc.2;have hfl:few (p.ls.map (at0 letters)):=by show(p.ls.map _).length<_;rw[W0];exact h.fx.p p hmem
 have hrd:RdI H (eIs (p.ls.map (at0 letters))) (p.ls.map (at0 letters)):=.inl ⟨_,rfl,.inl rfl⟩;have hd:Rz p letters cells=(decide (0<=at0 cells p.c)&& !(p.ls.map (at0 letters)).contains (at0 cells p.c)):=rfl;rw[hd];generalize p.ls.map (at0 letters)=L at hpv hfl hrd;generalize at0 cells p.c=s at hgc;have l8:p.c.toNat<cells.length:=zo
 have r1:=Hy hrd;rcases hv with⟨t,rfl,ht⟩|⟨id,cap,rest,rfl,ha,hcap⟩
 ·have ht':(t.esz=1)=True:=W1 (ht.resolve_right λe=>by rw[e]at l8;simp at l8);by_cases hs:0<=s
  ·simp only[eZ,seval,eY,c50,hq,W4 h0,hw1,W4 h1',lt_F h2,lt_T hb,hg,hw2,Tcp,Hz,CK,W1 hr0,hpv,W1 hpc.1,W1 hpc.2,hgc,ht',W1 hs,r1,W1 hrd,W1 hfl,tadd];exact B5.refl _
  ·simp only[eZ,seval,eY,c50,hq,W4 h0,hw1,W4 h1',lt_F h2,lt_T hb,hg,hw2,Tcp,Hz,CK,W1 hr0,hpv,W1 hpc.1,W1 hpc.2,hgc,ht',W4 hs,r1,W1 hrd,W1 hfl,tadd];exact B5.refl _
 ·have hga:(cells++rest)[p.c.toNat]?=some s:=by rw[XQ l8];exact hgc
  have hla:(p.c.toNat<(cells++rest).length)=True:=W1 (by simp;omega);by_cases hs:0<=s
  ·simp only[eZ,seval,eY,c50,hq,W4 h0,hw1,W4 h1',lt_F h2,lt_T hb,hg,hw2,Tcp,Hz,CK,W1 hr0,hpv,W1 hpc.1,W1 hpc.2,ha,hga,hla,W1 hs,r1,W1 hrd,W1 hfl,tadd];exact B5.refl _
  ·simp only[eZ,seval,eY,c50,hq,W4 h0,hw1,W4 h1',lt_F h2,lt_T hb,hg,hw2,Tcp,Hz,CK,W1 hr0,hpv,W1 hpc.1,W1 hpc.2,ha,hga,hla,W4 hs,r1,W1 hrd,W1 hfl,tadd];exact B5.refl _
theorem q_comp{av:Fs}(at':Int)(h:RdC k x letters)(hc:ClC k x cells)(hr:RdAt H rp k x letters)(hv:RdI H av cells):
  Am prog 50 [.ptr rp 0,.int .i64 at',av] H n (.bool (CR (AV k) x letters cells at')):=
 Am.of c50.l trivial λ_=>t_comp at' h hc hr hv
end
section
abbrev encC(c:Cas):Fs:=.agg [.int .i64 c.k,.int .i64 c.a]
abbrev eCs(l:List Cas):Fs:=.sl (.none 2) (l.map encC)
def CW(rp n:Nat)(H H':AC):Prop:=∀i,i<n->i≠rp->hget H' i=hget H i
variable {H H':AC} {k:z8} {letters:List Int} {x:jq} {rp n:Nat}
theorem CW.refl(H:AC):CW rp n H H:=λ_ _ _=>rfl
theorem CW.trans{n':Nat}{H'':AC}(h:CW rp n H H')(k:CW rp n' H' H'')(hn:n<=n'):CW rp n H H'':=λi hi hr=>(k i zo hr).trans (h i hi hr)
theorem CW.new{j:Nat}{ob:zz}(h:CW rp n H H')(hj:n<=j):CW rp n H (hset H' j ob):=λi hi hr=>by
 rw[AA _ _ _ _ zo];exact h i hi hr
theorem CW.set{ob:zz}(h:CW rp n H H'):CW rp n H (hset H' rp ob):=λi hi hr=>by
 rw[AA _ _ _ _ (Ne.symm hr)];exact h i hi hr
def Vc(rp:Nat)(k:z8)(x:jq)(letters:List Int)(H:AC)(n:Nat)(r:Option (List Cas)):j8->AC->Nat->Prop:=λo H' n'=>
 AQ H' n'/\n<=n'/\CW rp n H H'/\match r with
  |some l=>o= .ret (.bool true)/\hget H' rp=some (.box (Bw k x letters (eCs l)))
  |none=>o= .ret (.bool false)
def KA(k:z8)(x:jq)(letters:List Int):List Fs->AC->Prop×Fs:=λa H=>match a with
 |[.ptr rp 0,.int .i64 c,av]=>(RdAt H rp k x letters/\RdI H av (rdL H av)/\ClC k x (rdL H av),.bool (CR (AV k) x letters (rdL H av) c))
 |_=>(False,.tup [])
theorem rowCmq(h:RdC k x letters):∀args H n,(KA k x letters args H).1->Am prog 50 args H n (KA k x letters args H).2:=by
 intro args H m hh;unfold KA at hh⊢;split at hh
 ·exact q_comp _ h hh.2.2 hh.1 hh.2.1
 ·exact hh.elim
def Ttr(k:z8)(x:jq)(letters:List Int):Tab:=tadd 50 (KA k x letters) (Tcp k x letters)
theorem UU(h:RdC k x letters):AI prog (Ttr k x letters):=(UT h).add (rowCmq h)
theorem Ttr_m(k:z8)(x:jq)(letters:List Int)(a:List Fs)(H:AC):Ttr k x letters 50 a H=KA k x letters a H:=rfl
theorem Ttr_p(k:z8)(x:jq)(letters:List Int)(a:List Fs)(H:AC):Ttr k x letters 81 a H=Hz k x letters a H:=rfl
theorem Vd(k:z8)(x:jq)(letters:List Int)(a:List Fs)(H:AC):Ttr k x letters 36 a H=CK a H:=rfl
def conB(x:jq)(letters:List Int)(c s:Int):Bool:=match Hv x c with
 |none=>true
 |some p=>(p.ls.map (at0 letters)).contains s
theorem Pw(m:Nat)(x:jq)(letters:List Int)(c:Int):Nf m x letters c=(symI m).filter (conB x letters c):=by
 unfold Nf conB;cases Hv x c with
 |none=>exact(YU.2 λ_ _=>rfl).symm
 |some p=>rfl
theorem Px{F:Int->List Cas->Option (List Cas)}(hF:∀s l r,F s l=some r->r.length<=l.length):∀(ss:List Int) (l r:List Cas),seqT F ss l=some r->r.length<=l.length
 |[],l,r,h=>by rw[seqT]at h;cases h;exact W9 _
 |s::ss,l,r,h=>by
  rw[seqT]at h;obtain⟨l1,h1,h2⟩:=Option.bind_eq_some_iff.1 h;exact XJ (Px hF ss l1 r h2) (hF s l l1 h1)
theorem Mi{vals:List Int}:∀(f:Nat) (cells:List Int) (l r:List Cas),Cv vals x letters f cells l=some r->r.length<=l.length
 |_,_,[],r,h=>by rw[Cv]at h;cases h
 |0,cells,n::l,r,h=>by
  rw[Cv]at h;split at h
  ·split at h
   ·cases h;simp
   ·cases h
  ·split at h<;>cases h
 |f+1,cells,n::l,r,h=>by
  rw[Cv]at h;split at h
  ·split at h
   ·cases h;simp
   ·cases h
  ·split at h
   ·have:=Px (λs l r=>Mi f (cells.set n.a.toNat s) l r) _ _ _ h;simp;omega
   ·cases h
theorem Py(h:RdC k x letters)(c:Int):∃L ok t,G2 x letters c= .tup [.sl t (L.map eI),.bool ok]/\(t.esz=1\/L=[])/\few L/\∀s,conB x letters c s=(!ok||L.contains s):=by
 unfold G2 conB;cases hp:Hv x c with
 |none=>exact⟨[],false,.nil,rfl,.inr rfl,(by show(0:Nat)<_;decide),λs=>rfl⟩
 |some p=>
  refine⟨p.ls.map (at0 letters),true,.none 1,rfl,.inl rfl,?_,λs=>rfl⟩;show(p.ls.map _).length<_;rw[W0];exact h.fx.p p (List.mem_of_find?_eq_some hp)
theorem con_f{ok b:Bool}(h:false=(!ok||b)):ok=true/\b=false:=by cases ok<;>cases b<;>simp at h⊢
theorem con_t{ok b:Bool}(h:true=(!ok||b)):ok=false\/ok=true/\b=true:=by cases ok<;>cases b<;>simp at h⊢
theorem Sr{m i:Nat}(h:i<m):(symI m).drop i=(i:Int)::(symI m).drop (i+1):=by
 unfold symI;rw[<-List.map_drop,<-List.map_drop,Xj (by simpa using h)];simp
structure VTr where
 i:Nat
 l:List Cas
 H:AC
 n:Nat
structure ITr(rp:Nat)(k:z8)(x:jq)(letters:List Int)(F:Int->List Cas->Option (List Cas))(p:Int->Bool)(R:Option (List Cas))(H0:AC)(n0:Nat)(v:VTr):Prop where
 hi:v.i<=k.d.syms.length
 fr:AQ v.H v.n
 hn:n0<=v.n
 kp:CW rp n0 H0 v.H
 hr:hget v.H rp=some (.box (Bw k x letters (eCs v.l)))
 he:R=seqT F (((symI k.d.syms.length).drop v.i).filter p) v.l
 hl:v.l.length<1000000000
theorem Pz(h:RdC k x letters)(rp:Nat)(f:Nat)(cells:List Int)
  (ih:∀(cells':List Int) (l:List Cas) (H:AC) (n id cap:Nat) (rest:List Int),AQ H n->hget H rp=some (.box (Bw k x letters (eCs l)))->hget H id=some (.arr 1 ((cells'++rest).map eI))->cells'.length<=cap->ClC k x cells'->negs cells'+1=negs cells->l.length<1000000000->
   AO prog 46 [.ptr rp 0,.ref id 1 0 cells'.length cap] H n (Vc rp k x letters H n (Cv (AV k) x letters f cells' l)))
  (l:List Cas) (H:AC) (n id cap:Nat) (rest:List Int) (hf:AQ H n) (hrp:hget H rp=some (.box (Bw k x letters (eCs l)))) (hidq:hget H id=some (.arr 1 ((cells++rest).map eI))) (hcap:cells.length<=cap) (hC:ClC k x cells) (hl:l.length<1000000000):
  AO prog 46 [.ptr rp 0,.ref id 1 0 cells.length cap] H n (Vc rp k x letters H n (Cv (AV k) x letters (f+1) cells l)):=by
 have hq:=hrp;simp only[Bw,AJ,AD,AH,BN,Xm,Xl]at hq;refine c46.a (AF (UU h) (AG ?_));cases l with
 |nil=>
  simp only[eZ,seval,c0,c46,hq];exact⟨hf,W9 _,CW.refl _,by rw[Cv]⟩
 |cons c l=>
 have g1:(((l.length+1:Nat):Int)=0)=False:=cS0;have g2:(n+6=rp)=False:=W4 (by have:=hf.lt hrp;omega);have g3:(rp=n+6)=False:=W4 (by have:=hf.lt hrp;omega);have g4:((1:Int)<=((l.length+1:Nat):Int))=True:=W1 zo;have hck:Cv (AV k) x letters (f+1) cells (c::l)=if c.k=Nc then(if CR (AV k) x letters cells c.a then some l else none)
  else if c.k=Nd/\0<=c.a/\c.a<cells.length/\at0 cells c.a<0 then seqT (λs l=>Cv (AV k) x letters f (cells.set c.a.toNat s) l) (Nf (AV k).length x letters c.a) l else none:=by rw[Cv]
 rw[hck];clear hck;have g5:((0:Int)<((l.length+1:Nat):Int))=True:=W1 zo;have htl:List.take l.length (l.map encC)=l.map encC:=XE zw;have hrpn:=hf.lt hrp;have hidn:=hf.lt hidq;have d9:rp≠id:=λe=>by rw[e,hidq]at hrp;cases hrp
 obtain⟨H2,hH2⟩:∃H2,hset (hset H (n+6) (.box [.int .i64 c.k,.int .i64 c.a])) rp (.box (Bw k x letters (eCs l)))=H2:=⟨_,rfl⟩;have o7:AQ H2 (n+8):=by rw[<-hH2];exact(hf.hset (m:=n+8) zo zo).hset (W9 _) zo
 have hrp2:hget H2 rp=some (.box (Bw k x letters (eCs l))):=by rw[<-hH2,AB]
 have hid2:hget H2 id=some (.arr 1 ((cells++rest).map eI)):=by rw[<-hH2,AA _ _ _ _ d9,AA _ _ _ _ zo];exact hidq
 have hnb2:hget H2 (n+6)=some (.box [.int .i64 c.k,.int .i64 c.a]):=by rw[<-hH2,AA _ _ _ _ zo,AB]
 have hkb2:CW rp n H H2:=by rw[<-hH2];exact((CW.refl H).new zo).set
 have hRd2:RdAt H2 rp k x letters:=⟨_,hrp2⟩;have hRI2:RdI H2 (.ref id 1 0 cells.length cap) cells:=.inr ⟨id,cap,rest,rfl,hid2,hcap⟩;have hrd:=Hy hRI2;simp only[Bw,AJ,AD,AH,BN,Xm,Xl]at hH2;by_cases l7:c.k=2
 ·have hz:c.k=Nc:=l7;rw[X0 hz];simp only[eZ,seval,eY,c46,hq,g1,g2,g4,g5,htl,fr1 hf,AN,hH2,hnb2,W1 l7,Ttr_m,KA,hrd,W1 hRI2,W1 hRd2,W1 hC];refine⟨o7,zo,hkb2,?_⟩;cases hcm:CR (AV k) x letters cells c.a with
  |true=>exact⟨rfl,hrp2⟩
  |false=>rfl
 have hk2':¬c.k=Nc:=l7;rw[W6 hk2'];by_cases hk1:c.k=1;case neg=>
  have hk1':¬(c.k=Nd/\0<=c.a/\c.a<cells.length/\at0 cells c.a<0):=λq=>hk1 q.1
  rw[W6 hk1'];simp only[eZ,seval,eY,c46,hq,g1,g2,g4,g5,htl,fr1 hf,AN,hH2,hnb2,W4 l7,W4 hk1];exact⟨o7,zo,hkb2,rfl⟩
 by_cases ha0:c.a<0
 ·rw[W6 zo];simp only[eZ,seval,W3,eY,c46,hq,g1,g2,g4,g5,htl,fr1 hf,AN,hH2,hnb2,W4 l7,W1 hk1,W1 ha0];exact⟨o7,zo,hkb2,rfl⟩
 by_cases hal:(cells.length:Int)<=c.a
 ·rw[W6 zo];simp only[eZ,seval,W3,eY,c46,hq,g1,g2,g4,g5,htl,fr1 hf,AN,hH2,hnb2,W4 l7,W1 hk1,W4 ha0,W1 hal];exact⟨o7,zo,hkb2,rfl⟩
 obtain⟨a,ha⟩:=Yw (Int.not_lt.1 ha0);have hal':a<cells.length:=zo
 have hgc:cells[a]?=some (at0 cells c.a):=by have:=BE (l:=cells) (i:=c.a) zo zo;rwa[show c.a.toNat=a by omega]at this
 have hga:(cells++rest)[a]?=some (at0 cells c.a):=by rw[XQ hal'];exact hgc
 have hla:(a<(cells++rest).length)=True:=W1 (by simp;omega);have x7:c.a.toNat=a:=zo
 rw[x7];generalize hs:at0 cells c.a=s at hgc hga;have b0:(0<=c.a)=True:=W1 zo;have b1:(c.a<(cells.length:Int))=True:=W1 zo;by_cases hs0:0<=s
 ·rw[W6 zo];simp only[eZ,seval,eY,c46,hq,g1,g2,g4,g5,htl,fr1 hf,AN,hH2,hnb2,W4 l7,W1 hk1,W4 ha0,W4 hal,hid2,x7,hga,hla,b0,b1,W1 hs0];exact⟨o7,zo,hkb2,rfl⟩
 rw[X0 ⟨hk1,zo,zo,zo⟩];obtain⟨L,ok,t,hpv,hLt,hLf,hcon⟩:=Py h c.a;have hq2:=hrp2;simp only[Bw,AJ,AD,AH,BN,Xm,Xl]at hq2;have hvl:(AV k).length=k.d.syms.length:=by unfold AV;rw[W0]
 have hsy:=CE h.ck;rw[Pw,hvl];simp only[eZ,seval,eY,c46,hq,g1,g2,g4,g5,htl,fr1 hf,AN,hH2,hnb2,hq2,W4 l7,W1 hk1,W4 ha0,W4 hal,hid2,x7,hga,hla,b0,b1,W4 hs0,Ttr_p,Hz,W1 hRd2,hpv];refine AL (λv:VTr=>⟨[(0,true,.ptr rp 0),(1,true,.ref id 1 0 cells.length cap),(5,true,.ptr (n+6) 0),(6,true,.sl t (L.map eI)),(7,true,.bool ok),(72,true,.int .i64 k.d.syms.length),(73,true,.int .i64 v.i)],v.H,v.n⟩)
  (ITr rp k x letters (λs l=>Cv (AV k) x letters f (cells.set a s) l) (conB x letters c.a) (seqT (λs l=>Cv (AV k) x letters f (cells.set a s) l) ((symI k.d.syms.length).filter (conB x letters c.a)) l) H2 (n+8)) (λv=>k.d.syms.length-v.i)
  ⟨0,l,H2,n+8⟩ rfl ⟨Wz _,o7,W9 _,CW.refl _,hrp2,rfl,by simp only[Xe]at hl;simp only[];omega⟩ ?_
 rintro⟨i,l1,H1,n1⟩ ⟨hi,hf1,l5,hk,hr1,he,hl1⟩;simp only at hi hf1 l5 hk hr1 he hl1;rw[he];by_cases c5:i<k.d.syms.length;case neg=>
  obtain rfl:i=k.d.syms.length:=zo
  rw[YN (by unfold symI;simp)];simp only[eZ,seval,lt_F c5];exact⟨hf1,zo,hkb2.trans hk zo,rfl,hr1⟩
 have e:=AE (k:=i) zo;have hd:=Sr c5;have hci:=hcon (i:Int);have hid1:hget H1 id=some (.arr 1 ((cells++rest).map eI)):=(hk id zo (Ne.symm d9)).trans hid2;have hnb1:hget H1 (n+6)=some (.box [.int .i64 c.k,.int .i64 c.a]):=(hk (n+6) zo zo).trans hnb2;have hRI1:RdI H1 (.ref id 1 0 cells.length cap) cells:=.inr ⟨id,cap,rest,rfl,hid1,hcap⟩;have hRL:RdI H1 (.sl t (L.map eI)) L:=.inl ⟨t,rfl,hLt⟩;have r1:=Hy hRL;by_cases o9:conB x letters c.a (i:Int)=true;case neg=>
  have hcb':conB x letters c.a (i:Int)=false:=by simpa using o9
  rw[hd,List.filter_cons_of_neg o9];rw[hcb']at hci;have h2:=con_f hci;obtain⟨rfl,h2⟩:=h2;simp only[eZ,seval,W7,lt_T c5,Vd,CK,r1,W1 hRL,W1 hLf,h2,W7,e];exact .mk ⟨i+1,l1,H1,n1⟩ rfl ⟨c5,hf1,l5,hk,hr1,rfl,hl1⟩ zp
 rw[hd,List.filter_cons_of_pos o9,seqT];rw[o9]at hci;have h2:=con_t hci;have hcf:few cells:=by show cells.length<_;have:=h.ox.cs.2.2.2;rw[hC.len];omega
 rcases h2 with rfl|⟨rfl,h2⟩
 case' inl=>simp only[eZ,seval,lt_T c5,Vd,CK,r1,W1 hRL,W1 hLf]
 case' inr=>simp only[eZ,seval,W3,lt_T c5,Vd,CK,r1,W1 hRL,W1 hLf,h2,W3]
 all_goals
  refine(Pe hRI1 hcf).mono ?_;rintro o H3 n3 (⟨hz,-⟩|⟨-,rfl,rest3,rfl,rfl⟩)
  ·rw[hz]at hal';simp at hal'
  have y1:(n1=n+4)=False:=W4 zo;have hla3:(a<(cells++rest3).length)=True:=W1 (by simp;omega);simp only[eZ,seval,eY,retK,hnb1,y1,b0,b1,x7,hla3,AN];have eset:((cells++rest3).map eI).set a (.int .i64 (i:Int))=((cells.set a (i:Int))++rest3).map eI:=by
   rw[<-Z3 _ _ hal',List.map_set]
  have hlen:(cells.set a (i:Int)).length=cells.length:=YS;have hrpn1:=hf1.lt hr1;have hC':ClC k x (cells.set a (i:Int)):=⟨by rw[hlen];exact hC.len,λs hs h0=>by
   rcases Z4 hs with q|q
   ·exact hC.sy s q h0
   ·rw[q];exact⟨zo,zo⟩⟩
  have hng:=Ng hgc zo (show(0:Int)<=(i:Int)by omega);rw[eset];have hcall:=ih (cells.set a (i:Int)) l1 (hset H1 (n1+2) (.arr 1 (((cells.set a (i:Int))++rest3).map eI))) (n1+4) (n1+2) (cells.length+rest3.length) rest3 (hf1.hset zo zo) (by rw[AA _ _ _ _ zo];exact hr1) (AB ..) (by rw[hlen];omega) hC' hng hl1;rw[hlen]at hcall;refine hcall.mono ?_;rintro o H4 n4 ⟨hf4,hn4,hk4,hres⟩;have hk4':CW rp (n+8) H2 H4:=(hk.new zo).trans hk4 zo;cases htr:Cv (AV k) x letters f (cells.set a (i:Int)) l1 with
  |none=>
   rw[htr]at hres;obtain rfl:o= .ret (.bool false):=hres;simp only[eZ,seval,W7,retK,W7];exact⟨hf4,zo,hkb2.trans hk4' zo,rfl⟩
  |some l2=>
   rw[htr]at hres;obtain⟨rfl,hr4⟩:=hres;have hl2:=Mi _ _ _ _ htr;simp only[eZ,seval,W3,retK,W3,e];exact .mk ⟨i+1,l2,H4,n4⟩ rfl ⟨c5,hf4,zp,hk4',hr4,rfl,zp⟩ zp
theorem P0{cells:List Int}{a:Nat}{t:Int}(h:negs cells=0)(ha:cells[a]?=some t):0<=t:=by
 apply Classical.byContradiction;intro q;have h1:t∈cells.filter λs=>decide (s<0):=Yn.2 ⟨Xw ha,by simp;omega⟩
 unfold negs at h;rw[XD h]at h1;cases h1
theorem P1{vals:List Int}{cells:List Int}(h:negs cells=0)(l:List Cas):Cv vals x letters 0 cells l=Cv vals x letters 1 cells l:=by
 cases l with
 |nil=>rw[Cv,Cv]
 |cons c l=>
  rw[Cv,Cv];have i5:¬(c.k=Nd/\0<=c.a/\c.a<cells.length/\at0 cells c.a<0):=λq=>by
   have:=P0 h (BE q.2.1 q.2.2.1);omega
  rw[W6 i5,W6 i5]
theorem UV(h:RdC k x letters)(rp:Nat):∀(f:Nat) (cells:List Int) (l:List Cas) (H:AC) (n id cap:Nat) (rest:List Int),AQ H n->hget H rp=some (.box (Bw k x letters (eCs l)))->hget H id=some (.arr 1 ((cells++rest).map eI))->cells.length<=cap->ClC k x cells->negs cells<=f->l.length<1000000000->
  AO prog 46 [.ptr rp 0,.ref id 1 0 cells.length cap] H n (Vc rp k x letters H n (Cv (AV k) x letters f cells l))
 |0,cells,l,H,n,id,cap,rest,hf,hrp,hidq,hcap,hC,hneg,hl=>by
  rw[P1 zo];exact Pz h rp 0 cells (λcells' l H n id cap rest _ _ _ _ _ hn _=>zo) l H n id cap rest hf hrp hidq hcap hC hl
 |f+1,cells,l,H,n,id,cap,rest,hf,hrp,hidq,hcap,hC,hneg,hl=>
  Pz h rp f cells (λcells' l H n id cap rest a1 a2 a3 a4 a5 hn a6=>UV h rp f cells' l H n id cap rest a1 a2 a3 a4 a5 zo a6) l H n id cap rest hf hrp hidq hcap hC hl
end
section
def Cw(k:z8)(x:jq):Int:=if BG k≠0 then BG k else chk x
def Tsv:Tab:=tadd 39 (s1 dX FewL λx=>eI (chk x)) Tlt
def Tsv_ok:AI prog Tsv:=US.add (q1 λx h=>p39 x h)
theorem Tsv_c(a:List Fs)(H:AC):Tsv 32 a H=s1 dKn (λk=>qk k.d) (λk=>.int .i64 (BG k)) a H:=rfl
theorem Tsv_m(a:List Fs)(H:AC):Tsv 39 a H=s1 dX FewL (λx=>eI (chk x)) a H:=rfl
def p45(k:z8)(x:jq)(hk:qk k.d)(hx:FewL x):Pur prog 45 [Bj k,encL x] (eI (Cw k x)):=by
 have u1:dKn.ok (.agg (AJ k))=True:=DW k;have u2:dKn.dec (.agg (AJ k))=k:=CJ k;simp only[AJ,AD,AH,Xm,Xl]at u1 u2;have v1:dX.ok (.agg (BN x))=True:=UA x;have v2:dX.dec (.agg (BN x))=x:=Nl x;simp only[BN]at v1 v2;refine .mk ⟨Ag 0 k,Dx 0 x,trivial⟩ trivial (c45.a (AF Tsv_ok (AG ?_)));unfold Cw;by_cases h:BG k=0
 ·simp only[eZ,seval,W3,c45,AJ,AD,AH,Tsv_c,Tsv_m,s1,u1,u2,v1,v2,W1 hk,W1 hx,W1 h]
 ·simp only[eZ,seval,W7,c45,AJ,AD,AH,Tsv_c,s1,u1,u2,W1 hk,W4 h]
def i04:((0:Int)<4)=True:=W1 zd
abbrev eTr(t:List (List Cas)):Fs:=.sl (.none 1) (t.map eCs)
abbrev encPf(t:List (List Cas)):Fs:=.agg [eTr t]
def P2(n:Nat)(l:List Cas):(eCs l).under n:=⟨trivial,BC (f:=encC) (λc=>⟨trivial,trivial,trivial⟩) _⟩
def LZ(n:Nat)(t:List (List Cas)):(encPf t).under n:=⟨⟨trivial,BC (P2 n) _⟩,trivial⟩
abbrev eCk:List (Nat×Bool×Fs):=[(3,true,.ptr 0 0),(4,true,.ptr 1 0),(5,true,.ptr 2 0),(6,true,.ptr 3 0),(7,true,.ptr 4 0),(8,true,.ptr 5 0),(25,true,clC 8 7)]
noncomputable abbrev lpCk (l':Nat) (st:LoopState) (pend:Option Code):zz:=.lp ⟨l',st,pend,75,eCk, #[26],Iu,Iv⟩
def UW(k:z8)(x:jq)(trees:List (List Cas))(D:List (List Int)):Prop:=∀(i:Nat) l,D[i]?=some l->∃t,trees[i]?=some t/\Cv (AV k) x l x.cs.length (begC x l) t=some []
structure CkJ(k:z8)(x:jq)(trees:List (List Cas))(l':Nat)(F:Nat->Prop)(D:List (List Int))(H:AC)(m:Nat):Prop where
 fr:AQ H m
 lm:11<=m
 nF:∀i,F i->i=7\/i=8\/11<=i
 h0:hget H 0=some (.box (AJ k))
 h1:hget H 1=some (.box (BN x))
 h2:hget H 2=some (.box [eTr trees])
 h3:hget H 3=some (.box [.bool false])
 h4:hget H 4=some (.box [.int .i64 0])
 h5:hget H 5=some (.box [.int .i64 D.length])
 hL:hget H 10=some (lpCk l' .ready none)
 ok:UW k x trees D
def CkS(k:z8)(x:jq)(trees:List (List Cas))(l':Nat)(H:AC)(m:Nat):Prop:=
 hget H 3=some (.box [.bool false])/\hget H 4=some (.box [.int .i64 0])/\hget H 10=some (lpCk l' .done (some .ret))/\GT (AV k) x trees=false
variable {k:z8} {x:jq}
theorem Ve{trees:List (List Cas)}{l':Nat}(hR:∀letters∈chs (AV k).length x.ls.length,RdC k x letters)(htr':few trees)(ht:∀t∈trees,few t):Gen (chs (AV k).length x.ls.length) l' (CkJ k x trees l') (CkS k x trees l') where
 fr:=λF D H m h=>h.fr
 frame:=by
  rintro F F' D H H' m m' ⟨fr,lm,nF,h0,h1,h2,h3,h4,h5,hL,ok⟩ hF hH hf hm;have n1:∀i,i<11->i≠7->i≠8->hget H' i=hget H i:=λi a b c=>hH i λq=>by
   rcases hF i q with q|q
   ·have:=nF i q;omega
   ·omega
  exact⟨hf,zo,λi h=>(hF i h).elim (nF i) (λq=>zo),by rw[n1 0 zd zd zd];exact h0,by rw[n1 1 zd zd zd];exact h1,by rw[n1 2 zd zd zd];exact h2,
   by rw[n1 3 zd zd zd];exact h3,by rw[n1 4 zd zd zd];exact h4,by rw[n1 5 zd zd zd];exact h5,by rw[n1 10 zd zd zd];exact hL,ok⟩
 yld:=by
  rintro F D letters H m R ⟨fr,lm,nF,h0,h1,h2,h3,h4,h5,hL,ok⟩ hF hA hRt hRf;refine y18_0 hL rfl (AF AI.tnil (AG ?_));simp only[eE,eN,seval,RU,renv,YH,YK,Y8,YV];refine⟨_,hL,rfl,AF AI.tnil (AG ?_)⟩;have hf':AQ (hset H 10 (lpCk l' .busy none)) m:=fr.hset (W9 _) zo;generalize hH1:hset H 10 (lpCk l' .busy none)=H1 at hf'⊢;have k1:∀i,i≠10->hget H1 i=hget H i:=λi hi=>by rw[<-hH1,AA _ _ _ _ hi.symm]
  have hL1:hget H1 10=some (lpCk l' .busy none):=by rw[<-hH1,AB]
  have a0:=(k1 0 zd).trans h0;have a1:=(k1 1 zd).trans h1;have a2:=(k1 2 zd).trans h2;have a3:=(k1 3 zd).trans h3;have a4:=(k1 4 zd).trans h4;have a5:=(k1 5 zd).trans h5;clear hH1;have hmem:letters∈chs (AV k).length x.ls.length:=by
   obtain⟨t,ht⟩:=hA;rw[<-ht];simp
  have hrd:=hR _ hmem;simp only[AJ,AD,AH,Xm,Xl]at a0;by_cases hl:D.length=trees.length
  ·have hl':((D.length:Int)=(trees.length:Int))=True:=W1 zo;have hl2:decide ((D.length:Int)=(trees.length:Int))=true:=by simp;omega
   simp only[eZ,seval,W0,NN,a5,a2,hl',a3,a4];refine⟨⟨l',.busy,none,75,eCk, #[26],Iu,Iv⟩,by rw[AA _ _ _ _ zd,AA _ _ _ _ zd];exact hL1,hRf _ _ ⟨?_,?_,AB ..,?_⟩⟩
   ·simp_all [AA,decide,AB]
   ·rw[AA _ _ _ _ zd,AB]
   ·unfold GT;obtain⟨t,hA⟩:=hA;have hlen:(chs (AV k).length x.ls.length).length≠trees.length:=by
     rw[<-hA];simp;omega
    rw[X9 hlen,YC]
  have hl':((D.length:Int)=(trees.length:Int))=False:=W4 zo;have hl2:decide ((D.length:Int)=(trees.length:Int))=false:=by simp;omega
  have hDl:D.length<trees.length:=by
   have:D.length<=trees.length:=by
    apply Classical.byContradiction;intro q;obtain⟨t,h1,-⟩:=ok trees.length D[trees.length] (W2 zo);rw[YQ zo]at h1;cases h1
   omega
  have hgt:=W2 hDl;have htf:=ht _ (X5 hDl);generalize trees[D.length]=tr at hgt htf;have hX:=hrd.ox;have hxc:=hX.c;have hxl:=hX.l;have hx4:=hX.cs.2.2;rw[<-hrd.ll]at hxl;have hgl:=BE hxl.1 hxl.2;have z:∀j,j<11->(m=j)=False:=λj hj=>W4 zo
  have z':∀j,j<11->(j=m)=False:=λj hj=>W4 zo
  have z0:=z 0 zd;have z1:=z 1 zd;have z2:=z 2 zd;have z3:=z 3 zd;have z4:=z 4 zd;have z5:=z 5 zd;have z10:=z 10 zd;have w1:((x.cs.length:Int)<=4)=True:=W1 zo;have w2:(0<=x.c)=True:=W1 hxc.1;have w3:(x.c<(x.cs.length:Int))=True:=W1 hxc.2;have w4:(x.c.toNat<4)=True:=W1 zo;have w5:(0<=x.l)=True:=W1 hxl.1;have w6:(x.l<(letters.length:Int))=True:=W1 hxl.2;have w7:(x.l.toNat<letters.length)=True:=W1 zo;simp only[BN]at a1;simp only[eZ,seval,xE,eY,NN,a5,a2,hl',a0,a1,fr1 hf',fr0 hf',bsmS,bsmF,z0,z1,z2,z5,w1,w2,w3,w4,w5,w6,hgl,hgt,lt_T hDl,Nat.sub_zero,c4n,i04,AN];have hbeg:([.int .i64 (-1),.int .i64 (-1),.int .i64 (-1),.int .i64 (-1)]:List Fs).set x.c.toNat (eI (at0 letters x.l))=((begC x letters)++List.replicate (4-x.cs.length) (-1)).map eI:=by
   unfold begC;rw[<-Z3 _ _ (by rw[Yo];omega),List.replicate_append_replicate,show x.cs.length+(4-x.cs.length)=4 by omega,List.map_set];rfl
  rw[hbeg];generalize hHa:hset H1 m (zz.arr 1 _)=Ha;have hfa:AQ Ha (m+15):=by rw[<-hHa];exact hf'.hset zo zo
  have hbl:=Jr x letters;have hC:ClC k x (begC x letters):=by
   refine⟨hbl,λs hs h0=>?_⟩;have hb:=I5 hX hmem;unfold begC at hs;rcases Z4 hs with q|q
   ·rw[List.mem_replicate]at q;omega
   ·grind [AV,List.length_map]
  have hcall:=UV hrd (m+15) x.cs.length (begC x letters) tr (hset Ha (m+15) (.box (Bw k x letters (eCs tr)))) (m+17) m 4 (List.replicate (4-x.cs.length) (-1)) (hfa.hset zo zo) (AB ..) (by rw[AA _ _ _ _ zo,<-hHa,AB]) (by rw[hbl];omega) hC T8 htf;rw[hbl]at hcall;refine hcall.mono ?_;rintro o H4 n4 ⟨hf4,hn4,hk4,hres⟩;have hkeep:∀i,i<m->hget H4 i=hget H1 i:=λi hi=>by
   rw[hk4 i zo zo,AA _ _ _ _ zo,<-hHa,AA _ _ _ _ zo]
  have b3:=(hkeep 3 zo).trans a3;have b4:=(hkeep 4 zo).trans a4;have b5:=(hkeep 5 zo).trans a5;have b10:=(hkeep 10 zo).trans hL1;have hwrong:∀q,Cv (AV k) x letters x.cs.length (begC x letters) tr=q->q≠some []->GT (AV k) x trees=false:=λq hq d9=>by
   unfold GT;rw[Zf];by_cases hlen:(chs (AV k).length x.ls.length).length=trees.length
   ·right;rw[Z1];obtain⟨t,hA⟩:=hA;refine⟨(letters,tr),?_,by rw[hq];simpa using d9⟩;rw[List.mem_iff_getElem?];refine⟨D.length,?_⟩;rw[List.getElem?_zip_eq_some];refine⟨?_,hgt⟩;rw[<-hA];simp
   ·exact .inl (X9 hlen)
  have stop:GT (AV k) x trees=false->Un 10 R qj.ret ⟨[],hset (hset H4 3 (.box [.bool false])) 4 (.box [.int .i64 0]),n4⟩:=λhw=>by
   refine⟨⟨l',.busy,none,75,eCk, #[26],Iu,Iv⟩,by rw[AA _ _ _ _ zd,AA _ _ _ _ zd];exact b10,hRf _ _ ⟨?_,?_,AB ..,hw⟩⟩
   ·simp_all [AA,decide,AB]
   ·rw[AA _ _ _ _ zd,AB]
  cases htr:Cv (AV k) x letters x.cs.length (begC x letters) tr with
  |none=>
   rw[htr]at hres;obtain rfl:o= .ret (.bool false):=hres;simp only[eZ,seval,W3,W7,retK,b3,b4,W7];exact stop (hwrong _ htr zw)
  |some l2=>
   rw[htr]at hres;obtain⟨rfl,hr4⟩:=hres;simp only[Bw,AJ,AD,AH,BN,Xm,Xl]at hr4;cases l2 with
   |cons c2 l2=>
    have g2:((0:Int)<((l2.length+1:Nat):Int))=True:=cS1;simp only[eZ,seval,W3,W0,retK,b3,b4,hr4,W3,g2];exact stop (hwrong _ htr zw)
   |nil=>
    have e:=AE (k:=D.length) (by have:trees.length<1000000000:=htr';omega);simp only[eZ,seval,W3,eY,retK,b5,hr4,W3,e];have hF':∀i,F i->i≠5/\i≠10:=λi hi=>by have:=nF i hi;omega
    refine⟨⟨l',.busy,none,75,eCk, #[26],Iu,Iv⟩,by rw[AA _ _ _ _ zd];exact b10,hRt _ _ ⟨(hf4.hset (m:=n4) (W9 _) zo).hset (m:=n4) (W9 _) zo,zp,nF,?_,?_,?_,?_,?_,?_,AB ..,?_⟩ (λi hi=>?_) zp⟩
    ·rw[AA _ _ _ _ zd,AA _ _ _ _ zd,hkeep 0 zo,k1 0 zd];exact h0
    ·rw[AA _ _ _ _ zd,AA _ _ _ _ zd,hkeep 1 zo,k1 1 zd];exact h1
    ·rw[AA _ _ _ _ zd,AA _ _ _ _ zd,hkeep 2 zo];exact a2
    ·rw[AA _ _ _ _ zd,AA _ _ _ _ zd];exact b3
    ·rw[AA _ _ _ _ zd,AA _ _ _ _ zd];exact b4
    ·rw[AA _ _ _ _ zd,AB,Xb];rfl
    ·intro i l hl;by_cases q:i<D.length
     ·rw[XQ q]at hl;exact ok i l hl
     ·grind
    ·have:=hF i hi;rw[AA _ _ _ _ (λq=>(hF' i hi).2 q.symm),AA _ _ _ _ (λq=>(hF' i hi).1 q.symm),hkeep i zo,k1 i (hF' i hi).2]
theorem P3{trees:List (List Cas)}(h:UW k x trees (chs (AV k).length x.ls.length)):GT (AV k) x trees=decide ((chs (AV k).length x.ls.length).length=trees.length):=by
 unfold GT;rw[Bool.and_eq_left_iff_imp];intro hl;rw[X8];rintro⟨l,t⟩ hm;obtain⟨i,hi⟩:=List.mem_iff_getElem?.1 hm;rw[List.getElem?_zip_eq_some]at hi;obtain⟨t',h1,h2⟩:=h i l hi.1;rw[hi.2]at h1;cases h1;exact Xf h2
def JM(k:z8)(x:jq)(trees:List (List Cas)):Fs:=if Cw k x≠0 then .tup [.bool false,.int .i64 (Cw k x)]else .tup [.bool (GT (AV k) x trees),.int .i64 0]
theorem Mj(hk:qk k.d)(hx:FewL x)(h:Cw k x=0){letters:List Int}(hl:letters∈chs (AV k).length x.ls.length):RdC k x letters:=by
 unfold Cw at h;by_cases hc:BG k=0
 ·rw[W6 (by simpa using hc)]at h;have ho:Gc x=true:=by
   unfold chk at h;split at h
   ·assumption
   ·cases h
  exact⟨hc,hk,hx,(MK x).1 ho,(Ry hl).1⟩
 ·rw[X0 hc]at h;exact absurd h hc
def rowVd:List Fs->AC->Prop×Fs:=s2 dKn dX (λk x=>qk k.d/\FewL x) λk x=>eI (Cw k x)
def Tsc:Tab:=tadd 45 rowVd tnil
theorem UX:AI prog Tsc:=AI.tnil.add (q2 λk x h=>p45 k x h.1 h.2)
theorem Ss(a:List Fs)(H:AC):Tsc 45 a H=s2 dKn dX (λk x=>qk k.d/\FewL x) (λk x=>eI (Cw k x)) a H:=rfl
theorem p18(k:z8)(x:jq)(trees:List (List Cas))(hk:qk k.d)(hx:FewL x)(htr:few trees)(ht:∀t∈trees,few t):Pur prog 18 [Bj k,encL x,encPf trees] (JM k x trees):=by
 have u1:dKn.ok (.agg (AJ k))=True:=DW k;have u2:dKn.dec (.agg (AJ k))=k:=CJ k;simp only[AJ,AD,AH,Xm,Xl]at u1 u2;have v1:dX.ok (.agg (BN x))=True:=UA x;have v2:dX.dec (.agg (BN x))=x:=Nl x;simp only[BN]at v1 v2;refine .mk ⟨Ag 0 k,Dx 0 x,LZ 0 trees,trivial⟩ ?_ (a18 (AF UX (AG ?_)))
 ·unfold JM;split<;>exact⟨trivial,trivial,trivial⟩
 unfold JM;by_cases hv:Cw k x=0;case neg=>simp only[eZ,eX,seval,W7,BH,c18,AJ,AD,AH,Ss,s2,u1,u2,v1,v2,W1 hk,W1 hx,W4 hv];exact Wk.refl _
 have hvl:(AV k).length=k.d.syms.length:=by unfold AV;rw[W0]
 simp only[eZ,seval,W3,W0,c18,AJ,AD,AH,Ss,s2,u1,u2,v1,v2,W1 hk,W1 hx,W1 hv,AN];rw[hv];have hck:BG k=0:=by simp_all [Cw]<;>omega
 have hsy:=CE hck;generalize hHa:hset (hset _ 4 _) 5 (zz.box _)=Ha;have fa:AQ Ha 7:=by
  rw[<-hHa];repeat' (first|exact AQ.nil.hset (m:=7) (Wz _) zd|refine AQ.hset ?_ (W9 _) zd)
 have f0:hget Ha 0=some (.box (AJ k)):=by rw[<-hHa];rfl
 have f1:hget Ha 1=some (.box (BN x)):=by rw[<-hHa];rfl
 have f2:hget Ha 2=some (.box [eTr trees]):=by rw[<-hHa];rfl
 have f3:hget Ha 3=some (.box [.bool false]):=by rw[<-hHa];rfl
 have f4:hget Ha 4=some (.box [.int .i64 0]):=by rw[<-hHa];rfl
 have f5:hget Ha 5=some (.box [.int .i64 0]):=by rw[<-hHa];rfl
 clear hHa;have t8:x.ls.length<=1000:=by
  have ho:Gc x=true:=by
   unfold Cw at hv;rw[W6 (by simpa using hck)]at hv;unfold chk at hv;split at hv
   ·assumption
   ·cases hv
  have:=((MK x).1 ho).ls.2.2.2;omega
 refine(FD (M:=k.d.syms.length) (n:=x.ls.length) fa).mono ?_;rintro o H1 n1 ⟨rfl,rfl,rfl⟩;simp only[eE,eN,seval,retK,FG];intro l';generalize hHb:hset (hset (hset Ha 7 _) _ _) _ (zz.lp _)=Hb;have kb:∀i,i<7->hget Hb i=hget Ha i:=λi hi=>by
  rw[<-hHb,AA _ _ _ _ zo,AA _ _ _ _ zo,AA _ _ _ _ zo]
 have e8:hget Hb 8=some (.box [.int .i64 x.ls.length]):=by rw[<-hHb,AA _ _ _ _ zd];exact AB ..
 have e7:hget Hb 7=some (.box [.int .i64 (AV k).length]):=by rw[<-hHb,AA _ _ _ _ zd,AA _ _ _ _ zd,hvl];exact AB ..
 have hJ:CkJ k x trees l' (λi=>i=7\/i=8) [] Hb 11:=by
  refine⟨?_,W9 _,λi h=>zo,(kb 0 zd).trans f0,(kb 1 zd).trans f1,(kb 2 zd).trans f2,(kb 3 zd).trans f3,(kb 4 zd).trans f4,(kb 5 zd).trans f5,by rw[<-hHb];exact AB ..,λi l h=>by simp at h⟩;rw[<-hHb];exact((fa.hset (m:=11) zd zd).hset (W9 _) zd).hset (W9 _) zd
 have hgen:=Ve (k:=k) (x:=x) (trees:=trees) (l':=l') (λletters hl=>Mj hk hx hv hl) htr ht;have hM:(AV k).length<=1000:=zo
 refine(LX hgen hM t8 hJ (λi h=>zo) (.inr rfl) (.inl rfl) e8 e7).mono ?_;rintro o H' m' ⟨rfl,⟨F',-,hF',hj⟩|⟨s3,s4,sL,hw⟩⟩
 ·obtain⟨fr,lm,nF,h0,h1,h2,h3,h4,h5,hL,ok⟩:=hj;rw[P3 ok];generalize (chs (AV k).length x.ls.length).length=cl at h5;simp only[eE,eN,seval,BH,W0,FF,hL,h2,h3,h4,h5];rw[show decide ((cl:Int)=(trees.length:Int))=decide (cl=trees.length)from decide_eq_decide.2 zo];exact Wk.refl _
 ·simp only[eE,eN,seval,BH,FF,sL,s3,s4,hw];exact Wk.refl _
end
def nms:List Bs:=[[97],[98],[99],[100]]
def lemS(q:Cnd)(nc nl:Nat):jq:=⟨[120],1,nms.take nc,nms.take nl,[q],[],0,0⟩
def p40(q:Cnd)(nc nl:Nat)(h1:nc<=4)(h2:nl<=4):Pur prog 40 [encQ q,.int .i64 nc,.int .i64 nl] (encL (lemS q nc nl)):=by
 refine .mk ⟨B3 0 q,trivial,trivial,trivial⟩ (Dx 0 _) (c40.a (AF AI.tnil (AG ?_)));have w1:((nc:Int)<=4)=True:=W1 zo;have w2:((nl:Int)<=4)=True:=W1 zo;simp only[eE,eN,seval,BH,eY,c40,w1,w2,c4n];have hn:∀(b:Bool) (m:Nat),Wk (.sl (if b=true then jz.exact 1 else jz.none 1) (List.take m [.str [97],.str [98],.str [99],.str [100]])) (.sl (.none 1) ((nms.take m).map .str)):=λb m=>by
  rw[List.map_take];exact Wk.sl (.inl (by cases b<;>rfl))
 have hn':∀(p:Prop) [Decidable p] (m:Nat),Wk (.sl (if p then jz.exact 1 else jz.none 1) (List.take m [.str [97],.str [98],.str [99],.str [100]])) (.sl (.none 1) ((nms.take m).map .str)):=λp _ m=>by
  have:=hn (decide p) m;simpa only[W8]using this
 exact Wk.agg (.cons (Wk.refl _) (.cons (Wk.refl _) (.cons (hn' _ _) (.cons (hn' _ _) (.cons (Wk.sl (.inl rfl)) (.cons (Wk.sl (.inr rfl)) (.cons (Wk.refl _) (.cons (Wk.refl _) .nil))))))))
def p38(s m:Int):Pur prog 38 [eI s,.ep [.int .i64 m]] (.bool (decide (s< -1)||decide (m<=s))):=by
 refine .mk ⟨trivial,⟨trivial,trivial⟩,trivial⟩ trivial (c38.a (AF AI.tnil (AG ?_)));by_cases h:s< -1
 ·simp only[eZ,seval,W3,c38,W1 h]
 ·simp only[eZ,seval,c38,W4 h]
def fIx(l:List Int)(p:Int->Bool):Int:=match l.findIdx? p with
 |some i=>i
 |none=>-1
def Vf(l:List Int)(p:Int->Bool):decide (0<=fIx l p)=l.any p:=by
 unfold fIx;cases h:l.findIdx? p with
 |none=>simp_all
 |some i=>
  obtain⟨hi,h1,-⟩:=XP.1 h;rw[show l.any p=true from Yy.2 ⟨_,X5 hi,h1⟩];simp
theorem p_ixfI{g:FuncId}{cap:List Fs}{p:Int->Bool}(l:List Int)(hl:few l)(hcap:unders 0 cap)(hq:∀x,x∈l->Pur prog g (eI x::cap) (.bool (p x))):
  Pur prog 65 [eIs l,.fn (.func g) [] cap] (.int .i64 (fIx l p)):=by
 have hT:AI prog (tadd g (rowS cap (λx=>x∈l) λx=>.bool (p x)) tnil):=AI.tnil.add (VW hq);have hTe:∀a H,tadd g (rowS cap (λx=>x∈l) λx=>.bool (p x)) tnil g a H=rowS cap (λx=>x∈l) (λx=>.bool (p x)) a H:=λa H=>by unfold tadd;rw[X0 rfl]
 generalize tadd g (rowS cap (λx=>x∈l) λx=>.bool (p x)) tnil=T at hT hTe;refine .mk ⟨AR 0 _,⟨trivial,hcap⟩,trivial⟩ trivial (c65.a (AF hT (AG ?_)));have m9:l.length<1000000000:=hl;simp only[eE,eN,seval,W0,c65];refine AL (λi:Nat=>⟨[(0,true,eIs l),(1,true,.fn (.func g) [] cap),(7,true,.int .i64 l.length),(8,true,.int .i64 i)],hnil,0⟩) (λi=>i<=l.length/\∀(j:Nat) x,j<i->l[j]?=some x->p x=false) (λi=>l.length-i) 0 rfl ⟨Wz _,λj x h=>zo⟩ ?_;rintro i ⟨hi,he⟩;by_cases c5:i<l.length;case neg=>
  obtain rfl:i=l.length:=zo
  have:fIx l p= -1:=by
   unfold fIx;rw[YG.2 λx hx=>by
    obtain⟨j,hj,rfl⟩:=Xq.1 hx;exact he j _ hj (W2 hj)]
  rw[this];simp only[eZ,seval,lt_F c5]
 have hg:=W2 c5;have hm:=X5 c5;have e:=AE (k:=i) zo;have hfx:p l[i]=true->fIx l p=(i:Int):=λhp=>by
  unfold fIx;rw[XP.2 ⟨c5,hp,λj hj=>by
   have:=he j _ hj (W2 zo);rw[this];decide⟩]
 generalize l[i]=x at hg hm hfx;cases hp:p x with
 |true=>
  rw[hfx hp];simp only[eZ,seval,eY,lt_T c5,hg,hTe,rowS,W1 hm,hp]
 |false=>
  simp only[eZ,seval,eY,lt_T c5,hg,hTe,rowS,W1 hm,hp,e];refine .mk (i+1) rfl ⟨c5,λj y hj hy=>?_⟩ zo;by_cases q:j<i
  ·exact he j y q hy
  ·obtain rfl:j=i:=zo
   rw[hg]at hy;cases hy;exact hp
def p_cfI{g:FuncId}{cap:List Fs}{p:Int->Bool}(l:List Int)(hl:few l)(hcap:unders 0 cap)(hq:∀x,x∈l->Pur prog g (eI x::cap) (.bool (p x))):
  Pur prog 37 [eIs l,.fn (.func g) [] cap] (.bool (l.any p)):=by
 have hp:=p_ixfI l hl hcap hq;refine .mk ⟨AR 0 _,⟨trivial,hcap⟩,trivial⟩ trivial (c37.a (AF (T:=tadd 65 (rowX [eIs l,.fn (.func g) [] cap] (λ_=>True) (.int .i64 (fIx l p))) tnil) (AI.tnil.add (Nv λH n _=>hp.quiet H n)) (AG ?_)));have hTe:∀a H,tadd 65 (rowX [eIs l,.fn (.func g) [] cap] (λ_=>True) (.int .i64 (fIx l p))) tnil 65 a H=rowX [eIs l,.fn (.func g) [] cap] (λ_=>True) (.int .i64 (fIx l p)) a H:=λa H=>by unfold tadd;rw[X0 rfl]
 simp only[eE,eN,seval,c37,rowX];rw[Vf]
def St(q:Cnd){nc nl:Nat}(h1:1<=nc/\nc<=4)(h2:1<=nl/\nl<=3):Gc (lemS q nc nl)=Bc q nc nl:=by
 have e1:Ct [120]=true:=zd
 have e2:Ct [97]=true:=zd
 have e3:Ct [98]=true:=zd
 have e4:Ct [99]=true:=zd
 have e5:Ct [100]=true:=zd
 have a:nc=1\/nc=2\/nc=3\/nc=4:=zo
 have b:nl=1\/nl=2\/nl=3:=zo
 rcases a with rfl|rfl|rfl|rfl<;>rcases b with rfl|rfl|rfl<;>simp [Gc,lemS,DN,difI,A9,nms,e1,e2,e3,e4,e5]
theorem E7{α:Type}[DecidableEq α]:∀{l:List α},l.Nodup->A9 l=true
 |[],_=>rfl
 |x::r,h=>by
  obtain⟨h1,h2⟩:=Ys.1 h;rw[A9,E7 h2,Zp,Y9,YD];intro y hy;simp only[W8];rintro rfl;exact h1 hy
def CL{l:List Int}{n:Nat}:difI l n=true↔(∀c∈l,0<=c/\c<(n:Int))/\l.Nodup:=by
 unfold difI;rw[W5,X8];constructor
 ·rintro⟨h1,h2⟩;exact⟨λc hc=>by simpa using h1 c hc,Dg h2⟩
 ·rintro⟨h1,h2⟩;exact⟨λc hc=>by simpa using h1 c hc,E7 h2⟩
def Ck(k:z8)(q:Cnd)(letters cells:List Int):Fs:=
 if BG k≠0 then .tup [.bool false,.int .i64 (BG k)]
 else if letters.length<1\/3<letters.length\/cells.length<1\/4<cells.length then .tup [.bool false,.int .i64 1]
 else if difI letters k.d.syms.length=false then .tup [.bool false,.int .i64 1]
 else if(cells.any λs=>decide (s< -1)||decide ((k.d.syms.length:Int)<=s))=true then .tup [.bool false,.int .i64 1]
 else if Bc q cells.length letters.length=false then .tup [.bool false,.int .i64 300]
 else .tup [.bool (CV (AV k) q letters cells),.int .i64 0]
def La:List Fs->AC->Prop×Fs:=λa H=>match a with
 |[Q,.int .i64 nc,.int .i64 nl]=>(dQ.ok Q/\(0<=nc/\nc<=4)/\0<=nl/\nl<=4,encL (lemS (dQ.dec Q) nc.toNat nl.toNat))
 |_=>(False,.tup [])
def rowLeq:∀args H n,(La args H).1->Am prog 40 args H n (La args H).2:=by
 intro args H m hh;unfold La at hh⊢;split at hh
 ·rename_i Q nc nl;obtain⟨h1,h2,h3⟩:=hh;obtain⟨a,rfl⟩:=Yw h2.1;obtain⟨b,rfl⟩:=Yw h3.1;refine AO.args ((p40 (dQ.dec Q) a b zo zo).quiet H m) ?_;rintro g vs ⟨v,r,rfl,k1,k2⟩;exact⟨v,_,rfl,dQ.wk _ h1 _ _ k1,k2⟩
 ·exact hh.elim
def KB(m:Int):List Fs->AC->Prop×Fs:=λa H=>match a with
 |[.sl t L,.fn (.func g) [] [.ptr q 0]]=>(g=38/\hget H q=some (.box [.int .i64 m])/\dIs.ok (.sl t L)/\few (L.map toI),.bool ((L.map toI).any λs=>decide (s< -1)||decide (m<=s)))
 |_=>(False,.tup [])
def rowCfq(m:Int):∀args H n,(KB m args H).1->Am prog 37 args H n (KB m args H).2:=by
 intro args H n hh;unfold KB at hh⊢;split at hh
 ·obtain⟨rfl,h1,h2,h3⟩:=hh;exact(p_cfI _ h3 ⟨⟨trivial,trivial⟩,trivial⟩ (p:=λs=>decide (s< -1)||decide (m<=s)) (cap:=[.ep [.int .i64 m]]) λx _=>p38 x m).view trivial (.cons (.wk (dIs.wk _ h2)) (.cons (.fn .nil (.cons (View.ptr (off:=0) h1) .nil)) .nil)) n
 ·exact hh.elim
def Tcw(k:z8):Tab:=tadd 32 (s1 dKn (λk=>qk k.d) λk=>.int .i64 (BG k)) (tadd 39 (s1 dX FewL λx=>eI (chk x)) (tadd 40 La (tadd 37 (KB k.d.syms.length) (tadd 41 (GA k) (tadd 36 CK tnil)))))
def Tcw_ok(k:z8):AI prog (Tcw k):=(((((AI.tnil.add LW).add (Pv k)).add (rowCfq _)).add rowLeq).add (q1 λx h=>p39 x h)).add (q1 λk h=>p32 k h)
theorem N0(k:z8)(a:List Fs)(H:AC):Tcw k 32 a H=s1 dKn (λk=>qk k.d) (λk=>.int .i64 (BG k)) a H:=rfl
theorem Tcw_m(k:z8)(a:List Fs)(H:AC):Tcw k 39 a H=s1 dX FewL (λx=>eI (chk x)) a H:=rfl
theorem Tcw_l(k:z8)(a:List Fs)(H:AC):Tcw k 40 a H=La a H:=rfl
theorem Vi(k:z8)(a:List Fs)(H:AC):Tcw k 37 a H=KB k.d.syms.length a H:=rfl
theorem Tcw_c(k:z8)(a:List Fs)(H:AC):Tcw k 41 a H=GA k a H:=rfl
theorem Tcw_h(k:z8)(a:List Fs)(H:AC):Tcw k 36 a H=CK a H:=rfl
def p13(k:z8)(q:Cnd)(letters cells:List Int)(hk:qk k.d)(hq:few q.cs/\few q.ls)(hl:few letters)(hc:few cells):Pur prog 13 [Bj k,encQ q,eIs letters,eIs cells] (Ck k q letters cells):=by
 have u1:dKn.ok (.agg (AJ k))=True:=DW k
 have u2:dKn.dec (.agg (AJ k))=k:=CJ k
 simp only[AJ,AD,AH,Xm,Xl]at u1 u2
 have v1:dQ.ok (.agg [.int .i64 q.k,eIs q.cs,eIs q.ls,.int .i64 q.n])=True:=SA q
 have v2:dQ.dec (.agg [.int .i64 q.k,eIs q.cs,eIs q.ls,.int .i64 q.n])=q:=LI q
 have m9:letters.length<1000000000:=hl
 have m7:cells.length<1000000000:=hc
 refine .mk ⟨Ag 0 k,B3 0 q,AR 0 _,AR 0 _,trivial⟩ ?_ (c13.a (AF (Tcw_ok k) (AG ?_)))
 ·unfold Ck
  repeat' split
  all_goals exact⟨trivial,trivial,trivial⟩
 unfold Ck
 by_cases h0:BG k=0
 case neg=>
  simp only[eZ,seval,W7,c13,AJ,AD,AH,N0,s1,u1,u2,W1 hk,W4 h0]
  exact Wk.refl _
 by_cases b1:(letters.length:Int)<1
 ·simp only[eZ,seval,W3,W0,c13,AJ,AD,AH,N0,s1,u1,u2,W1 hk,W1 h0,W1 b1]
  rw[X0 zo];exact Wk.refl _
 by_cases b2:(3:Int)<letters.length
 ·simp only[eZ,seval,W3,W0,c13,AJ,AD,AH,N0,s1,u1,u2,W1 hk,W1 h0,W4 b1,W1 b2]
  rw[X0 zo];exact Wk.refl _
 by_cases b3:(cells.length:Int)<1
 ·simp only[eZ,seval,W3,W0,c13,AJ,AD,AH,N0,s1,u1,u2,W1 hk,W1 h0,W4 b1,W4 b2,W1 b3]
  rw[X0 zo];exact Wk.refl _
 by_cases b4:(4:Int)<cells.length
 ·simp only[eZ,seval,W3,W0,c13,AJ,AD,AH,N0,s1,u1,u2,W1 hk,W1 h0,W4 b1,W4 b2,W4 b3,W1 b4]
  rw[X0 zo];exact Wk.refl _
 rw[W6 (by simpa using h0),W6 zo]
 simp only[eZ,seval,W3,W0,c13,AJ,AD,AH,N0,s1,u1,u2,W1 hk,W1 h0,W4 b1,W4 b2,W4 b3,W4 b4,AN]
 generalize hHa:hset (hset (hset hnil 0 _) 1 _) _ (zz.box _)=Ha
 have f0:hget Ha 0=some (.box (AJ k)):=by rw[<-hHa];rfl
 have f1:hget Ha 1=some (.box [.int .i64 q.k,eIs q.cs,eIs q.ls,.int .i64 q.n]):=by rw[<-hHa];rfl
 have f8:hget Ha 8=some (.box [.int .i64 k.d.syms.length]):=by rw[<-hHa];rfl
 clear hHa
 simp only[AJ,AD,AH,Xm,Xl]at f0
 refine AL (λi:Nat=>⟨[(2,true,eIs letters),(3,true,eIs cells),(4,true,.ptr 0 0),(5,true,.ptr 1 0),(10,true,.ptr 8 0),(40,true,eIs letters),(41,true,.int .i64 letters.length),(42,true,.int .i64 i)],Ha,10⟩) (λi=>i<=letters.length/\difI (letters.take i) k.d.syms.length=true) (λi=>letters.length-i) 0 rfl ⟨Wz _,rfl⟩ ?_
 rintro i ⟨hi,he⟩
 by_cases c5:i<letters.length
 ·have hg:=W2 c5
  have e:=AE (k:=i) zo
  have htake:letters.take (i+1)=letters.take i++[letters[i]]:=by rw[X7,hg];rfl
  have hmem:=X5 c5
  have hrng:∀s,s∈letters->¬(0<=s/\s<(k.d.syms.length:Int))->difI letters k.d.syms.length=false:=λs hs hm=>by
   rw[YL]
   intro hd
   exact hm ((CL.1 hd).1 s hs)
  generalize letters[i]=s at hg htake hmem
  have hb':s∈letters.take i->difI letters k.d.syms.length=false:=λhm=>by
   rw[YL]
   intro hd
   have hn:=(List.take_sublist (i+1) letters).nodup (CL.1 hd).2
   rw[htake,Yj]at hn
   exact hn.2.2 s hm s zw rfl
  have hr':=hrng s hmem
  by_cases s0:s<0
  ·rw[X0 (hr' zo)]
   simp only[eZ,seval,W3,eY,lt_T c5,hg,f8,W1 s0]
   exact Wk.refl _
  by_cases s1':(k.d.syms.length:Int)<=s
  ·rw[X0 (hr' zo)]
   simp only[eZ,seval,W3,eY,lt_T c5,hg,f8,W4 s0,W1 s1']
   exact Wk.refl _
  have hRL:RdI Ha (.sl (.none 1) ((letters.take i).map eI)) (letters.take i):=.inl ⟨_,rfl,.inl rfl⟩
  have r1:=Hy hRL
  have htf:few (letters.take i):=by show(letters.take i).length<_;rw[Xg];omega
  have hile:((i:Int)<=(letters.length:Int))=True:=W1 zo
  have hmt:List.take i (letters.map eI)=(letters.take i).map eI:=List.map_take.symm
  cases v7:(letters.take i).contains s with
  |true=>
   rw[X0 (hb' (Xs.1 v7))]
   simp only[eZ,seval,eY,lt_T c5,hg,f8,W4 s0,W4 s1',hile,hmt,Tcw_h,CK,r1,W1 hRL,W1 htf,v7]
   exact Wk.refl _
  |false=>
   simp only[eZ,seval,eY,lt_T c5,hg,f8,W4 s0,W4 s1',hile,hmt,Tcw_h,CK,r1,W1 hRL,W1 htf,v7,e]
   refine .mk (i+1) rfl ⟨c5,?_⟩ zo
   obtain⟨d1,d2⟩:=CL.1 he
   have o8:¬s∈letters.take i:=λhm=>by rw[Xs.2 hm]at v7;cases v7
   rw[htake]
   refine CL.2 ⟨λc hc=>?_,Yj.2 ⟨d2,zw,λa ha b hb e=>?_⟩⟩
   ·rcases XO.1 hc with q|q
    ·exact d1 c q
    ·rw[XR.1 q];omega
   ·rw[XR.1 hb]at e
    exact o8 (e▸ha)
 obtain rfl:i=letters.length:=zo
 rw[X4]at he
 rw[W6 (by rw[he];decide)]
 have k1:dIs.ok (eIs cells)=True:=Ad cells
 have k2:dIs.ok (eIs letters)=True:=Ad letters
 cases hany:(cells.any λs=>decide (s< -1)||decide ((k.d.syms.length:Int)<=s))with
 |true=>
  rw[X0 rfl]
  simp only[eZ,seval,lt_F c5,f8,Vi,KB,k1,As,W1 hc,hany]
  exact Wk.refl _
 |false=>
 rw[W6 zd]
 have x1:dX.ok (encL (lemS q cells.length letters.length))=True:=UA _
 have x2:dX.dec (encL (lemS q cells.length letters.length))=lemS q cells.length letters.length:=Nl _
 have x3:FewL (lemS q cells.length letters.length):=by
  have t4:∀m,few (nms.take m):=λm=>by show(nms.take m).length<_;rw[Xg];exact Nat.lt_of_le_of_lt (Nat.min_le_right ..) zd
  exact⟨t4 _,t4 _,by show(1:Nat)<_;decide,by show(0:Nat)<_;decide,λp hp=>by rw[XR.1 hp];exact hq,λp hp=>by cases hp⟩
 have x4:=St q (nc:=cells.length) (nl:=letters.length) zo zo
 have w1:((cells.length:Int)<=4)=True:=W1 zo
 have w2:((letters.length:Int)<=4)=True:=W1 zo
 cases hco:Bc q cells.length letters.length with
 |false=>
  have x5:chk (lemS q cells.length letters.length)=300:=by unfold chk;rw[x4,hco];rfl
  rw[X0 rfl]
  simp only[eZ,seval,W7,eY,lt_F c5,f1,f8,Vi,KB,k1,As,W1 hc,hany,Tcw_l,La,v1,v2,w1,w2,Tcw_m,s1,x1,x2,W1 x3,x5]
  exact Wk.refl _
 |true=>
  have x5:chk (lemS q cells.length letters.length)=0:=by unfold chk;rw[x4,hco];rfl
  rw[W6 zd]
  have hRC:RdI Ha (eIs cells) cells:=.inl ⟨_,rfl,.inl rfl⟩
  have r1:=Hy hRC
  have hC:ClOK k q letters cells:=by
   have h1:=NQ hco
   have hsy:=CE h0
   refine⟨by rcases h1.kind with h|h|h|h|h<;>omega,?_,hq.1,λc hcc=>?_,hq.2,λc hcc=>?_,λs hs hs0=>?_,En h0⟩
   ·have:=JL h1.cs
    rcases h1.kind with h|h|h|h|h<;>omega
   ·have:=X8.1 (DO h1.cs) c hcc
    simpa only[W5,W8]using this
   ·have:=X8.1 (DO h1.ls) c hcc
    simpa only[W5,W8]using this
   ·grind
  simp only[eZ,seval,W3,eY,lt_F c5,f0,f1,f8,Vi,KB,k1,k2,u1,u2,As,W1 hc,hany,Tcw_l,La,v1,v2,w1,w2,Tcw_m,s1,x1,x2,W1 x3,x5,Tcw_c,GA,r1,W1 hRC,W1 hC]
  exact Wk.refl _
section
structure HoC(k:z8)(x:jq)(letters:List Int)(d1 d2 d3 d4 d5 rp id cap:Nat)(H:AC):Prop where
 h1:hget H d1=some (.box (BN x))
 h2:hget H d2=some (.box [.ptr rp 0])
 h3:hget H d3=some (.box [.ref id 1 0 x.cs.length cap])
 h4:hget H d4=some (.box [.fn (.func 49) [] [.ptr d1 0,.ptr d2 0,.ptr d3 0,.ptr d4 0,.ptr d5 0]])
 h5:hget H d5=some (.box (AJ k))
 hr:RdAt H rp k x letters
variable {k:z8} {letters:List Int} {x:jq}
theorem HoC.keep{d1 d2 d3 d4 d5 rp id cap n:Nat}{H H':AC}(h:HoC k x letters d1 d2 d3 d4 d5 rp id cap H)(hidq:∃L,hget H id=some (.arr 1 L))(hf:AQ H n)(hk:CW id n H H'):HoC k x letters d1 d2 d3 d4 d5 rp id cap H':=by
 obtain⟨L,hidq⟩:=hidq;have key:∀c cs,hget H c=some (.box cs)->hget H' c=some (.box cs):=λc cs hc=>by
  rw[hk c (hf.lt hc) (λe=>by rw[e,hidq]at hc;cases hc)];exact hc
 obtain⟨h1,h2,h3,h4,h5,w,hr⟩:=h;exact⟨key _ _ h1,key _ _ h2,key _ _ h3,key _ _ h4,key _ _ h5,w,key _ _ hr⟩
def HoP(id n:Nat)(arr:List Fs)(H:AC)(b:Bool):j8->AC->Nat->Prop:=λo H' n'=>
 AQ H' n'/\n<=n'/\CW id n H H'/\o= .ret (.bool b)/\(b=false->hget H' id=some (.arr 1 arr))/\∃L,hget H' id=some (.arr 1 L)
theorem KC{vals:List Int}{cells:List Int}:NY vals x letters cells=true↔∀i:Nat,i<x.qs.length+x.ps.length->CR vals x letters cells (i:Int)=false:=by
 unfold NY;rw[X8];have hl:(LE vals x letters cells).length=x.qs.length+x.ps.length:=by unfold LE;simp
 constructor
 ·intro h i hi;unfold CR;rw[W6 zo,X1,W2 zo,X6];have:=h _ (X5 (l:=LE vals x letters cells) (n:=i) zo);simpa using this
 ·intro h b hb;obtain⟨i,hi,rfl⟩:=Xq.1 hb;have:=h i zo;unfold CR at this;rw[W6 zo,X1,W2 hi,X6]at this;rw[this];rfl
def HoG(k:z8)(x:jq)(letters:List Int)(d1 d2 d3 d4 d5 rp id cap j:Nat):Prop:=∀(i:Nat) (cells:List Int) (H:AC) (n:Nat) (rest:List Int),i+j=x.cs.length->AQ H n->HoC k x letters d1 d2 d3 d4 d5 rp id cap H->hget H id=some (.arr 1 ((cells++rest).map eI))->ClC k x cells->(∀(a:Nat),i<=a->a<x.cs.length->(a:Int)≠x.c->cells[a]?=some (-1))->
  AO prog 49 [.int .i64 i,.ptr d1 0,.ptr d2 0,.ptr d3 0,.ptr d4 0,.ptr d5 0] H n (HoP id n ((cells++rest).map eI) H (tryP (AV k) x letters j i cells))
structure VHo where
 s:Nat
 cur:Int
 H:AC
 n:Nat
structure IHo(k:z8)(x:jq)(letters cells rest:List Int)(id i j m n0:Nat)(H0:AC)(v:VHo):Prop where
 hs:v.s<=m
 fr:AQ v.H v.n
 hn:n0<=v.n
 kp:CW id n0 H0 v.H
 ho:hget v.H id=some (.arr 1 ((cells.set i v.cur++rest).map eI))
 no:∀b:Nat,b<v.s->tryP (AV k) x letters j (i+1) (cells.set i (b:Int))=false
theorem Mk(h:RdC k x letters)(d1 d2 d3 d4 d5 rp id cap:Nat)(hcap:x.cs.length<=cap)(j:Nat)(ih:∀j',j=j'+1->HoG k x letters d1 d2 d3 d4 d5 rp id cap j'):HoG k x letters d1 d2 d3 d4 d5 rp id cap j:=by
 intro i cells H n rest hij hf hH hidq hC hneg;have hnq:x.qs.length<1000000000:=h.fx.qs;have hnp:x.ps.length<1000000000:=h.fx.ps;have hw1:IntKind.wrap .i64 ((x.qs.length:Int)+(x.ps.length:Int))=((x.qs.length+x.ps.length:Nat):Int):=by rw[An zo zo];omega
 have hRI:RdI H (.ref id 1 0 x.cs.length cap) cells:=.inr ⟨id,cap,rest,by rw[hC.len],hidq,by rw[hC.len];exact hcap⟩;have hrd:=Hy hRI;have hH0:=hH;obtain⟨h1,h2,h3,h4,h5,hr⟩:=hH0;simp only[BN]at h1;simp only[AJ,AD,AH,Xm,Xl]at h5;refine c49.a (AF (UU h) (AG ?_));simp only[eE,eN,seval,W0,c49,h1,hw1];refine AL (λa:Nat=>⟨[(0,true,.int .i64 i),(1,true,.ptr d1 0),(2,true,.ptr d2 0),(3,true,.ptr d3 0),(4,true,.ptr d4 0),(5,true,.ptr d5 0),(16,true,.int .i64 ((x.qs.length+x.ps.length:Nat):Int)),(17,true,.int .i64 a)],H,n⟩)
  (λa=>a<=x.qs.length+x.ps.length/\∀b,b<a->CR (AV k) x letters cells (b:Int)=false) (λa=>x.qs.length+x.ps.length-a) 0 rfl ⟨Wz _,λb hb=>zo⟩ ?_
 rintro a ⟨ha,d6⟩;by_cases c5:a<x.qs.length+x.ps.length
 ·have e:=AE (k:=a) zo;cases hcm:CR (AV k) x letters cells (a:Int)with
  |true=>
   have i5:tryP (AV k) x letters j i cells=false:=by
    unfold tryP;rw[W6];rw[KC];intro q;rw[q a c5]at hcm;cases hcm
   rw[i5];simp only[eZ,seval,lt_T c5,h2,h3,Ttr,KA,hrd,W1 hRI,W1 hr,W1 hC,hcm,tadd];exact⟨hf,W9 _,CW.refl _,rfl,λ_=>hidq,_,hidq⟩
  |false=>
   simp only[eZ,seval,lt_T c5,h2,h3,Ttr,KA,hrd,W1 hRI,W1 hr,W1 hC,hcm,e,tadd];refine .mk (a+1) rfl ⟨c5,λb hb=>?_⟩ zo;by_cases q:b<a
   ·exact d6 b q
   ·obtain rfl:b=a:=zo
    exact hcm
 obtain rfl:a=x.qs.length+x.ps.length:=zo
 have i4:=KC.2 d6;cases j with
 |zero=>
  have d9:((i:Int)=(x.cs.length:Int))=True:=W1 zo;have hde:decide ((i:Int)=(x.cs.length:Int))=true:=Xf zo;rw[tryP,X0 i4];simp only[eZ,seval,lt_F c5,h3,d9];exact⟨hf,W9 _,CW.refl _,rfl,(λq=>by cases q),_,hidq⟩
 |succ j=>
 have ih:=ih j rfl;rw[tryP,X0 i4];have d9:((i:Int)=(x.cs.length:Int))=False:=W4 zo;have e1:=AE (k:=i) (by have:=h.ox.cs.2.2.2;omega);by_cases hic:(i:Int)=x.c
 ·rw[X0 hic];simp only[eZ,seval,lt_F c5,h1,h3,h4,d9,W1 hic,e1];refine(ih (i+1) cells H n rest zo hf hH hidq hC λa ha h1 h2=>hneg a zo h1 h2).mono ?_;rintro o H' n' ⟨q1,q2,q3,rfl,q5,q6⟩;simp only[eE,eN,seval,retK];exact⟨q1,q2,q3,rfl,q5,q6⟩
 rw[W6 hic];have hsy:=CE h.ck;have hvl:(AV k).length=k.d.syms.length:=by unfold AV;rw[W0]
 have ah:=hneg i (W9 _) zo hic;have u0:i<cells.length:=(XW.1 ah).1;have hse:cells.set i (-1)=cells:=by
  refine Zd λa=>?_
  rw[List.getElem?_set];split
  ·rename_i q;subst q;exact ah.symm
  ·rfl
 have hidn:=hf.lt hidq;simp only[eZ,seval,W0,lt_F c5,h1,h3,h5,d9,W4 hic];refine AL (λv:VHo=>⟨[(0,true,.int .i64 i),(3,true,.ptr d3 0),(4,true,.ptr d4 0),(40,true,.int .i64 k.d.syms.length),(41,true,.int .i64 v.s)],v.H,v.n⟩) (IHo k x letters cells rest id i j k.d.syms.length n H) (λv=>k.d.syms.length-v.s)
  ⟨0,-1,H,n⟩ rfl ⟨Wz _,hf,W9 _,CW.refl _,by simp only[hse];exact hidq,λb hb=>by simp only[]at hb;omega⟩ ?_
 rintro⟨s,cur,H1,n1⟩ ⟨hs,hf1,l5,hk1,ho1,hno1⟩;simp only at hs hf1 l5 hk1 ho1 hno1;have hH1:=hH.keep ⟨_,hidq⟩ hf hk1;have hl1:(i<(cells.set i cur++rest).length)=True:=W1 (by simp;omega);have g1:((i:Int)<(x.cs.length:Int))=True:=W1 zo;have est:∀z:Int,((cells.set i cur++rest).map eI).set i (.int .i64 z)=((cells.set i z++rest).map eI):=λz=>by
  rw[show(.int .i64 z:Fs)=eI z from rfl,<-List.map_set,Z3 _ _ (by rw[YS];exact u0),List.set_set]
 obtain⟨e1',e2',e3',e4',e5',er'⟩:=hH1;by_cases t8:s<k.d.syms.length;case neg=>
  obtain rfl:s=k.d.syms.length:=zo
  have hany:((symI (AV k).length).any λs=>tryP (AV k) x letters j (i+1) (cells.set i s))=false:=by
   rw[YD];intro z hz;obtain⟨z0,z1⟩:=Gq.1 hz;obtain⟨b,rfl⟩:=Yw z0;rw[hno1 b zo];decide
  rw[hany];have est1:=est (-1);rw[hse]at est1;simp only[eZ,seval,eY,lt_F t8,e3',ho1,hl1,g1,est1];exact⟨hf1.hset (W9 _) zo,l5,hk1.set,rfl,λ_=>AB ..,_,AB ..⟩
 have e:=AE (k:=s) zo;have y4:(id=d4)=False:=W4 λq=>by rw[q,e4']at ho1;cases ho1
 simp only[eZ,seval,eY,lt_T t8,e3',e4',ho1,hl1,g1,est (s:Int),e1,y4];generalize hH2:AM.hset H1 id (zz.arr 1 ((cells.set i (s:Int)++rest).map eI))=H2;have ho2:hget H2 id=some (.arr 1 ((cells.set i (s:Int)++rest).map eI)):=by rw[<-hH2,AB]
 have o7:AQ H2 n1:=by rw[<-hH2];exact hf1.hset (W9 _) zo
 have l7:CW id n H H2:=by rw[<-hH2];exact hk1.set
 have hC2:ClC k x (cells.set i (s:Int)):=⟨by rw[YS];exact hC.len,λz hz h0=>by
  rcases Z4 hz with q|q
  ·exact hC.sy z q h0
  ·rw[q];exact⟨zo,zo⟩⟩
 refine(ih (i+1) (cells.set i (s:Int)) H2 n1 rest zo o7 (hH.keep ⟨_,hidq⟩ hf l7) ho2 hC2 λa ha h1 h2=>?_).mono ?_
 ·grind
 rintro o H3 n3 ⟨q1,q2,q3,rfl,q5,q6⟩;have hk3:CW id n H H3:=l7.trans q3 l5;cases hb:tryP (AV k) x letters j (i+1) (cells.set i (s:Int))with
 |true=>
  have hany:((symI (AV k).length).any λs=>tryP (AV k) x letters j (i+1) (cells.set i s))=true:=
   Yy.2 ⟨(s:Int),Gq.2 ⟨zo,by rw[hvl];omega⟩,hb⟩
  rw[hany];simp only[eZ,seval,retK];exact⟨q1,zo,hk3,rfl,(λq=>by cases q),q6⟩
 |false=>
  rw[hb]at q5;simp only[eZ,seval,retK,e];refine .mk ⟨s+1,(s:Int),H3,n3⟩ rfl ⟨t8,q1,zp,hk3,q5 rfl,λb hb'=>?_⟩ zp;by_cases q:b<s
  ·exact hno1 b q
  ·have hb'':b<s+1:=hb';obtain rfl:b=s:=zo
   exact hb
theorem t_holds(h:RdC k x letters)(d1 d2 d3 d4 d5 rp id cap:Nat)(hcap:x.cs.length<=cap):∀j,HoG k x letters d1 d2 d3 d4 d5 rp id cap j
 |0=>Mk h d1 d2 d3 d4 d5 rp id cap hcap 0 λj' hj=>zo
 |j+1=>Mk h d1 d2 d3 d4 d5 rp id cap hcap (j+1) λj' hj=>by
  obtain rfl:j'=j:=zo
  exact t_holds h d1 d2 d3 d4 d5 rp id cap hcap j'
end
abbrev eTe:List (Nat×Bool×Fs):=[(2,true,.ptr 0 0),(3,true,.ptr 1 0),(4,true,.ptr 2 0),(5,true,.ptr 3 0),(23,true,clC 5 4)]
noncomputable abbrev lpTe (l':Nat) (st:LoopState) (pend:Option Code):zz:=.lp ⟨l',st,pend,47,eTe, #[24],Kx,Kz⟩
structure TeJ(k:z8)(x:jq)(l':Nat)(F:Nat->Prop)(D:List (List Int))(H:AC)(m:Nat):Prop where
 fr:AQ H m
 lm:8<=m
 nF:∀i,F i->i=4\/i=5\/8<=i
 h0:hget H 0=some (.box (AJ k))
 h1:hget H 1=some (.box (BN x))
 h2:hget H 2=some (.box [.bool false])
 h3:hget H 3=some (.box [.int .i64 0])
 hL:hget H 7=some (lpTe l' .ready none)
 ok:∀l∈D,tryP (AV k) x l x.cs.length 0 (begC x l)=false
def TeS(k:z8)(x:jq)(l':Nat)(H:AC)(m:Nat):Prop:=
 hget H 2=some (.box [.bool false])/\hget H 3=some (.box [.int .i64 0])/\hget H 7=some (lpTe l' .done (some .ret))/\LG (AV k) x=false
def Vj{k:z8}{x:jq}{l':Nat}(hR:∀letters∈chs (AV k).length x.ls.length,RdC k x letters):Gen (chs (AV k).length x.ls.length) l' (TeJ k x l') (TeS k x l') where
 fr:=λF D H m h=>h.fr
 frame:=by
  rintro F F' D H H' m m' ⟨fr,lm,nF,h0,h1,h2,h3,hL,ok⟩ hF hH hf hm;have n1:∀i,i<8->i≠4->i≠5->hget H' i=hget H i:=λi a b c=>hH i λq=>by
   rcases hF i q with q|q
   ·have:=nF i q;omega
   ·omega
  exact⟨hf,zo,λi h=>(hF i h).elim (nF i) (λq=>zo),by rw[n1 0 zd zd zd];exact h0,by rw[n1 1 zd zd zd];exact h1,by rw[n1 2 zd zd zd];exact h2,
   by rw[n1 3 zd zd zd];exact h3,by rw[n1 7 zd zd zd];exact hL,ok⟩
 yld:=by
  rintro F D letters H m R ⟨fr,lm,nF,h0,h1,h2,h3,hL,ok⟩ hF hA hRt hRf;refine y20_0 hL rfl (AF AI.tnil (AG ?_));simp only[eE,eN,seval,RW,renv,YH,YK,Y8,YV];refine⟨_,hL,rfl,AF AI.tnil (AG ?_)⟩;have hf':AQ (hset H 7 (lpTe l' .busy none)) m:=fr.hset (W9 _) zo;generalize hH1:hset H 7 (lpTe l' .busy none)=H1 at hf'⊢;have k1:∀i,i≠7->hget H1 i=hget H i:=λi hi=>by rw[<-hH1,AA _ _ _ _ hi.symm]
  have hL1:hget H1 7=some (lpTe l' .busy none):=by rw[<-hH1,AB]
  have a0:=(k1 0 zd).trans h0;have a1:=(k1 1 zd).trans h1;have a2:=(k1 2 zd).trans h2;have a3:=(k1 3 zd).trans h3;clear hH1;have hmem:letters∈chs (AV k).length x.ls.length:=by
   obtain⟨t,ht⟩:=hA;rw[<-ht];simp
  have hrd:=hR _ hmem;have b0:=a0;have b1:=a1;simp only[AJ,AD,AH,Xm,Xl]at b0;simp only[BN]at b1;have hX:=hrd.ox;have hxc:=hX.c;have hxl:=hX.l;have hx4:=hX.cs.2.2;rw[<-hrd.ll]at hxl;have hgl:=BE hxl.1 hxl.2;have z:∀j c,j<8->(m+c=j)=False:=λj c hj=>W4 zo
  have z':∀j c,j<8->(j=m+c)=False:=λj c hj=>W4 zo
  have z0:=λc=>z 0 c zd
  have z1:=λc=>z 1 c zd
  have z2:=λc=>z 2 c zd
  have z3:=λc=>z 3 c zd
  have z7:=λc=>z 7 c zd
  have y0:=λc=>z' 0 c zd
  have y1:=λc=>z' 1 c zd
  have w1:((x.cs.length:Int)<=4)=True:=W1 zo;have w2:(0<=x.c)=True:=W1 hxc.1;have w3:(x.c<(x.cs.length:Int))=True:=W1 hxc.2;have w4:(x.c.toNat<4)=True:=W1 zo;have w5:(0<=x.l)=True:=W1 hxl.1;have w6:(x.l<(letters.length:Int))=True:=W1 hxl.2;have w7:(x.l.toNat<letters.length)=True:=W1 zo;have mm:∀a b:Nat,(m+a=m+b)=(a=b):=λa b=>propext ⟨λh=>zo,λh=>zo⟩
  simp only[eZ,seval,xE,eY,RV,b0,b1,fr1 hf',bsmS,bsmF,z1,mm,w1,w2,w3,w4,w5,w6,hgl,Nat.sub_zero,c4n,i04,AN];have hbeg:([.int .i64 (-1),.int .i64 (-1),.int .i64 (-1),.int .i64 (-1)]:List Fs).set x.c.toNat (eI (at0 letters x.l))=((begC x letters)++List.replicate (4-x.cs.length) (-1)).map eI:=by
   unfold begC;rw[<-Z3 _ _ (by rw[Yo];omega),List.replicate_append_replicate,show x.cs.length+(4-x.cs.length)=4 by omega,List.map_set];rfl
  rw[hbeg];generalize hHa:hset _ (m+14) _=Ha;have hfa:AQ Ha (m+15):=by
   rw[<-hHa];refine AQ.hset ?_ (W9 _) zo;refine AQ.hset ?_ (W9 _) zo;refine AQ.hset ?_ (W9 _) zo;refine AQ.hset ?_ (W9 _) zo;refine AQ.hset ?_ (W9 _) zo;exact hf'.hset (m:=m+15) zo zo
  have ka:∀i,i<m->hget Ha i=hget H1 i:=λi hi=>by
   rw[<-hHa];rw[AA _ _ _ _ zo,AA _ _ _ _ zo,AA _ _ _ _ zo,AA _ _ _ _ zo,AA _ _ _ _ zo,AA _ _ _ _ zo]
  have hbl:=Jr x letters;have hidq:hget Ha (m+7)=some (.arr 1 (((begC x letters)++List.replicate (4-x.cs.length) (-1)).map eI)):=by
   rw[<-hHa,AA _ _ _ _ zo,AB]
  have hHC:HoC k x letters 1 (m+5) (m+12) (m+14) 0 (m+4) (m+7) 4 Ha:=by
   refine⟨(ka 1 zo).trans a1,?_,?_,?_,(ka 0 zo).trans a0,.sl .nil [],?_⟩
   ·grind [AA,AB]
   ·grind [AA,AB]
   ·rw[<-hHa,AB]
   ·rw[<-hHa,AA _ _ _ _ zo,AA _ _ _ _ zo,AA _ _ _ _ zo,AA _ _ _ _ zo,AA _ _ _ _ zo,AB];rfl
  have hC:ClC k x (begC x letters):=by
   refine⟨hbl,λs hs h0=>?_⟩;have hb:=I5 hX hmem;unfold begC at hs;rcases Z4 hs with q|q
   ·rw[List.mem_replicate]at q;omega
   ·grind [AV,List.length_map]
  have hcall:=t_holds hrd 1 (m+5) (m+12) (m+14) 0 (m+4) (m+7) 4 zo x.cs.length 0 (begC x letters) Ha (m+15) (List.replicate (4-x.cs.length) (-1)) zo hfa hHC hidq hC (λa _ h1 h2=>by
   unfold begC;rw[List.getElem?_set,W6 zo,List.getElem?_replicate,X0 h1])
  rw[c0]at hcall;refine hcall.mono ?_;rintro o H4 n4 ⟨hf4,hn4,hk4,rfl,-,-⟩;have hkeep:∀i,i<m->hget H4 i=hget H1 i:=λi hi=>by
   rw[hk4 i zo zo,ka i hi]
  have c2':=(hkeep 2 zo).trans a2;have c3':=(hkeep 3 zo).trans a3;have c7':=(hkeep 7 zo).trans hL1;cases htr:tryP (AV k) x letters x.cs.length 0 (begC x letters)with
  |true=>
   simp only[eZ,seval,retK,c2',c3'];refine⟨⟨l',.busy,none,47,eTe, #[24],Kx,Kz⟩,by rw[AA _ _ _ _ zd,AA _ _ _ _ zd];exact c7',hRf _ _ ⟨?_,?_,AB ..,?_⟩⟩
   ·simp_all [AA,AB]
   ·rw[AA _ _ _ _ zd,AB]
   ·grind [LG,List.all_eq_false]
  |false=>
   simp only[eZ,seval,retK];have hF':∀i,F i->i≠7:=λi hi=>by have:=nF i hi;omega
   refine⟨⟨l',.busy,none,47,eTe, #[24],Kx,Kz⟩,c7',hRt _ _ ⟨hf4.hset (m:=n4) (W9 _) zo,zp,nF,?_,?_,?_,?_,AB ..,λl hl=>?_⟩ (λi hi=>?_) zp⟩
   ·rw[AA _ _ _ _ zd,hkeep 0 zo];exact a0
   ·rw[AA _ _ _ _ zd,hkeep 1 zo];exact a1
   ·rw[AA _ _ _ _ zd];exact c2'
   ·rw[AA _ _ _ _ zd];exact c3'
   ·grind
   ·have:=hF i hi;rw[AA _ _ _ _ (λq=>hF' i hi q.symm),hkeep i zo,k1 i (hF' i hi)]
def Lb(k:z8)(x:jq):Fs:=if Cw k x≠0 then .tup [.bool false,.int .i64 (Cw k x)]else .tup [.bool (LG (AV k) x),.int .i64 0]
def p20(k:z8)(x:jq)(hk:qk k.d)(hx:FewL x):Pur prog 20 [Bj k,encL x] (Lb k x):=by
 have u1:dKn.ok (.agg (AJ k))=True:=DW k;have u2:dKn.dec (.agg (AJ k))=k:=CJ k;simp only[AJ,AD,AH,Xm,Xl]at u1 u2;have v1:dX.ok (.agg (BN x))=True:=UA x;have v2:dX.dec (.agg (BN x))=x:=Nl x;simp only[BN]at v1 v2;refine .mk ⟨Ag 0 k,Dx 0 x,trivial⟩ ?_ (a20 (AF UX (AG ?_)))
 ·unfold Lb;split<;>exact⟨trivial,trivial,trivial⟩
 unfold Lb;by_cases hv:Cw k x=0;case neg=>
  simp only[eZ,eX,seval,W7,BH,c20,AJ,AD,AH,Ss,s2,u1,u2,v1,v2,W1 hk,W1 hx,W4 hv];exact Wk.refl _
 have hvl:(AV k).length=k.d.syms.length:=by unfold AV;rw[W0]
 simp only[eZ,seval,W3,W0,c20,AJ,AD,AH,Ss,s2,u1,u2,v1,v2,W1 hk,W1 hx,W1 hv,AN];rw[hv];have hck:BG k=0:=by simp_all [Cw]<;>omega
 have hsy:=CE hck;generalize hHa:hset _ 3 (zz.box _)=Ha;have fa:AQ Ha 4:=by
  rw[<-hHa];repeat' (first|exact AQ.nil.hset (m:=4) (Wz _) zd|refine AQ.hset ?_ (W9 _) zd)
 have f0:hget Ha 0=some (.box (AJ k)):=by rw[<-hHa];rfl
 have f1:hget Ha 1=some (.box (BN x)):=by rw[<-hHa];rfl
 have f2:hget Ha 2=some (.box [.bool false]):=by rw[<-hHa];rfl
 have f3:hget Ha 3=some (.box [.int .i64 0]):=by rw[<-hHa];rfl
 clear hHa;have t8:x.ls.length<=1000:=by
  have ho:Gc x=true:=by
   unfold Cw at hv;rw[W6 (by simpa using hck)]at hv;unfold chk at hv;split at hv
   ·assumption
   ·cases hv
  have:=((MK x).1 ho).ls.2.2.2;omega
 refine(FD (M:=k.d.syms.length) (n:=x.ls.length) fa).mono ?_;rintro o H1 n1 ⟨rfl,rfl,rfl⟩;simp only[eE,eN,seval,retK,FG];intro l';generalize hHb:hset (hset (hset Ha 4 _) _ _) _ (zz.lp _)=Hb;have kb:∀i,i<4->hget Hb i=hget Ha i:=λi hi=>by
  rw[<-hHb,AA _ _ _ _ zo,AA _ _ _ _ zo,AA _ _ _ _ zo]
 have e5:hget Hb 5=some (.box [.int .i64 x.ls.length]):=by rw[<-hHb,AA _ _ _ _ zd];exact AB ..
 have e4:hget Hb 4=some (.box [.int .i64 (AV k).length]):=by rw[<-hHb,AA _ _ _ _ zd,AA _ _ _ _ zd,hvl];exact AB ..
 have hJ:TeJ k x l' (λi=>i=4\/i=5) [] Hb 8:=by
  refine⟨?_,W9 _,λi h=>zo,(kb 0 zd).trans f0,(kb 1 zd).trans f1,(kb 2 zd).trans f2,(kb 3 zd).trans f3,by rw[<-hHb];exact AB ..,λl h=>by cases h⟩;rw[<-hHb];exact((fa.hset (m:=8) zd zd).hset (W9 _) zd).hset (W9 _) zd
 have hgen:=Vj (k:=k) (x:=x) (l':=l') (λletters hl=>Mj hk hx hv hl);have hM:(AV k).length<=1000:=zo
 refine(LX hgen hM t8 hJ (λi h=>zo) (.inr rfl) (.inl rfl) e5 e4).mono ?_;rintro o H' m' ⟨rfl,⟨F',-,hF',hj⟩|⟨s2',s3',sL,hw⟩⟩
 ·obtain⟨fr,lm,nF,h0,h1,h2,h3,hL,ok⟩:=hj;have hsp:LG (AV k) x=true:=by
   unfold LG;rw[X8];intro l hl;rw[ok l hl];rfl
  rw[hsp];simp only[eE,eN,seval,BH,FF,hL,h2,h3];exact Wk.refl _
 ·simp only[eE,eN,seval,BH,FF,sL,s2',s3',hw];exact Wk.refl _
end Go.AM
