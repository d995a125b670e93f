/-
  Parts of the proof. Conditions: none.
-/
import Derived.Test.YtncahiacfdihpaaGreatDoorB13
set_option maxRecDepth 20000
set_option linter.all false
namespace Go.AM
open Go.Lib Go.Proofs Go.Proofs.Tryz
section
abbrev By(k:zz)(x:jq)(letters:List Int)(w:Fs):List Fs:=AJ k++(Am x++[eIs letters,w])
def HF(x:jq)(letters:List Int)(c:Int):Fs:=match Gh x c with
 |none=>.tup [.sl .nil [],.bool false]
 |some p=>.tup [eIs (p.ls.map (at0 letters)),.bool true]
def Lo(x:jq)(letters:List Int)(c:Int)(n:Nat):(HF x letters c).under n:=by
 unfold HF;split
 ·exact⟨⟨trivial,trivial⟩,trivial,trivial⟩
 ·exact⟨AU n _,trivial,trivial⟩
structure VPm where
 i:Nat
 H:AC
 n:Nat
structure VPl where
 j:Nat
 tk:jj
 H:AC
 n:Nat
structure IPm(H0:AC)(n0:Nat)(x:jq)(c:Int)(v:VPm):Prop where
 hi:v.i<=x.ps.length
 fr:AQ v.H v.n
 hn:n0<=v.n
 kp:B9 H0 v.H
 he:Gh x c=(x.ps.drop v.i).find? λp=>decide (p.c=c)
structure IPl(H0:AC)(n0:Nat)(p:Prm)(letters:List Int)(v:VPl):Prop where
 hj:v.j<=p.ls.length
 fr:AQ v.H v.n
 hn:n0<=v.n
 kp:B9 H0 v.H
 tok:tkG 1 n0 v.H v.tk
 es:v.tk.esz=1\/(p.ls.take v.j).map (at0 letters)=[]
variable {H:AC} {k:zz} {letters cells vals:List Int} {x:jq} {n rp:Nat} {p:Prm}
theorem OE{H0:AC}{n0 e:Nat}{tk:jj}(hf:AQ H0 n0)(h:tkG e n0 H tk)(hk:B9 H0 H):B9 H0 (AN H tk):=λid ob h0=>by
 rw[AW h (.inl (hf.lt h0))];exact hk id ob h0
theorem t_prem{w:Fs}(c:Int)(hf:AQ H n)(hq:hget H rp=some (.box (By k x letters w)))(hps:few x.ps)(t5:∀p∈x.ps,few p.ls/\∀c∈p.ls,0<=c/\c<(letters.length:Int)):
  AP prog 81 [.ptr rp 0,.int .i64 c] H n (QRet H (HF x letters c)):=by
 have hpsl:x.ps.length<1000000000:=hps;have hq0:=hq;simp only[By,AJ,AD,AI,Am,Xr,Xq]at hq;refine c81.a (AF AH.tnil (AG ?_));simp only[eE,eN,seval,W3,c81,hq];refine AL (λv:VPm=>⟨[(0,true,.ptr rp 0),(1,true,.int .i64 c),(4,true,.sl .nil []),(14,true,.sl (.none 2) (x.ps.map encM)),(15,true,.int .i64 x.ps.length),(16,true,.int .i64 v.i)],v.H,v.n⟩) (IPm H n x c) (λv=>x.ps.length-v.i)
  ⟨0,H,n⟩ rfl ⟨X3 _,hf,X2 _,B9.refl _,rfl⟩ ?_
 rintro⟨i,H1,n1⟩ ⟨hi,hf1,l6,hk1,he⟩;simp only at hi hf1 l6 hk1 he;by_cases c6:i<x.ps.length;case neg=>
  obtain rfl:i=x.ps.length:=zo
  rw[Xy]at he;simp only[eZ,seval,lt_F c6];unfold HF;rw[he];exact⟨Wk.refl _,hk1⟩
 have hg:=W5 c6;have e:=AE (k:=i) zo;obtain⟨hpf,hpi⟩:=t5 _ (Xa c6);rw[Xm c6]at he;generalize x.ps[i]=p at hg hpf hpi he;have l5:∀{ob:zj} {j:Nat},n1<=j->B9 H (hset H1 j ob):=λhj=>hk1.new hf zo
 by_cases hc:p.c=c;case neg=>
  rw[List.find?_cons_of_neg (by simpa using hc)]at he;simp only[eZ,seval,eY,lt_T c6,hg,fr1 hf1,AO,W9 hc,e];exact .mk ⟨i+1,hset H1 (n1+2) (.box [.int .i64 p.c,eIs p.ls]),n1+4⟩ rfl ⟨c6,hf1.hset (m:=n1+4) zo zo,zp,l5 zo,he⟩ zp
 rw[List.find?_cons_of_pos (by simpa using hc)]at he;have hpl':p.ls.length<1000000000:=hpf;simp only[eZ,seval,eY,lt_T c6,hg,fr1 hf1,AO,W4 hc];refine AL (λv:VPl=>⟨[(0,true,.ptr rp 0),(4,true,.sl v.tk (((p.ls.take v.j).map (at0 letters)).map eI)),(25,true,eIs p.ls),(26,true,.int .i64 p.ls.length),(27,true,.int .i64 v.j)],v.H,v.n⟩) (IPl H n p letters) (λv=>p.ls.length-v.j)
  ⟨0,.nil,hset H1 (n1+2) (.box [.int .i64 p.c,eIs p.ls]),n1+4⟩ rfl ⟨X3 _,hf1.hset (m:=n1+4) zo zo,zp,l5 zo,.inl rfl,.inr rfl⟩ ?_
 rintro⟨j,tk,H2,n2⟩ ⟨hj,m7,hn2,hk2',d6,d8⟩;simp only at hj m7 hn2 hk2' d6 d8;by_cases hlj:j<p.ls.length;case neg=>
  obtain rfl:j=p.ls.length:=zo
  rw[Xb]at d8;simp only[eZ,seval,lt_F hlj];rw[Xb];unfold HF;rw[he];exact⟨Wk.tup (.cons (Wk.sl (d8.imp id λq=>by rw[q];rfl)) (.cons (Wk.refl _) .nil)),hk2'⟩
 have hg:=W5 hlj;have e:=AE (k:=j) zo;have hci:=hpi _ (Xa hlj);have htake:p.ls.take (j+1)=p.ls.take j++[p.ls[j]]:=by rw[Xd,hg];rfl
 generalize p.ls[j]=y at hg hci htake;have hgx:=BG hci.1 hci.2;have hX:((p.ls.take j).map (at0 letters)).length<=j:=by simp;omega
 have q1:A6 H2 1 tk=True:=W4 d6.app;have q2:(((p.ls.take j).map (at0 letters)).length<=35184372088831)=True:=W4 zo;have q3:Aj (((p.ls.take j).map (at0 letters)).length+1) 8=True:=W4 (AY zo zd);have hrp:=hk2' _ _ hq;generalize hXd:(p.ls.take j).map (at0 letters)=X at hX q2 q3 d8;simp only[eZ,seval,eY,lt_T hlj,hg,hrp,W4 hci.1,W4 hci.2,hgx,q1,q2,q3,fr1 m7,e];refine .mk ⟨j+1,.own (n2+9) 1,hset (AN H2 tk) (n2+9) .tok,n2+11⟩ ?_ ⟨hlj,(AT d6 m7).hset (m:=n2+11) zo zo,zp,B9.new hf zo (OE hf d6 hk2'),.inr (.inr ⟨n2+9,rfl,zo,AB ..⟩),.inl rfl⟩ zp;simp only[htake,X7,Xl,Xu,hXd]
theorem q_prem{w:Fs}(c:Int)(hq:hget H rp=some (.box (By k x letters w)))(hps:few x.ps)(t5:∀p∈x.ps,few p.ls/\∀c∈p.ls,0<=c/\c<(letters.length:Int)):
  An prog 81 [.ptr rp 0,.int .i64 c] H n (HF x letters c):=
 An.of c81.l (Lo x letters c n) λhf=>t_prem c hf hq hps t5
structure RdC(k:zz)(x:jq)(letters:List Int):Prop where
 ck:Bg k=0
 fd:qk k.d
 fx:FewL x
 ox:OKL x
 ll:letters.length=x.ls.length
structure ClC(k:zz)(x:jq)(cells:List Int):Prop where
 len:cells.length=x.cs.length
 sy:∀s∈cells,0<=s->okSy k s
def RdAt(H:AC)(rp:Nat)(k:zz)(x:jq)(letters:List Int):Prop:=∃w,hget H rp=some (.box (By k x letters w))
theorem OF(h:Bg k=0):∀y∈k.d.syms,0<=y.v/\y.v<=99:=by
 have h1:G7 k=true:=by
  unfold Bg at h;split at h
  ·assumption
  ·cases h
 obtain⟨x,cells,-,h3,-,h4⟩:=JM (Ml h1);have h5:k.d=x:=by rw[h4];rfl
 rw[<-h5]at h3;have h6:=(T5.1 h3).1.form;unfold Ba at h6;simp only[W7,X9,X1]at h6;intro y hy;exact h6.1.1.1 y hy
theorem Mt(h:RdC k x letters):∀p∈x.ps,few p.ls/\∀c∈p.ls,0<=c/\c<(letters.length:Int):=by
 intro p hp;refine⟨h.fx.p p hp,λc hc=>?_⟩;have:=X9.1 (FZ (h.ox.ps p hp).1) c hc;simp only[W7,X1]at this;rw[h.ll];exact this
theorem KL(h:OKL x)(hp:p∈x.ps):0<=p.c/\p.c<(x.cs.length:Int):=by
 have:=X9.1 (FZ h.pc) p.c (XH.2 ⟨p,hp,rfl⟩);simpa only[W7,X1]using this
theorem JW{ps:List Prm}(h:BA (ps.map (·.c))=true)(hp:p∈ps):ps.find? (λq=>decide (q.c=p.c))=some p:=by
 induction ps with
 |nil=>cases hp
 |cons q ps ih=>
  rw[Xl,BA,W7]at h;rcases Xw.1 hp with rfl|hp
  ·rw[List.find?_cons_of_pos zw]
  ·grind
theorem QA(h:OKL x)(hp:p∈x.ps):Gh x p.c=some p:=by
 have:=h.pc;unfold difI at this;rw[W7]at this;exact JW this.2 hp
theorem Di{α:Type}[DecidableEq α]:∀{l:List α},BA l=true->l.Nodup
 |[],_=>ZB
 |x::r,h=>by
  rw[BA,W7]at h;refine YD.2 ⟨λhx=>?_,Di h.2⟩;have h1:=h.1;simp only[Y1,Zh,X1]at h1;exact h1 x hx rfl
theorem Vl{l:List Int}(h:difI l n=true):l.length<=n:=by
 have h1:=FZ h;unfold difI at h;rw[W7]at h;have:=HB (b:=symI n) (Di h.2) λc hc=>by
  have:=X9.1 h1 c hc;simp only[W7,X1]at this;exact EG.2 this
 unfold symI at this;simpa using this
theorem cl_ok(h:RdC k x letters)(hc:ClC k x cells){q:Cnd}(hq:q∈x.qs):ClOK k q letters cells:=by
 have h1:=Ro (h.ox.qs q hq);have hf:=h.fx.q q hq;have s9:=h.ox.cs.2.2.2;refine⟨by rcases h1.kind with h|h|h|h|h<;>omega,?_,hf.1,λc hcc=>?_,hf.2,λc hcc=>?_,hc.sy,OF h.ck⟩
 ·have:=Vl h1.cs;rcases h1.kind with h|h|h|h|h<;>omega
 ·have:=X9.1 (FZ h1.cs) c hcc;simp only[W7,X1]at this;rw[hc.len];exact this
 ·have:=X9.1 (FZ h1.ls) c hcc;simp only[W7,X1]at this;rw[h.ll];exact this
theorem Mu{i:Int}(h:i<0):Bp vals x letters cells i=false:=by unfold Bp;rw[X6 h]
theorem Mv{a:Nat}(h:x.qs.length+x.ps.length<=a):Bp vals x letters cells (a:Int)=false:=by simp_all [Bp,Fc,X4]
theorem Ud{a:Nat}{q:Cnd}(h:x.qs[a]?=some q):Bp vals x letters cells (a:Int)=F4 vals q letters cells:=by
 unfold Bp Fc;have:=(XR.1 h).1;rw[X0 zo,X4,XT (by simpa using this),Xc,h];rfl
theorem Ue{b:Nat}(h:x.ps[b]?=some p):Bp vals x letters cells ((x.qs.length+b:Nat):Int)=Eo p letters cells:=by
 unfold Bp Fc;rw[X0 zo,X4,XX zw,W3,Nat.add_sub_cancel_left,Xc,h];rfl
def KM(k:zz):List Fs->AC->Prop×Fs:=λa H=>match a with
 |[K,Q,.sl t L,av]=>(dKn.ok K/\dKn.dec K=k/\dQ.ok Q/\dIs.ok (.sl t L)/\RdI H av (rdL H av)/\ClOK k (dQ.dec Q) (L.map toI) (rdL H av),.bool (F4 (AV k) (dQ.dec Q) (L.map toI) (rdL H av)))
 |_=>(False,.tup [])
theorem Vm(k:zz):∀args H n,(KM k args H).1->An prog 41 args H n (KM k args H).2:=by
 intro args H m hh;unfold KM at hh⊢;split at hh
 ·obtain⟨h1,h2,h3,h4,h5,h6⟩:=hh;have w1:=dKn.wk _ h1;rw[h2]at w1;exact(p41 k _ _ _ h6).view trivial (.cons (.wk w1) (.cons (.wk (dQ.wk _ h3)) (.cons (.wk (dIs.wk _ h4)) (.cons (P6 h5) .nil)))) m
 ·exact hh.elim
def IJ(k:zz)(x:jq)(letters:List Int):List Fs->AC->Prop×Fs:=λa H=>match a with
 |[.ptr rp 0,.int .i64 c]=>(RdAt H rp k x letters,HF x letters c)
 |_=>(False,.tup [])
theorem rowPmq(h:RdC k x letters):∀args H n,(IJ k x letters args H).1->An prog 81 args H n (IJ k x letters args H).2:=by
 intro args H m hh;unfold IJ at hh⊢;split at hh
 ·obtain⟨w,hw⟩:=hh;exact q_prem _ hw h.fx.ps (Mt h)
 ·exact hh.elim
def Tcp(k:zz)(x:jq)(letters:List Int):Tab:=tadd 41 (KM k) (tadd 81 (IJ k x letters) (tadd 36 DL tnil))
theorem Uf(h:RdC k x letters):AH prog (Tcp k x letters):=((AH.tnil.add P7).add (rowPmq h)).add (Vm k)
theorem t_comp{av:Fs}(at':Int)(h:RdC k x letters)(hc:ClC k x cells)(hr:RdAt H rp k x letters)(hv:RdI H av cells):
  AP prog 50 [.ptr rp 0,.int .i64 at',av] H n (QRet H (.bool (Bp (AV k) x letters cells at'))):=by
 have hr0:=hr;obtain⟨w,hq⟩:=hr;simp only[By,AJ,AD,AI,Am,Xr,Xq]at hq;have hnq:x.qs.length<1000000000:=h.fx.qs;have hnp:x.ps.length<1000000000:=h.fx.ps;have hw1:IntKind.wrap .i64 ((x.qs.length:Int)+(x.ps.length:Int))=((x.qs.length+x.ps.length:Nat):Int):=by rw[Aq zo zo];omega
 have u1:dKn.ok (.agg (AJ k))=True:=DJ k;have u2:dKn.dec (.agg (AJ k))=k:=CG k;simp only[AJ,AD,AI,Xr,Xq]at u1 u2;have t9:dIs.ok (eIs letters):=(Af letters).mpr trivial;refine c50.a (AF (Uf h) (AG ?_));by_cases h0:at'<0
 ·rw[Mu h0];simp only[eZ,seval,W6,W3,c50,hq,W4 h0];exact B9.refl _
 obtain⟨a,rfl⟩:=YM (Int.not_lt.1 h0);by_cases h1:x.qs.length+x.ps.length<=a
 ·rw[Mv h1];have h1':((x.qs.length+x.ps.length:Nat):Int)<=(a:Int):=zo
  simp only[eZ,seval,W3,c50,hq,W9 h0,hw1,W4 h1'];exact B9.refl _
 have h1':¬((x.qs.length+x.ps.length:Nat):Int)<=(a:Int):=zo
 by_cases h2:a<x.qs.length
 ·have hg:=W5 h2;have m8:=cl_ok h hc (Xa h2);generalize x.qs[a]=q at hg m8;have hql:dQ.ok (.agg [.int .i64 q.k,eIs q.cs,eIs q.ls,.int .i64 q.n])=True:=SO q;have hqd:dQ.dec (.agg [.int .i64 q.k,eIs q.cs,eIs q.ls,.int .i64 q.n])=q:=LW q;rw[Ud hg];simp only[eZ,seval,eY,c50,hq,W9 h0,hw1,W9 h1',lt_T h2,hg,Tcp,KM,u1,u2,At,hql,hqd,Ll hv,W4 hv,W4 m8,W4 t9,tadd];exact B9.refl _
 obtain⟨b,rfl⟩:∃b,a=x.qs.length+b:=⟨a-x.qs.length,zo⟩;have hb:b<x.ps.length:=zo
 have hg:=W5 hb;have hmem:=Xa hb;generalize x.ps[b]=p at hg hmem;rw[Ue hg];have hw2:IntKind.wrap .i64 (((x.qs.length+b:Nat):Int)-(x.qs.length:Int))=(b:Int):=by rw[Aq zo zo];omega
 have hpv:HF x letters p.c= .tup [eIs (p.ls.map (at0 letters)),.bool true]:=by unfold HF;rw[QA h.ox hmem]
 have hpc:=KL h.ox hmem;rw[<-hc.len]at hpc;have hgc:=BG hpc.1 hpc.2;have hfl:few (p.ls.map (at0 letters)):=by show(p.ls.map _).length<_;rw[W3];exact h.fx.p p hmem
 have hrd:RdI H (eIs (p.ls.map (at0 letters))) (p.ls.map (at0 letters)):=.inl ⟨_,rfl,.inl rfl⟩;have hd:Eo p letters cells=(decide (0<=at0 cells p.c)&& !(p.ls.map (at0 letters)).contains (at0 cells p.c)):=rfl;rw[hd];generalize p.ls.map (at0 letters)=L at hpv hfl hrd;generalize at0 cells p.c=s at hgc;have l7:p.c.toNat<cells.length:=zo
 have r1:=Ll hrd;rcases hv with⟨t,rfl,ht⟩|⟨id,cap,rest,rfl,ha,hcap⟩
 ·have ht':(t.esz=1)=True:=W4 (ht.resolve_right λe=>by rw[e]at l7;simp at l7);by_cases hs:0<=s
  ·simp only[eZ,seval,eY,c50,hq,W9 h0,hw1,W9 h1',lt_F h2,lt_T hb,hg,hw2,Tcp,IJ,DL,W4 hr0,hpv,W4 hpc.1,W4 hpc.2,hgc,ht',W4 hs,r1,W4 hrd,W4 hfl,tadd];exact B9.refl _
  ·simp only[eZ,seval,eY,c50,hq,W9 h0,hw1,W9 h1',lt_F h2,lt_T hb,hg,hw2,Tcp,IJ,DL,W4 hr0,hpv,W4 hpc.1,W4 hpc.2,hgc,ht',W9 hs,r1,W4 hrd,W4 hfl,tadd];exact B9.refl _
 ·have hga:(cells++rest)[p.c.toNat]?=some s:=by rw[XT l7];exact hgc
  have hla:(p.c.toNat<(cells++rest).length)=True:=W4 (by simp;omega);by_cases hs:0<=s
  ·simp only[eZ,seval,eY,c50,hq,W9 h0,hw1,W9 h1',lt_F h2,lt_T hb,hg,hw2,Tcp,IJ,DL,W4 hr0,hpv,W4 hpc.1,W4 hpc.2,ha,hga,hla,W4 hs,r1,W4 hrd,W4 hfl,tadd];exact B9.refl _
  ·simp only[eZ,seval,eY,c50,hq,W9 h0,hw1,W9 h1',lt_F h2,lt_T hb,hg,hw2,Tcp,IJ,DL,W4 hr0,hpv,W4 hpc.1,W4 hpc.2,ha,hga,hla,W9 hs,r1,W4 hrd,W4 hfl,tadd];exact B9.refl _
theorem q_comp{av:Fs}(at':Int)(h:RdC k x letters)(hc:ClC k x cells)(hr:RdAt H rp k x letters)(hv:RdI H av cells):
  An prog 50 [.ptr rp 0,.int .i64 at',av] H n (.bool (Bp (AV k) x letters cells at')):=
 An.of c50.l trivial λ_=>t_comp at' h hc hr hv
end
section
abbrev encC(c:jx):Fs:=.agg [.int .i64 c.k,.int .i64 c.a]
abbrev eCs(l:List jx):Fs:=.sl (.none 2) (l.map encC)
def CX(rp n:Nat)(H H':AC):Prop:=∀i,i<n->i≠rp->hget H' i=hget H i
variable {H H':AC} {k:zz} {letters:List Int} {x:jq} {rp n:Nat}
theorem CX.refl(H:AC):CX rp n H H:=λ_ _ _=>rfl
theorem CX.trans{n':Nat}{H'':AC}(h:CX rp n H H')(k:CX rp n' H' H'')(hn:n<=n'):CX rp n H H'':=λi hi hr=>(k i zo hr).trans (h i hi hr)
theorem CX.new{j:Nat}{ob:zj}(h:CX rp n H H')(hj:n<=j):CX rp n H (hset H' j ob):=λi hi hr=>by
 rw[AA _ _ _ _ zo];exact h i hi hr
theorem CX.set{ob:zj}(h:CX rp n H H'):CX rp n H (hset H' rp ob):=λi hi hr=>by
 rw[AA _ _ _ _ (Ne.symm hr)];exact h i hi hr
def Vn(rp:Nat)(k:zz)(x:jq)(letters:List Int)(H:AC)(n:Nat)(r:Option (List jx)):j9->AC->Nat->Prop:=λo H' n'=>
 AQ H' n'/\n<=n'/\CX rp n H H'/\match r with
  |some l=>o= .ret (.bool true)/\hget H' rp=some (.box (By k x letters (eCs l)))
  |none=>o= .ret (.bool false)
def KN(k:zz)(x:jq)(letters:List Int):List Fs->AC->Prop×Fs:=λa H=>match a with
 |[.ptr rp 0,.int .i64 c,av]=>(RdAt H rp k x letters/\RdI H av (rdL H av)/\ClC k x (rdL H av),.bool (Bp (AV k) x letters (rdL H av) c))
 |_=>(False,.tup [])
theorem rowCmq(h:RdC k x letters):∀args H n,(KN k x letters args H).1->An prog 50 args H n (KN k x letters args H).2:=by
 intro args H m hh;unfold KN at hh⊢;split at hh
 ·exact q_comp _ h hh.2.2 hh.1 hh.2.1
 ·exact hh.elim
def Ttr(k:zz)(x:jq)(letters:List Int):Tab:=tadd 50 (KN k x letters) (Tcp k x letters)
theorem Ug(h:RdC k x letters):AH prog (Ttr k x letters):=(Uf h).add (rowCmq h)
theorem Ttr_m(k:zz)(x:jq)(letters:List Int)(a:List Fs)(H:AC):Ttr k x letters 50 a H=KN k x letters a H:=rfl
theorem Ttr_p(k:zz)(x:jq)(letters:List Int)(a:List Fs)(H:AC):Ttr k x letters 81 a H=IJ k x letters a H:=rfl
theorem Vo(k:zz)(x:jq)(letters:List Int)(a:List Fs)(H:AC):Ttr k x letters 36 a H=DL a H:=rfl
def conB(x:jq)(letters:List Int)(c s:Int):Bool:=match Gh x c with
 |none=>true
 |some p=>(p.ls.map (at0 letters)).contains s
theorem QB(m:Nat)(x:jq)(letters:List Int)(c:Int):JH m x letters c=(symI m).filter (conB x letters c):=by
 unfold JH conB;cases Gh x c with
 |none=>exact(Z1.2 λ_ _=>rfl).symm
 |some p=>rfl
theorem QC{F:Int->List jx->Option (List jx)}(hF:∀s l r,F s l=some r->r.length<=l.length):∀(ss:List Int) (l r:List jx),seqT F ss l=some r->r.length<=l.length
 |[],l,r,h=>by rw[seqT]at h;cases h;exact X2 _
 |s::ss,l,r,h=>by
  rw[seqT]at h;obtain⟨l1,h1,h2⟩:=Option.bind_eq_some_iff.1 h;exact XG (QC hF ss l1 r h2) (hF s l l1 h1)
theorem Mw{vals:List Int}:∀(f:Nat) (cells:List Int) (l r:List jx),CJ vals x letters f cells l=some r->r.length<=l.length
 |_,_,[],r,h=>by rw[CJ]at h;cases h
 |0,cells,n::l,r,h=>by
  rw[CJ]at h;split at h
  ·split at h
   ·cases h;simp
   ·cases h
  ·split at h<;>cases h
 |f+1,cells,n::l,r,h=>by
  rw[CJ]at h;split at h
  ·split at h
   ·cases h;simp
   ·cases h
  ·split at h
   ·have:=QC (λs l r=>Mw f (cells.set n.a.toNat s) l r) _ _ _ h;simp;omega
   ·cases h
theorem QD(h:RdC k x letters)(c:Int):∃L ok t,HF x letters c= .tup [.sl t (L.map eI),.bool ok]/\(t.esz=1\/L=[])/\few L/\∀s,conB x letters c s=(!ok||L.contains s):=by
 unfold HF conB;cases hp:Gh x c with
 |none=>exact⟨[],false,.nil,rfl,.inr rfl,(by show(0:Nat)<_;decide),λs=>rfl⟩
 |some p=>
  refine⟨p.ls.map (at0 letters),true,.none 1,rfl,.inl rfl,?_,λs=>rfl⟩;show(p.ls.map _).length<_;rw[W3];exact h.fx.p p (List.mem_of_find?_eq_some hp)
theorem con_f{ok b:Bool}(h:false=(!ok||b)):ok=true/\b=false:=by cases ok<;>cases b<;>simp at h⊢
theorem con_t{ok b:Bool}(h:true=(!ok||b)):ok=false\/ok=true/\b=true:=by cases ok<;>cases b<;>simp at h⊢
theorem S2{m i:Nat}(h:i<m):(symI m).drop i=(i:Int)::(symI m).drop (i+1):=by
 unfold symI;rw[<-List.map_drop,<-List.map_drop,Xm (by simpa using h)];simp
structure VTr where
 i:Nat
 l:List jx
 H:AC
 n:Nat
structure ITr(rp:Nat)(k:zz)(x:jq)(letters:List Int)(F:Int->List jx->Option (List jx))(p:Int->Bool)(R:Option (List jx))(H0:AC)(n0:Nat)(v:VTr):Prop where
 hi:v.i<=k.d.syms.length
 fr:AQ v.H v.n
 hn:n0<=v.n
 kp:CX rp n0 H0 v.H
 hr:hget v.H rp=some (.box (By k x letters (eCs v.l)))
 he:R=seqT F (((symI k.d.syms.length).drop v.i).filter p) v.l
 hl:v.l.length<1000000000
theorem QE(h:RdC k x letters)(rp:Nat)(f:Nat)(cells:List Int)
  (ih:∀(cells':List Int) (l:List jx) (H:AC) (n id cap:Nat) (rest:List Int),AQ H n->hget H rp=some (.box (By k x letters (eCs l)))->hget H id=some (.arr 1 ((cells'++rest).map eI))->cells'.length<=cap->ClC k x cells'->negs cells'+1=negs cells->l.length<1000000000->
   AP prog 46 [.ptr rp 0,.ref id 1 0 cells'.length cap] H n (Vn rp k x letters H n (CJ (AV k) x letters f cells' l)))
  (l:List jx) (H:AC) (n id cap:Nat) (rest:List Int) (hf:AQ H n) (hrp:hget H rp=some (.box (By k x letters (eCs l)))) (hidq:hget H id=some (.arr 1 ((cells++rest).map eI))) (hcap:cells.length<=cap) (hC:ClC k x cells) (hl:l.length<1000000000):
  AP prog 46 [.ptr rp 0,.ref id 1 0 cells.length cap] H n (Vn rp k x letters H n (CJ (AV k) x letters (f+1) cells l)):=by
 have hq:=hrp;simp only[By,AJ,AD,AI,Am,Xr,Xq]at hq;refine c46.a (AF (Ug h) (AG ?_));cases l with
 |nil=>
  simp only[eZ,seval,c0,c46,hq];exact⟨hf,X2 _,CX.refl _,by rw[CJ]⟩
 |cons c l=>
 have g1:(((l.length+1:Nat):Int)=0)=False:=cS0;have g2:(n+6=rp)=False:=W9 (by have:=hf.lt hrp;omega);have g3:(rp=n+6)=False:=W9 (by have:=hf.lt hrp;omega);have g4:((1:Int)<=((l.length+1:Nat):Int))=True:=W4 zo;have hck:CJ (AV k) x letters (f+1) cells (c::l)=if c.k=Nr then(if Bp (AV k) x letters cells c.a then some l else none)
  else if c.k=Ns/\0<=c.a/\c.a<cells.length/\at0 cells c.a<0 then seqT (λs l=>CJ (AV k) x letters f (cells.set c.a.toNat s) l) (JH (AV k).length x letters c.a) l else none:=by rw[CJ]
 rw[hck];clear hck;have g5:((0:Int)<((l.length+1:Nat):Int))=True:=W4 zo;have htl:List.take l.length (l.map encC)=l.map encC:=Y0 zw;have hrpn:=hf.lt hrp;have hidn:=hf.lt hidq;have d9:rp≠id:=λe=>by rw[e,hidq]at hrp;cases hrp
 obtain⟨H2,hH2⟩:∃H2,hset (hset H (n+6) (.box [.int .i64 c.k,.int .i64 c.a])) rp (.box (By k x letters (eCs l)))=H2:=⟨_,rfl⟩;have m7:AQ H2 (n+8):=by rw[<-hH2];exact(hf.hset (m:=n+8) zo zo).hset (X2 _) zo
 have hrp2:hget H2 rp=some (.box (By k x letters (eCs l))):=by rw[<-hH2,AB]
 have hid2:hget H2 id=some (.arr 1 ((cells++rest).map eI)):=by rw[<-hH2,AA _ _ _ _ d9,AA _ _ _ _ zo];exact hidq
 have hnb2:hget H2 (n+6)=some (.box [.int .i64 c.k,.int .i64 c.a]):=by rw[<-hH2,AA _ _ _ _ zo,AB]
 have hkb2:CX rp n H H2:=by rw[<-hH2];exact((CX.refl H).new zo).set
 have hRd2:RdAt H2 rp k x letters:=⟨_,hrp2⟩;have hRI2:RdI H2 (.ref id 1 0 cells.length cap) cells:=.inr ⟨id,cap,rest,rfl,hid2,hcap⟩;have hrd:=Ll hRI2;simp only[By,AJ,AD,AI,Am,Xr,Xq]at hH2;by_cases l5:c.k=2
 ·have hz:c.k=Nr:=l5;rw[X6 hz];simp only[eZ,seval,eY,c46,hq,g1,g2,g4,g5,htl,fr1 hf,AO,hH2,hnb2,W4 l5,Ttr_m,KN,hrd,W4 hRI2,W4 hRd2,W4 hC];refine⟨m7,zo,hkb2,?_⟩;cases hcm:Bp (AV k) x letters cells c.a with
  |true=>exact⟨rfl,hrp2⟩
  |false=>rfl
 have hk2':¬c.k=Nr:=l5;rw[X0 hk2'];by_cases hk1:c.k=1;case neg=>
  have hk1':¬(c.k=Ns/\0<=c.a/\c.a<cells.length/\at0 cells c.a<0):=λq=>hk1 q.1
  rw[X0 hk1'];simp only[eZ,seval,eY,c46,hq,g1,g2,g4,g5,htl,fr1 hf,AO,hH2,hnb2,W9 l5,W9 hk1];exact⟨m7,zo,hkb2,rfl⟩
 by_cases ha0:c.a<0
 ·rw[X0 zo];simp only[eZ,seval,W6,eY,c46,hq,g1,g2,g4,g5,htl,fr1 hf,AO,hH2,hnb2,W9 l5,W4 hk1,W4 ha0];exact⟨m7,zo,hkb2,rfl⟩
 by_cases hal:(cells.length:Int)<=c.a
 ·rw[X0 zo];simp only[eZ,seval,W6,eY,c46,hq,g1,g2,g4,g5,htl,fr1 hf,AO,hH2,hnb2,W9 l5,W4 hk1,W9 ha0,W4 hal];exact⟨m7,zo,hkb2,rfl⟩
 obtain⟨a,ha⟩:=YM (Int.not_lt.1 ha0);have hal':a<cells.length:=zo
 have hgc:cells[a]?=some (at0 cells c.a):=by have:=BG (l:=cells) (i:=c.a) zo zo;rwa[show c.a.toNat=a by omega]at this
 have hga:(cells++rest)[a]?=some (at0 cells c.a):=by rw[XT hal'];exact hgc
 have hla:(a<(cells++rest).length)=True:=W4 (by simp;omega);have w9:c.a.toNat=a:=zo
 rw[w9];generalize hs:at0 cells c.a=s at hgc hga;have b0:(0<=c.a)=True:=W4 zo;have b1:(c.a<(cells.length:Int))=True:=W4 zo;by_cases hs0:0<=s
 ·rw[X0 zo];simp only[eZ,seval,eY,c46,hq,g1,g2,g4,g5,htl,fr1 hf,AO,hH2,hnb2,W9 l5,W4 hk1,W9 ha0,W9 hal,hid2,w9,hga,hla,b0,b1,W4 hs0];exact⟨m7,zo,hkb2,rfl⟩
 rw[X6 ⟨hk1,zo,zo,zo⟩];obtain⟨L,ok,t,hpv,hLt,hLf,hcon⟩:=QD h c.a;have hq2:=hrp2;simp only[By,AJ,AD,AI,Am,Xr,Xq]at hq2;have hvl:(AV k).length=k.d.syms.length:=by unfold AV;rw[W3]
 have hsy:=DC h.ck;rw[QB,hvl];simp only[eZ,seval,eY,c46,hq,g1,g2,g4,g5,htl,fr1 hf,AO,hH2,hnb2,hq2,W9 l5,W4 hk1,W9 ha0,W9 hal,hid2,w9,hga,hla,b0,b1,W9 hs0,Ttr_p,IJ,W4 hRd2,hpv];refine AL (λv:VTr=>⟨[(0,true,.ptr rp 0),(1,true,.ref id 1 0 cells.length cap),(5,true,.ptr (n+6) 0),(6,true,.sl t (L.map eI)),(7,true,.bool ok),(72,true,.int .i64 k.d.syms.length),(73,true,.int .i64 v.i)],v.H,v.n⟩)
  (ITr rp k x letters (λs l=>CJ (AV k) x letters f (cells.set a s) l) (conB x letters c.a) (seqT (λs l=>CJ (AV k) x letters f (cells.set a s) l) ((symI k.d.syms.length).filter (conB x letters c.a)) l) H2 (n+8)) (λv=>k.d.syms.length-v.i)
  ⟨0,l,H2,n+8⟩ rfl ⟨X3 _,m7,X2 _,CX.refl _,hrp2,rfl,by simp only[Xj]at hl;simp only[];omega⟩ ?_
 rintro⟨i,l1,H1,n1⟩ ⟨hi,hf1,l6,hk,hr1,he,hl1⟩;simp only at hi hf1 l6 hk hr1 he hl1;rw[he];by_cases c6:i<k.d.syms.length;case neg=>
  obtain rfl:i=k.d.syms.length:=zo
  rw[YP (by unfold symI;simp)];simp only[eZ,seval,lt_F c6];exact⟨hf1,zo,hkb2.trans hk zo,rfl,hr1⟩
 have e:=AE (k:=i) zo;have hd:=S2 c6;have hci:=hcon (i:Int);have hid1:hget H1 id=some (.arr 1 ((cells++rest).map eI)):=(hk id zo (Ne.symm d9)).trans hid2;have hnb1:hget H1 (n+6)=some (.box [.int .i64 c.k,.int .i64 c.a]):=(hk (n+6) zo zo).trans hnb2;have hRI1:RdI H1 (.ref id 1 0 cells.length cap) cells:=.inr ⟨id,cap,rest,rfl,hid1,hcap⟩;have hRL:RdI H1 (.sl t (L.map eI)) L:=.inl ⟨t,rfl,hLt⟩;have r1:=Ll hRL;by_cases o6:conB x letters c.a (i:Int)=true;case neg=>
  have hcb':conB x letters c.a (i:Int)=false:=by simpa using o6
  rw[hd,List.filter_cons_of_neg o6];rw[hcb']at hci;have h2:=con_f hci;obtain⟨rfl,h2⟩:=h2;simp only[eZ,seval,W8,lt_T c6,Vo,DL,r1,W4 hRL,W4 hLf,h2,W8,e];exact .mk ⟨i+1,l1,H1,n1⟩ rfl ⟨c6,hf1,l6,hk,hr1,rfl,hl1⟩ zp
 rw[hd,List.filter_cons_of_pos o6,seqT];rw[o6]at hci;have h2:=con_t hci;have hcf:few cells:=by show cells.length<_;have:=h.ox.cs.2.2.2;rw[hC.len];omega
 rcases h2 with rfl|⟨rfl,h2⟩
 case' inl=>simp only[eZ,seval,lt_T c6,Vo,DL,r1,W4 hRL,W4 hLf]
 case' inr=>simp only[eZ,seval,W6,lt_T c6,Vo,DL,r1,W4 hRL,W4 hLf,h2,W6]
 all_goals
  refine(Ps hRI1 hcf).mono ?_;rintro o H3 n3 (⟨hz,-⟩|⟨-,rfl,rest3,rfl,rfl⟩)
  ·rw[hz]at hal';simp at hal'
  have y1:(n1=n+4)=False:=W9 zo;have hla3:(a<(cells++rest3).length)=True:=W4 (by simp;omega);simp only[eZ,seval,eY,retK,hnb1,y1,b0,b1,w9,hla3,AO];have eset:((cells++rest3).map eI).set a (.int .i64 (i:Int))=((cells.set a (i:Int))++rest3).map eI:=by
   rw[<-Zp _ _ hal',List.map_set]
  have hlen:(cells.set a (i:Int)).length=cells.length:=YC;have hrpn1:=hf1.lt hr1;have hC':ClC k x (cells.set a (i:Int)):=⟨by rw[hlen];exact hC.len,λs hs h0=>by
   rcases YX hs with q|q
   ·exact hC.sy s q h0
   ·rw[q];exact⟨zo,zo⟩⟩
  have hng:=Nt hgc zo (show(0:Int)<=(i:Int)by omega);rw[eset];have hcall:=ih (cells.set a (i:Int)) l1 (hset H1 (n1+2) (.arr 1 (((cells.set a (i:Int))++rest3).map eI))) (n1+4) (n1+2) (cells.length+rest3.length) rest3 (hf1.hset zo zo) (by rw[AA _ _ _ _ zo];exact hr1) (AB ..) (by rw[hlen];omega) hC' hng hl1;rw[hlen]at hcall;refine hcall.mono ?_;rintro o H4 n4 ⟨hf4,hn4,hk4,hres⟩;have hk4':CX rp (n+8) H2 H4:=(hk.new zo).trans hk4 zo;cases htr:CJ (AV k) x letters f (cells.set a (i:Int)) l1 with
  |none=>
   rw[htr]at hres;obtain rfl:o= .ret (.bool false):=hres;simp only[eZ,seval,W8,retK,W8];exact⟨hf4,zo,hkb2.trans hk4' zo,rfl⟩
  |some l2=>
   rw[htr]at hres;obtain⟨rfl,hr4⟩:=hres;have hl2:=Mw _ _ _ _ htr;simp only[eZ,seval,W6,retK,W6,e];exact .mk ⟨i+1,l2,H4,n4⟩ rfl ⟨c6,hf4,zp,hk4',hr4,rfl,zp⟩ zp
theorem QF{cells:List Int}{a:Nat}{t:Int}(h:negs cells=0)(ha:cells[a]?=some t):0<=t:=by
 apply Classical.byContradiction;intro q;have h1:t∈cells.filter λs=>decide (s<0):=Ym.2 ⟨XE ha,by simp;omega⟩
 unfold negs at h;rw[XI h]at h1;cases h1
theorem QG{vals:List Int}{cells:List Int}(h:negs cells=0)(l:List jx):CJ vals x letters 0 cells l=CJ vals x letters 1 cells l:=by
 cases l with
 |nil=>rw[CJ,CJ]
 |cons c l=>
  rw[CJ,CJ];have i4:¬(c.k=Ns/\0<=c.a/\c.a<cells.length/\at0 cells c.a<0):=λq=>by
   have:=QF h (BG q.2.1 q.2.2.1);omega
  rw[X0 i4,X0 i4]
theorem Uh(h:RdC k x letters)(rp:Nat):∀(f:Nat) (cells:List Int) (l:List jx) (H:AC) (n id cap:Nat) (rest:List Int),AQ H n->hget H rp=some (.box (By k x letters (eCs l)))->hget H id=some (.arr 1 ((cells++rest).map eI))->cells.length<=cap->ClC k x cells->negs cells<=f->l.length<1000000000->
  AP prog 46 [.ptr rp 0,.ref id 1 0 cells.length cap] H n (Vn rp k x letters H n (CJ (AV k) x letters f cells l))
 |0,cells,l,H,n,id,cap,rest,hf,hrp,hidq,hcap,hC,hneg,hl=>by
  rw[QG zo];exact QE h rp 0 cells (λcells' l H n id cap rest _ _ _ _ _ hn _=>zo) l H n id cap rest hf hrp hidq hcap hC hl
 |f+1,cells,l,H,n,id,cap,rest,hf,hrp,hidq,hcap,hC,hneg,hl=>
  QE h rp f cells (λcells' l H n id cap rest a1 a2 a3 a4 a5 hn a6=>Uh h rp f cells' l H n id cap rest a1 a2 a3 a4 a5 zo a6) l H n id cap rest hf hrp hidq hcap hC hl
end
section
def CK(k:zz)(x:jq):Int:=if Bg k≠0 then Bg k else chk x
def Tsv:Tab:=tadd 39 (s1 dX FewL λx=>eI (chk x)) Tlt
def Tsv_ok:AH prog Tsv:=Uc.add (q1 λx h=>p39 x h)
theorem Tsv_c(a:List Fs)(H:AC):Tsv 32 a H=s1 dKn (λk=>qk k.d) (λk=>.int .i64 (Bg k)) a H:=rfl
theorem Tsv_m(a:List Fs)(H:AC):Tsv 39 a H=s1 dX FewL (λx=>eI (chk x)) a H:=rfl
def p45(k:zz)(x:jq)(hk:qk k.d)(hx:FewL x):Pur prog 45 [Bj k,encL x] (eI (CK k x)):=by
 have u1:dKn.ok (.agg (AJ k))=True:=DJ k;have u2:dKn.dec (.agg (AJ k))=k:=CG k;simp only[AJ,AD,AI,Xr,Xq]at u1 u2;have v1:dX.ok (.agg (Am x))=True:=LX x;have v2:dX.dec (.agg (Am x))=x:=Gi x;simp only[Am]at v1 v2;refine .mk ⟨Ag 0 k,Be 0 x,trivial⟩ trivial (c45.a (AF Tsv_ok (AG ?_)));unfold CK;by_cases h:Bg k=0
 ·simp only[eZ,seval,W6,c45,AJ,AD,AI,Tsv_c,Tsv_m,s1,u1,u2,v1,v2,W4 hk,W4 hx,W4 h]
 ·simp only[eZ,seval,W8,c45,AJ,AD,AI,Tsv_c,s1,u1,u2,W4 hk,W9 h]
def i04:((0:Int)<4)=True:=W4 zd
abbrev eTr(t:List (List jx)):Fs:=.sl (.none 1) (t.map eCs)
abbrev HG(t:List (List jx)):Fs:=.agg [eTr t]
def QH(n:Nat)(l:List jx):(eCs l).under n:=⟨trivial,BD (f:=encC) (λc=>⟨trivial,trivial,trivial⟩) _⟩
def FK(n:Nat)(t:List (List jx)):(HG t).under n:=⟨⟨trivial,BD (QH n) _⟩,trivial⟩
abbrev eCk:List (Nat×Bool×Fs):=[(3,true,.ptr 0 0),(4,true,.ptr 1 0),(5,true,.ptr 2 0),(6,true,.ptr 3 0),(7,true,.ptr 4 0),(8,true,.ptr 5 0),(25,true,clC 8 7)]
noncomputable abbrev lpCk (l':Nat) (st:LoopState) (pend:Option Code):zj:=.lp ⟨l',st,pend,75,eCk, #[26],I6,I7⟩
def Ui(k:zz)(x:jq)(trees:List (List jx))(D:List (List Int)):Prop:=∀(i:Nat) l,D[i]?=some l->∃t,trees[i]?=some t/\CJ (AV k) x l x.cs.length (begC x l) t=some []
structure CkJ(k:zz)(x:jq)(trees:List (List jx))(l':Nat)(F:Nat->Prop)(D:List (List Int))(H:AC)(m:Nat):Prop where
 fr:AQ H m
 lm:11<=m
 nF:∀i,F i->i=7\/i=8\/11<=i
 h0:hget H 0=some (.box (AJ k))
 h1:hget H 1=some (.box (Am x))
 h2:hget H 2=some (.box [eTr trees])
 h3:hget H 3=some (.box [.bool false])
 h4:hget H 4=some (.box [.int .i64 0])
 h5:hget H 5=some (.box [.int .i64 D.length])
 hL:hget H 10=some (lpCk l' .ready none)
 ok:Ui k x trees D
def CkS(k:zz)(x:jq)(trees:List (List jx))(l':Nat)(H:AC)(m:Nat):Prop:=
 hget H 3=some (.box [.bool false])/\hget H 4=some (.box [.int .i64 0])/\hget H 10=some (lpCk l' .done (some .ret))/\Cs (AV k) x trees=false
variable {k:zz} {x:jq}
theorem Vp{trees:List (List jx)}{l':Nat}(hR:∀letters∈chs (AV k).length x.ls.length,RdC k x letters)(htr':few trees)(ht:∀t∈trees,few t):Gen (chs (AV k).length x.ls.length) l' (CkJ k x trees l') (CkS k x trees l') where
 fr:=λF D H m h=>h.fr
 frame:=by
  rintro F F' D H H' m m' ⟨fr,lm,nF,h0,h1,h2,h3,h4,h5,hL,ok⟩ hF hH hf hm;have n1:∀i,i<11->i≠7->i≠8->hget H' i=hget H i:=λi a b c=>hH i λq=>by
   rcases hF i q with q|q
   ·have:=nF i q;omega
   ·omega
  exact⟨hf,zo,λi h=>(hF i h).elim (nF i) (λq=>zo),by rw[n1 0 zd zd zd];exact h0,by rw[n1 1 zd zd zd];exact h1,by rw[n1 2 zd zd zd];exact h2,
   by rw[n1 3 zd zd zd];exact h3,by rw[n1 4 zd zd zd];exact h4,by rw[n1 5 zd zd zd];exact h5,by rw[n1 10 zd zd zd];exact hL,ok⟩
 yld:=by
  rintro F D letters H m R ⟨fr,lm,nF,h0,h1,h2,h3,h4,h5,hL,ok⟩ hF hA hRt hRf;refine y18_0 hL rfl (AF AH.tnil (AG ?_));simp only[eE,eN,seval,Rh,renv,YK,YN,Ye,Z2];refine⟨_,hL,rfl,AF AH.tnil (AG ?_)⟩;have hf':AQ (hset H 10 (lpCk l' .busy none)) m:=fr.hset (X2 _) zo;generalize hH1:hset H 10 (lpCk l' .busy none)=H1 at hf'⊢;have k1:∀i,i≠10->hget H1 i=hget H i:=λi hi=>by rw[<-hH1,AA _ _ _ _ hi.symm]
  have hL1:hget H1 10=some (lpCk l' .busy none):=by rw[<-hH1,AB]
  have a0:=(k1 0 zd).trans h0;have a1:=(k1 1 zd).trans h1;have a2:=(k1 2 zd).trans h2;have a3:=(k1 3 zd).trans h3;have a4:=(k1 4 zd).trans h4;have a5:=(k1 5 zd).trans h5;clear hH1;have hmem:letters∈chs (AV k).length x.ls.length:=by
   obtain⟨t,ht⟩:=hA;rw[<-ht];simp
  have hrd:=hR _ hmem;simp only[AJ,AD,AI,Xr,Xq]at a0;by_cases hl:D.length=trees.length
  ·have hl':((D.length:Int)=(trees.length:Int))=True:=W4 zo;have hl2:decide ((D.length:Int)=(trees.length:Int))=true:=by simp;omega
   simp only[eZ,seval,W3,Nb,a5,a2,hl',a3,a4];refine⟨⟨l',.busy,none,75,eCk, #[26],I6,I7⟩,by rw[AA _ _ _ _ zd,AA _ _ _ _ zd];exact hL1,hRf _ _ ⟨?_,?_,AB ..,?_⟩⟩
   ·simp_all [AA,decide,AB]
   ·rw[AA _ _ _ _ zd,AB]
   ·unfold Cs;obtain⟨t,hA⟩:=hA;have hlen:(chs (AV k).length x.ls.length).length≠trees.length:=by
     rw[<-hA];simp;omega
    rw[Xe hlen,Yu]
  have hl':((D.length:Int)=(trees.length:Int))=False:=W9 zo;have hl2:decide ((D.length:Int)=(trees.length:Int))=false:=by simp;omega
  have hDl:D.length<trees.length:=by
   have:D.length<=trees.length:=by
    apply Classical.byContradiction;intro q;obtain⟨t,h1,-⟩:=ok trees.length D[trees.length] (W5 zo);rw[YV zo]at h1;cases h1
   omega
  have hgt:=W5 hDl;have htf:=ht _ (Xa hDl);generalize trees[D.length]=tr at hgt htf;have hX:=hrd.ox;have hxc:=hX.c;have hxl:=hX.l;have hx4:=hX.cs.2.2;rw[<-hrd.ll]at hxl;have hgl:=BG hxl.1 hxl.2;have z:∀j,j<11->(m=j)=False:=λj hj=>W9 zo
  have z':∀j,j<11->(j=m)=False:=λj hj=>W9 zo
  have z0:=z 0 zd;have z1:=z 1 zd;have z2:=z 2 zd;have z3:=z 3 zd;have z4:=z 4 zd;have z5:=z 5 zd;have z10:=z 10 zd;have w1:((x.cs.length:Int)<=4)=True:=W4 zo;have w2:(0<=x.c)=True:=W4 hxc.1;have w3:(x.c<(x.cs.length:Int))=True:=W4 hxc.2;have w4:(x.c.toNat<4)=True:=W4 zo;have w5:(0<=x.l)=True:=W4 hxl.1;have w6:(x.l<(letters.length:Int))=True:=W4 hxl.2;have w7:(x.l.toNat<letters.length)=True:=W4 zo;simp only[Am]at a1;simp only[eZ,seval,xE,eY,Nb,a5,a2,hl',a0,a1,fr1 hf',fr0 hf',bsmS,bsmF,z0,z1,z2,z5,w1,w2,w3,w4,w5,w6,hgl,hgt,lt_T hDl,Nat.sub_zero,c4n,i04,AO];have hbeg:([.int .i64 (-1),.int .i64 (-1),.int .i64 (-1),.int .i64 (-1)]:List Fs).set x.c.toNat (eI (at0 letters x.l))=((begC x letters)++List.replicate (4-x.cs.length) (-1)).map eI:=by
   unfold begC;rw[<-Zp _ _ (by rw[Yn];omega),List.replicate_append_replicate,show x.cs.length+(4-x.cs.length)=4 by omega,List.map_set];rfl
  rw[hbeg];generalize hHa:hset H1 m (zj.arr 1 _)=Ha;have hfa:AQ Ha (m+15):=by rw[<-hHa];exact hf'.hset zo zo
  have hbl:=E4 x letters;have hC:ClC k x (begC x letters):=by
   refine⟨hbl,λs hs h0=>?_⟩;have hb:=Dx hX hmem;unfold begC at hs;rcases YX hs with q|q
   ·rw[List.mem_replicate]at q;omega
   ·grind [AV,List.length_map]
  have hcall:=Uh hrd (m+15) x.cs.length (begC x letters) tr (hset Ha (m+15) (.box (By k x letters (eCs tr)))) (m+17) m 4 (List.replicate (4-x.cs.length) (-1)) (hfa.hset zo zo) (AB ..) (by rw[AA _ _ _ _ zo,<-hHa,AB]) (by rw[hbl];omega) hC UK htf;rw[hbl]at hcall;refine hcall.mono ?_;rintro o H4 n4 ⟨hf4,hn4,hk4,hres⟩;have hkeep:∀i,i<m->hget H4 i=hget H1 i:=λi hi=>by
   rw[hk4 i zo zo,AA _ _ _ _ zo,<-hHa,AA _ _ _ _ zo]
  have b3:=(hkeep 3 zo).trans a3;have b4:=(hkeep 4 zo).trans a4;have b5:=(hkeep 5 zo).trans a5;have b10:=(hkeep 10 zo).trans hL1;have hwrong:∀q,CJ (AV k) x letters x.cs.length (begC x letters) tr=q->q≠some []->Cs (AV k) x trees=false:=λq hq d9=>by
   unfold Cs;rw[Z4];by_cases hlen:(chs (AV k).length x.ls.length).length=trees.length
   ·right;rw[Yw];obtain⟨t,hA⟩:=hA;refine⟨(letters,tr),?_,by rw[hq];simpa using d9⟩;rw[List.mem_iff_getElem?];refine⟨D.length,?_⟩;rw[List.getElem?_zip_eq_some];refine⟨?_,hgt⟩;rw[<-hA];simp
   ·exact .inl (Xe hlen)
  have stop:Cs (AV k) x trees=false->Uy 10 R qv.ret ⟨[],hset (hset H4 3 (.box [.bool false])) 4 (.box [.int .i64 0]),n4⟩:=λhw=>by
   refine⟨⟨l',.busy,none,75,eCk, #[26],I6,I7⟩,by rw[AA _ _ _ _ zd,AA _ _ _ _ zd];exact b10,hRf _ _ ⟨?_,?_,AB ..,hw⟩⟩
   ·simp_all [AA,decide,AB]
   ·rw[AA _ _ _ _ zd,AB]
  cases htr:CJ (AV k) x letters x.cs.length (begC x letters) tr with
  |none=>
   rw[htr]at hres;obtain rfl:o= .ret (.bool false):=hres;simp only[eZ,seval,W6,W8,retK,b3,b4,W8];exact stop (hwrong _ htr zw)
  |some l2=>
   rw[htr]at hres;obtain⟨rfl,hr4⟩:=hres;simp only[By,AJ,AD,AI,Am,Xr,Xq]at hr4;cases l2 with
   |cons c2 l2=>
    have g2:((0:Int)<((l2.length+1:Nat):Int))=True:=cS1;simp only[eZ,seval,W6,W3,retK,b3,b4,hr4,W6,g2];exact stop (hwrong _ htr zw)
   |nil=>
    have e:=AE (k:=D.length) (by have:trees.length<1000000000:=htr';omega);simp only[eZ,seval,W6,eY,retK,b5,hr4,W6,e];have hF':∀i,F i->i≠5/\i≠10:=λi hi=>by have:=nF i hi;omega
    refine⟨⟨l',.busy,none,75,eCk, #[26],I6,I7⟩,by rw[AA _ _ _ _ zd];exact b10,hRt _ _ ⟨(hf4.hset (m:=n4) (X2 _) zo).hset (m:=n4) (X2 _) zo,zp,nF,?_,?_,?_,?_,?_,?_,AB ..,?_⟩ (λi hi=>?_) zp⟩
    ·rw[AA _ _ _ _ zd,AA _ _ _ _ zd,hkeep 0 zo,k1 0 zd];exact h0
    ·rw[AA _ _ _ _ zd,AA _ _ _ _ zd,hkeep 1 zo,k1 1 zd];exact h1
    ·rw[AA _ _ _ _ zd,AA _ _ _ _ zd,hkeep 2 zo];exact a2
    ·rw[AA _ _ _ _ zd,AA _ _ _ _ zd];exact b3
    ·rw[AA _ _ _ _ zd,AA _ _ _ _ zd];exact b4
    ·rw[AA _ _ _ _ zd,AB,Xf];rfl
    ·intro i l hl;by_cases q:i<D.length
     ·rw[XT q]at hl;exact ok i l hl
     ·grind
    ·have:=hF i hi;rw[AA _ _ _ _ (λq=>(hF' i hi).2 q.symm),AA _ _ _ _ (λq=>(hF' i hi).1 q.symm),hkeep i zo,k1 i (hF' i hi).2]
theorem QI{trees:List (List jx)}(h:Ui k x trees (chs (AV k).length x.ls.length)):Cs (AV k) x trees=decide ((chs (AV k).length x.ls.length).length=trees.length):=by
 unfold Cs;rw[Bool.and_eq_left_iff_imp];intro hl;rw[X9];rintro⟨l,t⟩ hm;obtain⟨i,hi⟩:=List.mem_iff_getElem?.1 hm;rw[List.getElem?_zip_eq_some]at hi;obtain⟨t',h1,h2⟩:=h i l hi.1;rw[hi.2]at h1;cases h1;exact Xi h2
def Ci(k:zz)(x:jq)(trees:List (List jx)):Fs:=if CK k x≠0 then .tup [.bool false,.int .i64 (CK k x)]else .tup [.bool (Cs (AV k) x trees),.int .i64 0]
theorem Mx(hk:qk k.d)(hx:FewL x)(h:CK k x=0){letters:List Int}(hl:letters∈chs (AV k).length x.ls.length):RdC k x letters:=by
 unfold CK at h;by_cases hc:Bg k=0
 ·rw[X0 (by simpa using hc)]at h;have ho:E8 x=true:=by
   unfold chk at h;split at h
   ·assumption
   ·cases h
  exact⟨hc,hk,hx,(Hu x).1 ho,(J0 hl).1⟩
 ·rw[X6 hc]at h;exact absurd h hc
def rowVd:List Fs->AC->Prop×Fs:=s2 dKn dX (λk x=>qk k.d/\FewL x) λk x=>eI (CK k x)
def Tsc:Tab:=tadd 45 rowVd tnil
theorem Uj:AH prog Tsc:=AH.tnil.add (q2 λk x h=>p45 k x h.1 h.2)
theorem S3(a:List Fs)(H:AC):Tsc 45 a H=s2 dKn dX (λk x=>qk k.d/\FewL x) (λk x=>eI (CK k x)) a H:=rfl
theorem p18(k:zz)(x:jq)(trees:List (List jx))(hk:qk k.d)(hx:FewL x)(htr:few trees)(ht:∀t∈trees,few t):Pur prog 18 [Bj k,encL x,HG trees] (Ci k x trees):=by
 have u1:dKn.ok (.agg (AJ k))=True:=DJ k;have u2:dKn.dec (.agg (AJ k))=k:=CG k;simp only[AJ,AD,AI,Xr,Xq]at u1 u2;have v1:dX.ok (.agg (Am x))=True:=LX x;have v2:dX.dec (.agg (Am x))=x:=Gi x;simp only[Am]at v1 v2;refine .mk ⟨Ag 0 k,Be 0 x,FK 0 trees,trivial⟩ ?_ (a18 (AF Uj (AG ?_)))
 ·unfold Ci;split<;>exact⟨trivial,trivial,trivial⟩
 unfold Ci;by_cases hv:CK k x=0;case neg=>simp only[eZ,eX,seval,W8,BI,c18,AJ,AD,AI,S3,s2,u1,u2,v1,v2,W4 hk,W4 hx,W9 hv];exact Wk.refl _
 have hvl:(AV k).length=k.d.syms.length:=by unfold AV;rw[W3]
 simp only[eZ,seval,W6,W3,c18,AJ,AD,AI,S3,s2,u1,u2,v1,v2,W4 hk,W4 hx,W4 hv,AO];rw[hv];have hck:Bg k=0:=by simp_all [CK]<;>omega
 have hsy:=DC hck;generalize hHa:hset (hset _ 4 _) 5 (zj.box _)=Ha;have fa:AQ Ha 7:=by
  rw[<-hHa];repeat' (first|exact AQ.nil.hset (m:=7) (X3 _) zd|refine AQ.hset ?_ (X2 _) zd)
 have f0:hget Ha 0=some (.box (AJ k)):=by rw[<-hHa];rfl
 have f1:hget Ha 1=some (.box (Am x)):=by rw[<-hHa];rfl
 have f2:hget Ha 2=some (.box [eTr trees]):=by rw[<-hHa];rfl
 have f3:hget Ha 3=some (.box [.bool false]):=by rw[<-hHa];rfl
 have f4:hget Ha 4=some (.box [.int .i64 0]):=by rw[<-hHa];rfl
 have f5:hget Ha 5=some (.box [.int .i64 0]):=by rw[<-hHa];rfl
 clear hHa;have t9:x.ls.length<=1000:=by
  have ho:E8 x=true:=by
   unfold CK at hv;rw[X0 (by simpa using hck)]at hv;unfold chk at hv;split at hv
   ·assumption
   ·cases hv
  have:=((Hu x).1 ho).ls.2.2.2;omega
 refine(FJ (M:=k.d.syms.length) (n:=x.ls.length) fa).mono ?_;rintro o H1 n1 ⟨rfl,rfl,rfl⟩;simp only[eE,eN,seval,retK,FO];intro l';generalize hHb:hset (hset (hset Ha 7 _) _ _) _ (zj.lp _)=Hb;have kb:∀i,i<7->hget Hb i=hget Ha i:=λi hi=>by
  rw[<-hHb,AA _ _ _ _ zo,AA _ _ _ _ zo,AA _ _ _ _ zo]
 have e8:hget Hb 8=some (.box [.int .i64 x.ls.length]):=by rw[<-hHb,AA _ _ _ _ zd];exact AB ..
 have e7:hget Hb 7=some (.box [.int .i64 (AV k).length]):=by rw[<-hHb,AA _ _ _ _ zd,AA _ _ _ _ zd,hvl];exact AB ..
 have hJ:CkJ k x trees l' (λi=>i=7\/i=8) [] Hb 11:=by
  refine⟨?_,X2 _,λi h=>zo,(kb 0 zd).trans f0,(kb 1 zd).trans f1,(kb 2 zd).trans f2,(kb 3 zd).trans f3,(kb 4 zd).trans f4,(kb 5 zd).trans f5,by rw[<-hHb];exact AB ..,λi l h=>by simp at h⟩;rw[<-hHb];exact((fa.hset (m:=11) zd zd).hset (X2 _) zd).hset (X2 _) zd
 have hgen:=Vp (k:=k) (x:=x) (trees:=trees) (l':=l') (λletters hl=>Mx hk hx hv hl) htr ht;have hM:(AV k).length<=1000:=zo
 refine(Ln hgen hM t9 hJ (λi h=>zo) (.inr rfl) (.inl rfl) e8 e7).mono ?_;rintro o H' m' ⟨rfl,⟨F',-,hF',hj⟩|⟨s3,s4,sL,hw⟩⟩
 ·obtain⟨fr,lm,nF,h0,h1,h2,h3,h4,h5,hL,ok⟩:=hj;rw[QI ok];generalize (chs (AV k).length x.ls.length).length=cl at h5;simp only[eE,eN,seval,BI,W3,FN,hL,h2,h3,h4,h5];rw[show decide ((cl:Int)=(trees.length:Int))=decide (cl=trees.length)from decide_eq_decide.2 zo];exact Wk.refl _
 ·simp only[eE,eN,seval,BI,FN,sL,s3,s4,hw];exact Wk.refl _
end
theorem FB{α:Type}[DecidableEq α]:∀{l:List α},l.Nodup->BA l=true
 |[],_=>rfl
 |x::r,h=>by
  obtain⟨h1,h2⟩:=YD.1 h;rw[BA,FB h2,Bool.and_true,Y1,Zh];intro y hy;simp only[X1];rintro rfl;exact h1 hy
def dif_nodup{l:List Int}{n:Nat}:difI l n=true↔(∀c∈l,0<=c/\c<(n:Int))/\l.Nodup:=by
 unfold difI;rw[W7,X9];constructor
 ·rintro⟨h1,h2⟩;exact⟨λc hc=>by simpa using h1 c hc,Di h2⟩
 ·rintro⟨h1,h2⟩;exact⟨λc hc=>by simpa using h1 c hc,FB h2⟩
section
structure HoC(k:zz)(x:jq)(letters:List Int)(d1 d2 d3 d4 d5 rp id cap:Nat)(H:AC):Prop where
 h1:hget H d1=some (.box (Am x))
 h2:hget H d2=some (.box [.ptr rp 0])
 h3:hget H d3=some (.box [.ref id 1 0 x.cs.length cap])
 h4:hget H d4=some (.box [.fn (.func 49) [] [.ptr d1 0,.ptr d2 0,.ptr d3 0,.ptr d4 0,.ptr d5 0]])
 h5:hget H d5=some (.box (AJ k))
 hr:RdAt H rp k x letters
variable {k:zz} {letters:List Int} {x:jq}
theorem HoC.keep{d1 d2 d3 d4 d5 rp id cap n:Nat}{H H':AC}(h:HoC k x letters d1 d2 d3 d4 d5 rp id cap H)(hidq:∃L,hget H id=some (.arr 1 L))(hf:AQ H n)(hk:CX id n H H'):HoC k x letters d1 d2 d3 d4 d5 rp id cap H':=by
 obtain⟨L,hidq⟩:=hidq;have key:∀c cs,hget H c=some (.box cs)->hget H' c=some (.box cs):=λc cs hc=>by
  rw[hk c (hf.lt hc) (λe=>by rw[e,hidq]at hc;cases hc)];exact hc
 obtain⟨h1,h2,h3,h4,h5,w,hr⟩:=h;exact⟨key _ _ h1,key _ _ h2,key _ _ h3,key _ _ h4,key _ _ h5,w,key _ _ hr⟩
def HoP(id n:Nat)(arr:List Fs)(H:AC)(b:Bool):j9->AC->Nat->Prop:=λo H' n'=>
 AQ H' n'/\n<=n'/\CX id n H H'/\o= .ret (.bool b)/\(b=false->hget H' id=some (.arr 1 arr))/\∃L,hget H' id=some (.arr 1 L)
theorem Fd{vals:List Int}{cells:List Int}:CW vals x letters cells=true↔∀i:Nat,i<x.qs.length+x.ps.length->Bp vals x letters cells (i:Int)=false:=by
 unfold CW;rw[X9];have hl:(Fc vals x letters cells).length=x.qs.length+x.ps.length:=by unfold Fc;simp
 constructor
 ·intro h i hi;unfold Bp;rw[X0 zo,X4,W5 zo,X8];have:=h _ (Xa (l:=Fc vals x letters cells) (n:=i) zo);simpa using this
 ·intro h b hb;obtain⟨i,hi,rfl⟩:=Xn.1 hb;have:=h i zo;unfold Bp at this;rw[X0 zo,X4,W5 hi,X8]at this;rw[this];rfl
def HoG(k:zz)(x:jq)(letters:List Int)(d1 d2 d3 d4 d5 rp id cap j:Nat):Prop:=∀(i:Nat) (cells:List Int) (H:AC) (n:Nat) (rest:List Int),i+j=x.cs.length->AQ H n->HoC k x letters d1 d2 d3 d4 d5 rp id cap H->hget H id=some (.arr 1 ((cells++rest).map eI))->ClC k x cells->(∀(a:Nat),i<=a->a<x.cs.length->(a:Int)≠x.c->cells[a]?=some (-1))->
  AP prog 49 [.int .i64 i,.ptr d1 0,.ptr d2 0,.ptr d3 0,.ptr d4 0,.ptr d5 0] H n (HoP id n ((cells++rest).map eI) H (tryP (AV k) x letters j i cells))
structure VHo where
 s:Nat
 cur:Int
 H:AC
 n:Nat
structure IHo(k:zz)(x:jq)(letters cells rest:List Int)(id i j m n0:Nat)(H0:AC)(v:VHo):Prop where
 hs:v.s<=m
 fr:AQ v.H v.n
 hn:n0<=v.n
 kp:CX id n0 H0 v.H
 ho:hget v.H id=some (.arr 1 ((cells.set i v.cur++rest).map eI))
 no:∀b:Nat,b<v.s->tryP (AV k) x letters j (i+1) (cells.set i (b:Int))=false
theorem My(h:RdC k x letters)(d1 d2 d3 d4 d5 rp id cap:Nat)(hcap:x.cs.length<=cap)(j:Nat)(ih:∀j',j=j'+1->HoG k x letters d1 d2 d3 d4 d5 rp id cap j'):HoG k x letters d1 d2 d3 d4 d5 rp id cap j:=by
 intro i cells H n rest hij hf hH hidq hC hneg;have hnq:x.qs.length<1000000000:=h.fx.qs;have hnp:x.ps.length<1000000000:=h.fx.ps;have hw1:IntKind.wrap .i64 ((x.qs.length:Int)+(x.ps.length:Int))=((x.qs.length+x.ps.length:Nat):Int):=by rw[Aq zo zo];omega
 have hRI:RdI H (.ref id 1 0 x.cs.length cap) cells:=.inr ⟨id,cap,rest,by rw[hC.len],hidq,by rw[hC.len];exact hcap⟩;have hrd:=Ll hRI;have hH0:=hH;obtain⟨h1,h2,h3,h4,h5,hr⟩:=hH0;simp only[Am]at h1;simp only[AJ,AD,AI,Xr,Xq]at h5;refine c49.a (AF (Ug h) (AG ?_));simp only[eE,eN,seval,W3,c49,h1,hw1];refine AL (λa:Nat=>⟨[(0,true,.int .i64 i),(1,true,.ptr d1 0),(2,true,.ptr d2 0),(3,true,.ptr d3 0),(4,true,.ptr d4 0),(5,true,.ptr d5 0),(16,true,.int .i64 ((x.qs.length+x.ps.length:Nat):Int)),(17,true,.int .i64 a)],H,n⟩)
  (λa=>a<=x.qs.length+x.ps.length/\∀b,b<a->Bp (AV k) x letters cells (b:Int)=false) (λa=>x.qs.length+x.ps.length-a) 0 rfl ⟨X3 _,λb hb=>zo⟩ ?_
 rintro a ⟨ha,c7⟩;by_cases c6:a<x.qs.length+x.ps.length
 ·have e:=AE (k:=a) zo;cases hcm:Bp (AV k) x letters cells (a:Int)with
  |true=>
   have i4:tryP (AV k) x letters j i cells=false:=by
    unfold tryP;rw[X0];rw[Fd];intro q;rw[q a c6]at hcm;cases hcm
   rw[i4];simp only[eZ,seval,lt_T c6,h2,h3,Ttr,KN,hrd,W4 hRI,W4 hr,W4 hC,hcm,tadd];exact⟨hf,X2 _,CX.refl _,rfl,λ_=>hidq,_,hidq⟩
  |false=>
   simp only[eZ,seval,lt_T c6,h2,h3,Ttr,KN,hrd,W4 hRI,W4 hr,W4 hC,hcm,e,tadd];refine .mk (a+1) rfl ⟨c6,λb hb=>?_⟩ zo;by_cases q:b<a
   ·exact c7 b q
   ·obtain rfl:b=a:=zo
    exact hcm
 obtain rfl:a=x.qs.length+x.ps.length:=zo
 have e9:=Fd.2 c7;cases j with
 |zero=>
  have d9:((i:Int)=(x.cs.length:Int))=True:=W4 zo;have hde:decide ((i:Int)=(x.cs.length:Int))=true:=Xi zo;rw[tryP,X6 e9];simp only[eZ,seval,lt_F c6,h3,d9];exact⟨hf,X2 _,CX.refl _,rfl,(λq=>by cases q),_,hidq⟩
 |succ j=>
 have ih:=ih j rfl;rw[tryP,X6 e9];have d9:((i:Int)=(x.cs.length:Int))=False:=W9 zo;have e1:=AE (k:=i) (by have:=h.ox.cs.2.2.2;omega);by_cases hic:(i:Int)=x.c
 ·rw[X6 hic];simp only[eZ,seval,lt_F c6,h1,h3,h4,d9,W4 hic,e1];refine(ih (i+1) cells H n rest zo hf hH hidq hC λa ha h1 h2=>hneg a zo h1 h2).mono ?_;rintro o H' n' ⟨q1,q2,q3,rfl,q5,q6⟩;simp only[eE,eN,seval,retK];exact⟨q1,q2,q3,rfl,q5,q6⟩
 rw[X0 hic];have hsy:=DC h.ck;have hvl:(AV k).length=k.d.syms.length:=by unfold AV;rw[W3]
 have z9:=hneg i (X2 _) zo hic;have t8:i<cells.length:=(XR.1 z9).1;have hse:cells.set i (-1)=cells:=by
  refine Z5 λa=>?_
  rw[Yq];split
  ·rename_i q;subst q;exact z9.symm
  ·rfl
 have hidn:=hf.lt hidq;simp only[eZ,seval,W3,lt_F c6,h1,h3,h5,d9,W9 hic];refine AL (λv:VHo=>⟨[(0,true,.int .i64 i),(3,true,.ptr d3 0),(4,true,.ptr d4 0),(40,true,.int .i64 k.d.syms.length),(41,true,.int .i64 v.s)],v.H,v.n⟩) (IHo k x letters cells rest id i j k.d.syms.length n H) (λv=>k.d.syms.length-v.s)
  ⟨0,-1,H,n⟩ rfl ⟨X3 _,hf,X2 _,CX.refl _,by simp only[hse];exact hidq,λb hb=>by simp only[]at hb;omega⟩ ?_
 rintro⟨s,cur,H1,n1⟩ ⟨hs,hf1,l6,hk1,ho1,hno1⟩;simp only at hs hf1 l6 hk1 ho1 hno1;have hH1:=hH.keep ⟨_,hidq⟩ hf hk1;have hl1:(i<(cells.set i cur++rest).length)=True:=W4 (by simp;omega);have g1:((i:Int)<(x.cs.length:Int))=True:=W4 zo;have est:∀z:Int,((cells.set i cur++rest).map eI).set i (.int .i64 z)=((cells.set i z++rest).map eI):=λz=>by
  rw[show(.int .i64 z:Fs)=eI z from rfl,<-List.map_set,Zp _ _ (by rw[YC];exact t8),List.set_set]
 obtain⟨e1',e2',e3',e4',e5',er'⟩:=hH1;by_cases t9:s<k.d.syms.length;case neg=>
  obtain rfl:s=k.d.syms.length:=zo
  have hany:((symI (AV k).length).any λs=>tryP (AV k) x letters j (i+1) (cells.set i s))=false:=by
   rw[Zh];intro z hz;obtain⟨z0,z1⟩:=EG.1 hz;obtain⟨b,rfl⟩:=YM z0;rw[hno1 b zo];decide
  rw[hany];have est1:=est (-1);rw[hse]at est1;simp only[eZ,seval,eY,lt_F t9,e3',ho1,hl1,g1,est1];exact⟨hf1.hset (X2 _) zo,l6,hk1.set,rfl,λ_=>AB ..,_,AB ..⟩
 have e:=AE (k:=s) zo;have y4:(id=d4)=False:=W9 λq=>by rw[q,e4']at ho1;cases ho1
 simp only[eZ,seval,eY,lt_T t9,e3',e4',ho1,hl1,g1,est (s:Int),e1,y4];generalize hH2:AM.hset H1 id (zj.arr 1 ((cells.set i (s:Int)++rest).map eI))=H2;have ho2:hget H2 id=some (.arr 1 ((cells.set i (s:Int)++rest).map eI)):=by rw[<-hH2,AB]
 have m7:AQ H2 n1:=by rw[<-hH2];exact hf1.hset (X2 _) zo
 have l5:CX id n H H2:=by rw[<-hH2];exact hk1.set
 have hC2:ClC k x (cells.set i (s:Int)):=⟨by rw[YC];exact hC.len,λz hz h0=>by
  rcases YX hz with q|q
  ·exact hC.sy z q h0
  ·rw[q];exact⟨zo,zo⟩⟩
 refine(ih (i+1) (cells.set i (s:Int)) H2 n1 rest zo m7 (hH.keep ⟨_,hidq⟩ hf l5) ho2 hC2 λa ha h1 h2=>?_).mono ?_
 ·grind
 rintro o H3 n3 ⟨q1,q2,q3,rfl,q5,q6⟩;have hk3:CX id n H H3:=l5.trans q3 l6;cases hb:tryP (AV k) x letters j (i+1) (cells.set i (s:Int))with
 |true=>
  have hany:((symI (AV k).length).any λs=>tryP (AV k) x letters j (i+1) (cells.set i s))=true:=
   YS.2 ⟨(s:Int),EG.2 ⟨zo,by rw[hvl];omega⟩,hb⟩
  rw[hany];simp only[eZ,seval,retK];exact⟨q1,zo,hk3,rfl,(λq=>by cases q),q6⟩
 |false=>
  rw[hb]at q5;simp only[eZ,seval,retK,e];refine .mk ⟨s+1,(s:Int),H3,n3⟩ rfl ⟨t9,q1,zp,hk3,q5 rfl,λb hb'=>?_⟩ zp;by_cases q:b<s
  ·exact hno1 b q
  ·have hb'':b<s+1:=hb';obtain rfl:b=s:=zo
   exact hb
theorem t_holds(h:RdC k x letters)(d1 d2 d3 d4 d5 rp id cap:Nat)(hcap:x.cs.length<=cap):∀j,HoG k x letters d1 d2 d3 d4 d5 rp id cap j
 |0=>My h d1 d2 d3 d4 d5 rp id cap hcap 0 λj' hj=>zo
 |j+1=>My h d1 d2 d3 d4 d5 rp id cap hcap (j+1) λj' hj=>by
  obtain rfl:j'=j:=zo
  exact t_holds h d1 d2 d3 d4 d5 rp id cap hcap j'
end
abbrev eTe:List (Nat×Bool×Fs):=[(2,true,.ptr 0 0),(3,true,.ptr 1 0),(4,true,.ptr 2 0),(5,true,.ptr 3 0),(23,true,clC 5 4)]
noncomputable abbrev lpTe (l':Nat) (st:LoopState) (pend:Option Code):zj:=.lp ⟨l',st,pend,47,eTe, #[24],LE,LG⟩
structure TeJ(k:zz)(x:jq)(l':Nat)(F:Nat->Prop)(D:List (List Int))(H:AC)(m:Nat):Prop where
 fr:AQ H m
 lm:8<=m
 nF:∀i,F i->i=4\/i=5\/8<=i
 h0:hget H 0=some (.box (AJ k))
 h1:hget H 1=some (.box (Am x))
 h2:hget H 2=some (.box [.bool false])
 h3:hget H 3=some (.box [.int .i64 0])
 hL:hget H 7=some (lpTe l' .ready none)
 ok:∀l∈D,tryP (AV k) x l x.cs.length 0 (begC x l)=false
def TeS(k:zz)(x:jq)(l':Nat)(H:AC)(m:Nat):Prop:=
 hget H 2=some (.box [.bool false])/\hget H 3=some (.box [.int .i64 0])/\hget H 7=some (lpTe l' .done (some .ret))/\FG (AV k) x=false
def Vq{k:zz}{x:jq}{l':Nat}(hR:∀letters∈chs (AV k).length x.ls.length,RdC k x letters):Gen (chs (AV k).length x.ls.length) l' (TeJ k x l') (TeS k x l') where
 fr:=λF D H m h=>h.fr
 frame:=by
  rintro F F' D H H' m m' ⟨fr,lm,nF,h0,h1,h2,h3,hL,ok⟩ hF hH hf hm;have n1:∀i,i<8->i≠4->i≠5->hget H' i=hget H i:=λi a b c=>hH i λq=>by
   rcases hF i q with q|q
   ·have:=nF i q;omega
   ·omega
  exact⟨hf,zo,λi h=>(hF i h).elim (nF i) (λq=>zo),by rw[n1 0 zd zd zd];exact h0,by rw[n1 1 zd zd zd];exact h1,by rw[n1 2 zd zd zd];exact h2,
   by rw[n1 3 zd zd zd];exact h3,by rw[n1 7 zd zd zd];exact hL,ok⟩
 yld:=by
  rintro F D letters H m R ⟨fr,lm,nF,h0,h1,h2,h3,hL,ok⟩ hF hA hRt hRf;refine y20_0 hL rfl (AF AH.tnil (AG ?_));simp only[eE,eN,seval,Rj,renv,YK,YN,Ye,Z2];refine⟨_,hL,rfl,AF AH.tnil (AG ?_)⟩;have hf':AQ (hset H 7 (lpTe l' .busy none)) m:=fr.hset (X2 _) zo;generalize hH1:hset H 7 (lpTe l' .busy none)=H1 at hf'⊢;have k1:∀i,i≠7->hget H1 i=hget H i:=λi hi=>by rw[<-hH1,AA _ _ _ _ hi.symm]
  have hL1:hget H1 7=some (lpTe l' .busy none):=by rw[<-hH1,AB]
  have a0:=(k1 0 zd).trans h0;have a1:=(k1 1 zd).trans h1;have a2:=(k1 2 zd).trans h2;have a3:=(k1 3 zd).trans h3;clear hH1;have hmem:letters∈chs (AV k).length x.ls.length:=by
   obtain⟨t,ht⟩:=hA;rw[<-ht];simp
  have hrd:=hR _ hmem;have b0:=a0;have b1:=a1;simp only[AJ,AD,AI,Xr,Xq]at b0;simp only[Am]at b1;have hX:=hrd.ox;have hxc:=hX.c;have hxl:=hX.l;have hx4:=hX.cs.2.2;rw[<-hrd.ll]at hxl;have hgl:=BG hxl.1 hxl.2;have z:∀j c,j<8->(m+c=j)=False:=λj c hj=>W9 zo
  have z':∀j c,j<8->(j=m+c)=False:=λj c hj=>W9 zo
  have z0:=λc=>z 0 c zd
  have z1:=λc=>z 1 c zd
  have z2:=λc=>z 2 c zd
  have z3:=λc=>z 3 c zd
  have z7:=λc=>z 7 c zd
  have y0:=λc=>z' 0 c zd
  have y1:=λc=>z' 1 c zd
  have w1:((x.cs.length:Int)<=4)=True:=W4 zo;have w2:(0<=x.c)=True:=W4 hxc.1;have w3:(x.c<(x.cs.length:Int))=True:=W4 hxc.2;have w4:(x.c.toNat<4)=True:=W4 zo;have w5:(0<=x.l)=True:=W4 hxl.1;have w6:(x.l<(letters.length:Int))=True:=W4 hxl.2;have w7:(x.l.toNat<letters.length)=True:=W4 zo;have mm:∀a b:Nat,(m+a=m+b)=(a=b):=λa b=>propext ⟨λh=>zo,λh=>zo⟩
  simp only[eZ,seval,xE,eY,Ri,b0,b1,fr1 hf',bsmS,bsmF,z1,mm,w1,w2,w3,w4,w5,w6,hgl,Nat.sub_zero,c4n,i04,AO];have hbeg:([.int .i64 (-1),.int .i64 (-1),.int .i64 (-1),.int .i64 (-1)]:List Fs).set x.c.toNat (eI (at0 letters x.l))=((begC x letters)++List.replicate (4-x.cs.length) (-1)).map eI:=by
   unfold begC;rw[<-Zp _ _ (by rw[Yn];omega),List.replicate_append_replicate,show x.cs.length+(4-x.cs.length)=4 by omega,List.map_set];rfl
  rw[hbeg];generalize hHa:hset _ (m+14) _=Ha;have hfa:AQ Ha (m+15):=by
   rw[<-hHa];refine AQ.hset ?_ (X2 _) zo;refine AQ.hset ?_ (X2 _) zo;refine AQ.hset ?_ (X2 _) zo;refine AQ.hset ?_ (X2 _) zo;refine AQ.hset ?_ (X2 _) zo;exact hf'.hset (m:=m+15) zo zo
  have ka:∀i,i<m->hget Ha i=hget H1 i:=λi hi=>by
   rw[<-hHa];rw[AA _ _ _ _ zo,AA _ _ _ _ zo,AA _ _ _ _ zo,AA _ _ _ _ zo,AA _ _ _ _ zo,AA _ _ _ _ zo]
  have hbl:=E4 x letters;have hidq:hget Ha (m+7)=some (.arr 1 (((begC x letters)++List.replicate (4-x.cs.length) (-1)).map eI)):=by
   rw[<-hHa,AA _ _ _ _ zo,AB]
  have hHC:HoC k x letters 1 (m+5) (m+12) (m+14) 0 (m+4) (m+7) 4 Ha:=by
   refine⟨(ka 1 zo).trans a1,?_,?_,?_,(ka 0 zo).trans a0,.sl .nil [],?_⟩
   ·grind [AA,AB]
   ·grind [AA,AB]
   ·rw[<-hHa,AB]
   ·rw[<-hHa,AA _ _ _ _ zo,AA _ _ _ _ zo,AA _ _ _ _ zo,AA _ _ _ _ zo,AA _ _ _ _ zo,AB];rfl
  have hC:ClC k x (begC x letters):=by
   refine⟨hbl,λs hs h0=>?_⟩;have hb:=Dx hX hmem;unfold begC at hs;rcases YX hs with q|q
   ·rw[List.mem_replicate]at q;omega
   ·grind [AV,List.length_map]
  have hcall:=t_holds hrd 1 (m+5) (m+12) (m+14) 0 (m+4) (m+7) 4 zo x.cs.length 0 (begC x letters) Ha (m+15) (List.replicate (4-x.cs.length) (-1)) zo hfa hHC hidq hC (λa _ h1 h2=>by
   unfold begC;rw[Yq,X0 zo,List.getElem?_replicate,X6 h1])
  rw[c0]at hcall;refine hcall.mono ?_;rintro o H4 n4 ⟨hf4,hn4,hk4,rfl,-,-⟩;have hkeep:∀i,i<m->hget H4 i=hget H1 i:=λi hi=>by
   rw[hk4 i zo zo,ka i hi]
  have c2':=(hkeep 2 zo).trans a2;have c3':=(hkeep 3 zo).trans a3;have c7':=(hkeep 7 zo).trans hL1;cases htr:tryP (AV k) x letters x.cs.length 0 (begC x letters)with
  |true=>
   simp only[eZ,seval,retK,c2',c3'];refine⟨⟨l',.busy,none,47,eTe, #[24],LE,LG⟩,by rw[AA _ _ _ _ zd,AA _ _ _ _ zd];exact c7',hRf _ _ ⟨?_,?_,AB ..,?_⟩⟩
   ·simp_all [AA,AB]
   ·rw[AA _ _ _ _ zd,AB]
   ·grind [FG,List.all_eq_false]
  |false=>
   simp only[eZ,seval,retK];have hF':∀i,F i->i≠7:=λi hi=>by have:=nF i hi;omega
   refine⟨⟨l',.busy,none,47,eTe, #[24],LE,LG⟩,c7',hRt _ _ ⟨hf4.hset (m:=n4) (X2 _) zo,zp,nF,?_,?_,?_,?_,AB ..,λl hl=>?_⟩ (λi hi=>?_) zp⟩
   ·rw[AA _ _ _ _ zd,hkeep 0 zo];exact a0
   ·rw[AA _ _ _ _ zd,hkeep 1 zo];exact a1
   ·rw[AA _ _ _ _ zd];exact c2'
   ·rw[AA _ _ _ _ zd];exact c3'
   ·grind
   ·have:=hF i hi;rw[AA _ _ _ _ (λq=>hF' i hi q.symm),hkeep i zo,k1 i (hF' i hi)]
def ES(k:zz)(x:jq):Fs:=if CK k x≠0 then .tup [.bool false,.int .i64 (CK k x)]else .tup [.bool (FG (AV k) x),.int .i64 0]
def p20(k:zz)(x:jq)(hk:qk k.d)(hx:FewL x):Pur prog 20 [Bj k,encL x] (ES k x):=by
 have u1:dKn.ok (.agg (AJ k))=True:=DJ k;have u2:dKn.dec (.agg (AJ k))=k:=CG k;simp only[AJ,AD,AI,Xr,Xq]at u1 u2;have v1:dX.ok (.agg (Am x))=True:=LX x;have v2:dX.dec (.agg (Am x))=x:=Gi x;simp only[Am]at v1 v2;refine .mk ⟨Ag 0 k,Be 0 x,trivial⟩ ?_ (a20 (AF Uj (AG ?_)))
 ·unfold ES;split<;>exact⟨trivial,trivial,trivial⟩
 unfold ES;by_cases hv:CK k x=0;case neg=>
  simp only[eZ,eX,seval,W8,BI,c20,AJ,AD,AI,S3,s2,u1,u2,v1,v2,W4 hk,W4 hx,W9 hv];exact Wk.refl _
 have hvl:(AV k).length=k.d.syms.length:=by unfold AV;rw[W3]
 simp only[eZ,seval,W6,W3,c20,AJ,AD,AI,S3,s2,u1,u2,v1,v2,W4 hk,W4 hx,W4 hv,AO];rw[hv];have hck:Bg k=0:=by simp_all [CK]<;>omega
 have hsy:=DC hck;generalize hHa:hset _ 3 (zj.box _)=Ha;have fa:AQ Ha 4:=by
  rw[<-hHa];repeat' (first|exact AQ.nil.hset (m:=4) (X3 _) zd|refine AQ.hset ?_ (X2 _) zd)
 have f0:hget Ha 0=some (.box (AJ k)):=by rw[<-hHa];rfl
 have f1:hget Ha 1=some (.box (Am x)):=by rw[<-hHa];rfl
 have f2:hget Ha 2=some (.box [.bool false]):=by rw[<-hHa];rfl
 have f3:hget Ha 3=some (.box [.int .i64 0]):=by rw[<-hHa];rfl
 clear hHa;have t9:x.ls.length<=1000:=by
  have ho:E8 x=true:=by
   unfold CK at hv;rw[X0 (by simpa using hck)]at hv;unfold chk at hv;split at hv
   ·assumption
   ·cases hv
  have:=((Hu x).1 ho).ls.2.2.2;omega
 refine(FJ (M:=k.d.syms.length) (n:=x.ls.length) fa).mono ?_;rintro o H1 n1 ⟨rfl,rfl,rfl⟩;simp only[eE,eN,seval,retK,FO];intro l';generalize hHb:hset (hset (hset Ha 4 _) _ _) _ (zj.lp _)=Hb;have kb:∀i,i<4->hget Hb i=hget Ha i:=λi hi=>by
  rw[<-hHb,AA _ _ _ _ zo,AA _ _ _ _ zo,AA _ _ _ _ zo]
 have e5:hget Hb 5=some (.box [.int .i64 x.ls.length]):=by rw[<-hHb,AA _ _ _ _ zd];exact AB ..
 have e4:hget Hb 4=some (.box [.int .i64 (AV k).length]):=by rw[<-hHb,AA _ _ _ _ zd,AA _ _ _ _ zd,hvl];exact AB ..
 have hJ:TeJ k x l' (λi=>i=4\/i=5) [] Hb 8:=by
  refine⟨?_,X2 _,λi h=>zo,(kb 0 zd).trans f0,(kb 1 zd).trans f1,(kb 2 zd).trans f2,(kb 3 zd).trans f3,by rw[<-hHb];exact AB ..,λl h=>by cases h⟩;rw[<-hHb];exact((fa.hset (m:=8) zd zd).hset (X2 _) zd).hset (X2 _) zd
 have hgen:=Vq (k:=k) (x:=x) (l':=l') (λletters hl=>Mx hk hx hv hl);have hM:(AV k).length<=1000:=zo
 refine(Ln hgen hM t9 hJ (λi h=>zo) (.inr rfl) (.inl rfl) e5 e4).mono ?_;rintro o H' m' ⟨rfl,⟨F',-,hF',hj⟩|⟨s2',s3',sL,hw⟩⟩
 ·obtain⟨fr,lm,nF,h0,h1,h2,h3,hL,ok⟩:=hj;have hsp:FG (AV k) x=true:=by
   unfold FG;rw[X9];intro l hl;rw[ok l hl];rfl
  rw[hsp];simp only[eE,eN,seval,BI,FN,hL,h2,h3];exact Wk.refl _
 ·simp only[eE,eN,seval,BI,FN,sL,s2',s3',hw];exact Wk.refl _
end Go.AM
