/-
  Parts of the proof. Conditions: none.
-/
import Derived.Test.YtncahiacfdihpaaGreatDoorB13
set_option maxRecDepth 20000
set_option linter.all false
namespace Go.AM
open Go.Lib Go.Proofs Go.Proofs.Tryz
section
abbrev B1(k:qw)(x:zj)(letters:List Int)(w:Fs):List Fs:=AH k++(Ab x++[eIs letters,w])
def HH(x:zj)(letters:List Int)(c:Int):Fs:=match ER x c with
 |none=>.tup [.sl .nil [],.bool false]
 |some p=>.tup [eIs (p.ls.map (at0 letters)),.bool true]
def L3(x:zj)(letters:List Int)(c:Int)(n:Nat):(HH x letters c).under n:=by
 unfold HH;split
 ·exact⟨⟨trivial,trivial⟩,trivial,trivial⟩
 ·exact⟨AQ n _,trivial,trivial⟩
structure VPm where
 i:Nat
 H:AC
 n:Nat
structure VPl where
 j:Nat
 tk:jx
 H:AC
 n:Nat
structure IPm(H0:AC)(n0:Nat)(x:zj)(c:Int)(v:VPm):Prop where
 hi:v.i<=x.ps.length
 fr:AR v.H v.n
 hn:n0<=v.n
 kp:CE H0 v.H
 he:ER x c=(x.ps.drop v.i).find? λp=>decide (p.c=c)
structure IPl(H0:AC)(n0:Nat)(p:Prm)(letters:List Int)(v:VPl):Prop where
 hj:v.j<=p.ls.length
 fr:AR v.H v.n
 hn:n0<=v.n
 kp:CE H0 v.H
 tok:tkG 1 n0 v.H v.tk
 es:v.tk.esz=1\/(p.ls.take v.j).map (at0 letters)=[]
variable {H:AC} {k:qw} {letters cells vals:List Int} {x:zj} {n rp:Nat} {p:Prm}
theorem Oa{H0:AC}{n0 e:Nat}{tk:jx}(hf:AR H0 n0)(h:tkG e n0 H tk)(hk:CE H0 H):CE H0 (AO H tk):=λid ob h0=>by
 rw[AX h (.inl (hf.lt h0))];exact hk id ob h0
theorem t_prem{w:Fs}(c:Int)(hf:AR H n)(hq:hget H rp=some (.box (B1 k x letters w)))(hps:few x.ps)(s5:∀p∈x.ps,few p.ls/\∀c∈p.ls,0<=c/\c<(letters.length:Int)):
  AP prog 81 [.ptr rp 0,.int .i64 c] H n (QRet H (HH x letters c)):=by
 have hpsl:x.ps.length<1000000000:=hps;have hq0:=hq;simp only[B1,AH,AD,AI,Ab,Y7,Y5]at hq;refine c81.a (AF AJ.tnil (AG ?_));simp only[eE,eN,seval,X0,c81,hq];refine AL (λv:VPm=>⟨[(0,true,.ptr rp 0),(1,true,.int .i64 c),(4,true,.sl .nil []),(14,true,.sl (.none 2) (x.ps.map encM)),(15,true,.int .i64 x.ps.length),(16,true,.int .i64 v.i)],v.H,v.n⟩) (IPm H n x c) (λv=>x.ps.length-v.i)
  ⟨0,H,n⟩ rfl ⟨Xn _,hf,X9 _,CE.refl _,rfl⟩ ?_
 rintro⟨i,H1,n1⟩ ⟨hi,hf1,l5,hk1,he⟩;simp only at hi hf1 l5 hk1 he;by_cases c5:i<x.ps.length;case neg=>
  obtain rfl:i=x.ps.length:=zo
  rw[Yj]at he;simp only[eZ,seval,lt_F c5];unfold HH;rw[he];exact⟨Wk.refl _,hk1⟩
 have hg:=X2 c5;have e:=AE (k:=i) zo;obtain⟨hpf,hpi⟩:=s5 _ (Xt c5);rw[Y2 c5]at he;generalize x.ps[i]=p at hg hpf hpi he;have k9:∀{ob:zx} {j:Nat},n1<=j->CE H (hset H1 j ob):=λhj=>hk1.new hf zo
 by_cases hc:p.c=c;case neg=>
  rw[List.find?_cons_of_neg (by simpa using hc)]at he;simp only[eZ,seval,eY,lt_T c5,hg,fr1 hf1,AN,X7 hc,e];exact .mk ⟨i+1,hset H1 (n1+2) (.box [.int .i64 p.c,eIs p.ls]),n1+4⟩ rfl ⟨c5,hf1.hset (m:=n1+4) zo zo,zp,k9 zo,he⟩ zp
 rw[List.find?_cons_of_pos (by simpa using hc)]at he;have hpl':p.ls.length<1000000000:=hpf;simp only[eZ,seval,eY,lt_T c5,hg,fr1 hf1,AN,X1 hc];refine AL (λv:VPl=>⟨[(0,true,.ptr rp 0),(4,true,.sl v.tk (((p.ls.take v.j).map (at0 letters)).map eI)),(25,true,eIs p.ls),(26,true,.int .i64 p.ls.length),(27,true,.int .i64 v.j)],v.H,v.n⟩) (IPl H n p letters) (λv=>p.ls.length-v.j)
  ⟨0,.nil,hset H1 (n1+2) (.box [.int .i64 p.c,eIs p.ls]),n1+4⟩ rfl ⟨Xn _,hf1.hset (m:=n1+4) zo zo,zp,k9 zo,.inl rfl,.inr rfl⟩ ?_
 rintro⟨j,tk,H2,n2⟩ ⟨hj,m6,hn2,hk2',c8,d7⟩;simp only at hj m6 hn2 hk2' c8 d7;by_cases hlj:j<p.ls.length;case neg=>
  obtain rfl:j=p.ls.length:=zo
  rw[Xu]at d7;simp only[eZ,seval,lt_F hlj];rw[Xu];unfold HH;rw[he];exact⟨Wk.tup (.cons (Wk.sl (d7.imp id λq=>by rw[q];rfl)) (.cons (Wk.refl _) .nil)),hk2'⟩
 have hg:=X2 hlj;have e:=AE (k:=j) zo;have hci:=hpi _ (Xt hlj);have htake:p.ls.take (j+1)=p.ls.take j++[p.ls[j]]:=by rw[Xx,hg];rfl
 generalize p.ls[j]=y at hg hci htake;have hgx:=BI hci.1 hci.2;have hX:((p.ls.take j).map (at0 letters)).length<=j:=by simp;omega
 have q1:A8 H2 1 tk=True:=X1 c8.app;have q2:(((p.ls.take j).map (at0 letters)).length<=35184372088831)=True:=X1 zo;have q3:Aj (((p.ls.take j).map (at0 letters)).length+1) 8=True:=X1 (AY zo zd);have hrp:=hk2' _ _ hq;generalize hXd:(p.ls.take j).map (at0 letters)=X at hX q2 q3 d7;simp only[eZ,seval,eY,lt_T hlj,hg,hrp,X1 hci.1,X1 hci.2,hgx,q1,q2,q3,fr1 m6,e];refine .mk ⟨j+1,.own (n2+9) 1,hset (AO H2 tk) (n2+9) .tok,n2+11⟩ ?_ ⟨hlj,(AU c8 m6).hset (m:=n2+11) zo zo,zp,CE.new hf zo (Oa hf c8 hk2'),.inr (.inr ⟨n2+9,rfl,zo,AB ..⟩),.inl rfl⟩ zp;simp only[htake,Xr,Y8,Ye,hXd]
theorem q_prem{w:Fs}(c:Int)(hq:hget H rp=some (.box (B1 k x letters w)))(hps:few x.ps)(s5:∀p∈x.ps,few p.ls/\∀c∈p.ls,0<=c/\c<(letters.length:Int)):
  Al prog 81 [.ptr rp 0,.int .i64 c] H n (HH x letters c):=
 Al.of c81.l (L3 x letters c n) λhf=>t_prem c hf hq hps s5
structure RdC(k:qw)(x:zj)(letters:List Int):Prop where
 ck:Bl k=0
 fd:qv k.d
 fx:jk x
 ox:OKL x
 ll:letters.length=x.ls.length
structure ClC(k:qw)(x:zj)(cells:List Int):Prop where
 len:cells.length=x.cs.length
 sy:∀s∈cells,0<=s->okSy k s
def RdAt(H:AC)(rp:Nat)(k:qw)(x:zj)(letters:List Int):Prop:=∃w,hget H rp=some (.box (B1 k x letters w))
theorem Ob(h:Bl k=0):∀y∈k.d.syms,0<=y.v/\y.v<=99:=by
 have h1:G9 k=true:=by
  unfold Bl at h;split at h
  ·assumption
  ·cases h
 obtain⟨x,cells,-,h3,-,h4⟩:=JP (Mz h1);have h5:k.d=x:=by rw[h4];rfl
 rw[<-h5]at h3;have h6:=(UR.1 h3).1.form;unfold Bg at h6;simp only[X4,Xv,X8]at h6;intro y hy;exact h6.1.1.1 y hy
theorem Jb(h:RdC k x letters):∀p∈x.ps,few p.ls/\∀c∈p.ls,0<=c/\c<(letters.length:Int):=by
 intro p hp;refine⟨h.fx.p p hp,λc hc=>?_⟩;have:=Xv.1 (Fc (h.ox.ps p hp).1) c hc;simp only[X4,X8]at this;rw[h.ll];exact this
theorem KX(h:OKL x)(hp:p∈x.ps):0<=p.c/\p.c<(x.cs.length:Int):=by
 have:=Xv.1 (Fc h.pc) p.c (Yo.2 ⟨p,hp,rfl⟩);simpa only[X4,X8]using this
theorem Jc{ps:List Prm}(h:BD (ps.map (·.c))=true)(hp:p∈ps):ps.find? (λq=>decide (q.c=p.c))=some p:=by
 induction ps with
 |nil=>cases hp
 |cons q ps ih=>
  rw[Y8,BD,X4]at h;rcases Yf.1 hp with rfl|hp
  ·rw[List.find?_cons_of_pos zw]
  ·grind
theorem HI(h:OKL x)(hp:p∈x.ps):ER x p.c=some p:=by
 have:=h.pc;unfold difI at this;rw[X4]at this;exact Jc this.2 hp
theorem Dk{α:Type}[DecidableEq α]:∀{l:List α},BD l=true->l.Nodup
 |[],_=>aL
 |x::r,h=>by
  rw[BD,X4]at h;refine Zn.2 ⟨λhx=>?_,Dk h.2⟩;have h1:=h.1;simp only[YD,aj,X8]at h1;exact h1 x hx rfl
theorem WA{l:List Int}(h:difI l n=true):l.length<=n:=by
 have h1:=Fc h;unfold difI at h;rw[X4]at h;have:=HD (b:=symI n) (Dk h.2) λc hc=>by
  have:=Xv.1 h1 c hc;simp only[X4,X8]at this;exact Cp.2 this
 unfold symI at this;simpa using this
theorem cl_ok(h:RdC k x letters)(hc:ClC k x cells){q:Cnd}(hq:q∈x.qs):ClOK k q letters cells:=by
 have h1:=SE (h.ox.qs q hq);have hf:=h.fx.q q hq;have t5:=h.ox.cs.2.2.2;refine⟨by rcases h1.kind with h|h|h|h|h<;>omega,?_,hf.1,λc hcc=>?_,hf.2,λc hcc=>?_,hc.sy,Ob h.ck⟩
 ·have:=WA h1.cs;rcases h1.kind with h|h|h|h|h<;>omega
 ·have:=Xv.1 (Fc h1.cs) c hcc;simp only[X4,X8]at this;rw[hc.len];exact this
 ·have:=Xv.1 (Fc h1.ls) c hcc;simp only[X4,X8]at this;rw[h.ll];exact this
theorem M7{i:Int}(h:i<0):Ba vals x letters cells i=false:=by unfold Ba;rw[Xp h]
theorem M8{a:Nat}(h:x.qs.length+x.ps.length<=a):Ba vals x letters cells (a:Int)=false:=by simp_all [Ba,IJ,Xo]
theorem Uy{a:Nat}{q:Cnd}(h:x.qs[a]?=some q):Ba vals x letters cells (a:Int)=F8 vals q letters cells:=by
 unfold Ba IJ;have:=(YB.1 h).1;rw[X6 zo,Xo,YC (by simpa using this),Xw,h];rfl
theorem Uz{b:Nat}(h:x.ps[b]?=some p):Ba vals x letters cells ((x.qs.length+b:Nat):Int)=F9 p letters cells:=by
 unfold Ba IJ;rw[X6 zo,Xo,YF zw,X0,Nat.add_sub_cancel_left,Xw,h];rfl
def KY(k:qw):List Fs->AC->Prop×Fs:=λa H=>match a with
 |[K,Q,.sl t L,av]=>(dKn.ok K/\dKn.dec K=k/\dQ.ok Q/\dIs.ok (.sl t L)/\RdI H av (rdL H av)/\ClOK k (dQ.dec Q) (L.map toI) (rdL H av),.bool (F8 (AT k) (dQ.dec Q) (L.map toI) (rdL H av)))
 |_=>(False,.tup [])
theorem WB(k:qw):∀args H n,(KY k args H).1->Al prog 41 args H n (KY k args H).2:=by
 intro args H m hh;unfold KY at hh⊢;split at hh
 ·obtain⟨h1,h2,h3,h4,h5,h6⟩:=hh;have w1:=dKn.wk _ h1;rw[h2]at w1;exact(p41 k _ _ _ h6).view trivial (.cons (.wk w1) (.cons (.wk (dQ.wk _ h3)) (.cons (.wk (dIs.wk _ h4)) (.cons (Qb h5) .nil)))) m
 ·exact hh.elim
def IP(k:qw)(x:zj)(letters:List Int):List Fs->AC->Prop×Fs:=λa H=>match a with
 |[.ptr rp 0,.int .i64 c]=>(RdAt H rp k x letters,HH x letters c)
 |_=>(False,.tup [])
theorem rowPmq(h:RdC k x letters):∀args H n,(IP k x letters args H).1->Al prog 81 args H n (IP k x letters args H).2:=by
 intro args H m hh;unfold IP at hh⊢;split at hh
 ·obtain⟨w,hw⟩:=hh;exact q_prem _ hw h.fx.ps (Jb h)
 ·exact hh.elim
def Tcp(k:qw)(x:zj)(letters:List Int):Tab:=tadd 41 (KY k) (tadd 81 (IP k x letters) (tadd 36 DK tnil))
theorem U0(h:RdC k x letters):AJ prog (Tcp k x letters):=((AJ.tnil.add Qd).add (rowPmq h)).add (WB k)
theorem t_comp{av:Fs}(at':Int)(h:RdC k x letters)(hc:ClC k x cells)(hr:RdAt H rp k x letters)(hv:RdI H av cells):
  AP prog 50 [.ptr rp 0,.int .i64 at',av] H n (QRet H (.bool (Ba (AT k) x letters cells at'))):=by
 have hr0:=hr;obtain⟨w,hq⟩:=hr;simp only[B1,AH,AD,AI,Ab,Y7,Y5]at hq;have hnq:x.qs.length<1000000000:=h.fx.qs;have hnp:x.ps.length<1000000000:=h.fx.ps;have hw1:IntKind.wrap .i64 ((x.qs.length:Int)+(x.ps.length:Int))=((x.qs.length+x.ps.length:Nat):Int):=by rw[Aq zo zo];omega
 have u1:dKn.ok (.agg (AH k))=True:=CC k;have u2:dKn.dec (.agg (AH k))=k:=BP k;simp only[AH,AD,AI,Y7,Y5]at u1 u2;have o8:dIs.ok (eIs letters):=(Ac letters).mpr trivial;refine c50.a (AF (U0 h) (AG ?_));by_cases h0:at'<0
 ·rw[M7 h0];simp only[eZ,seval,X3,X0,c50,hq,X1 h0];exact CE.refl _
 obtain⟨a,rfl⟩:=Za (Int.not_lt.1 h0);by_cases h1:x.qs.length+x.ps.length<=a
 ·rw[M8 h1];have h1':((x.qs.length+x.ps.length:Nat):Int)<=(a:Int):=zo
  simp only[eZ,seval,X0,c50,hq,X7 h0,hw1,X1 h1'];exact CE.refl _
 have h1':¬((x.qs.length+x.ps.length:Nat):Int)<=(a:Int):=zo
 by_cases h2:a<x.qs.length
 ·have hg:=X2 h2;have o6:=cl_ok h hc (Xt h2);generalize x.qs[a]=q at hg o6;have hql:dQ.ok (.agg [.int .i64 q.k,eIs q.cs,eIs q.ls,.int .i64 q.n])=True:=Sj q;have hqd:dQ.dec (.agg [.int .i64 q.k,eIs q.cs,eIs q.ls,.int .i64 q.n])=q:=Lk q;rw[Uy hg];simp only[eZ,seval,eY,c50,hq,X7 h0,hw1,X7 h1',lt_T h2,hg,Tcp,KY,u1,u2,Au,hql,hqd,Ly hv,X1 hv,X1 o6,X1 o8,tadd];exact CE.refl _
 obtain⟨b,rfl⟩:∃b,a=x.qs.length+b:=⟨a-x.qs.length,zo⟩;have hb:b<x.ps.length:=zo
 have hg:=X2 hb;have hmem:=Xt hb;generalize x.ps[b]=p at hg hmem;rw[Uz hg];have hw2:IntKind.wrap .i64 (((x.qs.length+b:Nat):Int)-(x.qs.length:Int))=(b:Int):=by rw[Aq zo zo];omega
 have hpv:HH x letters p.c= .tup [eIs (p.ls.map (at0 letters)),.bool true]:=by unfold HH;rw[HI h.ox hmem]
 have hpc:=KX h.ox hmem;rw[<-hc.len]at hpc;have hgc:=BI hpc.1 hpc.2;have hfl:few (p.ls.map (at0 letters)):=by show(p.ls.map _).length<_;rw[X0];exact h.fx.p p hmem
 have hrd:RdI H (eIs (p.ls.map (at0 letters))) (p.ls.map (at0 letters)):=.inl ⟨_,rfl,.inl rfl⟩;have hd:F9 p letters cells=(decide (0<=at0 cells p.c)&& !(p.ls.map (at0 letters)).contains (at0 cells p.c)):=rfl;rw[hd];generalize p.ls.map (at0 letters)=L at hpv hfl hrd;generalize at0 cells p.c=s at hgc;have l6:p.c.toNat<cells.length:=zo
 have r1:=Ly hrd;rcases hv with⟨t,rfl,ht⟩|⟨id,cap,rest,rfl,ha,hcap⟩
 ·have ht':(t.esz=1)=True:=X1 (ht.resolve_right λe=>by rw[e]at l6;simp at l6);by_cases hs:0<=s
  ·simp only[eZ,seval,eY,c50,hq,X7 h0,hw1,X7 h1',lt_F h2,lt_T hb,hg,hw2,Tcp,IP,DK,X1 hr0,hpv,X1 hpc.1,X1 hpc.2,hgc,ht',X1 hs,r1,X1 hrd,X1 hfl,tadd];exact CE.refl _
  ·simp only[eZ,seval,eY,c50,hq,X7 h0,hw1,X7 h1',lt_F h2,lt_T hb,hg,hw2,Tcp,IP,DK,X1 hr0,hpv,X1 hpc.1,X1 hpc.2,hgc,ht',X7 hs,r1,X1 hrd,X1 hfl,tadd];exact CE.refl _
 ·have hga:(cells++rest)[p.c.toNat]?=some s:=by rw[YC l6];exact hgc
  have hla:(p.c.toNat<(cells++rest).length)=True:=X1 (by simp;omega);by_cases hs:0<=s
  ·simp only[eZ,seval,eY,c50,hq,X7 h0,hw1,X7 h1',lt_F h2,lt_T hb,hg,hw2,Tcp,IP,DK,X1 hr0,hpv,X1 hpc.1,X1 hpc.2,ha,hga,hla,X1 hs,r1,X1 hrd,X1 hfl,tadd];exact CE.refl _
  ·simp only[eZ,seval,eY,c50,hq,X7 h0,hw1,X7 h1',lt_F h2,lt_T hb,hg,hw2,Tcp,IP,DK,X1 hr0,hpv,X1 hpc.1,X1 hpc.2,ha,hga,hla,X7 hs,r1,X1 hrd,X1 hfl,tadd];exact CE.refl _
theorem q_comp{av:Fs}(at':Int)(h:RdC k x letters)(hc:ClC k x cells)(hr:RdAt H rp k x letters)(hv:RdI H av cells):
  Al prog 50 [.ptr rp 0,.int .i64 at',av] H n (.bool (Ba (AT k) x letters cells at')):=
 Al.of c50.l trivial λ_=>t_comp at' h hc hr hv
end
section
abbrev encC(c:jj):Fs:=.agg [.int .i64 c.k,.int .i64 c.a]
abbrev eCs(l:List jj):Fs:=.sl (.none 2) (l.map encC)
def CZ(rp n:Nat)(H H':AC):Prop:=∀i,i<n->i≠rp->hget H' i=hget H i
variable {H H':AC} {k:qw} {letters:List Int} {x:zj} {rp n:Nat}
theorem CZ.refl(H:AC):CZ rp n H H:=λ_ _ _=>rfl
theorem CZ.trans{n':Nat}{H'':AC}(h:CZ rp n H H')(k:CZ rp n' H' H'')(hn:n<=n'):CZ rp n H H'':=λi hi hr=>(k i zo hr).trans (h i hi hr)
theorem CZ.new{j:Nat}{ob:zx}(h:CZ rp n H H')(hj:n<=j):CZ rp n H (hset H' j ob):=λi hi hr=>by
 rw[AA _ _ _ _ zo];exact h i hi hr
theorem CZ.set{ob:zx}(h:CZ rp n H H'):CZ rp n H (hset H' rp ob):=λi hi hr=>by
 rw[AA _ _ _ _ (Ne.symm hr)];exact h i hi hr
def WC(rp:Nat)(k:qw)(x:zj)(letters:List Int)(H:AC)(n:Nat)(r:Option (List jj)):jq->AC->Nat->Prop:=λo H' n'=>
 AR H' n'/\n<=n'/\CZ rp n H H'/\match r with
  |some l=>o= .ret (.bool true)/\hget H' rp=some (.box (B1 k x letters (eCs l)))
  |none=>o= .ret (.bool false)
def KZ(k:qw)(x:zj)(letters:List Int):List Fs->AC->Prop×Fs:=λa H=>match a with
 |[.ptr rp 0,.int .i64 c,av]=>(RdAt H rp k x letters/\RdI H av (rdL H av)/\ClC k x (rdL H av),.bool (Ba (AT k) x letters (rdL H av) c))
 |_=>(False,.tup [])
theorem rowCmq(h:RdC k x letters):∀args H n,(KZ k x letters args H).1->Al prog 50 args H n (KZ k x letters args H).2:=by
 intro args H m hh;unfold KZ at hh⊢;split at hh
 ·exact q_comp _ h hh.2.2 hh.1 hh.2.1
 ·exact hh.elim
def Ttr(k:qw)(x:zj)(letters:List Int):Tab:=tadd 50 (KZ k x letters) (Tcp k x letters)
theorem U1(h:RdC k x letters):AJ prog (Ttr k x letters):=(U0 h).add (rowCmq h)
theorem Ttr_m(k:qw)(x:zj)(letters:List Int)(a:List Fs)(H:AC):Ttr k x letters 50 a H=KZ k x letters a H:=rfl
theorem Ttr_p(k:qw)(x:zj)(letters:List Int)(a:List Fs)(H:AC):Ttr k x letters 81 a H=IP k x letters a H:=rfl
theorem WD(k:qw)(x:zj)(letters:List Int)(a:List Fs)(H:AC):Ttr k x letters 36 a H=DK a H:=rfl
def conB(x:zj)(letters:List Int)(c s:Int):Bool:=match ER x c with
 |none=>true
 |some p=>(p.ls.map (at0 letters)).contains s
theorem HJ(m:Nat)(x:zj)(letters:List Int)(c:Int):ES m x letters c=(symI m).filter (conB x letters c):=by
 unfold ES conB;cases ER x c with
 |none=>exact(ZK.2 λ_ _=>rfl).symm
 |some p=>rfl
theorem Qg{F:Int->List jj->Option (List jj)}(hF:∀s l r,F s l=some r->r.length<=l.length):∀(ss:List Int) (l r:List jj),seqT F ss l=some r->r.length<=l.length
 |[],l,r,h=>by rw[seqT]at h;cases h;exact X9 _
 |s::ss,l,r,h=>by
  rw[seqT]at h;obtain⟨l1,h1,h2⟩:=Option.bind_eq_some_iff.1 h;exact Yi (Qg hF ss l1 r h2) (hF s l l1 h1)
theorem M9{vals:List Int}:∀(f:Nat) (cells:List Int) (l r:List jj),CH vals x letters f cells l=some r->r.length<=l.length
 |_,_,[],r,h=>by rw[CH]at h;cases h
 |0,cells,n::l,r,h=>by
  rw[CH]at h;split at h
  ·split at h
   ·cases h;simp
   ·cases h
  ·split at h<;>cases h
 |f+1,cells,n::l,r,h=>by
  rw[CH]at h;split at h
  ·split at h
   ·cases h;simp
   ·cases h
  ·split at h
   ·have:=Qg (λs l r=>M9 f (cells.set n.a.toNat s) l r) _ _ _ h;simp;omega
   ·cases h
theorem Qh(h:RdC k x letters)(c:Int):∃L ok t,HH x letters c= .tup [.sl t (L.map eI),.bool ok]/\(t.esz=1\/L=[])/\few L/\∀s,conB x letters c s=(!ok||L.contains s):=by
 unfold HH conB;cases hp:ER x c with
 |none=>exact⟨[],false,.nil,rfl,.inr rfl,(by show(0:Nat)<_;decide),λs=>rfl⟩
 |some p=>
  refine⟨p.ls.map (at0 letters),true,.none 1,rfl,.inl rfl,?_,λs=>rfl⟩;show(p.ls.map _).length<_;rw[X0];exact h.fx.p p (List.mem_of_find?_eq_some hp)
theorem con_f{ok b:Bool}(h:false=(!ok||b)):ok=true/\b=false:=by cases ok<;>cases b<;>simp at h⊢
theorem con_t{ok b:Bool}(h:true=(!ok||b)):ok=false\/ok=true/\b=true:=by cases ok<;>cases b<;>simp at h⊢
theorem TM{m i:Nat}(h:i<m):(symI m).drop i=(i:Int)::(symI m).drop (i+1):=by
 unfold symI;rw[<-List.map_drop,<-List.map_drop,Y2 (by simpa using h)];simp
structure VTr where
 i:Nat
 l:List jj
 H:AC
 n:Nat
structure ITr(rp:Nat)(k:qw)(x:zj)(letters:List Int)(F:Int->List jj->Option (List jj))(p:Int->Bool)(R:Option (List jj))(H0:AC)(n0:Nat)(v:VTr):Prop where
 hi:v.i<=k.d.syms.length
 fr:AR v.H v.n
 hn:n0<=v.n
 kp:CZ rp n0 H0 v.H
 hr:hget v.H rp=some (.box (B1 k x letters (eCs v.l)))
 he:R=seqT F (((symI k.d.syms.length).drop v.i).filter p) v.l
 hl:v.l.length<1000000000
theorem Qi(h:RdC k x letters)(rp:Nat)(f:Nat)(cells:List Int)
  (ih:∀(cells':List Int) (l:List jj) (H:AC) (n id cap:Nat) (rest:List Int),AR H n->hget H rp=some (.box (B1 k x letters (eCs l)))->hget H id=some (.arr 1 ((cells'++rest).map eI))->cells'.length<=cap->ClC k x cells'->negs cells'+1=negs cells->l.length<1000000000->
   AP prog 46 [.ptr rp 0,.ref id 1 0 cells'.length cap] H n (WC rp k x letters H n (CH (AT k) x letters f cells' l)))
  (l:List jj) (H:AC) (n id cap:Nat) (rest:List Int) (hf:AR H n) (hrp:hget H rp=some (.box (B1 k x letters (eCs l)))) (hidq:hget H id=some (.arr 1 ((cells++rest).map eI))) (hcap:cells.length<=cap) (hC:ClC k x cells) (hl:l.length<1000000000):
  AP prog 46 [.ptr rp 0,.ref id 1 0 cells.length cap] H n (WC rp k x letters H n (CH (AT k) x letters (f+1) cells l)):=by
 have hq:=hrp;simp only[B1,AH,AD,AI,Ab,Y7,Y5]at hq;refine c46.a (AF (U1 h) (AG ?_));cases l with
 |nil=>
  simp only[eZ,seval,c0,c46,hq];exact⟨hf,X9 _,CZ.refl _,by rw[CH]⟩
 |cons c l=>
 have g1:(((l.length+1:Nat):Int)=0)=False:=cS0;have g2:(n+6=rp)=False:=X7 (by have:=hf.lt hrp;omega);have g3:(rp=n+6)=False:=X7 (by have:=hf.lt hrp;omega);have g4:((1:Int)<=((l.length+1:Nat):Int))=True:=X1 zo;have hck:CH (AT k) x letters (f+1) cells (c::l)=if c.k=Gk then(if Ba (AT k) x letters cells c.a then some l else none)
  else if c.k=JL/\0<=c.a/\c.a<cells.length/\at0 cells c.a<0 then seqT (λs l=>CH (AT k) x letters f (cells.set c.a.toNat s) l) (ES (AT k).length x letters c.a) l else none:=by rw[CH]
 rw[hck];clear hck;have g5:((0:Int)<((l.length+1:Nat):Int))=True:=X1 zo;have htl:List.take l.length (l.map encC)=l.map encC:=Yr zw;have hrpn:=hf.lt hrp;have hidn:=hf.lt hidq;have d8:rp≠id:=λe=>by rw[e,hidq]at hrp;cases hrp
 obtain⟨H2,hH2⟩:∃H2,hset (hset H (n+6) (.box [.int .i64 c.k,.int .i64 c.a])) rp (.box (B1 k x letters (eCs l)))=H2:=⟨_,rfl⟩;have m6:AR H2 (n+8):=by rw[<-hH2];exact(hf.hset (m:=n+8) zo zo).hset (X9 _) zo
 have hrp2:hget H2 rp=some (.box (B1 k x letters (eCs l))):=by rw[<-hH2,AB]
 have hid2:hget H2 id=some (.arr 1 ((cells++rest).map eI)):=by rw[<-hH2,AA _ _ _ _ d8,AA _ _ _ _ zo];exact hidq
 have hnb2:hget H2 (n+6)=some (.box [.int .i64 c.k,.int .i64 c.a]):=by rw[<-hH2,AA _ _ _ _ zo,AB]
 have hkb2:CZ rp n H H2:=by rw[<-hH2];exact((CZ.refl H).new zo).set
 have hRd2:RdAt H2 rp k x letters:=⟨_,hrp2⟩;have hRI2:RdI H2 (.ref id 1 0 cells.length cap) cells:=.inr ⟨id,cap,rest,rfl,hid2,hcap⟩;have hrd:=Ly hRI2;simp only[B1,AH,AD,AI,Ab,Y7,Y5]at hH2;by_cases k9:c.k=2
 ·have hz:c.k=Gk:=k9;rw[Xp hz];simp only[eZ,seval,eY,c46,hq,g1,g2,g4,g5,htl,fr1 hf,AN,hH2,hnb2,X1 k9,Ttr_m,KZ,hrd,X1 hRI2,X1 hRd2,X1 hC];refine⟨m6,zo,hkb2,?_⟩;cases hcm:Ba (AT k) x letters cells c.a with
  |true=>exact⟨rfl,hrp2⟩
  |false=>rfl
 have hk2':¬c.k=Gk:=k9;rw[X6 hk2'];by_cases hk1:c.k=1;case neg=>
  have hk1':¬(c.k=JL/\0<=c.a/\c.a<cells.length/\at0 cells c.a<0):=λq=>hk1 q.1
  rw[X6 hk1'];simp only[eZ,seval,eY,c46,hq,g1,g2,g4,g5,htl,fr1 hf,AN,hH2,hnb2,X7 k9,X7 hk1];exact⟨m6,zo,hkb2,rfl⟩
 by_cases ha0:c.a<0
 ·rw[X6 zo];simp only[eZ,seval,X3,eY,c46,hq,g1,g2,g4,g5,htl,fr1 hf,AN,hH2,hnb2,X7 k9,X1 hk1,X1 ha0];exact⟨m6,zo,hkb2,rfl⟩
 by_cases m5:(cells.length:Int)<=c.a
 ·rw[X6 zo];simp only[eZ,seval,X3,eY,c46,hq,g1,g2,g4,g5,htl,fr1 hf,AN,hH2,hnb2,X7 k9,X1 hk1,X7 ha0,X1 m5];exact⟨m6,zo,hkb2,rfl⟩
 obtain⟨a,ha⟩:=Za (Int.not_lt.1 ha0);have hal':a<cells.length:=zo
 have hgc:cells[a]?=some (at0 cells c.a):=by have:=BI (l:=cells) (i:=c.a) zo zo;rwa[show c.a.toNat=a by omega]at this
 have hga:(cells++rest)[a]?=some (at0 cells c.a):=by rw[YC hal'];exact hgc
 have hla:(a<(cells++rest).length)=True:=X1 (by simp;omega);have x0:c.a.toNat=a:=zo
 rw[x0];generalize hs:at0 cells c.a=s at hgc hga;have b0:(0<=c.a)=True:=X1 zo;have b1:(c.a<(cells.length:Int))=True:=X1 zo;by_cases hs0:0<=s
 ·rw[X6 zo];simp only[eZ,seval,eY,c46,hq,g1,g2,g4,g5,htl,fr1 hf,AN,hH2,hnb2,X7 k9,X1 hk1,X7 ha0,X7 m5,hid2,x0,hga,hla,b0,b1,X1 hs0];exact⟨m6,zo,hkb2,rfl⟩
 rw[Xp ⟨hk1,zo,zo,zo⟩];obtain⟨L,ok,t,hpv,hLt,hLf,hcon⟩:=Qh h c.a;have hq2:=hrp2;simp only[B1,AH,AD,AI,Ab,Y7,Y5]at hq2;have hvl:(AT k).length=k.d.syms.length:=by unfold AT;rw[X0]
 have hsy:=Bc h.ck;rw[HJ,hvl];simp only[eZ,seval,eY,c46,hq,g1,g2,g4,g5,htl,fr1 hf,AN,hH2,hnb2,hq2,X7 k9,X1 hk1,X7 ha0,X7 m5,hid2,x0,hga,hla,b0,b1,X7 hs0,Ttr_p,IP,X1 hRd2,hpv];refine AL (λv:VTr=>⟨[(0,true,.ptr rp 0),(1,true,.ref id 1 0 cells.length cap),(5,true,.ptr (n+6) 0),(6,true,.sl t (L.map eI)),(7,true,.bool ok),(72,true,.int .i64 k.d.syms.length),(73,true,.int .i64 v.i)],v.H,v.n⟩)
  (ITr rp k x letters (λs l=>CH (AT k) x letters f (cells.set a s) l) (conB x letters c.a) (seqT (λs l=>CH (AT k) x letters f (cells.set a s) l) ((symI k.d.syms.length).filter (conB x letters c.a)) l) H2 (n+8)) (λv=>k.d.syms.length-v.i)
  ⟨0,l,H2,n+8⟩ rfl ⟨Xn _,m6,X9 _,CZ.refl _,hrp2,rfl,by simp only[Y4]at hl;simp only[];omega⟩ ?_
 rintro⟨i,l1,H1,n1⟩ ⟨hi,hf1,l5,hk,hr1,he,hl1⟩;simp only at hi hf1 l5 hk hr1 he hl1;rw[he];by_cases c5:i<k.d.syms.length;case neg=>
  obtain rfl:i=k.d.syms.length:=zo
  rw[ZA (by unfold symI;simp)];simp only[eZ,seval,lt_F c5];exact⟨hf1,zo,hkb2.trans hk zo,rfl,hr1⟩
 have e:=AE (k:=i) zo;have hd:=TM c5;have hci:=hcon (i:Int);have hid1:hget H1 id=some (.arr 1 ((cells++rest).map eI)):=(hk id zo (Ne.symm d8)).trans hid2;have hnb1:hget H1 (n+6)=some (.box [.int .i64 c.k,.int .i64 c.a]):=(hk (n+6) zo zo).trans hnb2;have hRI1:RdI H1 (.ref id 1 0 cells.length cap) cells:=.inr ⟨id,cap,rest,rfl,hid1,hcap⟩;have hRL:RdI H1 (.sl t (L.map eI)) L:=.inl ⟨t,rfl,hLt⟩;have r1:=Ly hRL;by_cases m9:conB x letters c.a (i:Int)=true;case neg=>
  have hcb':conB x letters c.a (i:Int)=false:=by simpa using m9
  rw[hd,List.filter_cons_of_neg m9];rw[hcb']at hci;have h2:=con_f hci;obtain⟨rfl,h2⟩:=h2;simp only[eZ,seval,X5,lt_T c5,WD,DK,r1,X1 hRL,X1 hLf,h2,X5,e];exact .mk ⟨i+1,l1,H1,n1⟩ rfl ⟨c5,hf1,l5,hk,hr1,rfl,hl1⟩ zp
 rw[hd,List.filter_cons_of_pos m9,seqT];rw[m9]at hci;have h2:=con_t hci;have hcf:few cells:=by show cells.length<_;have:=h.ox.cs.2.2.2;rw[hC.len];omega
 rcases h2 with rfl|⟨rfl,h2⟩
 case' inl=>simp only[eZ,seval,lt_T c5,WD,DK,r1,X1 hRL,X1 hLf]
 case' inr=>simp only[eZ,seval,X3,lt_T c5,WD,DK,r1,X1 hRL,X1 hLf,h2,X3]
 all_goals
  refine(QL hRI1 hcf).mono ?_;rintro o H3 n3 (⟨hz,-⟩|⟨-,rfl,rest3,rfl,rfl⟩)
  ·rw[hz]at hal';simp at hal'
  have y1:(n1=n+4)=False:=X7 zo;have hla3:(a<(cells++rest3).length)=True:=X1 (by simp;omega);simp only[eZ,seval,eY,retK,hnb1,y1,b0,b1,x0,hla3,AN];have eset:((cells++rest3).map eI).set a (.int .i64 (i:Int))=((cells.set a (i:Int))++rest3).map eI:=by
   rw[<-aB _ _ hal',List.map_set]
  have hlen:(cells.set a (i:Int)).length=cells.length:=Z2;have hrpn1:=hf1.lt hr1;have hC':ClC k x (cells.set a (i:Int)):=⟨by rw[hlen];exact hC.len,λs hs h0=>by
   rcases Zf hs with q|q
   ·exact hC.sy s q h0
   ·rw[q];exact⟨zo,zo⟩⟩
  have hng:=KC hgc zo (show(0:Int)<=(i:Int)by omega);rw[eset];have hcall:=ih (cells.set a (i:Int)) l1 (hset H1 (n1+2) (.arr 1 (((cells.set a (i:Int))++rest3).map eI))) (n1+4) (n1+2) (cells.length+rest3.length) rest3 (hf1.hset zo zo) (by rw[AA _ _ _ _ zo];exact hr1) (AB ..) (by rw[hlen];omega) hC' hng hl1;rw[hlen]at hcall;refine hcall.mono ?_;rintro o H4 n4 ⟨hf4,hn4,hk4,hres⟩;have hk4':CZ rp (n+8) H2 H4:=(hk.new zo).trans hk4 zo;cases htr:CH (AT k) x letters f (cells.set a (i:Int)) l1 with
  |none=>
   rw[htr]at hres;obtain rfl:o= .ret (.bool false):=hres;simp only[eZ,seval,X5,retK,X5];exact⟨hf4,zo,hkb2.trans hk4' zo,rfl⟩
  |some l2=>
   rw[htr]at hres;obtain⟨rfl,hr4⟩:=hres;have hl2:=M9 _ _ _ _ htr;simp only[eZ,seval,X3,retK,X3,e];exact .mk ⟨i+1,l2,H4,n4⟩ rfl ⟨c5,hf4,zp,hk4',hr4,rfl,zp⟩ zp
theorem Ka{cells:List Int}{a:Nat}{t:Int}(h:negs cells=0)(ha:cells[a]?=some t):0<=t:=by
 apply Classical.byContradiction;intro q;have h1:t∈cells.filter λs=>decide (s<0):=Z8.2 ⟨Yx ha,by simp;omega⟩
 unfold negs at h;rw[Yp h]at h1;cases h1
theorem Qj{vals:List Int}{cells:List Int}(h:negs cells=0)(l:List jj):CH vals x letters 0 cells l=CH vals x letters 1 cells l:=by
 cases l with
 |nil=>rw[CH,CH]
 |cons c l=>
  rw[CH,CH];have e9:¬(c.k=JL/\0<=c.a/\c.a<cells.length/\at0 cells c.a<0):=λq=>by
   have:=Ka h (BI q.2.1 q.2.2.1);omega
  rw[X6 e9,X6 e9]
theorem U2(h:RdC k x letters)(rp:Nat):∀(f:Nat) (cells:List Int) (l:List jj) (H:AC) (n id cap:Nat) (rest:List Int),AR H n->hget H rp=some (.box (B1 k x letters (eCs l)))->hget H id=some (.arr 1 ((cells++rest).map eI))->cells.length<=cap->ClC k x cells->negs cells<=f->l.length<1000000000->
  AP prog 46 [.ptr rp 0,.ref id 1 0 cells.length cap] H n (WC rp k x letters H n (CH (AT k) x letters f cells l))
 |0,cells,l,H,n,id,cap,rest,hf,hrp,hidq,hcap,hC,hneg,hl=>by
  rw[Qj zo];exact Qi h rp 0 cells (λcells' l H n id cap rest _ _ _ _ _ hn _=>zo) l H n id cap rest hf hrp hidq hcap hC hl
 |f+1,cells,l,H,n,id,cap,rest,hf,hrp,hidq,hcap,hC,hneg,hl=>
  Qi h rp f cells (λcells' l H n id cap rest a1 a2 a3 a4 a5 hn a6=>U2 h rp f cells' l H n id cap rest a1 a2 a3 a4 a5 zo a6) l H n id cap rest hf hrp hidq hcap hC hl
end
section
def BX(k:qw)(x:zj):Int:=if Bl k≠0 then Bl k else chk x
def Tsv:Tab:=tadd 39 (s1 dX jk λx=>eI (chk x)) Tlt
def Tsv_ok:AJ prog Tsv:=Ux.add (q1 λx h=>p39 x h)
theorem Tsv_c(a:List Fs)(H:AC):Tsv 32 a H=s1 dKn (λk=>qv k.d) (λk=>.int .i64 (Bl k)) a H:=rfl
theorem Tsv_m(a:List Fs)(H:AC):Tsv 39 a H=s1 dX jk (λx=>eI (chk x)) a H:=rfl
def p45(k:qw)(x:zj)(hk:qv k.d)(hx:jk x):Pur prog 45 [A9 k,encL x] (eI (BX k x)):=by
 have u1:dKn.ok (.agg (AH k))=True:=CC k;have u2:dKn.dec (.agg (AH k))=k:=BP k;simp only[AH,AD,AI,Y7,Y5]at u1 u2;have v1:dX.ok (.agg (Ab x))=True:=Ff x;have v2:dX.dec (.agg (Ab x))=x:=DW x;simp only[Ab]at v1 v2;refine .mk ⟨Aa 0 k,As 0 x,trivial⟩ trivial (c45.a (AF Tsv_ok (AG ?_)));unfold BX;by_cases h:Bl k=0
 ·simp only[eZ,seval,X3,c45,AH,AD,AI,Tsv_c,Tsv_m,s1,u1,u2,v1,v2,X1 hk,X1 hx,X1 h]
 ·simp only[eZ,seval,X5,c45,AH,AD,AI,Tsv_c,s1,u1,u2,X1 hk,X7 h]
def i04:((0:Int)<4)=True:=X1 zd
abbrev eTr(t:List (List jj)):Fs:=.sl (.none 1) (t.map eCs)
abbrev D5(t:List (List jj)):Fs:=.agg [eTr t]
def HK(n:Nat)(l:List jj):(eCs l).under n:=⟨trivial,A7 (f:=encC) (λc=>⟨trivial,trivial,trivial⟩) _⟩
def DL(n:Nat)(t:List (List jj)):(D5 t).under n:=⟨⟨trivial,A7 (HK n) _⟩,trivial⟩
abbrev eCk:List (Nat×Bool×Fs):=[(3,true,.ptr 0 0),(4,true,.ptr 1 0),(5,true,.ptr 2 0),(6,true,.ptr 3 0),(7,true,.ptr 4 0),(8,true,.ptr 5 0),(25,true,clC 8 7)]
noncomputable abbrev lpCk (l':Nat) (st:LoopState) (pend:Option Code):zx:=.lp ⟨l',st,pend,75,eCk, #[26],JA,JB⟩
def U3(k:qw)(x:zj)(trees:List (List jj))(D:List (List Int)):Prop:=∀(i:Nat) l,D[i]?=some l->∃t,trees[i]?=some t/\CH (AT k) x l x.cs.length (begC x l) t=some []
structure CkJ(k:qw)(x:zj)(trees:List (List jj))(l':Nat)(F:Nat->Prop)(D:List (List Int))(H:AC)(m:Nat):Prop where
 fr:AR H m
 lm:11<=m
 nF:∀i,F i->i=7\/i=8\/11<=i
 h0:hget H 0=some (.box (AH k))
 h1:hget H 1=some (.box (Ab x))
 h2:hget H 2=some (.box [eTr trees])
 h3:hget H 3=some (.box [.bool false])
 h4:hget H 4=some (.box [.int .i64 0])
 h5:hget H 5=some (.box [.int .i64 D.length])
 hL:hget H 10=some (lpCk l' .ready none)
 ok:U3 k x trees D
def CkS(k:qw)(x:zj)(trees:List (List jj))(l':Nat)(H:AC)(m:Nat):Prop:=
 hget H 3=some (.box [.bool false])/\hget H 4=some (.box [.int .i64 0])/\hget H 10=some (lpCk l' .done (some .ret))/\EU (AT k) x trees=false
variable {k:qw} {x:zj}
theorem WE{trees:List (List jj)}{l':Nat}(hR:∀letters∈chs (AT k).length x.ls.length,RdC k x letters)(htr':few trees)(ht:∀t∈trees,few t):Gen (chs (AT k).length x.ls.length) l' (CkJ k x trees l') (CkS k x trees l') where
 fr:=λF D H m h=>h.fr
 frame:=by
  rintro F F' D H H' m m' ⟨fr,lm,nF,h0,h1,h2,h3,h4,h5,hL,ok⟩ hF hH hf hm;have n1:∀i,i<11->i≠7->i≠8->hget H' i=hget H i:=λi a b c=>hH i λq=>by
   rcases hF i q with q|q
   ·have:=nF i q;omega
   ·omega
  exact⟨hf,zo,λi h=>(hF i h).elim (nF i) (λq=>zo),by rw[n1 0 zd zd zd];exact h0,by rw[n1 1 zd zd zd];exact h1,by rw[n1 2 zd zd zd];exact h2,
   by rw[n1 3 zd zd zd];exact h3,by rw[n1 4 zd zd zd];exact h4,by rw[n1 5 zd zd zd];exact h5,by rw[n1 10 zd zd zd];exact hL,ok⟩
 yld:=by
  rintro F D letters H m R ⟨fr,lm,nF,h0,h1,h2,h3,h4,h5,hL,ok⟩ hF hA hRt hRf;refine y18_0 hL rfl (AF AJ.tnil (AG ?_));simp only[eE,eN,seval,R8,renv,Zo,Zr,YW,ZL];refine⟨_,hL,rfl,AF AJ.tnil (AG ?_)⟩;have hf':AR (hset H 10 (lpCk l' .busy none)) m:=fr.hset (X9 _) zo;generalize hH1:hset H 10 (lpCk l' .busy none)=H1 at hf'⊢;have k1:∀i,i≠10->hget H1 i=hget H i:=λi hi=>by rw[<-hH1,AA _ _ _ _ hi.symm]
  have hL1:hget H1 10=some (lpCk l' .busy none):=by rw[<-hH1,AB]
  have a0:=(k1 0 zd).trans h0;have a1:=(k1 1 zd).trans h1;have a2:=(k1 2 zd).trans h2;have a3:=(k1 3 zd).trans h3;have a4:=(k1 4 zd).trans h4;have a5:=(k1 5 zd).trans h5;clear hH1;have hmem:letters∈chs (AT k).length x.ls.length:=by
   obtain⟨t,ht⟩:=hA;rw[<-ht];simp
  have hrd:=hR _ hmem;simp only[AH,AD,AI,Y7,Y5]at a0;by_cases hl:D.length=trees.length
  ·have hl':((D.length:Int)=(trees.length:Int))=True:=X1 zo;have hl2:decide ((D.length:Int)=(trees.length:Int))=true:=by simp;omega
   simp only[eZ,seval,X0,Nv,a5,a2,hl',a3,a4];refine⟨⟨l',.busy,none,75,eCk, #[26],JA,JB⟩,by rw[AA _ _ _ _ zd,AA _ _ _ _ zd];exact hL1,hRf _ _ ⟨?_,?_,AB ..,?_⟩⟩
   ·simp_all [AA,decide,AB]
   ·rw[AA _ _ _ _ zd,AB]
   ·unfold EU;obtain⟨t,hA⟩:=hA;have hlen:(chs (AT k).length x.ls.length).length≠trees.length:=by
     rw[<-hA];simp;omega
    rw[Xy hlen,YP]
  have hl':((D.length:Int)=(trees.length:Int))=False:=X7 zo;have hl2:decide ((D.length:Int)=(trees.length:Int))=false:=by simp;omega
  have hDl:D.length<trees.length:=by
   have:D.length<=trees.length:=by
    apply Classical.byContradiction;intro q;obtain⟨t,h1,-⟩:=ok trees.length D[trees.length] (X2 zo);rw[Zm zo]at h1;cases h1
   omega
  have hgt:=X2 hDl;have htf:=ht _ (Xt hDl);generalize trees[D.length]=tr at hgt htf;have hX:=hrd.ox;have hxc:=hX.c;have hxl:=hX.l;have hx4:=hX.cs.2.2;rw[<-hrd.ll]at hxl;have hgl:=BI hxl.1 hxl.2;have z:∀j,j<11->(m=j)=False:=λj hj=>X7 zo
  have z':∀j,j<11->(j=m)=False:=λj hj=>X7 zo
  have z0:=z 0 zd;have z1:=z 1 zd;have z2:=z 2 zd;have z3:=z 3 zd;have z4:=z 4 zd;have z5:=z 5 zd;have z10:=z 10 zd;have w1:((x.cs.length:Int)<=4)=True:=X1 zo;have w2:(0<=x.c)=True:=X1 hxc.1;have w3:(x.c<(x.cs.length:Int))=True:=X1 hxc.2;have w4:(x.c.toNat<4)=True:=X1 zo;have w5:(0<=x.l)=True:=X1 hxl.1;have w6:(x.l<(letters.length:Int))=True:=X1 hxl.2;have w7:(x.l.toNat<letters.length)=True:=X1 zo;simp only[Ab]at a1;simp only[eZ,seval,xE,eY,Nv,a5,a2,hl',a0,a1,fr1 hf',fr0 hf',bsmS,bsmF,z0,z1,z2,z5,w1,w2,w3,w4,w5,w6,hgl,hgt,lt_T hDl,Nat.sub_zero,c4n,i04,AN];have hbeg:([.int .i64 (-1),.int .i64 (-1),.int .i64 (-1),.int .i64 (-1)]:List Fs).set x.c.toNat (eI (at0 letters x.l))=((begC x letters)++List.replicate (4-x.cs.length) (-1)).map eI:=by
   unfold begC;rw[<-aB _ _ (by rw[YL];omega),List.replicate_append_replicate,show x.cs.length+(4-x.cs.length)=4 by omega,List.map_set];rfl
  rw[hbeg];generalize hHa:hset H1 m (zx.arr 1 _)=Ha;have hfa:AR Ha (m+15):=by rw[<-hHa];exact hf'.hset zo zo
  have hbl:=E8 x letters;have hC:ClC k x (begC x letters):=by
   refine⟨hbl,λs hs h0=>?_⟩;have hb:=D0 hX hmem;unfold begC at hs;rcases Zf hs with q|q
   ·rw[List.mem_replicate]at q;omega
   ·grind [AT,List.length_map]
  have hcall:=U2 hrd (m+15) x.cs.length (begC x letters) tr (hset Ha (m+15) (.box (B1 k x letters (eCs tr)))) (m+17) m 4 (List.replicate (4-x.cs.length) (-1)) (hfa.hset zo zo) (AB ..) (by rw[AA _ _ _ _ zo,<-hHa,AB]) (by rw[hbl];omega) hC OF htf;rw[hbl]at hcall;refine hcall.mono ?_;rintro o H4 n4 ⟨hf4,hn4,hk4,hres⟩;have hkeep:∀i,i<m->hget H4 i=hget H1 i:=λi hi=>by
   rw[hk4 i zo zo,AA _ _ _ _ zo,<-hHa,AA _ _ _ _ zo]
  have b3:=(hkeep 3 zo).trans a3;have b4:=(hkeep 4 zo).trans a4;have b5:=(hkeep 5 zo).trans a5;have b10:=(hkeep 10 zo).trans hL1;have hwrong:∀q,CH (AT k) x letters x.cs.length (begC x letters) tr=q->q≠some []->EU (AT k) x trees=false:=λq hq d8=>by
   unfold EU;rw[aq];by_cases hlen:(chs (AT k).length x.ls.length).length=trees.length
   ·right;rw[Zi];obtain⟨t,hA⟩:=hA;refine⟨(letters,tr),?_,by rw[hq];simpa using d8⟩;rw[List.mem_iff_getElem?];refine⟨D.length,?_⟩;rw[List.getElem?_zip_eq_some];refine⟨?_,hgt⟩;rw[<-hA];simp
   ·exact .inl (Xy hlen)
  have stop:EU (AT k) x trees=false->VP 10 R qk.ret ⟨[],hset (hset H4 3 (.box [.bool false])) 4 (.box [.int .i64 0]),n4⟩:=λhw=>by
   refine⟨⟨l',.busy,none,75,eCk, #[26],JA,JB⟩,by rw[AA _ _ _ _ zd,AA _ _ _ _ zd];exact b10,hRf _ _ ⟨?_,?_,AB ..,hw⟩⟩
   ·simp_all [AA,decide,AB]
   ·rw[AA _ _ _ _ zd,AB]
  cases htr:CH (AT k) x letters x.cs.length (begC x letters) tr with
  |none=>
   rw[htr]at hres;obtain rfl:o= .ret (.bool false):=hres;simp only[eZ,seval,X3,X5,retK,b3,b4,X5];exact stop (hwrong _ htr zw)
  |some l2=>
   rw[htr]at hres;obtain⟨rfl,hr4⟩:=hres;simp only[B1,AH,AD,AI,Ab,Y7,Y5]at hr4;cases l2 with
   |cons c2 l2=>
    have g2:((0:Int)<((l2.length+1:Nat):Int))=True:=cS1;simp only[eZ,seval,X3,X0,retK,b3,b4,hr4,X3,g2];exact stop (hwrong _ htr zw)
   |nil=>
    have e:=AE (k:=D.length) (by have:trees.length<1000000000:=htr';omega);simp only[eZ,seval,X3,eY,retK,b5,hr4,X3,e];have hF':∀i,F i->i≠5/\i≠10:=λi hi=>by have:=nF i hi;omega
    refine⟨⟨l',.busy,none,75,eCk, #[26],JA,JB⟩,by rw[AA _ _ _ _ zd];exact b10,hRt _ _ ⟨(hf4.hset (m:=n4) (X9 _) zo).hset (m:=n4) (X9 _) zo,zp,nF,?_,?_,?_,?_,?_,?_,AB ..,?_⟩ (λi hi=>?_) zp⟩
    ·rw[AA _ _ _ _ zd,AA _ _ _ _ zd,hkeep 0 zo,k1 0 zd];exact h0
    ·rw[AA _ _ _ _ zd,AA _ _ _ _ zd,hkeep 1 zo,k1 1 zd];exact h1
    ·rw[AA _ _ _ _ zd,AA _ _ _ _ zd,hkeep 2 zo];exact a2
    ·rw[AA _ _ _ _ zd,AA _ _ _ _ zd];exact b3
    ·rw[AA _ _ _ _ zd,AA _ _ _ _ zd];exact b4
    ·rw[AA _ _ _ _ zd,AB,Xz];rfl
    ·intro i l hl;by_cases q:i<D.length
     ·rw[YC q]at hl;exact ok i l hl
     ·grind
    ·have:=hF i hi;rw[AA _ _ _ _ (λq=>(hF' i hi).2 q.symm),AA _ _ _ _ (λq=>(hF' i hi).1 q.symm),hkeep i zo,k1 i (hF' i hi).2]
theorem Qk{trees:List (List jj)}(h:U3 k x trees (chs (AT k).length x.ls.length)):EU (AT k) x trees=decide ((chs (AT k).length x.ls.length).length=trees.length):=by
 unfold EU;rw[Bool.and_eq_left_iff_imp];intro hl;rw[Xv];rintro⟨l,t⟩ hm;obtain⟨i,hi⟩:=List.mem_iff_getElem?.1 hm;rw[List.getElem?_zip_eq_some]at hi;obtain⟨t',h1,h2⟩:=h i l hi.1;rw[hi.2]at h1;cases h1;exact Y3 h2
def Cl(k:qw)(x:zj)(trees:List (List jj)):Fs:=if BX k x≠0 then .tup [.bool false,.int .i64 (BX k x)]else .tup [.bool (EU (AT k) x trees),.int .i64 0]
theorem NA(hk:qv k.d)(hx:jk x)(h:BX k x=0){letters:List Int}(hl:letters∈chs (AT k).length x.ls.length):RdC k x letters:=by
 unfold BX at h;by_cases hc:Bl k=0
 ·rw[X6 (by simpa using hc)]at h;have ho:FC x=true:=by
   unfold chk at h;split at h
   ·assumption
   ·cases h
  exact⟨hc,hk,hx,(J3 x).1 ho,(J9 hl).1⟩
 ·rw[Xp hc]at h;exact absurd h hc
def rowVd:List Fs->AC->Prop×Fs:=s2 dKn dX (λk x=>qv k.d/\jk x) λk x=>eI (BX k x)
def Tsc:Tab:=tadd 45 rowVd tnil
theorem U4:AJ prog Tsc:=AJ.tnil.add (q2 λk x h=>p45 k x h.1 h.2)
theorem TN(a:List Fs)(H:AC):Tsc 45 a H=s2 dKn dX (λk x=>qv k.d/\jk x) (λk x=>eI (BX k x)) a H:=rfl
theorem p18(k:qw)(x:zj)(trees:List (List jj))(hk:qv k.d)(hx:jk x)(htr:few trees)(ht:∀t∈trees,few t):Pur prog 18 [A9 k,encL x,D5 trees] (Cl k x trees):=by
 have u1:dKn.ok (.agg (AH k))=True:=CC k;have u2:dKn.dec (.agg (AH k))=k:=BP k;simp only[AH,AD,AI,Y7,Y5]at u1 u2;have v1:dX.ok (.agg (Ab x))=True:=Ff x;have v2:dX.dec (.agg (Ab x))=x:=DW x;simp only[Ab]at v1 v2;refine .mk ⟨Aa 0 k,As 0 x,DL 0 trees,trivial⟩ ?_ (a18 (AF U4 (AG ?_)))
 ·unfold Cl;split<;>exact⟨trivial,trivial,trivial⟩
 unfold Cl;by_cases hv:BX k x=0;case neg=>simp only[eZ,eX,seval,X5,BK,c18,AH,AD,AI,TN,s2,u1,u2,v1,v2,X1 hk,X1 hx,X7 hv];exact Wk.refl _
 have hvl:(AT k).length=k.d.syms.length:=by unfold AT;rw[X0]
 simp only[eZ,seval,X3,X0,c18,AH,AD,AI,TN,s2,u1,u2,v1,v2,X1 hk,X1 hx,X1 hv,AN];rw[hv];have hck:Bl k=0:=by simp_all [BX]<;>omega
 have hsy:=Bc hck;generalize hHa:hset (hset _ 4 _) 5 (zx.box _)=Ha;have fa:AR Ha 7:=by
  rw[<-hHa];repeat' (first|exact AR.nil.hset (m:=7) (Xn _) zd|refine AR.hset ?_ (X9 _) zd)
 have f0:hget Ha 0=some (.box (AH k)):=by rw[<-hHa];rfl
 have f1:hget Ha 1=some (.box (Ab x)):=by rw[<-hHa];rfl
 have f2:hget Ha 2=some (.box [eTr trees]):=by rw[<-hHa];rfl
 have f3:hget Ha 3=some (.box [.bool false]):=by rw[<-hHa];rfl
 have f4:hget Ha 4=some (.box [.int .i64 0]):=by rw[<-hHa];rfl
 have f5:hget Ha 5=some (.box [.int .i64 0]):=by rw[<-hHa];rfl
 clear hHa;have o8:x.ls.length<=1000:=by
  have ho:FC x=true:=by
   unfold BX at hv;rw[X6 (by simpa using hck)]at hv;unfold chk at hv;split at hv
   ·assumption
   ·cases hv
  have:=((J3 x).1 ho).ls.2.2.2;omega
 refine(FO (M:=k.d.syms.length) (n:=x.ls.length) fa).mono ?_;rintro o H1 n1 ⟨rfl,rfl,rfl⟩;simp only[eE,eN,seval,retK,FT];intro l';generalize hHb:hset (hset (hset Ha 7 _) _ _) _ (zx.lp _)=Hb;have kb:∀i,i<7->hget Hb i=hget Ha i:=λi hi=>by
  rw[<-hHb,AA _ _ _ _ zo,AA _ _ _ _ zo,AA _ _ _ _ zo]
 have e8:hget Hb 8=some (.box [.int .i64 x.ls.length]):=by rw[<-hHb,AA _ _ _ _ zd];exact AB ..
 have e7:hget Hb 7=some (.box [.int .i64 (AT k).length]):=by rw[<-hHb,AA _ _ _ _ zd,AA _ _ _ _ zd,hvl];exact AB ..
 have hJ:CkJ k x trees l' (λi=>i=7\/i=8) [] Hb 11:=by
  refine⟨?_,X9 _,λi h=>zo,(kb 0 zd).trans f0,(kb 1 zd).trans f1,(kb 2 zd).trans f2,(kb 3 zd).trans f3,(kb 4 zd).trans f4,(kb 5 zd).trans f5,by rw[<-hHb];exact AB ..,λi l h=>by simp at h⟩;rw[<-hHb];exact((fa.hset (m:=11) zd zd).hset (X9 _) zd).hset (X9 _) zd
 have hgen:=WE (k:=k) (x:=x) (trees:=trees) (l':=l') (λletters hl=>NA hk hx hv hl) htr ht;have hM:(AT k).length<=1000:=zo
 refine(Lz hgen hM o8 hJ (λi h=>zo) (.inr rfl) (.inl rfl) e8 e7).mono ?_;rintro o H' m' ⟨rfl,⟨F',-,hF',hj⟩|⟨s3,s4,sL,hw⟩⟩
 ·obtain⟨fr,lm,nF,h0,h1,h2,h3,h4,h5,hL,ok⟩:=hj;rw[Qk ok];generalize (chs (AT k).length x.ls.length).length=cl at h5;simp only[eE,eN,seval,BK,X0,FQ,hL,h2,h3,h4,h5];rw[show decide ((cl:Int)=(trees.length:Int))=decide (cl=trees.length)from decide_eq_decide.2 zo];exact Wk.refl _
 ·simp only[eE,eN,seval,BK,FQ,sL,s3,s4,hw];exact Wk.refl _
end
theorem FF{α:Type}[DecidableEq α]:∀{l:List α},l.Nodup->BD l=true
 |[],_=>rfl
 |x::r,h=>by
  obtain⟨h1,h2⟩:=Zn.1 h;rw[BD,FF h2,Bool.and_true,YD,aj];intro y hy;simp only[X8];rintro rfl;exact h1 hy
def dif_nodup{l:List Int}{n:Nat}:difI l n=true↔(∀c∈l,0<=c/\c<(n:Int))/\l.Nodup:=by
 unfold difI;rw[X4,Xv];constructor
 ·rintro⟨h1,h2⟩;exact⟨λc hc=>by simpa using h1 c hc,Dk h2⟩
 ·rintro⟨h1,h2⟩;exact⟨λc hc=>by simpa using h1 c hc,FF h2⟩
section
structure HoC(k:qw)(x:zj)(letters:List Int)(d1 d2 d3 d4 d5 rp id cap:Nat)(H:AC):Prop where
 h1:hget H d1=some (.box (Ab x))
 h2:hget H d2=some (.box [.ptr rp 0])
 h3:hget H d3=some (.box [.ref id 1 0 x.cs.length cap])
 h4:hget H d4=some (.box [.fn (.func 49) [] [.ptr d1 0,.ptr d2 0,.ptr d3 0,.ptr d4 0,.ptr d5 0]])
 h5:hget H d5=some (.box (AH k))
 hr:RdAt H rp k x letters
variable {k:qw} {letters:List Int} {x:zj}
theorem HoC.keep{d1 d2 d3 d4 d5 rp id cap n:Nat}{H H':AC}(h:HoC k x letters d1 d2 d3 d4 d5 rp id cap H)(hidq:∃L,hget H id=some (.arr 1 L))(hf:AR H n)(hk:CZ id n H H'):HoC k x letters d1 d2 d3 d4 d5 rp id cap H':=by
 obtain⟨L,hidq⟩:=hidq;have key:∀c cs,hget H c=some (.box cs)->hget H' c=some (.box cs):=λc cs hc=>by
  rw[hk c (hf.lt hc) (λe=>by rw[e,hidq]at hc;cases hc)];exact hc
 obtain⟨h1,h2,h3,h4,h5,w,hr⟩:=h;exact⟨key _ _ h1,key _ _ h2,key _ _ h3,key _ _ h4,key _ _ h5,w,key _ _ hr⟩
def HoP(id n:Nat)(arr:List Fs)(H:AC)(b:Bool):jq->AC->Nat->Prop:=λo H' n'=>
 AR H' n'/\n<=n'/\CZ id n H H'/\o= .ret (.bool b)/\(b=false->hget H' id=some (.arr 1 arr))/\∃L,hget H' id=some (.arr 1 L)
theorem Fg{vals:List Int}{cells:List Int}:DV vals x letters cells=true↔∀i:Nat,i<x.qs.length+x.ps.length->Ba vals x letters cells (i:Int)=false:=by
 unfold DV;rw[Xv];have hl:(IJ vals x letters cells).length=x.qs.length+x.ps.length:=by unfold IJ;simp
 constructor
 ·intro h i hi;unfold Ba;rw[X6 zo,Xo,X2 zo,Xs];have:=h _ (Xt (l:=IJ vals x letters cells) (n:=i) zo);simpa using this
 ·intro h b hb;obtain⟨i,hi,rfl⟩:=Yc.1 hb;have:=h i zo;unfold Ba at this;rw[X6 zo,Xo,X2 hi,Xs]at this;rw[this];rfl
def HoG(k:qw)(x:zj)(letters:List Int)(d1 d2 d3 d4 d5 rp id cap j:Nat):Prop:=∀(i:Nat) (cells:List Int) (H:AC) (n:Nat) (rest:List Int),i+j=x.cs.length->AR H n->HoC k x letters d1 d2 d3 d4 d5 rp id cap H->hget H id=some (.arr 1 ((cells++rest).map eI))->ClC k x cells->(∀(a:Nat),i<=a->a<x.cs.length->(a:Int)≠x.c->cells[a]?=some (-1))->
  AP prog 49 [.int .i64 i,.ptr d1 0,.ptr d2 0,.ptr d3 0,.ptr d4 0,.ptr d5 0] H n (HoP id n ((cells++rest).map eI) H (tryP (AT k) x letters j i cells))
structure VHo where
 s:Nat
 cur:Int
 H:AC
 n:Nat
structure IHo(k:qw)(x:zj)(letters cells rest:List Int)(id i j m n0:Nat)(H0:AC)(v:VHo):Prop where
 hs:v.s<=m
 fr:AR v.H v.n
 hn:n0<=v.n
 kp:CZ id n0 H0 v.H
 ho:hget v.H id=some (.arr 1 ((cells.set i v.cur++rest).map eI))
 no:∀b:Nat,b<v.s->tryP (AT k) x letters j (i+1) (cells.set i (b:Int))=false
theorem NC(h:RdC k x letters)(d1 d2 d3 d4 d5 rp id cap:Nat)(hcap:x.cs.length<=cap)(j:Nat)(ih:∀j',j=j'+1->HoG k x letters d1 d2 d3 d4 d5 rp id cap j'):HoG k x letters d1 d2 d3 d4 d5 rp id cap j:=by
 intro i cells H n rest hij hf hH hidq hC hneg;have hnq:x.qs.length<1000000000:=h.fx.qs;have hnp:x.ps.length<1000000000:=h.fx.ps;have hw1:IntKind.wrap .i64 ((x.qs.length:Int)+(x.ps.length:Int))=((x.qs.length+x.ps.length:Nat):Int):=by rw[Aq zo zo];omega
 have hRI:RdI H (.ref id 1 0 x.cs.length cap) cells:=.inr ⟨id,cap,rest,by rw[hC.len],hidq,by rw[hC.len];exact hcap⟩;have hrd:=Ly hRI;have hH0:=hH;obtain⟨h1,h2,h3,h4,h5,hr⟩:=hH0;simp only[Ab]at h1;simp only[AH,AD,AI,Y7,Y5]at h5;refine c49.a (AF (U1 h) (AG ?_));simp only[eE,eN,seval,X0,c49,h1,hw1];refine AL (λa:Nat=>⟨[(0,true,.int .i64 i),(1,true,.ptr d1 0),(2,true,.ptr d2 0),(3,true,.ptr d3 0),(4,true,.ptr d4 0),(5,true,.ptr d5 0),(16,true,.int .i64 ((x.qs.length+x.ps.length:Nat):Int)),(17,true,.int .i64 a)],H,n⟩)
  (λa=>a<=x.qs.length+x.ps.length/\∀b,b<a->Ba (AT k) x letters cells (b:Int)=false) (λa=>x.qs.length+x.ps.length-a) 0 rfl ⟨Xn _,λb hb=>zo⟩ ?_
 rintro a ⟨ha,c6⟩;by_cases c5:a<x.qs.length+x.ps.length
 ·have e:=AE (k:=a) zo;cases hcm:Ba (AT k) x letters cells (a:Int)with
  |true=>
   have e9:tryP (AT k) x letters j i cells=false:=by
    unfold tryP;rw[X6];rw[Fg];intro q;rw[q a c5]at hcm;cases hcm
   rw[e9];simp only[eZ,seval,lt_T c5,h2,h3,Ttr,KZ,hrd,X1 hRI,X1 hr,X1 hC,hcm,tadd];exact⟨hf,X9 _,CZ.refl _,rfl,λ_=>hidq,_,hidq⟩
  |false=>
   simp only[eZ,seval,lt_T c5,h2,h3,Ttr,KZ,hrd,X1 hRI,X1 hr,X1 hC,hcm,e,tadd];refine .mk (a+1) rfl ⟨c5,λb hb=>?_⟩ zo;by_cases q:b<a
   ·exact c6 b q
   ·obtain rfl:b=a:=zo
    exact hcm
 obtain rfl:a=x.qs.length+x.ps.length:=zo
 have d9:=Fg.2 c6;cases j with
 |zero=>
  have d8:((i:Int)=(x.cs.length:Int))=True:=X1 zo;have hde:decide ((i:Int)=(x.cs.length:Int))=true:=Y3 zo;rw[tryP,Xp d9];simp only[eZ,seval,lt_F c5,h3,d8];exact⟨hf,X9 _,CZ.refl _,rfl,(λq=>by cases q),_,hidq⟩
 |succ j=>
 have ih:=ih j rfl;rw[tryP,Xp d9];have d8:((i:Int)=(x.cs.length:Int))=False:=X7 zo;have e1:=AE (k:=i) (by have:=h.ox.cs.2.2.2;omega);by_cases hic:(i:Int)=x.c
 ·rw[Xp hic];simp only[eZ,seval,lt_F c5,h1,h3,h4,d8,X1 hic,e1];refine(ih (i+1) cells H n rest zo hf hH hidq hC λa ha h1 h2=>hneg a zo h1 h2).mono ?_;rintro o H' n' ⟨q1,q2,q3,rfl,q5,q6⟩;simp only[eE,eN,seval,retK];exact⟨q1,q2,q3,rfl,q5,q6⟩
 rw[X6 hic];have hsy:=Bc h.ck;have hvl:(AT k).length=k.d.syms.length:=by unfold AT;rw[X0]
 have z9:=hneg i (X9 _) zo hic;have t9:i<cells.length:=(YB.1 z9).1;have hse:cells.set i (-1)=cells:=by
  refine ZH λa=>?_
  rw[YZ];split
  ·rename_i q;subst q;exact z9.symm
  ·rfl
 have hidn:=hf.lt hidq;simp only[eZ,seval,X0,lt_F c5,h1,h3,h5,d8,X7 hic];refine AL (λv:VHo=>⟨[(0,true,.int .i64 i),(3,true,.ptr d3 0),(4,true,.ptr d4 0),(40,true,.int .i64 k.d.syms.length),(41,true,.int .i64 v.s)],v.H,v.n⟩) (IHo k x letters cells rest id i j k.d.syms.length n H) (λv=>k.d.syms.length-v.s)
  ⟨0,-1,H,n⟩ rfl ⟨Xn _,hf,X9 _,CZ.refl _,by simp only[hse];exact hidq,λb hb=>by simp only[]at hb;omega⟩ ?_
 rintro⟨s,cur,H1,n1⟩ ⟨hs,hf1,l5,hk1,ho1,hno1⟩;simp only at hs hf1 l5 hk1 ho1 hno1;have hH1:=hH.keep ⟨_,hidq⟩ hf hk1;have hl1:(i<(cells.set i cur++rest).length)=True:=X1 (by simp;omega);have g1:((i:Int)<(x.cs.length:Int))=True:=X1 zo;have est:∀z:Int,((cells.set i cur++rest).map eI).set i (.int .i64 z)=((cells.set i z++rest).map eI):=λz=>by
  rw[show(.int .i64 z:Fs)=eI z from rfl,<-List.map_set,aB _ _ (by rw[Z2];exact t9),List.set_set]
 obtain⟨e1',e2',e3',e4',e5',er'⟩:=hH1;by_cases o8:s<k.d.syms.length;case neg=>
  obtain rfl:s=k.d.syms.length:=zo
  have hany:((symI (AT k).length).any λs=>tryP (AT k) x letters j (i+1) (cells.set i s))=false:=by
   rw[aj];intro z hz;obtain⟨z0,z1⟩:=Cp.1 hz;obtain⟨b,rfl⟩:=Za z0;rw[hno1 b zo];decide
  rw[hany];have est1:=est (-1);rw[hse]at est1;simp only[eZ,seval,eY,lt_F o8,e3',ho1,hl1,g1,est1];exact⟨hf1.hset (X9 _) zo,l5,hk1.set,rfl,λ_=>AB ..,_,AB ..⟩
 have e:=AE (k:=s) zo;have y4:(id=d4)=False:=X7 λq=>by rw[q,e4']at ho1;cases ho1
 simp only[eZ,seval,eY,lt_T o8,e3',e4',ho1,hl1,g1,est (s:Int),e1,y4];generalize hH2:AM.hset H1 id (zx.arr 1 ((cells.set i (s:Int)++rest).map eI))=H2;have ho2:hget H2 id=some (.arr 1 ((cells.set i (s:Int)++rest).map eI)):=by rw[<-hH2,AB]
 have m6:AR H2 n1:=by rw[<-hH2];exact hf1.hset (X9 _) zo
 have k9:CZ id n H H2:=by rw[<-hH2];exact hk1.set
 have hC2:ClC k x (cells.set i (s:Int)):=⟨by rw[Z2];exact hC.len,λz hz h0=>by
  rcases Zf hz with q|q
  ·exact hC.sy z q h0
  ·rw[q];exact⟨zo,zo⟩⟩
 refine(ih (i+1) (cells.set i (s:Int)) H2 n1 rest zo m6 (hH.keep ⟨_,hidq⟩ hf k9) ho2 hC2 λa ha h1 h2=>?_).mono ?_
 ·grind
 rintro o H3 n3 ⟨q1,q2,q3,rfl,q5,q6⟩;have hk3:CZ id n H H3:=k9.trans q3 l5;cases hb:tryP (AT k) x letters j (i+1) (cells.set i (s:Int))with
 |true=>
  have hany:((symI (AT k).length).any λs=>tryP (AT k) x letters j (i+1) (cells.set i s))=true:=
   Zw.2 ⟨(s:Int),Cp.2 ⟨zo,by rw[hvl];omega⟩,hb⟩
  rw[hany];simp only[eZ,seval,retK];exact⟨q1,zo,hk3,rfl,(λq=>by cases q),q6⟩
 |false=>
  rw[hb]at q5;simp only[eZ,seval,retK,e];refine .mk ⟨s+1,(s:Int),H3,n3⟩ rfl ⟨o8,q1,zp,hk3,q5 rfl,λb hb'=>?_⟩ zp;by_cases q:b<s
  ·exact hno1 b q
  ·have hb'':b<s+1:=hb';obtain rfl:b=s:=zo
   exact hb
theorem t_holds(h:RdC k x letters)(d1 d2 d3 d4 d5 rp id cap:Nat)(hcap:x.cs.length<=cap):∀j,HoG k x letters d1 d2 d3 d4 d5 rp id cap j
 |0=>NC h d1 d2 d3 d4 d5 rp id cap hcap 0 λj' hj=>zo
 |j+1=>NC h d1 d2 d3 d4 d5 rp id cap hcap (j+1) λj' hj=>by
  obtain rfl:j'=j:=zo
  exact t_holds h d1 d2 d3 d4 d5 rp id cap hcap j'
end
abbrev eTe:List (Nat×Bool×Fs):=[(2,true,.ptr 0 0),(3,true,.ptr 1 0),(4,true,.ptr 2 0),(5,true,.ptr 3 0),(23,true,clC 5 4)]
noncomputable abbrev lpTe (l':Nat) (st:LoopState) (pend:Option Code):zx:=.lp ⟨l',st,pend,47,eTe, #[24],LR,LS⟩
structure TeJ(k:qw)(x:zj)(l':Nat)(F:Nat->Prop)(D:List (List Int))(H:AC)(m:Nat):Prop where
 fr:AR H m
 lm:8<=m
 nF:∀i,F i->i=4\/i=5\/8<=i
 h0:hget H 0=some (.box (AH k))
 h1:hget H 1=some (.box (Ab x))
 h2:hget H 2=some (.box [.bool false])
 h3:hget H 3=some (.box [.int .i64 0])
 hL:hget H 7=some (lpTe l' .ready none)
 ok:∀l∈D,tryP (AT k) x l x.cs.length 0 (begC x l)=false
def TeS(k:qw)(x:zj)(l':Nat)(H:AC)(m:Nat):Prop:=
 hget H 2=some (.box [.bool false])/\hget H 3=some (.box [.int .i64 0])/\hget H 7=some (lpTe l' .done (some .ret))/\FK (AT k) x=false
def WF{k:qw}{x:zj}{l':Nat}(hR:∀letters∈chs (AT k).length x.ls.length,RdC k x letters):Gen (chs (AT k).length x.ls.length) l' (TeJ k x l') (TeS k x l') where
 fr:=λF D H m h=>h.fr
 frame:=by
  rintro F F' D H H' m m' ⟨fr,lm,nF,h0,h1,h2,h3,hL,ok⟩ hF hH hf hm;have n1:∀i,i<8->i≠4->i≠5->hget H' i=hget H i:=λi a b c=>hH i λq=>by
   rcases hF i q with q|q
   ·have:=nF i q;omega
   ·omega
  exact⟨hf,zo,λi h=>(hF i h).elim (nF i) (λq=>zo),by rw[n1 0 zd zd zd];exact h0,by rw[n1 1 zd zd zd];exact h1,by rw[n1 2 zd zd zd];exact h2,
   by rw[n1 3 zd zd zd];exact h3,by rw[n1 7 zd zd zd];exact hL,ok⟩
 yld:=by
  rintro F D letters H m R ⟨fr,lm,nF,h0,h1,h2,h3,hL,ok⟩ hF hA hRt hRf;refine y20_0 hL rfl (AF AJ.tnil (AG ?_));simp only[eE,eN,seval,SA,renv,Zo,Zr,YW,ZL];refine⟨_,hL,rfl,AF AJ.tnil (AG ?_)⟩;have hf':AR (hset H 7 (lpTe l' .busy none)) m:=fr.hset (X9 _) zo;generalize hH1:hset H 7 (lpTe l' .busy none)=H1 at hf'⊢;have k1:∀i,i≠7->hget H1 i=hget H i:=λi hi=>by rw[<-hH1,AA _ _ _ _ hi.symm]
  have hL1:hget H1 7=some (lpTe l' .busy none):=by rw[<-hH1,AB]
  have a0:=(k1 0 zd).trans h0;have a1:=(k1 1 zd).trans h1;have a2:=(k1 2 zd).trans h2;have a3:=(k1 3 zd).trans h3;clear hH1;have hmem:letters∈chs (AT k).length x.ls.length:=by
   obtain⟨t,ht⟩:=hA;rw[<-ht];simp
  have hrd:=hR _ hmem;have b0:=a0;have b1:=a1;simp only[AH,AD,AI,Y7,Y5]at b0;simp only[Ab]at b1;have hX:=hrd.ox;have hxc:=hX.c;have hxl:=hX.l;have hx4:=hX.cs.2.2;rw[<-hrd.ll]at hxl;have hgl:=BI hxl.1 hxl.2;have z:∀j c,j<8->(m+c=j)=False:=λj c hj=>X7 zo
  have z':∀j c,j<8->(j=m+c)=False:=λj c hj=>X7 zo
  have z0:=λc=>z 0 c zd
  have z1:=λc=>z 1 c zd
  have z2:=λc=>z 2 c zd
  have z3:=λc=>z 3 c zd
  have z7:=λc=>z 7 c zd
  have y0:=λc=>z' 0 c zd
  have y1:=λc=>z' 1 c zd
  have w1:((x.cs.length:Int)<=4)=True:=X1 zo;have w2:(0<=x.c)=True:=X1 hxc.1;have w3:(x.c<(x.cs.length:Int))=True:=X1 hxc.2;have w4:(x.c.toNat<4)=True:=X1 zo;have w5:(0<=x.l)=True:=X1 hxl.1;have w6:(x.l<(letters.length:Int))=True:=X1 hxl.2;have w7:(x.l.toNat<letters.length)=True:=X1 zo;have mm:∀a b:Nat,(m+a=m+b)=(a=b):=λa b=>propext ⟨λh=>zo,λh=>zo⟩
  simp only[eZ,seval,xE,eY,R9,b0,b1,fr1 hf',bsmS,bsmF,z1,mm,w1,w2,w3,w4,w5,w6,hgl,Nat.sub_zero,c4n,i04,AN];have hbeg:([.int .i64 (-1),.int .i64 (-1),.int .i64 (-1),.int .i64 (-1)]:List Fs).set x.c.toNat (eI (at0 letters x.l))=((begC x letters)++List.replicate (4-x.cs.length) (-1)).map eI:=by
   unfold begC;rw[<-aB _ _ (by rw[YL];omega),List.replicate_append_replicate,show x.cs.length+(4-x.cs.length)=4 by omega,List.map_set];rfl
  rw[hbeg];generalize hHa:hset _ (m+14) _=Ha;have hfa:AR Ha (m+15):=by
   rw[<-hHa];refine AR.hset ?_ (X9 _) zo;refine AR.hset ?_ (X9 _) zo;refine AR.hset ?_ (X9 _) zo;refine AR.hset ?_ (X9 _) zo;refine AR.hset ?_ (X9 _) zo;exact hf'.hset (m:=m+15) zo zo
  have ka:∀i,i<m->hget Ha i=hget H1 i:=λi hi=>by
   rw[<-hHa];rw[AA _ _ _ _ zo,AA _ _ _ _ zo,AA _ _ _ _ zo,AA _ _ _ _ zo,AA _ _ _ _ zo,AA _ _ _ _ zo]
  have hbl:=E8 x letters;have hidq:hget Ha (m+7)=some (.arr 1 (((begC x letters)++List.replicate (4-x.cs.length) (-1)).map eI)):=by
   rw[<-hHa,AA _ _ _ _ zo,AB]
  have hHC:HoC k x letters 1 (m+5) (m+12) (m+14) 0 (m+4) (m+7) 4 Ha:=by
   refine⟨(ka 1 zo).trans a1,?_,?_,?_,(ka 0 zo).trans a0,.sl .nil [],?_⟩
   ·grind [AA,AB]
   ·grind [AA,AB]
   ·rw[<-hHa,AB]
   ·rw[<-hHa,AA _ _ _ _ zo,AA _ _ _ _ zo,AA _ _ _ _ zo,AA _ _ _ _ zo,AA _ _ _ _ zo,AB];rfl
  have hC:ClC k x (begC x letters):=by
   refine⟨hbl,λs hs h0=>?_⟩;have hb:=D0 hX hmem;unfold begC at hs;rcases Zf hs with q|q
   ·rw[List.mem_replicate]at q;omega
   ·grind [AT,List.length_map]
  have hcall:=t_holds hrd 1 (m+5) (m+12) (m+14) 0 (m+4) (m+7) 4 zo x.cs.length 0 (begC x letters) Ha (m+15) (List.replicate (4-x.cs.length) (-1)) zo hfa hHC hidq hC (λa _ h1 h2=>by
   unfold begC;rw[YZ,X6 zo,List.getElem?_replicate,Xp h1])
  rw[c0]at hcall;refine hcall.mono ?_;rintro o H4 n4 ⟨hf4,hn4,hk4,rfl,-,-⟩;have hkeep:∀i,i<m->hget H4 i=hget H1 i:=λi hi=>by
   rw[hk4 i zo zo,ka i hi]
  have c2':=(hkeep 2 zo).trans a2;have c3':=(hkeep 3 zo).trans a3;have c7':=(hkeep 7 zo).trans hL1;cases htr:tryP (AT k) x letters x.cs.length 0 (begC x letters)with
  |true=>
   simp only[eZ,seval,retK,c2',c3'];refine⟨⟨l',.busy,none,47,eTe, #[24],LR,LS⟩,by rw[AA _ _ _ _ zd,AA _ _ _ _ zd];exact c7',hRf _ _ ⟨?_,?_,AB ..,?_⟩⟩
   ·simp_all [AA,AB]
   ·rw[AA _ _ _ _ zd,AB]
   ·grind [FK,List.all_eq_false]
  |false=>
   simp only[eZ,seval,retK];have hF':∀i,F i->i≠7:=λi hi=>by have:=nF i hi;omega
   refine⟨⟨l',.busy,none,47,eTe, #[24],LR,LS⟩,c7',hRt _ _ ⟨hf4.hset (m:=n4) (X9 _) zo,zp,nF,?_,?_,?_,?_,AB ..,λl hl=>?_⟩ (λi hi=>?_) zp⟩
   ·rw[AA _ _ _ _ zd,hkeep 0 zo];exact a0
   ·rw[AA _ _ _ _ zd,hkeep 1 zo];exact a1
   ·rw[AA _ _ _ _ zd];exact c2'
   ·rw[AA _ _ _ _ zd];exact c3'
   ·grind
   ·have:=hF i hi;rw[AA _ _ _ _ (λq=>hF' i hi q.symm),hkeep i zo,k1 i (hF' i hi)]
def Dl(k:qw)(x:zj):Fs:=if BX k x≠0 then .tup [.bool false,.int .i64 (BX k x)]else .tup [.bool (FK (AT k) x),.int .i64 0]
def p20(k:qw)(x:zj)(hk:qv k.d)(hx:jk x):Pur prog 20 [A9 k,encL x] (Dl k x):=by
 have u1:dKn.ok (.agg (AH k))=True:=CC k;have u2:dKn.dec (.agg (AH k))=k:=BP k;simp only[AH,AD,AI,Y7,Y5]at u1 u2;have v1:dX.ok (.agg (Ab x))=True:=Ff x;have v2:dX.dec (.agg (Ab x))=x:=DW x;simp only[Ab]at v1 v2;refine .mk ⟨Aa 0 k,As 0 x,trivial⟩ ?_ (a20 (AF U4 (AG ?_)))
 ·unfold Dl;split<;>exact⟨trivial,trivial,trivial⟩
 unfold Dl;by_cases hv:BX k x=0;case neg=>
  simp only[eZ,eX,seval,X5,BK,c20,AH,AD,AI,TN,s2,u1,u2,v1,v2,X1 hk,X1 hx,X7 hv];exact Wk.refl _
 have hvl:(AT k).length=k.d.syms.length:=by unfold AT;rw[X0]
 simp only[eZ,seval,X3,X0,c20,AH,AD,AI,TN,s2,u1,u2,v1,v2,X1 hk,X1 hx,X1 hv,AN];rw[hv];have hck:Bl k=0:=by simp_all [BX]<;>omega
 have hsy:=Bc hck;generalize hHa:hset _ 3 (zx.box _)=Ha;have fa:AR Ha 4:=by
  rw[<-hHa];repeat' (first|exact AR.nil.hset (m:=4) (Xn _) zd|refine AR.hset ?_ (X9 _) zd)
 have f0:hget Ha 0=some (.box (AH k)):=by rw[<-hHa];rfl
 have f1:hget Ha 1=some (.box (Ab x)):=by rw[<-hHa];rfl
 have f2:hget Ha 2=some (.box [.bool false]):=by rw[<-hHa];rfl
 have f3:hget Ha 3=some (.box [.int .i64 0]):=by rw[<-hHa];rfl
 clear hHa;have o8:x.ls.length<=1000:=by
  have ho:FC x=true:=by
   unfold BX at hv;rw[X6 (by simpa using hck)]at hv;unfold chk at hv;split at hv
   ·assumption
   ·cases hv
  have:=((J3 x).1 ho).ls.2.2.2;omega
 refine(FO (M:=k.d.syms.length) (n:=x.ls.length) fa).mono ?_;rintro o H1 n1 ⟨rfl,rfl,rfl⟩;simp only[eE,eN,seval,retK,FT];intro l';generalize hHb:hset (hset (hset Ha 4 _) _ _) _ (zx.lp _)=Hb;have kb:∀i,i<4->hget Hb i=hget Ha i:=λi hi=>by
  rw[<-hHb,AA _ _ _ _ zo,AA _ _ _ _ zo,AA _ _ _ _ zo]
 have e5:hget Hb 5=some (.box [.int .i64 x.ls.length]):=by rw[<-hHb,AA _ _ _ _ zd];exact AB ..
 have e4:hget Hb 4=some (.box [.int .i64 (AT k).length]):=by rw[<-hHb,AA _ _ _ _ zd,AA _ _ _ _ zd,hvl];exact AB ..
 have hJ:TeJ k x l' (λi=>i=4\/i=5) [] Hb 8:=by
  refine⟨?_,X9 _,λi h=>zo,(kb 0 zd).trans f0,(kb 1 zd).trans f1,(kb 2 zd).trans f2,(kb 3 zd).trans f3,by rw[<-hHb];exact AB ..,λl h=>by cases h⟩;rw[<-hHb];exact((fa.hset (m:=8) zd zd).hset (X9 _) zd).hset (X9 _) zd
 have hgen:=WF (k:=k) (x:=x) (l':=l') (λletters hl=>NA hk hx hv hl);have hM:(AT k).length<=1000:=zo
 refine(Lz hgen hM o8 hJ (λi h=>zo) (.inr rfl) (.inl rfl) e5 e4).mono ?_;rintro o H' m' ⟨rfl,⟨F',-,hF',hj⟩|⟨s2',s3',sL,hw⟩⟩
 ·obtain⟨fr,lm,nF,h0,h1,h2,h3,hL,ok⟩:=hj;have hsp:FK (AT k) x=true:=by
   unfold FK;rw[Xv];intro l hl;rw[ok l hl];rfl
  rw[hsp];simp only[eE,eN,seval,BK,FQ,hL,h2,h3];exact Wk.refl _
 ·simp only[eE,eN,seval,BK,FQ,sL,s2',s3',hw];exact Wk.refl _
end Go.AM
