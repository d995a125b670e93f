/-
  Parts of the proof. Conditions: none.
-/
import Derived.Test.YtabcmhkkohbdeaaGreatB13
set_option maxRecDepth 20000
set_option linter.all false
namespace Go.AM
open Go.Lib Go.Proofs Go.Proofs.Tryz
section
abbrev Cx(k:zx)(x:zy)(letters:List Int)(w:Fs):List Fs:=AF k++(AY x++[Am letters,w])
def Hy(x:zy)(letters:List Int)(c:Int):Fs:=match Dk x c with
 |none=>.tup [.sl .nil [],.bool false]
 |some p=>.tup [Am (p.ls.map (BW letters)),.bool true]
def Rk(x:zy)(letters:List Int)(c:Int)(n:Nat):(Hy x letters c).under n:=by
 unfold Hy;split
 ·exact⟨⟨zt,zt⟩,zt,zt⟩
 ·exact⟨AZ n _,zt,zt⟩
structure VPm where
 i:Nat
 H:AB
 n:Nat
structure VPl where
 j:Nat
 tk:w8
 H:AB
 n:Nat
structure IPm(H0:AB)(n0:Nat)(x:zy)(c:Int)(v:VPm):Prop where
 hi:v.i<=x.ps.length
 fr:AP v.H v.n
 hn:n0<=v.n
 kp:C5 H0 v.H
 he:Dk x c=(x.ps.drop v.i).find? λp=>decide (p.c=c)
structure IPl(H0:AB)(n0:Nat)(p:Prm)(letters:List Int)(v:VPl):Prop where
 hj:v.j<=p.ls.length
 fr:AP v.H v.n
 hn:n0<=v.n
 kp:C5 H0 v.H
 tok:DA 1 n0 v.H v.tk
 es:v.tk.esz=1\/(p.ls.take v.j).map (BW letters)=[]
variable {H:AB} {k:zx} {letters cells vals:List Int} {x:zy} {n rp:Nat} {p:Prm}
theorem Tg{H0:AB}{n0 e:Nat}{tk:w8}(hf:AP H0 n0)(h:DA e n0 H tk)(hk:C5 H0 H):C5 H0 (AU H tk):=λid ob h0=>by
 rw[Af h (.inl (hf.lt h0))];exact hk id ob h0
theorem lj{w:Fs}(c:Int)(hf:AP H n)(hq:AD H rp=some (.box (Cx k x letters w)))(hps:An x.ps)(wu:∀p∈x.ps,An p.ls/\∀c∈p.ls,0<=c/\c<(letters.length:Int)):
  AV prog 147 [.ptr rp 0,.int .i64 c] H n (Ub H (Hy x letters c)):=by
 have hpsl:x.ps.length<1000000000:=hps;have hq0:=hq;simp only[Cx,AF,AE,AL,AY,si,sj]at hq;refine qF.a (AI AH.tnil (AJ ?_));simp only[eE,eN,seval,r9,qF,hq];refine AO (λv:VPm=>⟨[(0,true,.ptr rp 0),(1,true,.int .i64 c),(4,true,.sl .nil []),(14,true,.sl (.none 2) (x.ps.map GP)),(15,true,.int .i64 x.ps.length),(16,true,.int .i64 v.i)],v.H,v.n⟩) (IPm H n x c) (λv=>x.ps.length-v.i)
  ⟨0,H,n⟩ rfl ⟨rm _,hf,rq _,C5.refl _,rfl⟩ ?_
 rintro⟨i,H1,n1⟩ ⟨hi,hf1,me,hk1,he⟩;simp only at hi hf1 me hk1 he;by_cases c9:i<x.ps.length;case neg=>
  obtain rfl:i=x.ps.length:=zo
  rw[sK]at he;simp only[eZ,seval,Ad c9];unfold Hy;rw[he];exact⟨Wk.refl _,hk1⟩
 have hg:=rc c9;have e:=AK (k:=i) zo;obtain⟨hpf,hpi⟩:=wu _ (rY c9);rw[sn c9]at he;generalize x.ps[i]=p at hg hpf hpi he;have my:∀{ob:xq} {j:Nat},n1<=j->C5 H (hset H1 j ob):=λhj=>hk1.new hf zo
 by_cases hc:p.c=c;case neg=>
  rw[List.find?_cons_of_neg (by simpa using hc)]at he;simp only[eZ,seval,eY,AN c9,hg,Bq hf1,AQ,ri hc,e];exact .mk ⟨i+1,hset H1 (n1+2) (.box [.int .i64 p.c,Am p.ls]),n1+4⟩ rfl ⟨c9,hf1.hset (m:=n1+4) zo zo,zp,my zo,he⟩ zp
 rw[List.find?_cons_of_pos (by simpa using hc)]at he;have hpl':p.ls.length<1000000000:=hpf;simp only[eZ,seval,eY,AN c9,hg,Bq hf1,AQ,ra hc];refine AO (λv:VPl=>⟨[(0,true,.ptr rp 0),(4,true,.sl v.tk (((p.ls.take v.j).map (BW letters)).map eI)),(25,true,Am p.ls),(26,true,.int .i64 p.ls.length),(27,true,.int .i64 v.j)],v.H,v.n⟩) (IPl H n p letters) (λv=>p.ls.length-v.j)
  ⟨0,.nil,hset H1 (n1+2) (.box [.int .i64 p.c,Am p.ls]),n1+4⟩ rfl ⟨rm _,hf1.hset (m:=n1+4) zo zo,zp,my zo,.inl rfl,.inr rfl⟩ ?_
 rintro⟨j,tk,H2,n2⟩ ⟨hj,wp,hn2,hk2',l5,s5⟩;simp only at hj wp hn2 hk2' l5 s5;by_cases l9:j<p.ls.length;case neg=>
  obtain rfl:j=p.ls.length:=zo
  rw[se]at s5;simp only[eZ,seval,Ad l9];rw[se];unfold Hy;rw[he];exact⟨Wk.tup (.cons (Wk.sl (s5.imp id λq=>by rw[q];rfl)) (.cons (Wk.refl _) .nil)),hk2'⟩
 have hg:=rc l9;have e:=AK (k:=j) zo;have hci:=hpi _ (rY l9);have htake:p.ls.take (j+1)=p.ls.take j++[p.ls[j]]:=by rw[sf,hg];rfl
 generalize p.ls[j]=y at hg hci htake;have hgx:=CZ hci.1 hci.2;have hX:((p.ls.take j).map (BW letters)).length<=j:=by simp;omega
 have q1:BH H2 1 tk=True:=ra l5.app;have q2:(((p.ls.take j).map (BW letters)).length<=35184372088831)=True:=ra zo;have q3:Al (((p.ls.take j).map (BW letters)).length+1) 8=True:=ra (Ac zo zd);have hrp:=hk2' _ _ hq;generalize hXd:(p.ls.take j).map (BW letters)=X at hX q2 q3 s5;simp only[eZ,seval,eY,AN l9,hg,hrp,ra hci.1,ra hci.2,hgx,q1,q2,q3,Bq wp,e];refine .mk ⟨j+1,.own (n2+9) 1,hset (AU H2 tk) (n2+9) .tok,n2+11⟩ ?_ ⟨l9,(Ab l5 wp).hset (m:=n2+11) zo zo,zp,C5.new hf zo (Tg hf l5 hk2'),.inr (.inr ⟨n2+9,rfl,zo,AC ..⟩),.inl rfl⟩ zp;simp only[htake,rz,sw,sI,hXd]
theorem lr{w:Fs}(c:Int)(hq:AD H rp=some (.box (Cx k x letters w)))(hps:An x.ps)(wu:∀p∈x.ps,An p.ls/\∀c∈p.ls,0<=c/\c<(letters.length:Int)):
  Ao prog 147 [.ptr rp 0,.int .i64 c] H n (Hy x letters c):=
 Ao.of qF.l (Rk x letters c n) λhf=>lj c hf hq hps wu
structure RdC(k:zx)(x:zy)(letters:List Int):Prop where
 ck:BM k=0
 fd:zk k.d
 fx:xw x
 ox:OKL x
 ll:letters.length=x.ls.length
structure ClC(k:zx)(x:zy)(cells:List Int):Prop where
 len:cells.length=x.cs.length
 sy:∀s∈cells,0<=s->DZ k s
def Y8(H:AB)(rp:Nat)(k:zx)(x:zy)(letters:List Int):Prop:=∃w,AD H rp=some (.box (Cx k x letters w))
theorem M7(h:BM k=0):∀y∈k.d.syms,0<=y.v/\y.v<=99:=by
 have h1:JH k=true:=by
  unfold BM at h;split at h
  ·assumption
  ·cases h
 obtain⟨x,cells,-,h3,-,h4⟩:=Ms (RY h1);have h5:k.d=x:=by rw[h4];rfl
 rw[<-h5]at h3;have h6:=(bZ.1 h3).1.form;unfold B9 at h6;simp only[rl,sg,rn]at h6;intro y hy;exact h6.1.1.1 y hy
theorem Ju(h:RdC k x letters):∀p∈x.ps,An p.ls/\∀c∈p.ls,0<=c/\c<(letters.length:Int):=by
 intro p hp;refine⟨h.fx.p p hp,λc hc=>?_⟩;have:=sg.1 (HM (h.ox.ps p hp).1) c hc;simp only[rl,rn]at this;rw[h.ll];exact this
theorem Kt(h:OKL x)(hp:p∈x.ps):0<=p.c/\p.c<(x.cs.length:Int):=by
 have:=sg.1 (HM h.pc) p.c (t7.2 ⟨p,hp,rfl⟩);simpa only[rl,rn]using this
theorem OP{ps:List Prm}(h:Bj (ps.map (·.c))=true)(hp:p∈ps):ps.find? (λq=>decide (q.c=p.c))=some p:=by
 induction ps with
 |nil=>cases hp
 |cons q ps ih=>
  rw[sw,Bj,rl]at h;rcases sP.1 hp with rfl|hp
  ·rw[List.find?_cons_of_pos zw]
  ·grind
theorem Im(h:OKL x)(hp:p∈x.ps):Dk x p.c=some p:=by
 have:=h.pc;unfold CG at this;rw[rl]at this;exact OP this.2 hp
theorem F4{α:Type}[DecidableEq α]:∀{l:List α},Bj l=true->l.Nodup
 |[],_=>vH
 |x::r,h=>by
  rw[Bj,rl]at h;refine ul.2 ⟨λhx=>?_,F4 h.2⟩;have h1:=h.1;simp only[tq,uT,rn]at h1;exact h1 x hx rfl
theorem VV{l:List Int}(h:CG l n=true):l.length<=n:=by
 have h1:=HM h;unfold CG at h;rw[rl]at h;have:=Kq (b:=B7 n) (F4 h.2) λc hc=>by
  have:=sg.1 h1 c hc;simp only[rl,rn]at this;exact Ia.2 this
 unfold B7 at this;simpa using this
theorem jC(h:RdC k x letters)(hc:ClC k x cells){q:Cnd}(hq:q∈x.qs):ClOK k q letters cells:=by
 have h1:=Ui (h.ox.qs q hq);have hf:=h.fx.q q hq;have wz:=h.ox.cs.2.2.2;refine⟨by rcases h1.kind with h|h|h|h|h<;>omega,?_,hf.1,λc hcc=>?_,hf.2,λc hcc=>?_,hc.sy,M7 h.ck⟩
 ·have:=VV h1.cs;rcases h1.kind with h|h|h|h|h<;>omega
 ·have:=sg.1 (HM h1.cs) c hcc;simp only[rl,rn]at this;rw[hc.len];exact this
 ·have:=sg.1 (HM h1.ls) c hcc;simp only[rl,rn]at this;rw[h.ll];exact this
theorem Rl{i:Int}(h:i<0):Bl vals x letters cells i=false:=by unfold Bl;rw[rt h]
theorem Rm{a:Nat}(h:x.qs.length+x.ps.length<=a):Bl vals x letters cells (a:Int)=false:=by simp_all [Bl,Ic,rr]
theorem Th{a:Nat}{q:Cnd}(h:x.qs[a]?=some q):Bl vals x letters cells (a:Int)=Fd vals q letters cells:=by
 unfold Bl Ic;have:=(tA.1 h).1;rw[rj zo,rr,tu (by simpa using this),sb,h];rfl
theorem Ti{b:Nat}(h:x.ps[b]?=some p):Bl vals x letters cells ((x.qs.length+b:Nat):Int)=Jh p letters cells:=by
 unfold Bl Ic;rw[rj zo,rr,tx zw,r9,Nat.add_sub_cancel_left,sb,h];rfl
def Hz(k:zx):List Fs->AB->Prop×Fs:=λa H=>match a with
 |[K,Q,.sl t L,av]=>(B2.ok K/\B2.dec K=k/\dQ.ok Q/\BA.ok (.sl t L)/\O2 H av (rdL H av)/\ClOK k (dQ.dec Q) (L.map A9) (rdL H av),.bool (Fd (AW k) (dQ.dec Q) (L.map A9) (rdL H av)))
 |_=>(False,.tup [])
theorem VW(k:zx):∀args H n,(Hz k args H).1->Ao prog 93 args H n (Hz k args H).2:=by
 intro args H m hh;unfold Hz at hh⊢;split at hh
 ·obtain⟨h1,h2,h3,h4,h5,h6⟩:=hh;have w1:=B2.wk _ h1;rw[h2]at w1;exact(p93 k _ _ _ h6).view zt (.cons (.wk w1) (.cons (.wk (dQ.wk _ h3)) (.cons (.wk (BA.wk _ h4)) (.cons (QP h5) .nil)))) m
 ·exact hh.elim
def I7(k:zx)(x:zy)(letters:List Int):List Fs->AB->Prop×Fs:=λa H=>match a with
 |[.ptr rp 0,.int .i64 c]=>(Y8 H rp k x letters,Hy x letters c)
 |_=>(False,.tup [])
theorem lu(h:RdC k x letters):∀args H n,(I7 k x letters args H).1->Ao prog 147 args H n (I7 k x letters args H).2:=by
 intro args H m hh;unfold I7 at hh⊢;split at hh
 ·obtain⟨w,hw⟩:=hh;exact lr _ hw h.fx.ps (Ju h)
 ·exact hh.elim
def lw(k:zx)(x:zy)(letters:List Int):Bc:=AG 93 (Hz k) (AG 147 (I7 k x letters) (AG 60 Cu tnil))
theorem Y9(h:RdC k x letters):AH prog (lw k x letters):=((AH.tnil.add MY).add (lu h)).add (VW k)
theorem ly{av:Fs}(at':Int)(h:RdC k x letters)(hc:ClC k x cells)(hr:Y8 H rp k x letters)(hv:O2 H av cells):
  AV prog 146 [.ptr rp 0,.int .i64 at',av] H n (Ub H (.bool (Bl (AW k) x letters cells at'))):=by
 have hr0:=hr;obtain⟨w,hq⟩:=hr;simp only[Cx,AF,AE,AL,AY,si,sj]at hq;have hnq:x.qs.length<1000000000:=h.fx.qs;have hnp:x.ps.length<1000000000:=h.fx.ps;have hw1:IntKind.wrap .i64 ((x.qs.length:Int)+(x.ps.length:Int))=((x.qs.length+x.ps.length:Nat):Int):=by rw[A6 zo zo];omega
 have u1:B2.ok (.agg (AF k))=True:=CC k;have u2:B2.dec (.agg (AF k))=k:=Bm k;simp only[AF,AE,AL,si,sj]at u1 u2;have xa:BA.ok (Am letters):=(Ak letters).mpr zt;refine Qv.a (AI (Y9 h) (AJ ?_));by_cases h0:at'<0
 ·rw[Rl h0];simp only[eZ,seval,re,r9,Qv,hq,ra h0];exact C5.refl _
 obtain⟨a,rfl⟩:=tQ (Int.not_lt.1 h0);by_cases h1:x.qs.length+x.ps.length<=a
 ·rw[Rm h1];have h1':((x.qs.length+x.ps.length:Nat):Int)<=(a:Int):=zo
  simp only[eZ,seval,r9,Qv,hq,ri h0,hw1,ra h1'];exact C5.refl _
 have h1':¬((x.qs.length+x.ps.length:Nat):Int)<=(a:Int):=zo
 by_cases h2:a<x.qs.length
 ·have hg:=rc h2;have wo:=jC h hc (rY h2);generalize x.qs[a]=q at hg wo;have hql:dQ.ok (.agg [.int .i64 q.k,Am q.cs,Am q.ls,.int .i64 q.n])=True:=Ke q;have hqd:dQ.dec (.agg [.int .i64 q.k,Am q.cs,Am q.ls,.int .i64 q.n])=q:=Hd q;rw[Th hg];simp only[eZ,seval,eY,Qv,hq,ri h0,hw1,ri h1',AN h2,hg,lw,Hz,u1,u2,Ax,hql,hqd,I6 hv,ra hv,ra wo,ra xa,AG];exact C5.refl _
 obtain⟨b,rfl⟩:∃b,a=x.qs.length+b:=⟨a-x.qs.length,zo⟩;have hb:b<x.ps.length:=zo
 have hg:=rc hb;have hmem:=rY hb;generalize x.ps[b]=p at hg hmem;rw[Ti hg];have hw2:IntKind.wrap .i64 (((x.qs.length+b:Nat):Int)-(x.qs.length:Int))=(b:Int):=by rw[A6 zo zo];omega
 have hpv:Hy x letters p.c= .tup [Am (p.ls.map (BW letters)),.bool true]:=by unfold Hy;rw[Im h.ox hmem]
 have hpc:=Kt h.ox hmem;rw[<-hc.len]at hpc;have hgc:=CZ hpc.1 hpc.2;have hfl:An (p.ls.map (BW letters)):=by show(p.ls.map _).length<_;rw[r9];exact h.fx.p p hmem
 have hrd:O2 H (Am (p.ls.map (BW letters))) (p.ls.map (BW letters)):=.inl ⟨_,rfl,.inl rfl⟩;have hd:Jh p letters cells=(decide (0<=BW cells p.c)&& !(p.ls.map (BW letters)).contains (BW cells p.c)):=rfl;rw[hd];generalize p.ls.map (BW letters)=L at hpv hfl hrd;generalize BW cells p.c=s at hgc;have wd:p.c.toNat<cells.length:=zo
 have r1:=I6 hrd;rcases hv with⟨t,rfl,ht⟩|⟨id,cap,rest,rfl,ha,hcap⟩
 ·have ht':(t.esz=1)=True:=ra (ht.resolve_right λe=>by rw[e]at wd;simp at wd);by_cases hs:0<=s
  ·simp only[eZ,seval,eY,Qv,hq,ri h0,hw1,ri h1',Ad h2,AN hb,hg,hw2,lw,I7,Cu,ra hr0,hpv,ra hpc.1,ra hpc.2,hgc,ht',ra hs,r1,ra hrd,ra hfl,AG];exact C5.refl _
  ·simp only[eZ,seval,eY,Qv,hq,ri h0,hw1,ri h1',Ad h2,AN hb,hg,hw2,lw,I7,Cu,ra hr0,hpv,ra hpc.1,ra hpc.2,hgc,ht',ri hs,r1,ra hrd,ra hfl,AG];exact C5.refl _
 ·have hga:(cells++rest)[p.c.toNat]?=some s:=by rw[tu wd];exact hgc
  have hla:(p.c.toNat<(cells++rest).length)=True:=ra (by simp;omega);by_cases hs:0<=s
  ·simp only[eZ,seval,eY,Qv,hq,ri h0,hw1,ri h1',Ad h2,AN hb,hg,hw2,lw,I7,Cu,ra hr0,hpv,ra hpc.1,ra hpc.2,ha,hga,hla,ra hs,r1,ra hrd,ra hfl,AG];exact C5.refl _
  ·simp only[eZ,seval,eY,Qv,hq,ri h0,hw1,ri h1',Ad h2,AN hb,hg,hw2,lw,I7,Cu,ra hr0,hpv,ra hpc.1,ra hpc.2,ha,hga,hla,ri hs,r1,ra hrd,ra hfl,AG];exact C5.refl _
theorem lz{av:Fs}(at':Int)(h:RdC k x letters)(hc:ClC k x cells)(hr:Y8 H rp k x letters)(hv:O2 H av cells):
  Ao prog 146 [.ptr rp 0,.int .i64 at',av] H n (.bool (Bl (AW k) x letters cells at')):=
 Ao.of Qv.l zt λ_=>ly at' h hc hr hv
end
section
abbrev OQ(c:x9):Fs:=.agg [.int .i64 c.k,.int .i64 c.a]
abbrev MZ(l:List x9):Fs:=.sl (.none 2) (l.map OQ)
def DL(rp n:Nat)(H H':AB):Prop:=∀i,i<n->i≠rp->AD H' i=AD H i
variable {H H':AB} {k:zx} {letters:List Int} {x:zy} {rp n:Nat}
theorem DL.refl(H:AB):DL rp n H H:=λ_ _ _=>rfl
theorem DL.trans{n':Nat}{H'':AB}(h:DL rp n H H')(k:DL rp n' H' H'')(hn:n<=n'):DL rp n H H'':=λi hi hr=>(k i zo hr).trans (h i hi hr)
theorem DL.new{j:Nat}{ob:xq}(h:DL rp n H H')(hj:n<=j):DL rp n H (hset H' j ob):=λi hi hr=>by
 rw[AA _ _ _ _ zo];exact h i hi hr
theorem DL.set{ob:xq}(h:DL rp n H H'):DL rp n H (hset H' rp ob):=λi hi hr=>by
 rw[AA _ _ _ _ (Ne.symm hr)];exact h i hi hr
def ZA(rp:Nat)(k:zx)(x:zy)(letters:List Int)(H:AB)(n:Nat)(r:Option (List x9)):v8->AB->Nat->Prop:=λo H' n'=>
 AP H' n'/\n<=n'/\DL rp n H H'/\match r with
  |some l=>o= .ret (.bool true)/\AD H' rp=some (.box (Cx k x letters (MZ l)))
  |none=>o= .ret (.bool false)
def O6(k:zx)(x:zy)(letters:List Int):List Fs->AB->Prop×Fs:=λa H=>match a with
 |[.ptr rp 0,.int .i64 c,av]=>(Y8 H rp k x letters/\O2 H av (rdL H av)/\ClC k x (rdL H av),.bool (Bl (AW k) x letters (rdL H av) c))
 |_=>(False,.tup [])
theorem mA(h:RdC k x letters):∀args H n,(O6 k x letters args H).1->Ao prog 146 args H n (O6 k x letters args H).2:=by
 intro args H m hh;unfold O6 at hh⊢;split at hh
 ·exact lz _ h hh.2.2 hh.1 hh.2.1
 ·exact hh.elim
def Ttr(k:zx)(x:zy)(letters:List Int):Bc:=AG 146 (O6 k x letters) (lw k x letters)
theorem mB(h:RdC k x letters):AH prog (Ttr k x letters):=(Y9 h).add (mA h)
theorem Ttr_m(k:zx)(x:zy)(letters:List Int)(a:List Fs)(H:AB):Ttr k x letters 146 a H=O6 k x letters a H:=rfl
theorem Ttr_p(k:zx)(x:zy)(letters:List Int)(a:List Fs)(H:AB):Ttr k x letters 147 a H=I7 k x letters a H:=rfl
theorem ZB(k:zx)(x:zy)(letters:List Int)(a:List Fs)(H:AB):Ttr k x letters 60 a H=Cu a H:=rfl
def Cr(x:zy)(letters:List Int)(c s:Int):Bool:=match Dk x c with
 |none=>true
 |some p=>(p.ls.map (BW letters)).contains s
theorem Fv(m:Nat)(x:zy)(letters:List Int)(c:Int):DI m x letters c=(B7 m).filter (Cr x letters c):=by
 unfold DI Cr;cases Dk x c with
 |none=>exact(uN.2 λ_ _=>rfl).symm
 |some p=>rfl
theorem VX{F:Int->List x9->Option (List x9)}(hF:∀s l r,F s l=some r->r.length<=l.length):∀(ss:List Int) (l r:List x9),MS F ss l=some r->r.length<=l.length
 |[],l,r,h=>by rw[MS]at h;cases h;exact rq _
 |s::ss,l,r,h=>by
  rw[MS]at h;obtain⟨l1,h1,h2⟩:=Option.bind_eq_some_iff.1 h;exact sO (VX hF ss l1 r h2) (hF s l l1 h1)
theorem Rn{vals:List Int}:∀(f:Nat) (cells:List Int) (l r:List x9),Cd vals x letters f cells l=some r->r.length<=l.length
 |_,_,[],r,h=>by rw[Cd]at h;cases h
 |0,cells,n::l,r,h=>by
  rw[Cd]at h;split at h
  ·split at h
   ·cases h;simp
   ·cases h
  ·split at h<;>cases h
 |f+1,cells,n::l,r,h=>by
  rw[Cd]at h;split at h
  ·split at h
   ·cases h;simp
   ·cases h
  ·split at h
   ·have:=VX (λs l r=>Rn f (cells.set n.a.toNat s) l r) _ _ _ h;simp;omega
   ·cases h
theorem Wq(h:RdC k x letters)(c:Int):∃L ok t,Hy x letters c= .tup [.sl t (L.map eI),.bool ok]/\(t.esz=1\/L=[])/\An L/\∀s,Cr x letters c s=(!ok||L.contains s):=by
 unfold Hy Cr;cases hp:Dk x c with
 |none=>exact⟨[],false,.nil,rfl,.inr rfl,(by show(0:Nat)<_;decide),λs=>rfl⟩
 |some p=>
  refine⟨p.ls.map (BW letters),true,.none 1,rfl,.inl rfl,?_,λs=>rfl⟩;show(p.ls.map _).length<_;rw[r9];exact h.fx.p p (List.mem_of_find?_eq_some hp)
theorem con_f{ok b:Bool}(h:false=(!ok||b)):ok=true/\b=false:=by cases ok<;>cases b<;>simp at h⊢
theorem con_t{ok b:Bool}(h:true=(!ok||b)):ok=false\/ok=true/\b=true:=by cases ok<;>cases b<;>simp at h⊢
theorem Ro{m i:Nat}(h:i<m):(B7 m).drop i=(i:Int)::(B7 m).drop (i+1):=by
 unfold B7;rw[<-List.map_drop,<-List.map_drop,sn (by simpa using h)];simp
structure VTr where
 i:Nat
 l:List x9
 H:AB
 n:Nat
structure ITr(rp:Nat)(k:zx)(x:zy)(letters:List Int)(F:Int->List x9->Option (List x9))(p:Int->Bool)(R:Option (List x9))(H0:AB)(n0:Nat)(v:VTr):Prop where
 hi:v.i<=k.d.syms.length
 fr:AP v.H v.n
 hn:n0<=v.n
 kp:DL rp n0 H0 v.H
 hr:AD v.H rp=some (.box (Cx k x letters (MZ v.l)))
 he:R=MS F (((B7 k.d.syms.length).drop v.i).filter p) v.l
 hl:v.l.length<1000000000
theorem VY(h:RdC k x letters)(rp:Nat)(f:Nat)(cells:List Int)
  (ih:∀(cells':List Int) (l:List x9) (H:AB) (n id cap:Nat) (rest:List Int),AP H n->AD H rp=some (.box (Cx k x letters (MZ l)))->AD H id=some (.arr 1 ((cells'++rest).map eI))->cells'.length<=cap->ClC k x cells'->Hs cells'+1=Hs cells->l.length<1000000000->
   AV prog 98 [.ptr rp 0,.ref id 1 0 cells'.length cap] H n (ZA rp k x letters H n (Cd (AW k) x letters f cells' l)))
  (l:List x9) (H:AB) (n id cap:Nat) (rest:List Int) (hf:AP H n) (hrp:AD H rp=some (.box (Cx k x letters (MZ l)))) (hidq:AD H id=some (.arr 1 ((cells++rest).map eI))) (hcap:cells.length<=cap) (hC:ClC k x cells) (hl:l.length<1000000000):
  AV prog 98 [.ptr rp 0,.ref id 1 0 cells.length cap] H n (ZA rp k x letters H n (Cd (AW k) x letters (f+1) cells l)):=by
 have hq:=hrp;simp only[Cx,AF,AE,AL,AY,si,sj]at hq;refine jd.a (AI (mB h) (AJ ?_));cases l with
 |nil=>
  simp only[eZ,seval,c0,jd,hq];exact⟨hf,rq _,DL.refl _,by rw[Cd]⟩
 |cons c l=>
 have g1:(((l.length+1:Nat):Int)=0)=False:=qc;have g2:(n+6=rp)=False:=ri (by have:=hf.lt hrp;omega);have g3:(rp=n+6)=False:=ri (by have:=hf.lt hrp;omega);have g4:((1:Int)<=((l.length+1:Nat):Int))=True:=ra zo;have hck:Cd (AW k) x letters (f+1) cells (c::l)=if c.k=HZ then(if Bl (AW k) x letters cells c.a then some l else none)
  else if c.k=Id/\0<=c.a/\c.a<cells.length/\BW cells c.a<0 then MS (λs l=>Cd (AW k) x letters f (cells.set c.a.toNat s) l) (DI (AW k).length x letters c.a) l else none:=by rw[Cd]
 rw[hck];clear hck;have g5:((0:Int)<((l.length+1:Nat):Int))=True:=ra zo;have htl:List.take l.length (l.map OQ)=l.map OQ:=sQ zw;have hrpn:=hf.lt hrp;have hidn:=hf.lt hidq;have s6:rp≠id:=λe=>by rw[e,hidq]at hrp;cases hrp
 obtain⟨H2,hH2⟩:∃H2,hset (hset H (n+6) (.box [.int .i64 c.k,.int .i64 c.a])) rp (.box (Cx k x letters (MZ l)))=H2:=⟨_,rfl⟩;have wp:AP H2 (n+8):=by rw[<-hH2];exact(hf.hset (m:=n+8) zo zo).hset (rq _) zo
 have hrp2:AD H2 rp=some (.box (Cx k x letters (MZ l))):=by rw[<-hH2,AC]
 have hid2:AD H2 id=some (.arr 1 ((cells++rest).map eI)):=by rw[<-hH2,AA _ _ _ _ s6,AA _ _ _ _ zo];exact hidq
 have hnb2:AD H2 (n+6)=some (.box [.int .i64 c.k,.int .i64 c.a]):=by rw[<-hH2,AA _ _ _ _ zo,AC]
 have hkb2:DL rp n H H2:=by rw[<-hH2];exact((DL.refl H).new zo).set
 have hRd2:Y8 H2 rp k x letters:=⟨_,hrp2⟩;have hRI2:O2 H2 (.ref id 1 0 cells.length cap) cells:=.inr ⟨id,cap,rest,rfl,hid2,hcap⟩;have hrd:=I6 hRI2;simp only[Cx,AF,AE,AL,AY,si,sj]at hH2;by_cases my:c.k=2
 ·have hz:c.k=HZ:=my;rw[rt hz];simp only[eZ,seval,eY,jd,hq,g1,g2,g4,g5,htl,Bq hf,AQ,hH2,hnb2,ra my,Ttr_m,O6,hrd,ra hRI2,ra hRd2,ra hC];refine⟨wp,zo,hkb2,?_⟩;cases hcm:Bl (AW k) x letters cells c.a with
  |true=>exact⟨rfl,hrp2⟩
  |false=>rfl
 have hk2':¬c.k=HZ:=my;rw[rj hk2'];by_cases hk1:c.k=1;case neg=>
  have hk1':¬(c.k=Id/\0<=c.a/\c.a<cells.length/\BW cells c.a<0):=λq=>hk1 q.1
  rw[rj hk1'];simp only[eZ,seval,eY,jd,hq,g1,g2,g4,g5,htl,Bq hf,AQ,hH2,hnb2,ri my,ri hk1];exact⟨wp,zo,hkb2,rfl⟩
 by_cases ha0:c.a<0
 ·rw[rj zo];simp only[eZ,seval,re,eY,jd,hq,g1,g2,g4,g5,htl,Bq hf,AQ,hH2,hnb2,ri my,ra hk1,ra ha0];exact⟨wp,zo,hkb2,rfl⟩
 by_cases wm:(cells.length:Int)<=c.a
 ·rw[rj zo];simp only[eZ,seval,re,eY,jd,hq,g1,g2,g4,g5,htl,Bq hf,AQ,hH2,hnb2,ri my,ra hk1,ri ha0,ra wm];exact⟨wp,zo,hkb2,rfl⟩
 obtain⟨a,ha⟩:=tQ (Int.not_lt.1 ha0);have hal':a<cells.length:=zo
 have hgc:cells[a]?=some (BW cells c.a):=by have:=CZ (l:=cells) (i:=c.a) zo zo;rwa[show c.a.toNat=a by omega]at this
 have hga:(cells++rest)[a]?=some (BW cells c.a):=by rw[tu hal'];exact hgc
 have hla:(a<(cells++rest).length)=True:=ra (by simp;omega);have ya:c.a.toNat=a:=zo
 rw[ya];generalize hs:BW cells c.a=s at hgc hga;have b0:(0<=c.a)=True:=ra zo;have b1:(c.a<(cells.length:Int))=True:=ra zo;by_cases hs0:0<=s
 ·rw[rj zo];simp only[eZ,seval,eY,jd,hq,g1,g2,g4,g5,htl,Bq hf,AQ,hH2,hnb2,ri my,ra hk1,ri ha0,ri wm,hid2,ya,hga,hla,b0,b1,ra hs0];exact⟨wp,zo,hkb2,rfl⟩
 rw[rt ⟨hk1,zo,zo,zo⟩];obtain⟨L,ok,t,hpv,hLt,hLf,hcon⟩:=Wq h c.a;have hq2:=hrp2;simp only[Cx,AF,AE,AL,AY,si,sj]at hq2;have hvl:(AW k).length=k.d.syms.length:=by unfold AW;rw[r9]
 have hsy:=CP h.ck;rw[Fv,hvl];simp only[eZ,seval,eY,jd,hq,g1,g2,g4,g5,htl,Bq hf,AQ,hH2,hnb2,hq2,ri my,ra hk1,ri ha0,ri wm,hid2,ya,hga,hla,b0,b1,ri hs0,Ttr_p,I7,ra hRd2,hpv];refine AO (λv:VTr=>⟨[(0,true,.ptr rp 0),(1,true,.ref id 1 0 cells.length cap),(5,true,.ptr (n+6) 0),(6,true,.sl t (L.map eI)),(7,true,.bool ok),(72,true,.int .i64 k.d.syms.length),(73,true,.int .i64 v.i)],v.H,v.n⟩)
  (ITr rp k x letters (λs l=>Cd (AW k) x letters f (cells.set a s) l) (Cr x letters c.a) (MS (λs l=>Cd (AW k) x letters f (cells.set a s) l) ((B7 k.d.syms.length).filter (Cr x letters c.a)) l) H2 (n+8)) (λv=>k.d.syms.length-v.i)
  ⟨0,l,H2,n+8⟩ rfl ⟨rm _,wp,rq _,DL.refl _,hrp2,rfl,by simp only[sC]at hl;simp only[];omega⟩ ?_
 rintro⟨i,l1,H1,n1⟩ ⟨hi,hf1,me,hk,hr1,he,hl1⟩;simp only at hi hf1 me hk hr1 he hl1;rw[he];by_cases c9:i<k.d.syms.length;case neg=>
  obtain rfl:i=k.d.syms.length:=zo
  rw[ut (by unfold B7;simp)];simp only[eZ,seval,Ad c9];exact⟨hf1,zo,hkb2.trans hk zo,rfl,hr1⟩
 have e:=AK (k:=i) zo;have hd:=Ro c9;have hci:=hcon (i:Int);have hid1:AD H1 id=some (.arr 1 ((cells++rest).map eI)):=(hk id zo (Ne.symm s6)).trans hid2;have hnb1:AD H1 (n+6)=some (.box [.int .i64 c.k,.int .i64 c.a]):=(hk (n+6) zo zo).trans hnb2;have hRI1:O2 H1 (.ref id 1 0 cells.length cap) cells:=.inr ⟨id,cap,rest,rfl,hid1,hcap⟩;have hRL:O2 H1 (.sl t (L.map eI)) L:=.inl ⟨t,rfl,hLt⟩;have r1:=I6 hRL;by_cases wq:Cr x letters c.a (i:Int)=true;case neg=>
  have hcb':Cr x letters c.a (i:Int)=false:=by simpa using wq
  rw[hd,uK wq];rw[hcb']at hci;have h2:=con_f hci;obtain⟨rfl,h2⟩:=h2;simp only[eZ,seval,rf,AN c9,ZB,Cu,r1,ra hRL,ra hLf,h2,rf,e];exact .mk ⟨i+1,l1,H1,n1⟩ rfl ⟨c9,hf1,me,hk,hr1,rfl,hl1⟩ zp
 rw[hd,uL wq,MS];rw[wq]at hci;have h2:=con_t hci;have hcf:An cells:=by show cells.length<_;have:=h.ox.cs.2.2.2;rw[hC.len];omega
 rcases h2 with rfl|⟨rfl,h2⟩
 case' inl=>simp only[eZ,seval,AN c9,ZB,Cu,r1,ra hRL,ra hLf]
 case' inr=>simp only[eZ,seval,re,AN c9,ZB,Cu,r1,ra hRL,ra hLf,h2,re]
 all_goals
  refine(Ta hRI1 hcf).mono ?_;rintro o H3 n3 (⟨hz,-⟩|⟨-,rfl,rest3,rfl,rfl⟩)
  ·rw[hz]at hal';simp at hal'
  have y1:(n1=n+4)=False:=ri zo;have hla3:(a<(cells++rest3).length)=True:=ra (by simp;omega);simp only[eZ,seval,eY,BV,hnb1,y1,b0,b1,ya,hla3,AQ];have eset:((cells++rest3).map eI).set a (.int .i64 (i:Int))=((cells.set a (i:Int))++rest3).map eI:=by
   rw[<-List.set_append_left _ _ hal',List.map_set]
  have hlen:(cells.set a (i:Int)).length=cells.length:=tS;have hrpn1:=hf1.lt hr1;have hC':ClC k x (cells.set a (i:Int)):=⟨by rw[hlen];exact hC.len,λs hs h0=>by
   rcases uH hs with q|q
   ·exact hC.sy s q h0
   ·rw[q];exact⟨zo,zo⟩⟩
  have hng:=OC hgc zo (show(0:Int)<=(i:Int)by omega);rw[eset];have hcall:=ih (cells.set a (i:Int)) l1 (hset H1 (n1+2) (.arr 1 (((cells.set a (i:Int))++rest3).map eI))) (n1+4) (n1+2) (cells.length+rest3.length) rest3 (hf1.hset zo zo) (by rw[AA _ _ _ _ zo];exact hr1) (AC ..) (by rw[hlen];omega) hC' hng hl1;rw[hlen]at hcall;refine hcall.mono ?_;rintro o H4 n4 ⟨hf4,hn4,hk4,hres⟩;have hk4':DL rp (n+8) H2 H4:=(hk.new zo).trans hk4 zo;cases htr:Cd (AW k) x letters f (cells.set a (i:Int)) l1 with
  |none=>
   rw[htr]at hres;obtain rfl:o= .ret (.bool false):=hres;simp only[eZ,seval,rf,BV,rf];exact⟨hf4,zo,hkb2.trans hk4' zo,rfl⟩
  |some l2=>
   rw[htr]at hres;obtain⟨rfl,hr4⟩:=hres;have hl2:=Rn _ _ _ _ htr;simp only[eZ,seval,re,BV,re,e];exact .mk ⟨i+1,l2,H4,n4⟩ rfl ⟨c9,hf4,zp,hk4',hr4,rfl,zp⟩ zp
theorem O7{cells:List Int}{a:Nat}{t:Int}(h:Hs cells=0)(ha:cells[a]?=some t):0<=t:=by
 apply Classical.byContradiction;intro q;have h1:t∈cells.filter λs=>decide (s<0):=tV.2 ⟨te ha,by simp;omega⟩
 unfold Hs at h;rw[t6 h]at h1;cases h1
theorem Wr{vals:List Int}{cells:List Int}(h:Hs cells=0)(l:List x9):Cd vals x letters 0 cells l=Cd vals x letters 1 cells l:=by
 cases l with
 |nil=>rw[Cd,Cd]
 |cons c l=>
  rw[Cd,Cd];have s8:¬(c.k=Id/\0<=c.a/\c.a<cells.length/\BW cells c.a<0):=λq=>by
   have:=O7 h (CZ q.2.1 q.2.2.1);omega
  rw[rj s8,rj s8]
theorem ZC(h:RdC k x letters)(rp:Nat):∀(f:Nat) (cells:List Int) (l:List x9) (H:AB) (n id cap:Nat) (rest:List Int),AP H n->AD H rp=some (.box (Cx k x letters (MZ l)))->AD H id=some (.arr 1 ((cells++rest).map eI))->cells.length<=cap->ClC k x cells->Hs cells<=f->l.length<1000000000->
  AV prog 98 [.ptr rp 0,.ref id 1 0 cells.length cap] H n (ZA rp k x letters H n (Cd (AW k) x letters f cells l))
 |0,cells,l,H,n,id,cap,rest,hf,hrp,hidq,hcap,hC,hneg,hl=>by
  rw[Wr zo];exact VY h rp 0 cells (λcells' l H n id cap rest _ _ _ _ _ hn _=>zo) l H n id cap rest hf hrp hidq hcap hC hl
 |f+1,cells,l,H,n,id,cap,rest,hf,hrp,hidq,hcap,hC,hneg,hl=>
  VY h rp f cells (λcells' l H n id cap rest a1 a2 a3 a4 a5 hn a6=>ZC h rp f cells' l H n id cap rest a1 a2 a3 a4 a5 zo a6) l H n id cap rest hf hrp hidq hcap hC hl
end
section
def BT(k:zx)(x:zy):Int:=if BM k≠0 then BM k else Gt x
def Tsv:Bc:=AG 35 (s1 dX xw λx=>eI (Gt x)) rO
def ZD:AH prog Tsv:=Y7.add (q1 λx h=>p35 x h)
theorem jD(a:List Fs)(H:AB):Tsv 43 a H=s1 B2 (λk=>zk k.d) (λk=>.int .i64 (BM k)) a H:=rfl
theorem Tsv_m(a:List Fs)(H:AB):Tsv 35 a H=s1 dX xw (λx=>eI (Gt x)) a H:=rfl
def p97(k:zx)(x:zy)(hk:zk k.d)(hx:xw x):Aw prog 97 [A5 k,BZ x] (eI (BT k x)):=by
 have u1:B2.ok (.agg (AF k))=True:=CC k;have u2:B2.dec (.agg (AF k))=k:=Bm k;simp only[AF,AE,AL,si,sj]at u1 u2;have v1:dX.ok (.agg (AY x))=True:=D5 x;have v2:dX.dec (.agg (AY x))=x:=C4 x;simp only[AY]at v1 v2;refine .mk ⟨Aj 0 k,At 0 x,zt⟩ zt (c97.a (AI ZD (AJ ?_)));unfold BT;by_cases h:BM k=0
 ·simp only[eZ,seval,re,c97,AF,AE,AL,jD,Tsv_m,s1,u1,u2,v1,v2,ra hk,ra hx,ra h]
 ·simp only[eZ,seval,rf,c97,AF,AE,AL,jD,s1,u1,u2,ra hk,ri h]
def i04:((0:Int)<4)=True:=ra zd
abbrev Kj(t:List (List x9)):Fs:=.sl (.none 1) (t.map MZ)
abbrev Bn(t:List (List x9)):Fs:=.agg [Kj t]
def Ku(n:Nat)(l:List x9):(MZ l).under n:=⟨zt,Ay (f:=OQ) (λc=>⟨zt,zt,zt⟩) _⟩
def Bo(n:Nat)(t:List (List x9)):(Bn t).under n:=⟨⟨zt,Ay (Ku n) _⟩,zt⟩
abbrev eCk:List (Nat×Bool×Fs):=[(3,true,.ptr 0 0),(4,true,.ptr 1 0),(5,true,.ptr 2 0),(6,true,.ptr 3 0),(7,true,.ptr 4 0),(8,true,.ptr 5 0),(25,true,clC 8 7)]
noncomputable abbrev ZE (l':Nat) (st:LoopState) (pend:Option Code):xq:=.lp ⟨l',st,pend,75,eCk, #[26],LK,LL⟩
def ZF(k:zx)(x:zy)(trees:List (List x9))(D:List (List Int)):Prop:=∀(i:Nat) l,D[i]?=some l->∃t,trees[i]?=some t/\Cd (AW k) x l x.cs.length (Fe x l) t=some []
structure CkJ(k:zx)(x:zy)(trees:List (List x9))(l':Nat)(F:Nat->Prop)(D:List (List Int))(H:AB)(m:Nat):Prop where
 fr:AP H m
 lm:11<=m
 nF:∀i,F i->i=7\/i=8\/11<=i
 h0:AD H 0=some (.box (AF k))
 h1:AD H 1=some (.box (AY x))
 h2:AD H 2=some (.box [Kj trees])
 h3:AD H 3=some (.box [.bool false])
 h4:AD H 4=some (.box [.int .i64 0])
 h5:AD H 5=some (.box [.int .i64 D.length])
 hL:AD H 10=some (ZE l' .ready none)
 ok:ZF k x trees D
def CkS(k:zx)(x:zy)(trees:List (List x9))(l':Nat)(H:AB)(m:Nat):Prop:=
 AD H 3=some (.box [.bool false])/\AD H 4=some (.box [.int .i64 0])/\AD H 10=some (ZE l' .done (some .ret))/\Dt (AW k) x trees=false
variable {k:zx} {x:zy}
theorem dm{trees:List (List x9)}{l':Nat}(hR:∀letters∈Gs (AW k).length x.ls.length,RdC k x letters)(htr':An trees)(ht:∀t∈trees,An t):Gen (Gs (AW k).length x.ls.length) l' (CkJ k x trees l') (CkS k x trees l') where
 fr:=λF D H m h=>h.fr
 frame:=by
  rintro F F' D H H' m m' ⟨fr,lm,nF,h0,h1,h2,h3,h4,h5,hL,ok⟩ hF hH hf hm;have n1:∀i,i<11->i≠7->i≠8->AD H' i=AD H i:=λi a b c=>hH i λq=>by
   rcases hF i q with q|q
   ·have:=nF i q;omega
   ·omega
  exact⟨hf,zo,λi h=>(hF i h).elim (nF i) (λq=>zo),by rw[n1 0 zd zd zd];exact h0,by rw[n1 1 zd zd zd];exact h1,by rw[n1 2 zd zd zd];exact h2,
   by rw[n1 3 zd zd zd];exact h3,by rw[n1 4 zd zd zd];exact h4,by rw[n1 5 zd zd zd];exact h5,by rw[n1 10 zd zd zd];exact hL,ok⟩
 yld:=by
  rintro F D letters H m R ⟨fr,lm,nF,h0,h1,h2,h3,h4,h5,hL,ok⟩ hF hA hRt hRf;refine y67_0 hL rfl (AI AH.tnil (AJ ?_));simp only[eE,eN,seval,Ug,Gl,um,uu,tM,uO];refine⟨_,hL,rfl,AI AH.tnil (AJ ?_)⟩;have hf':AP (hset H 10 (ZE l' .busy none)) m:=fr.hset (rq _) zo;generalize hH1:hset H 10 (ZE l' .busy none)=H1 at hf'⊢;have k1:∀i,i≠10->AD H1 i=AD H i:=λi hi=>by rw[<-hH1,AA _ _ _ _ hi.symm]
  have hL1:AD H1 10=some (ZE l' .busy none):=by rw[<-hH1,AC]
  have a0:=(k1 0 zd).trans h0;have a1:=(k1 1 zd).trans h1;have a2:=(k1 2 zd).trans h2;have a3:=(k1 3 zd).trans h3;have a4:=(k1 4 zd).trans h4;have a5:=(k1 5 zd).trans h5;clear hH1;have hmem:letters∈Gs (AW k).length x.ls.length:=by
   obtain⟨t,ht⟩:=hA;rw[<-ht];simp
  have hrd:=hR _ hmem;simp only[AF,AE,AL,si,sj]at a0;by_cases hl:D.length=trees.length
  ·have hl':((D.length:Int)=(trees.length:Int))=True:=ra zo;have hl2:decide ((D.length:Int)=(trees.length:Int))=true:=by simp;omega
   simp only[eZ,seval,r9,Qw,a5,a2,hl',a3,a4];refine⟨⟨l',.busy,none,75,eCk, #[26],LK,LL⟩,by rw[AA _ _ _ _ zd,AA _ _ _ _ zd];exact hL1,hRf _ _ ⟨?_,?_,AC ..,?_⟩⟩
   ·simp_all [AA,decide,AC]
   ·rw[AA _ _ _ _ zd,AC]
   ·unfold Dt;obtain⟨t,hA⟩:=hA;have hlen:(Gs (AW k).length x.ls.length).length≠trees.length:=by
     rw[<-hA];simp;omega
    rw[sa hlen,sV]
  have hl':((D.length:Int)=(trees.length:Int))=False:=ri zo;have hl2:decide ((D.length:Int)=(trees.length:Int))=false:=by simp;omega
  have hDl:D.length<trees.length:=by
   have:D.length<=trees.length:=by
    apply Classical.byContradiction;intro q;obtain⟨t,h1,-⟩:=ok trees.length D[trees.length] (rc zo);rw[uj zo]at h1;cases h1
   omega
  have hgt:=rc hDl;have htf:=ht _ (rY hDl);generalize trees[D.length]=tr at hgt htf;have hX:=hrd.ox;have hxc:=hX.c;have hxl:=hX.l;have hx4:=hX.cs.2.2;rw[<-hrd.ll]at hxl;have hgl:=CZ hxl.1 hxl.2;have z:∀j,j<11->(m=j)=False:=λj hj=>ri zo
  have z':∀j,j<11->(j=m)=False:=λj hj=>ri zo
  have z0:=z 0 zd;have z1:=z 1 zd;have z2:=z 2 zd;have z3:=z 3 zd;have z4:=z 4 zd;have z5:=z 5 zd;have z10:=z 10 zd;have w1:((x.cs.length:Int)<=4)=True:=ra zo;have w2:(0<=x.c)=True:=ra hxc.1;have w3:(x.c<(x.cs.length:Int))=True:=ra hxc.2;have w4:(x.c.toNat<4)=True:=ra zo;have w5:(0<=x.l)=True:=ra hxl.1;have w6:(x.l<(letters.length:Int))=True:=ra hxl.2;have w7:(x.l.toNat<letters.length)=True:=ra zo;simp only[AY]at a1;simp only[eZ,seval,xE,eY,Qw,a5,a2,hl',a0,a1,Bq hf',S1 hf',W8,W9,z0,z1,z2,z5,w1,w2,w3,w4,w5,w6,hgl,hgt,AN hDl,Nat.sub_zero,jA,i04,AQ];have hbeg:([.int .i64 (-1),.int .i64 (-1),.int .i64 (-1),.int .i64 (-1)]:List Fs).set x.c.toNat (eI (BW letters x.l))=((Fe x letters)++List.replicate (4-x.cs.length) (-1)).map eI:=by
   unfold Fe;rw[<-List.set_append_left _ _ (by rw[tP];omega),List.replicate_append_replicate,show x.cs.length+(4-x.cs.length)=4 by omega,List.map_set];rfl
  rw[hbeg];generalize hHa:hset H1 m (xq.arr 1 _)=Ha;have hfa:AP Ha (m+15):=by rw[<-hHa];exact hf'.hset zo zo
  have hbl:=N9 x letters;have hC:ClC k x (Fe x letters):=by
   refine⟨hbl,λs hs h0=>?_⟩;have hb:=OA hX hmem;unfold Fe at hs;rcases uH hs with q|q
   ·rw[List.mem_replicate]at q;omega
   ·grind [AW,List.length_map]
  have hcall:=ZC hrd (m+15) x.cs.length (Fe x letters) tr (hset Ha (m+15) (.box (Cx k x letters (MZ tr)))) (m+17) m 4 (List.replicate (4-x.cs.length) (-1)) (hfa.hset zo zo) (AC ..) (by rw[AA _ _ _ _ zo,<-hHa,AC]) (by rw[hbl];omega) hC TI htf;rw[hbl]at hcall;refine hcall.mono ?_;rintro o H4 n4 ⟨hf4,hn4,hk4,hres⟩;have hkeep:∀i,i<m->AD H4 i=AD H1 i:=λi hi=>by
   rw[hk4 i zo zo,AA _ _ _ _ zo,<-hHa,AA _ _ _ _ zo]
  have b3:=(hkeep 3 zo).trans a3;have b4:=(hkeep 4 zo).trans a4;have b5:=(hkeep 5 zo).trans a5;have b10:=(hkeep 10 zo).trans hL1;have hwrong:∀q,Cd (AW k) x letters x.cs.length (Fe x letters) tr=q->q≠some []->Dt (AW k) x trees=false:=λq hq s6=>by
   unfold Dt;rw[vk];by_cases hlen:(Gs (AW k).length x.ls.length).length=trees.length
   ·right;rw[uw];obtain⟨t,hA⟩:=hA;refine⟨(letters,tr),?_,by rw[hq];simpa using s6⟩;rw[List.mem_iff_getElem?];refine⟨D.length,?_⟩;rw[List.getElem?_zip_eq_some];refine⟨?_,hgt⟩;rw[<-hA];simp
   ·exact .inl (sa hlen)
  have stop:Dt (AW k) x trees=false->aZ 10 R x6.ret ⟨[],hset (hset H4 3 (.box [.bool false])) 4 (.box [.int .i64 0]),n4⟩:=λhw=>by
   refine⟨⟨l',.busy,none,75,eCk, #[26],LK,LL⟩,by rw[AA _ _ _ _ zd,AA _ _ _ _ zd];exact b10,hRf _ _ ⟨?_,?_,AC ..,hw⟩⟩
   ·simp_all [AA,decide,AC]
   ·rw[AA _ _ _ _ zd,AC]
  cases htr:Cd (AW k) x letters x.cs.length (Fe x letters) tr with
  |none=>
   rw[htr]at hres;obtain rfl:o= .ret (.bool false):=hres;simp only[eZ,seval,re,rf,BV,b3,b4,rf];exact stop (hwrong _ htr zw)
  |some l2=>
   rw[htr]at hres;obtain⟨rfl,hr4⟩:=hres;simp only[Cx,AF,AE,AL,AY,si,sj]at hr4;cases l2 with
   |cons c2 l2=>
    have g2:((0:Int)<((l2.length+1:Nat):Int))=True:=gX;simp only[eZ,seval,re,r9,BV,b3,b4,hr4,re,g2];exact stop (hwrong _ htr zw)
   |nil=>
    have e:=AK (k:=D.length) (by have:trees.length<1000000000:=htr';omega);simp only[eZ,seval,re,eY,BV,b5,hr4,re,e];have hF':∀i,F i->i≠5/\i≠10:=λi hi=>by have:=nF i hi;omega
    refine⟨⟨l',.busy,none,75,eCk, #[26],LK,LL⟩,by rw[AA _ _ _ _ zd];exact b10,hRt _ _ ⟨(hf4.hset (m:=n4) (rq _) zo).hset (m:=n4) (rq _) zo,zp,nF,?_,?_,?_,?_,?_,?_,AC ..,?_⟩ (λi hi=>?_) zp⟩
    ·rw[AA _ _ _ _ zd,AA _ _ _ _ zd,hkeep 0 zo,k1 0 zd];exact h0
    ·rw[AA _ _ _ _ zd,AA _ _ _ _ zd,hkeep 1 zo,k1 1 zd];exact h1
    ·rw[AA _ _ _ _ zd,AA _ _ _ _ zd,hkeep 2 zo];exact a2
    ·rw[AA _ _ _ _ zd,AA _ _ _ _ zd];exact b3
    ·rw[AA _ _ _ _ zd,AA _ _ _ _ zd];exact b4
    ·rw[AA _ _ _ _ zd,AC,sm];rfl
    ·intro i l hl;by_cases q:i<D.length
     ·rw[tu q]at hl;exact ok i l hl
     ·grind
    ·have:=hF i hi;rw[AA _ _ _ _ (λq=>(hF' i hi).2 q.symm),AA _ _ _ _ (λq=>(hF' i hi).1 q.symm),hkeep i zo,k1 i (hF' i hi).2]
theorem Ws{trees:List (List x9)}(h:ZF k x trees (Gs (AW k).length x.ls.length)):Dt (AW k) x trees=decide ((Gs (AW k).length x.ls.length).length=trees.length):=by
 unfold Dt;rw[Bool.and_eq_left_iff_imp];intro hl;rw[sg];rintro⟨l,t⟩ hm;obtain⟨i,hi⟩:=List.mem_iff_getElem?.1 hm;rw[List.getElem?_zip_eq_some]at hi;obtain⟨t',h1,h2⟩:=h i l hi.1;rw[hi.2]at h1;cases h1;exact sk h2
def CR(k:zx)(x:zy)(trees:List (List x9)):Fs:=if BT k x≠0 then .tup [.bool false,.int .i64 (BT k x)]else .tup [.bool (Dt (AW k) x trees),.int .i64 0]
theorem ZG(hk:zk k.d)(hx:xw x)(h:BT k x=0){letters:List Int}(hl:letters∈Gs (AW k).length x.ls.length):RdC k x letters:=by
 unfold BT at h;by_cases hc:BM k=0
 ·rw[rj (by simpa using hc)]at h;have ho:FQ x=true:=by
   unfold Gt at h;split at h
   ·assumption
   ·cases h
  exact⟨hc,hk,hx,(Q8 x).1 ho,(Iw hl).1⟩
 ·rw[rt hc]at h;exact absurd h hc
def rowVd:List Fs->AB->Prop×Fs:=s2 B2 dX (λk x=>zk k.d/\xw x) λk x=>eI (BT k x)
def Tsc:Bc:=AG 97 rowVd tnil
theorem mC:AH prog Tsc:=AH.tnil.add (q2 λk x h=>p97 k x h.1 h.2)
theorem jE(a:List Fs)(H:AB):Tsc 97 a H=s2 B2 dX (λk x=>zk k.d/\xw x) (λk x=>eI (BT k x)) a H:=rfl
theorem p67(k:zx)(x:zy)(trees:List (List x9))(hk:zk k.d)(hx:xw x)(htr:An trees)(ht:∀t∈trees,An t):Aw prog 67 [A5 k,BZ x,Bn trees] (CR k x trees):=by
 have u1:B2.ok (.agg (AF k))=True:=CC k;have u2:B2.dec (.agg (AF k))=k:=Bm k;simp only[AF,AE,AL,si,sj]at u1 u2;have v1:dX.ok (.agg (AY x))=True:=D5 x;have v2:dX.dec (.agg (AY x))=x:=C4 x;simp only[AY]at v1 v2;refine .mk ⟨Aj 0 k,At 0 x,Bo 0 trees,zt⟩ ?_ (a67 (AI mC (AJ ?_)))
 ·unfold CR;split<;>exact⟨zt,zt,zt⟩
 unfold CR;by_cases hv:BT k x=0;case neg=>simp only[eZ,eX,seval,rf,BG,c67,AF,AE,AL,jE,s2,u1,u2,v1,v2,ra hk,ra hx,ri hv];exact Wk.refl _
 have hvl:(AW k).length=k.d.syms.length:=by unfold AW;rw[r9]
 simp only[eZ,seval,re,r9,c67,AF,AE,AL,jE,s2,u1,u2,v1,v2,ra hk,ra hx,ra hv,AQ];rw[hv];have hck:BM k=0:=by simp_all [BT]<;>omega
 have hsy:=CP hck;generalize hHa:hset (hset _ 4 _) 5 (xq.box _)=Ha;have fa:AP Ha 7:=by
  rw[<-hHa];repeat' (first|exact AP.nil.hset (m:=7) (rm _) zd|refine AP.hset ?_ (rq _) zd)
 have f0:AD Ha 0=some (.box (AF k)):=by rw[<-hHa];rfl
 have f1:AD Ha 1=some (.box (AY x)):=by rw[<-hHa];rfl
 have f2:AD Ha 2=some (.box [Kj trees]):=by rw[<-hHa];rfl
 have f3:AD Ha 3=some (.box [.bool false]):=by rw[<-hHa];rfl
 have f4:AD Ha 4=some (.box [.int .i64 0]):=by rw[<-hHa];rfl
 have f5:AD Ha 5=some (.box [.int .i64 0]):=by rw[<-hHa];rfl
 clear hHa;have xa:x.ls.length<=1000:=by
  have ho:FQ x=true:=by
   unfold BT at hv;rw[rj (by simpa using hck)]at hv;unfold Gt at hv;split at hv
   ·assumption
   ·cases hv
  have:=((Q8 x).1 ho).ls.2.2.2;omega
 refine(Ll (M:=k.d.syms.length) (n:=x.ls.length) fa).mono ?_;rintro o H1 n1 ⟨rfl,rfl,rfl⟩;simp only[eE,eN,seval,BV,GB];intro l';generalize hHb:hset (hset (hset Ha 7 _) _ _) _ (xq.lp _)=Hb;have kb:∀i,i<7->AD Hb i=AD Ha i:=λi hi=>by
  rw[<-hHb,AA _ _ _ _ zo,AA _ _ _ _ zo,AA _ _ _ _ zo]
 have e8:AD Hb 8=some (.box [.int .i64 x.ls.length]):=by rw[<-hHb,AA _ _ _ _ zd];exact AC ..
 have e7:AD Hb 7=some (.box [.int .i64 (AW k).length]):=by rw[<-hHb,AA _ _ _ _ zd,AA _ _ _ _ zd,hvl];exact AC ..
 have hJ:CkJ k x trees l' (λi=>i=7\/i=8) [] Hb 11:=by
  refine⟨?_,rq _,λi h=>zo,(kb 0 zd).trans f0,(kb 1 zd).trans f1,(kb 2 zd).trans f2,(kb 3 zd).trans f3,(kb 4 zd).trans f4,(kb 5 zd).trans f5,by rw[<-hHb];exact AC ..,λi l h=>by simp at h⟩;rw[<-hHb];exact((fa.hset (m:=11) zd zd).hset (rq _) zd).hset (rq _) zd
 have hgen:=dm (k:=k) (x:=x) (trees:=trees) (l':=l') (λletters hl=>ZG hk hx hv hl) htr ht;have hM:(AW k).length<=1000:=zo
 refine(VS hgen hM xa hJ (λi h=>zo) (.inr rfl) (.inl rfl) e8 e7).mono ?_;rintro o H' m' ⟨rfl,⟨F',-,hF',hj⟩|⟨s3,s4,sL,hw⟩⟩
 ·obtain⟨fr,lm,nF,h0,h1,h2,h3,h4,h5,hL,ok⟩:=hj;rw[Ws ok];generalize (Gs (AW k).length x.ls.length).length=cl at h5;simp only[eE,eN,seval,BG,r9,GA,hL,h2,h3,h4,h5];rw[show decide ((cl:Int)=(trees.length:Int))=decide (cl=trees.length)from decide_eq_decide.2 zo];exact Wk.refl _
 ·simp only[eE,eN,seval,BG,GA,sL,s3,s4,hw];exact Wk.refl _
end
def mD:List Bs:=[[97],[98],[99],[100]]
def OR(q:Cnd)(nc nl:Nat):zy:=⟨[120],1,mD.take nc,mD.take nl,[q],[],0,0⟩
def p92(q:Cnd)(nc nl:Nat)(h1:nc<=4)(h2:nl<=4):Aw prog 92 [GK q,.int .i64 nc,.int .i64 nl] (BZ (OR q nc nl)):=by
 refine .mk ⟨Dl 0 q,zt,zt,zt⟩ (At 0 _) (c92.a (AI AH.tnil (AJ ?_)));have w1:((nc:Int)<=4)=True:=ra zo;have w2:((nl:Int)<=4)=True:=ra zo;simp only[eE,eN,seval,BG,eY,c92,w1,w2,jA];have hn:∀(b:Bool) (m:Nat),Wk (.sl (if b=true then w8.exact 1 else w8.none 1) (List.take m [.str [97],.str [98],.str [99],.str [100]])) (.sl (.none 1) ((mD.take m).map .str)):=λb m=>by
  rw[List.map_take];exact Wk.sl (.inl (by cases b<;>rfl))
 have hn':∀(p:Prop) [Decidable p] (m:Nat),Wk (.sl (if p then w8.exact 1 else w8.none 1) (List.take m [.str [97],.str [98],.str [99],.str [100]])) (.sl (.none 1) ((mD.take m).map .str)):=λp _ m=>by
  have:=hn (decide p) m;simpa only[rn]using this
 exact Wk.agg (.cons (Wk.refl _) (.cons (Wk.refl _) (.cons (hn' _ _) (.cons (hn' _ _) (.cons (Wk.sl (.inl rfl)) (.cons (Wk.sl (.inr rfl)) (.cons (Wk.refl _) (.cons (Wk.refl _) .nil))))))))
def p91(s m:Int):Aw prog 91 [eI s,.ep [.int .i64 m]] (.bool (decide (s< -1)||decide (m<=s))):=by
 refine .mk ⟨zt,⟨zt,zt⟩,zt⟩ zt (c91.a (AI AH.tnil (AJ ?_)));by_cases h:s< -1
 ·simp only[eZ,seval,re,c91,ra h]
 ·simp only[eZ,seval,c91,ri h]
def cR(l:List Int)(p:Int->Bool):Int:=match l.findIdx? p with
 |some i=>i
 |none=>-1
def dp(l:List Int)(p:Int->Bool):decide (0<=cR l p)=l.any p:=by
 unfold cR;cases h:l.findIdx? p with
 |none=>simp_all
 |some i=>
  obtain⟨hi,h1,-⟩:=sM.1 h;rw[show l.any p=true from uF.2 ⟨_,rY hi,h1⟩];simp
theorem mE{g:FuncId}{cap:List Fs}{p:Int->Bool}(l:List Int)(hl:An l)(hcap:unders 0 cap)(hq:∀x,x∈l->Aw prog g (eI x::cap) (.bool (p x))):
  Aw prog 134 [Am l,.fn (.func g) [] cap] (.int .i64 (cR l p)):=by
 have hT:AH prog (AG g (Hx cap (λx=>x∈l) λx=>.bool (p x)) tnil):=AH.tnil.add (Yw hq);have hTe:∀a H,AG g (Hx cap (λx=>x∈l) λx=>.bool (p x)) tnil g a H=Hx cap (λx=>x∈l) (λx=>.bool (p x)) a H:=λa H=>by unfold AG;rw[rt rfl]
 generalize AG g (Hx cap (λx=>x∈l) λx=>.bool (p x)) tnil=T at hT hTe;refine .mk ⟨AZ 0 _,⟨zt,hcap⟩,zt⟩ zt (qE.a (AI hT (AJ ?_)));have am:l.length<1000000000:=hl;simp only[eE,eN,seval,r9,qE];refine AO (λi:Nat=>⟨[(0,true,Am l),(1,true,.fn (.func g) [] cap),(7,true,.int .i64 l.length),(8,true,.int .i64 i)],Ai,0⟩) (λi=>i<=l.length/\∀(j:Nat) x,j<i->l[j]?=some x->p x=false) (λi=>l.length-i) 0 rfl ⟨rm _,λj x h=>zo⟩ ?_;rintro i ⟨hi,he⟩;by_cases c9:i<l.length;case neg=>
  obtain rfl:i=l.length:=zo
  have:cR l p= -1:=by
   unfold cR;rw[tT.2 λx hx=>by
    obtain⟨j,hj,rfl⟩:=sH.1 hx;exact he j _ hj (rc hj)]
  rw[this];simp only[eZ,seval,Ad c9]
 have hg:=rc c9;have hm:=rY c9;have e:=AK (k:=i) zo;have hfx:p l[i]=true->cR l p=(i:Int):=λhp=>by
  unfold cR;rw[sM.2 ⟨c9,hp,λj hj=>by
   have:=he j _ hj (rc zo);rw[this];decide⟩]
 generalize l[i]=x at hg hm hfx;cases hp:p x with
 |true=>
  rw[hfx hp];simp only[eZ,seval,eY,AN c9,hg,hTe,Hx,ra hm,hp]
 |false=>
  simp only[eZ,seval,eY,AN c9,hg,hTe,Hx,ra hm,hp,e];refine .mk (i+1) rfl ⟨c9,λj y hj hy=>?_⟩ zo;by_cases q:j<i
  ·exact he j y q hy
  ·obtain rfl:j=i:=zo
   rw[hg]at hy;cases hy;exact hp
def jF{g:FuncId}{cap:List Fs}{p:Int->Bool}(l:List Int)(hl:An l)(hcap:unders 0 cap)(hq:∀x,x∈l->Aw prog g (eI x::cap) (.bool (p x))):
  Aw prog 87 [Am l,.fn (.func g) [] cap] (.bool (l.any p)):=by
 have hp:=mE l hl hcap hq;refine .mk ⟨AZ 0 _,⟨zt,hcap⟩,zt⟩ zt (c87.a (AI (T:=AG 134 (DS [Am l,.fn (.func g) [] cap] (λ_=>True) (.int .i64 (cR l p))) tnil) (AH.tnil.add (Hf λH n _=>hp.quiet H n)) (AJ ?_)));have hTe:∀a H,AG 134 (DS [Am l,.fn (.func g) [] cap] (λ_=>True) (.int .i64 (cR l p))) tnil 134 a H=DS [Am l,.fn (.func g) [] cap] (λ_=>True) (.int .i64 (cR l p)) a H:=λa H=>by unfold AG;rw[rt rfl]
 simp only[eE,eN,seval,c87,DS];rw[dp]
def ZH(q:Cnd){nc nl:Nat}(h1:1<=nc/\nc<=4)(h2:1<=nl/\nl<=3):FQ (OR q nc nl)=CH q nc nl:=by
 have e1:CF [120]=true:=zd
 have e2:CF [97]=true:=zd
 have e3:CF [98]=true:=zd
 have e4:CF [99]=true:=zd
 have e5:CF [100]=true:=zd
 have a:nc=1\/nc=2\/nc=3\/nc=4:=zo
 have b:nl=1\/nl=2\/nl=3:=zo
 rcases a with rfl|rfl|rfl|rfl<;>rcases b with rfl|rfl|rfl<;>simp [FQ,OR,Cp,CG,Bj,mD,e1,e2,e3,e4,e5]
theorem H8{α:Type}[DecidableEq α]:∀{l:List α},l.Nodup->Bj l=true
 |[],_=>rfl
 |x::r,h=>by
  obtain⟨h1,h2⟩:=ul.1 h;rw[Bj,H8 h2,Bool.and_true,tq,uT];intro y hy;simp only[rn];rintro rfl;exact h1 hy
def Gv{l:List Int}{n:Nat}:CG l n=true↔(∀c∈l,0<=c/\c<(n:Int))/\l.Nodup:=by
 unfold CG;rw[rl,sg];constructor
 ·rintro⟨h1,h2⟩;exact⟨λc hc=>by simpa using h1 c hc,F4 h2⟩
 ·rintro⟨h1,h2⟩;exact⟨λc hc=>by simpa using h1 c hc,H8 h2⟩
def Kv(k:zx)(q:Cnd)(letters cells:List Int):Fs:=
 if BM k≠0 then .tup [.bool false,.int .i64 (BM k)]
 else if letters.length<1\/3<letters.length\/cells.length<1\/4<cells.length then .tup [.bool false,.int .i64 1]
 else if CG letters k.d.syms.length=false then .tup [.bool false,.int .i64 1]
 else if(cells.any λs=>decide (s< -1)||decide ((k.d.syms.length:Int)<=s))=true then .tup [.bool false,.int .i64 1]
 else if CH q cells.length letters.length=false then .tup [.bool false,.int .i64 300]
 else .tup [.bool (Fd (AW k) q letters cells),.int .i64 0]
def M8:List Fs->AB->Prop×Fs:=λa H=>match a with
 |[Q,.int .i64 nc,.int .i64 nl]=>(dQ.ok Q/\(0<=nc/\nc<=4)/\0<=nl/\nl<=4,BZ (OR (dQ.dec Q) nc.toNat nl.toNat))
 |_=>(False,.tup [])
def mF:∀args H n,(M8 args H).1->Ao prog 92 args H n (M8 args H).2:=by
 intro args H m hh;unfold M8 at hh⊢;split at hh
 ·rename_i Q nc nl;obtain⟨h1,h2,h3⟩:=hh;obtain⟨a,rfl⟩:=tQ h2.1;obtain⟨b,rfl⟩:=tQ h3.1;refine AV.args ((p92 (dQ.dec Q) a b zo zo).quiet H m) ?_;rintro g vs ⟨v,r,rfl,k1,k2⟩;exact⟨v,_,rfl,dQ.wk _ h1 _ _ k1,k2⟩
 ·exact hh.elim
def Ln(m:Int):List Fs->AB->Prop×Fs:=λa H=>match a with
 |[.sl t L,.fn (.func g) [] [.ptr q 0]]=>(g=91/\AD H q=some (.box [.int .i64 m])/\BA.ok (.sl t L)/\An (L.map A9),.bool ((L.map A9).any λs=>decide (s< -1)||decide (m<=s)))
 |_=>(False,.tup [])
def mG(m:Int):∀args H n,(Ln m args H).1->Ao prog 87 args H n (Ln m args H).2:=by
 intro args H n hh;unfold Ln at hh⊢;split at hh
 ·obtain⟨rfl,h1,h2,h3⟩:=hh;exact(jF _ h3 ⟨⟨zt,zt⟩,zt⟩ (p:=λs=>decide (s< -1)||decide (m<=s)) (cap:=[.ep [.int .i64 m]]) λx _=>p91 x m).view zt (.cons (.wk (BA.wk _ h2)) (.cons (.fn .nil (.cons (View.ptr (off:=0) h1) .nil)) .nil)) n
 ·exact hh.elim
def mH(k:zx):Bc:=AG 43 (s1 B2 (λk=>zk k.d) λk=>.int .i64 (BM k)) (AG 35 (s1 dX xw λx=>eI (Gt x)) (AG 92 M8 (AG 87 (Ln k.d.syms.length) (AG 93 (Hz k) (AG 60 Cu tnil)))))
def mI(k:zx):AH prog (mH k):=(((((AH.tnil.add MY).add (VW k)).add (mG _)).add mF).add (q1 λx h=>p35 x h)).add (q1 λk h=>p43 k h)
theorem O8(k:zx)(a:List Fs)(H:AB):mH k 43 a H=s1 B2 (λk=>zk k.d) (λk=>.int .i64 (BM k)) a H:=rfl
theorem jG(k:zx)(a:List Fs)(H:AB):mH k 35 a H=s1 dX xw (λx=>eI (Gt x)) a H:=rfl
theorem jH(k:zx)(a:List Fs)(H:AB):mH k 92 a H=M8 a H:=rfl
theorem ZI(k:zx)(a:List Fs)(H:AB):mH k 87 a H=Ln k.d.syms.length a H:=rfl
theorem Tcw_c(k:zx)(a:List Fs)(H:AB):mH k 93 a H=Hz k a H:=rfl
theorem jI(k:zx)(a:List Fs)(H:AB):mH k 60 a H=Cu a H:=rfl
def p59(k:zx)(q:Cnd)(letters cells:List Int)(hk:zk k.d)(hq:An q.cs/\An q.ls)(hl:An letters)(hc:An cells):Aw prog 59 [A5 k,GK q,Am letters,Am cells] (Kv k q letters cells):=by
 have u1:B2.ok (.agg (AF k))=True:=CC k
 have u2:B2.dec (.agg (AF k))=k:=Bm k
 simp only[AF,AE,AL,si,sj]at u1 u2
 have v1:dQ.ok (.agg [.int .i64 q.k,Am q.cs,Am q.ls,.int .i64 q.n])=True:=Ke q
 have v2:dQ.dec (.agg [.int .i64 q.k,Am q.cs,Am q.ls,.int .i64 q.n])=q:=Hd q
 have am:letters.length<1000000000:=hl
 have wo:cells.length<1000000000:=hc
 refine .mk ⟨Aj 0 k,Dl 0 q,AZ 0 _,AZ 0 _,zt⟩ ?_ (jc.a (AI (mI k) (AJ ?_)))
 ·unfold Kv
  repeat' split
  all_goals exact⟨zt,zt,zt⟩
 unfold Kv
 by_cases h0:BM k=0
 case neg=>
  simp only[eZ,seval,rf,jc,AF,AE,AL,O8,s1,u1,u2,ra hk,ri h0]
  exact Wk.refl _
 by_cases b1:(letters.length:Int)<1
 ·simp only[eZ,seval,re,r9,jc,AF,AE,AL,O8,s1,u1,u2,ra hk,ra h0,ra b1]
  rw[rt zo];exact Wk.refl _
 by_cases b2:(3:Int)<letters.length
 ·simp only[eZ,seval,re,r9,jc,AF,AE,AL,O8,s1,u1,u2,ra hk,ra h0,ri b1,ra b2]
  rw[rt zo];exact Wk.refl _
 by_cases b3:(cells.length:Int)<1
 ·simp only[eZ,seval,re,r9,jc,AF,AE,AL,O8,s1,u1,u2,ra hk,ra h0,ri b1,ri b2,ra b3]
  rw[rt zo];exact Wk.refl _
 by_cases b4:(4:Int)<cells.length
 ·simp only[eZ,seval,re,r9,jc,AF,AE,AL,O8,s1,u1,u2,ra hk,ra h0,ri b1,ri b2,ri b3,ra b4]
  rw[rt zo];exact Wk.refl _
 rw[rj (by simpa using h0),rj zo]
 simp only[eZ,seval,re,r9,jc,AF,AE,AL,O8,s1,u1,u2,ra hk,ra h0,ri b1,ri b2,ri b3,ri b4,AQ]
 generalize hHa:hset (hset (hset Ai 0 _) 1 _) _ (xq.box _)=Ha
 have f0:AD Ha 0=some (.box (AF k)):=by rw[<-hHa];rfl
 have f1:AD Ha 1=some (.box [.int .i64 q.k,Am q.cs,Am q.ls,.int .i64 q.n]):=by rw[<-hHa];rfl
 have f8:AD Ha 8=some (.box [.int .i64 k.d.syms.length]):=by rw[<-hHa];rfl
 clear hHa
 simp only[AF,AE,AL,si,sj]at f0
 refine AO (λi:Nat=>⟨[(2,true,Am letters),(3,true,Am cells),(4,true,.ptr 0 0),(5,true,.ptr 1 0),(10,true,.ptr 8 0),(40,true,Am letters),(41,true,.int .i64 letters.length),(42,true,.int .i64 i)],Ha,10⟩) (λi=>i<=letters.length/\CG (letters.take i) k.d.syms.length=true) (λi=>letters.length-i) 0 rfl ⟨rm _,rfl⟩ ?_
 rintro i ⟨hi,he⟩
 by_cases c9:i<letters.length
 ·have hg:=rc c9
  have e:=AK (k:=i) zo
  have htake:letters.take (i+1)=letters.take i++[letters[i]]:=by rw[sf,hg];rfl
  have hmem:=rY c9
  have hrng:∀s,s∈letters->¬(0<=s/\s<(k.d.syms.length:Int))->CG letters k.d.syms.length=false:=λs hs hm=>by
   rw[uv]
   intro hd
   exact hm ((Gv.1 hd).1 s hs)
  generalize letters[i]=s at hg htake hmem
  have hb':s∈letters.take i->CG letters k.d.syms.length=false:=λhm=>by
   rw[uv]
   intro hd
   have hn:=(List.take_sublist (i+1) letters).nodup (Gv.1 hd).2
   rw[htake,ug]at hn
   exact hn.2.2 s hm s zw rfl
  have hr':=hrng s hmem
  by_cases s0:s<0
  ·rw[rt (hr' zo)]
   simp only[eZ,seval,re,eY,AN c9,hg,f8,ra s0]
   exact Wk.refl _
  by_cases s1':(k.d.syms.length:Int)<=s
  ·rw[rt (hr' zo)]
   simp only[eZ,seval,re,eY,AN c9,hg,f8,ri s0,ra s1']
   exact Wk.refl _
  have hRL:O2 Ha (.sl (.none 1) ((letters.take i).map eI)) (letters.take i):=.inl ⟨_,rfl,.inl rfl⟩
  have r1:=I6 hRL
  have htf:An (letters.take i):=by show(letters.take i).length<_;rw[sD];omega
  have hile:((i:Int)<=(letters.length:Int))=True:=ra zo
  have hmt:List.take i (letters.map eI)=(letters.take i).map eI:=List.map_take.symm
  cases wg:(letters.take i).contains s with
  |true=>
   rw[rt (hb' (sN.1 wg))]
   simp only[eZ,seval,eY,AN c9,hg,f8,ri s0,ri s1',hile,hmt,jI,Cu,r1,ra hRL,ra htf,wg]
   exact Wk.refl _
  |false=>
   simp only[eZ,seval,eY,AN c9,hg,f8,ri s0,ri s1',hile,hmt,jI,Cu,r1,ra hRL,ra htf,wg,e]
   refine .mk (i+1) rfl ⟨c9,?_⟩ zo
   obtain⟨d1,d2⟩:=Gv.1 he
   have so:¬s∈letters.take i:=λhm=>by rw[sN.2 hm]at wg;cases wg
   rw[htake]
   refine Gv.2 ⟨λc hc=>?_,ug.2 ⟨d2,zw,λa ha b hb e=>?_⟩⟩
   ·rcases ti.1 hc with q|q
    ·exact d1 c q
    ·rw[sZ.1 q];omega
   ·rw[sZ.1 hb]at e
    exact so (e▸ha)
 obtain rfl:i=letters.length:=zo
 rw[se]at he
 rw[rj (by rw[he];decide)]
 have k1:BA.ok (Am cells)=True:=Ak cells
 have k2:BA.ok (Am letters)=True:=Ak letters
 cases hany:(cells.any λs=>decide (s< -1)||decide ((k.d.syms.length:Int)<=s))with
 |true=>
  rw[rt rfl]
  simp only[eZ,seval,Ad c9,f8,ZI,Ln,k1,Ax,ra hc,hany]
  exact Wk.refl _
 |false=>
 rw[rj zd]
 have x1:dX.ok (BZ (OR q cells.length letters.length))=True:=D5 _
 have x2:dX.dec (BZ (OR q cells.length letters.length))=OR q cells.length letters.length:=C4 _
 have x3:xw (OR q cells.length letters.length):=by
  have t4:∀m,An (mD.take m):=λm=>by show(mD.take m).length<_;rw[sD];exact Nat.lt_of_le_of_lt (Nat.min_le_right ..) zd
  exact⟨t4 _,t4 _,by show(1:Nat)<_;decide,by show(0:Nat)<_;decide,λp hp=>by rw[sZ.1 hp];exact hq,λp hp=>by cases hp⟩
 have x4:=ZH q (nc:=cells.length) (nl:=letters.length) zo zo
 have w1:((cells.length:Int)<=4)=True:=ra zo
 have w2:((letters.length:Int)<=4)=True:=ra zo
 cases hco:CH q cells.length letters.length with
 |false=>
  have x5:Gt (OR q cells.length letters.length)=300:=by unfold Gt;rw[x4,hco];rfl
  rw[rt rfl]
  simp only[eZ,seval,rf,eY,Ad c9,f1,f8,ZI,Ln,k1,Ax,ra hc,hany,jH,M8,v1,v2,w1,w2,jG,s1,x1,x2,ra x3,x5]
  exact Wk.refl _
 |true=>
  have x5:Gt (OR q cells.length letters.length)=0:=by unfold Gt;rw[x4,hco];rfl
  rw[rj zd]
  have hRC:O2 Ha (Am cells) cells:=.inl ⟨_,rfl,.inl rfl⟩
  have r1:=I6 hRC
  have hC:ClOK k q letters cells:=by
   have h1:=Ui hco
   have hsy:=CP h0
   refine⟨by rcases h1.kind with h|h|h|h|h<;>omega,?_,hq.1,λc hcc=>?_,hq.2,λc hcc=>?_,λs hs hs0=>?_,M7 h0⟩
   ·have:=VV h1.cs
    rcases h1.kind with h|h|h|h|h<;>omega
   ·have:=sg.1 (HM h1.cs) c hcc
    simpa only[rl,rn]using this
   ·have:=sg.1 (HM h1.ls) c hcc
    simpa only[rl,rn]using this
   ·grind
  simp only[eZ,seval,re,eY,Ad c9,f0,f1,f8,ZI,Ln,k1,k2,u1,u2,Ax,ra hc,hany,jH,M8,v1,v2,w1,w2,jG,s1,x1,x2,ra x3,x5,Tcw_c,Hz,r1,ra hRC,ra hC]
  exact Wk.refl _
section
variable {x:zy}
theorem Wt{vals:List Int}{letters cells:List Int}:DH vals x letters cells=true↔∀i:Nat,i<x.qs.length+x.ps.length->Bl vals x letters cells (i:Int)=false:=by
 unfold DH;rw[sg];have hl:(Ic vals x letters cells).length=x.qs.length+x.ps.length:=by unfold Ic;simp
 constructor
 ·intro h i hi;unfold Bl;rw[rj zo,rr,rc zo,rZ];have:=h _ (rY (l:=Ic vals x letters cells) (n:=i) zo);simpa using this
 ·intro h b hb;obtain⟨i,hi,rfl⟩:=sH.1 hb;have:=h i zo;unfold Bl at this;rw[rj zo,rr,rc hi,rZ]at this;rw[this];rfl
abbrev BQ(k:zx)(x:zy)(letters:List Int):List Fs:=AF k++(AY x++[Am letters])
abbrev O9(k:zx)(x:zy)(letters:List Int):Fs:=.agg (BQ k x letters)
theorem FB(n:Nat)(k:zx)(x:zy)(letters:List Int):unders n (BQ k x letters):=by
 have h1:unders n (AF k):=Aj n k;have h2:unders n (AY x):=At n x;have app:∀{a b:List Fs},unders n a->unders n b->unders n (a++b):=λ{a b} ha hb=>by
  induction a with
  |nil=>exact hb
  |cons c a ih=>exact⟨ha.1,ih ha.2⟩
 exact app h1 (app h2 ⟨AZ n _,zt⟩)
def dM:Dc Prm:=dEx GP cM
theorem jJ(p:Prm):dM.ok (GP p)=True:=ra (by show GP p=GP (cM (GP p));rw[OF])
theorem ZJ(p:Prm):dM.dec (GP p)=p:=OF p
theorem p86(p:Prm)(c:Int):Aw prog 86 [GP p,.ep [.int .i64 c]] (.bool (decide (p.c=c))):=by
 refine .mk ⟨Hc 0 p,⟨⟨zt,zt⟩,zt⟩⟩ zt (c86.a (AI AH.tnil (AJ ?_)));simp only[eE,eN,seval,c86]
theorem p88(k:zx)(x:zy)(letters:List Int)(n s:Int)(h:0<=n/\n<(letters.length:Int)):Aw prog 88 [eI n,.ep (BQ k x letters),.ep [.int .i64 s]] (.bool (decide (BW letters n=s))):=by
 refine .mk ⟨zt,FB 0 k x letters,⟨⟨zt,zt⟩,zt⟩⟩ zt (c88.a (AI AH.tnil (AJ ?_)));have hg:=CZ h.1 h.2;simp only[eE,eN,seval,eY,c88,BQ,AF,AE,AL,AY,ra h.1,ra h.2,hg]
def Gw{α:Type}(l:List α)(p:α->Bool):Int:=match l.findIdx? p with
 |some i=>i
 |none=>-1
def QS(cap:List Fs)(ok:Prm->Prop)(f:Prm->Fs):List Fs->AB->Prop×Fs:=λa _=>match a with
 |M::c=>(c=cap/\dM.ok M/\ok (dM.dec M),f (dM.dec M))
 |_=>(False,.tup [])
theorem rowMq{s9:FuncId}{cap:List Fs}{ok:Prm->Prop}{f:Prm->Fs}(h:∀x,ok x->Aw prog s9 (GP x::cap) (f x)):∀args H n,(QS cap ok f args H).1->Ao prog s9 args H n (QS cap ok f args H).2:=by
 intro args H n hh;unfold QS at hh⊢;split at hh
 ·obtain⟨rfl,h1,h2⟩:=hh;refine AV.args ((h _ h2).quiet H n) ?_;rintro g vs ⟨v,r,rfl,k1,k2⟩;exact⟨v,_,rfl,dM.wk _ h1 _ _ k1,k2⟩
 ·exact hh.elim
theorem mJ{g:FuncId}{cap:List Fs}{p:Prm->Bool}(l:List Prm)(hl:An l)(hcap:unders 0 cap)(hq:∀x,x∈l->Aw prog g (GP x::cap) (.bool (p x))):
  Aw prog 85 [.sl (.none 2) (l.map GP),.fn (.func g) [] cap] (.int .i64 (Gw l p)):=by
 have hT:AH prog (AG g (QS cap (λx=>x∈l) λx=>.bool (p x)) tnil):=AH.tnil.add (rowMq hq);have hTe:∀a H,AG g (QS cap (λx=>x∈l) λx=>.bool (p x)) tnil g a H=QS cap (λx=>x∈l) (λx=>.bool (p x)) a H:=λa H=>by unfold AG;rw[rt rfl]
 generalize AG g (QS cap (λx=>x∈l) λx=>.bool (p x)) tnil=T at hT hTe;refine .mk ⟨⟨zt,Ay (Hc 0) _⟩,⟨zt,hcap⟩,zt⟩ zt (c85.a (AI hT (AJ ?_)));have am:l.length<1000000000:=hl;simp only[eE,eN,seval,r9,c85];refine AO (λi:Nat=>⟨[(0,true,.sl (.none 2) (l.map GP)),(1,true,.fn (.func g) [] cap),(7,true,.int .i64 l.length),(8,true,.int .i64 i)],Ai,0⟩) (λi=>i<=l.length/\∀(j:Nat) x,j<i->l[j]?=some x->p x=false) (λi=>l.length-i) 0 rfl ⟨rm _,λj x h=>zo⟩ ?_;rintro i ⟨hi,he⟩;by_cases c9:i<l.length;case neg=>
  obtain rfl:i=l.length:=zo
  have:Gw l p= -1:=by
   unfold Gw;rw[tT.2 λx hx=>by
    obtain⟨j,hj,rfl⟩:=sH.1 hx;exact he j _ hj (rc hj)]
  rw[this];simp only[eZ,seval,Ad c9]
 have hg:=rc c9;have hm:=rY c9;have e:=AK (k:=i) zo;have hfx:p l[i]=true->Gw l p=(i:Int):=λhp=>by
  unfold Gw;rw[sM.2 ⟨c9,hp,λj hj=>by
   have:=he j _ hj (rc zo);rw[this];decide⟩]
 generalize l[i]=x at hg hm hfx;have m1:dM.ok (.agg [.int .i64 x.c,Am x.ls])=True:=jJ x;have m2:dM.dec (.agg [.int .i64 x.c,Am x.ls])=x:=ZJ x;cases hp:p x with
 |true=>
  rw[hfx hp];simp only[eZ,seval,eY,AN c9,hg,hTe,QS,m1,m2,ra hm,hp]
 |false=>
  simp only[eZ,seval,eY,AN c9,hg,hTe,QS,m1,m2,ra hm,hp,e];refine .mk (i+1) rfl ⟨c9,λj y hj hy=>?_⟩ zo;by_cases q:j<i
  ·exact he j y q hy
  ·obtain rfl:j=i:=zo
   rw[hg]at hy;cases hy;exact hp
def OT(H:AB)(r:Nat):Int:=match AD H r with
 |some (.box [.int .i64 s])=>s
 |_=>0
theorem ZK{H:AB}{r:Nat}{s:Int}(h:AD H r=some (.box [.int .i64 s])):OT H r=s:=by unfold OT;rw[h]
def Rp(x:zy):List Fs->AB->Prop×Fs:=λa H=>match a with
 |[P,.fn (.func g) [] [.ptr r 0]]=>(P= .sl (.none 2) (x.ps.map GP)/\g=86/\AD H r=some (.box [.int .i64 (OT H r)]),.int .i64 (Gw x.ps λp=>decide (p.c=OT H r)))
 |_=>(False,.tup [])
theorem mK(h:An x.ps):∀args H n,(Rp x args H).1->Ao prog 85 args H n (Rp x args H).2:=by
 intro args H n hh;unfold Rp at hh⊢;split at hh
 ·rename_i P g r;obtain⟨rfl,rfl,h2⟩:=hh;generalize OT H r=s at h2⊢;exact(mJ _ h ⟨⟨zt,zt⟩,zt⟩ (p:=λp=>decide (p.c=s)) (cap:=[.ep [.int .i64 s]]) λp _=>p86 p s).view zt (.cons (.wk (Wk.refl _)) (.cons (.fn .nil (.cons (View.ptr (off:=0) h2) .nil)) .nil)) n
 ·exact hh.elim
def PA(k:zx)(x:zy)(letters:List Int):List Fs->AB->Prop×Fs:=λa H=>match a with
 |[.sl t L,.fn (.func g) [] [.ptr q 0,.ptr r 0]]=>(g=88/\AD H q=some (.box (BQ k x letters))/\AD H r=some (.box [.int .i64 (OT H r)])/\BA.ok (.sl t L)/\An (L.map A9)/\∀n∈L.map A9,0<=n/\n<(letters.length:Int),.bool ((L.map A9).any λn=>decide (BW letters n=OT H r)))
 |_=>(False,.tup [])
theorem mL(k:zx)(x:zy)(letters:List Int):∀args H n,(PA k x letters args H).1->Ao prog 87 args H n (PA k x letters args H).2:=by
 intro args H n hh;unfold PA at hh⊢;split at hh
 ·rename_i t L g q r;obtain⟨rfl,h1,h2,h3,h4,h5⟩:=hh;generalize OT H r=s at h2⊢;exact(jF _ h4 ⟨FB 0 k x letters,⟨zt,zt⟩,zt⟩ (p:=λn=>decide (BW letters n=s)) (cap:=[.ep (BQ k x letters),.ep [.int .i64 s]]) λn hn=>p88 k x letters n s (h5 n hn)).view zt (.cons (.wk (BA.wk _ h3)) (.cons (.fn .nil (.cons (View.ptr (off:=0) h1) (.cons (View.ptr (off:=0) h2) .nil))) .nil)) n
 ·exact hh.elim
theorem dq{c:Int}:(Dk x c=none/\Gw x.ps (λp=>decide (p.c=c))= -1)\/∃(i:Nat) (p:Prm),Dk x c=some p/\x.ps[i]?=some p/\Gw x.ps (λp=>decide (p.c=c))=(i:Int):=by
 unfold Dk Gw;cases h:x.ps.findIdx? (λp=>decide (p.c=c))with
 |none=>simp_all
 |some i=>
  obtain⟨h1,h2,h3⟩:=sM.1 h;refine .inr ⟨i,x.ps[i],?_,rc h1,rfl⟩;rw[List.find?_eq_some_iff_getElem];exact⟨h2,i,h1,rfl,λj hj=>by simpa using h3 j hj⟩
end
def Tpy(k:zx)(x:zy)(letters:List Int):Bc:=AG 85 (Rp x) (AG 87 (PA k x letters) tnil)
def mM{k:zx}{x:zy}{letters:List Int}(h:An x.ps):AH prog (Tpy k x letters):=(AH.tnil.add (mL k x letters)).add (mK h)
structure VPy where
 i:Nat
 tk:w8
 H:AB
 n:Nat
structure IPy(k:zx)(x:zy)(letters:List Int)(p:Int->Bool)(v:VPy):Prop where
 hi:v.i<=k.d.syms.length
 hn:3<=v.n
 fr:AP v.H v.n
 h0:AD v.H 0=some (.box (BQ k x letters))
 tok:DA 1 2 v.H v.tk
 es:v.tk.esz=1\/((B7 k.d.syms.length).take v.i).filter p=[]
def Jv{m i:Nat}(h:i<m):(B7 m).take (i+1)=(B7 m).take i++[(i:Int)]:=by simp_all [sf,B7]
def Lo(m i:Nat)(p:Int->Bool):(((B7 m).take i).filter p).length<=i:=by grind
def dr{ls letters:List Int}{s:Int}:(ls.any λn=>decide (BW letters n=s))=(ls.map (BW letters)).contains s:=by grind
def p50(k:zx)(x:zy)(letters:List Int)(c:Int)(hm:k.d.syms.length<=16)(hps:An x.ps)(wu:∀p∈x.ps,An p.ls/\∀c∈p.ls,0<=c/\c<(letters.length:Int)):Aw prog 50 [O9 k x letters,.int .i64 c] (Am (DI k.d.syms.length x letters c)):=by
 refine .mk ⟨FB 0 k x letters,zt,zt⟩ (AZ 0 _) (c50.a (AI (mM (k:=k) (letters:=letters) hps) (AJ ?_)));rw[Fv];have yh:OT (hset (hset Ai 0 (.box (BQ k x letters))) 1 (.box [.int .i64 c])) 1=c:=ZK (AC ..);have hcon:∀s,Cr x letters c s=match Dk x c with|none=>true|some p=>p.ls.any λn=>decide (BW letters n=s):=λs=>by
  unfold Cr;cases Dk x c with
  |none=>rfl
  |some p=>exact dr.symm
 simp only[BQ,AF,AE,AL,AY,si,sj]at yh;simp only[eE,eN,seval,r9,c50,BQ,AF,AE,AL,AY,Tpy,Rp,yh,AG];refine AO (λv:VPy=>⟨[(2,true,.ptr 0 0),(4,true,.sl v.tk ((((B7 k.d.syms.length).take v.i).filter (Cr x letters c)).map eI)),(5,true,.int .i64 (Gw x.ps λp=>decide (p.c=c))),(16,true,.int .i64 k.d.syms.length),(17,true,.int .i64 v.i)],v.H,v.n⟩) (IPy k x letters (Cr x letters c)) (λv=>k.d.syms.length-v.i)
  ⟨0,.nil,_,3⟩ rfl ⟨rm _,rq _,(AP.nil.hset (m:=3) (rm _) zd).hset (m:=3) (rq _) zd,rfl,.inl rfl,.inr rfl⟩ ?_
 rintro⟨i,tk,H,n⟩ ⟨hi,hn,hf,h0,l5,s5⟩;simp only at hi hn hf h0 l5 s5;by_cases c9:i<k.d.syms.length;case neg=>
  obtain rfl:i=k.d.syms.length:=zo
  have e9:(B7 k.d.syms.length).take k.d.syms.length=B7 k.d.syms.length:=sQ (by unfold B7;simp);rw[e9]at s5;simp only[eZ,seval,Ad c9,e9];exact Wk.sl (s5.imp (λz=>z) λq=>by rw[q];rfl)
 have e:=AK (k:=i) zo;have htake:=Jv c9;have am:=Lo k.d.syms.length i (Cr x letters c);have wj:=h0;simp only[BQ,AF,AE,AL,AY,si,sj]at h0;have y1:∀z,(n+z=0)=False:=λz=>ri zo
 have hc:=hcon (i:Int);have hH1:AP (hset H (n+1) (.box [.int .i64 (i:Int)])) (n+3):=hf.hset zo zo;have hg1:OT (hset H (n+1) (.box [.int .i64 (i:Int)])) (n+1)=(i:Int):=ZK (AC ..);have hq0:AD (hset H (n+1) (.box [.int .i64 (i:Int)])) 0=some (.box (BQ k x letters)):=by rw[AA _ _ _ _ zo];exact wj
 have htk1:DA 1 2 (hset H (n+1) (.box [.int .i64 (i:Int)])) tk:=l5.set (.inr (.inr (hf _ zo)));have q1:BH (hset H (n+1) (.box [.int .i64 (i:Int)])) 1 tk=True:=ra htk1.app;have q2:((((B7 k.d.syms.length).take i).filter (Cr x letters c)).length<=35184372088831)=True:=ra zo;have q3:Al ((((B7 k.d.syms.length).take i).filter (Cr x letters c)).length+1) 8=True:=ra (Ac zo zd);have hbx:=AC H (n+1) (.box [.int .i64 (i:Int)]);simp only[BQ,AF,AE,AL,AY,si,sj]at hq0;have addT:Cr x letters c (i:Int)=true->((B7 k.d.syms.length).take (i+1)).filter (Cr x letters c)=((B7 k.d.syms.length).take i).filter (Cr x letters c)++[(i:Int)]:=λq=>by
  rw[htake,tD,uL q];rfl
 have addF:Cr x letters c (i:Int)=false->((B7 k.d.syms.length).take (i+1)).filter (Cr x letters c)=((B7 k.d.syms.length).take i).filter (Cr x letters c):=λq=>by
  rw[htake,tD,uK (by rw[q];decide),uA,sE]
 have nextT:Cr x letters c (i:Int)=true->IPy k x letters (Cr x letters c) ⟨i+1,.own (n+6) 1,hset (AU (hset H (n+1) (.box [.int .i64 (i:Int)])) tk) (n+6) .tok,n+8⟩:=λq=>by
  refine⟨c9,zp,(Ab htk1 hH1).hset (m:=n+8) zo zo,?_,.inr (.inr ⟨n+6,rfl,zo,AC ..⟩),.inl rfl⟩;simp only[];rw[AA _ _ _ _ zo,Af htk1 (.inl zo),AA _ _ _ _ zo];exact wj
 rcases dq (x:=x) (c:=c)with⟨p1,p2⟩|⟨a,p,p1,p2,p3⟩
 ·have wg:Cr x letters c (i:Int)=true:=by unfold Cr;rw[p1]
  rw[p2];simp only[eZ,seval,re,r9,AN c9,AQ,Bq hf,y1,q1,q2,q3,e];exact .mk ⟨i+1,.own (n+6) 1,hset (AU (hset H (n+1) (.box [.int .i64 (i:Int)])) tk) (n+6) .tok,n+8⟩ (by simp only[addT wg,rz];rfl) (nextT wg) zp
 ·have hmem:=te p2;have ha:=(tA.1 p2).1;have hneg:((a:Int)<0)=False:=ri zo;have hdneg:decide ((a:Int)<0)=false:=sa zo;obtain⟨f1,f2⟩:=wu p hmem;have k1:BA.ok (Am p.ls)=True:=Ak p.ls;rw[p3];rw[p1]at hc;simp only[]at hc;cases wg:Cr x letters c (i:Int)with
  |true=>
   rw[wg]at hc;simp only[eZ,seval,eY,AN c9,AQ,Bq hf,q1,q2,q3,e,hneg,AN ha,p2,Tpy,PA,hg1,hq0,hbx,k1,Ax,ra f1,uk,ra f2,BQ,AF,AE,AL,AY,<-hc,AG];exact .mk ⟨i+1,.own (n+6) 1,hset (AU (hset H (n+1) (.box [.int .i64 (i:Int)])) tk) (n+6) .tok,n+8⟩ (by simp only[addT wg,rz];rfl) (nextT wg) zp
  |false=>
   rw[wg]at hc;simp only[eZ,seval,eY,AN c9,AQ,Bq hf,e,hneg,AN ha,p2,Tpy,PA,hg1,hq0,hbx,k1,Ax,ra f1,uk,ra f2,BQ,AF,AE,AL,AY,<-hc,AG];exact .mk ⟨i+1,tk,hset H (n+1) (.box [.int .i64 (i:Int)]),n+3⟩ (by simp only[addF wg]) ⟨c9,zp,hH1,hq0,htk1,by simp only[addF wg];exact s5⟩ zp
section
structure PrC(k:zx)(x:zy)(letters:List Int):Prop where
 ck:BM k=0
 fd:zk k.d
 fx:xw x
 ox:OKL x
 lt:letters∈Gs k.d.syms.length x.ls.length
variable {k:zx} {letters cells:List Int} {x:zy}
theorem PrC.rd(h:PrC k x letters):RdC k x letters:=⟨h.ck,h.fd,h.fx,h.ox,(Iw h.lt).1⟩
theorem PrC.df(h:PrC k x letters):CG letters k.d.syms.length=true:=Gv.2 ⟨(Iw h.lt).2.2,(Iw h.lt).2.1⟩
structure ClP(k:zx)(x:zy)(cells:List Int):Prop where
 cl:ClC k x cells
 ge:∀s∈cells,-1<=s
theorem ZL(h:PrC k x letters)(hc:ClP k x cells){q:Cnd}(hq:q∈x.qs):Kv k q letters cells= .tup [.bool (Fd (AW k) q letters cells),.int .i64 0]:=by
 unfold Kv;have hl:=h.ox.ls.2.2;have hx:=h.ox.cs.2.2;have am:=h.rd.ll;have wo:=hc.cl.len;rw[rj (by simpa using h.ck),rj zo,rj (by rw[h.df];decide),rj ?_,rj ?_]
 ·rw[wo,am,h.ox.qs q hq];decide
 ·rw[Bool.not_eq_true,uT];intro s hs;have:=hc.ge s hs;simp only[sA,rn,not_or];refine⟨zo,?_⟩;by_cases q:0<=s
  ·have:=hc.cl.sy s hs q;unfold DZ at this;omega
  ·omega
def I8(vals:List Int)(x:zy)(letters cells:List Int):Int:=match OB vals x letters cells with
 |some i=>i
 |none=>-1
def PB(k:zx):List Fs->AB->Prop×Fs:=λa H=>match a with
 |[K,Q,.sl t1 L1,.sl t2 L2]=>(B2.ok K/\B2.dec K=k/\dQ.ok Q/\(An (dQ.dec Q).cs/\An (dQ.dec Q).ls)/\(BA.ok (.sl t1 L1)/\An (L1.map A9))/\BA.ok (.sl t2 L2)/\An (L2.map A9),Kv k (dQ.dec Q) (L1.map A9) (L2.map A9))
 |_=>(False,.tup [])
theorem mN(hk:zk k.d):∀args H n,(PB k args H).1->Ao prog 59 args H n (PB k args H).2:=by
 intro args H m hh;unfold PB at hh⊢;split at hh
 ·obtain⟨h1,h2,h3,h4,⟨h5,h6⟩,h7,h8⟩:=hh;have w1:=B2.wk _ h1;rw[h2]at w1;refine AV.args ((p59 k _ _ _ hk h4 h6 h8).quiet H m) ?_;rintro g vs ⟨v1,r1,rfl,k1,v2,r2,rfl,k2,v3,r3,rfl,k3,v4,r4,rfl,k4,k5⟩;exact⟨v1,_,rfl,w1 _ _ k1,v2,_,rfl,dQ.wk _ h3 _ _ k2,v3,_,rfl,BA.wk _ h5 _ _ k3,v4,_,rfl,BA.wk _ h7 _ _ k4,k5⟩
 ·exact hh.elim
def PC(k:zx)(x:zy)(letters:List Int):List Fs->AB->Prop×Fs:=λa H=>match a with
 |[P,.int .i64 c]=>(P=O9 k x letters,Am (DI k.d.syms.length x letters c))
 |_=>(False,.tup [])
theorem mO(h:RdC k x letters):∀args H n,(PC k x letters args H).1->Ao prog 50 args H n (PC k x letters args H).2:=by
 intro args H m hh;unfold PC at hh⊢;split at hh
 ·subst hh;exact(p50 k x letters _ (CP h.ck).2 h.fx.ps (Ju h)).quiet H m
 ·exact hh.elim
def Tpc(k:zx)(x:zy)(letters:List Int):Bc:=AG 59 (PB k) (AG 50 (PC k x letters) (AG 60 Cu tnil))
theorem mP(h:RdC k x letters):AH prog (Tpc k x letters):=((AH.tnil.add MY).add (mO h)).add (mN h.fd)
structure IPc(k:zx)(x:zy)(letters:List Int)(len:Nat)(no:Nat->Prop)(v:VPm):Prop where
 hi:v.i<=len
 hn:2<=v.n
 fr:AP v.H v.n
 h0:AD v.H 0=some (.box (BQ k x letters))
 no:∀j,j<v.i->no j
theorem Rq{vals:List Int}{i:Nat}(h1:∀j:Nat,j<i->Bl vals x letters cells (j:Int)=false)(h2:Bl vals x letters cells (i:Int)=true):I8 vals x letters cells=(i:Int):=by
 have get:∀j:Nat,Bl vals x letters cells (j:Int)=(Ic vals x letters cells)[j]?.getD false:=λj=>by unfold Bl;rw[rj zo,rr]
 have hi:i<(Ic vals x letters cells).length:=by grind
 unfold I8 OB;rw[sM.2 ⟨hi,by rw[get,rc hi]at h2;exact h2,λj hj=>by
  have:=h1 j hj;rw[get,rc zo,rZ]at this;rw[this];decide⟩]
theorem ZM{vals:List Int}(h:∀j:Nat,j<x.qs.length+x.ps.length->Bl vals x letters cells (j:Int)=false):I8 vals x letters cells= -1:=by
 unfold I8;rw[Ji.2 (Wt.2 h)]
theorem p31(k:zx)(x:zy)(letters cells:List Int)(h:PrC k x letters)(hc:ClP k x cells):Aw prog 31 [O9 k x letters,Am cells] (.int .i64 (I8 (AW k) x letters cells)):=by
 have hnq:x.qs.length<1000000000:=h.fx.qs;have hnp:x.ps.length<1000000000:=h.fx.ps;have u1:B2.ok (.agg (AF k))=True:=CC k;have u2:B2.dec (.agg (AF k))=k:=Bm k;simp only[AF,AE,AL,si,sj]at u1 u2;have k1:BA.ok (Am cells)=True:=Ak cells;have k2:BA.ok (Am letters)=True:=Ak letters;have hfl:An letters:=by show letters.length<_;have:=h.ox.ls.2.2.2;rw[h.rd.ll];omega
 have hfc:An cells:=by show cells.length<_;have:=h.ox.cs.2.2.2;rw[hc.cl.len];omega
 refine .mk ⟨FB 0 k x letters,AZ 0 _,zt⟩ zt (c31.a (AI (mP h.rd) (AJ ?_)));simp only[eE,eN,seval,r9,c31,BQ,AF,AE,AL,AY];refine AO (λv:VPm=>⟨[(1,true,Am cells),(2,true,.ptr 0 0),(14,true,.sl (.none 4) (x.qs.map GK)),(15,true,.int .i64 x.qs.length),(16,true,.int .i64 v.i)],v.H,v.n⟩) (IPc k x letters x.qs.length λj=>Bl (AW k) x letters cells (j:Int)=false) (λv=>x.qs.length-v.i)
  ⟨0,_,2⟩ rfl ⟨rm _,rq _,AP.nil.hset (m:=2) (rm _) zd,rfl,λj hj=>by cases hj⟩ ?_
 rintro⟨i,H,n⟩ ⟨hi,hn,hf,h0,s8⟩;simp only at hi hn hf h0 s8;have wj:=h0;simp only[BQ,AF,AE,AL,AY,si,sj]at h0;by_cases c9:i<x.qs.length
 ·have e:=AK (k:=i) zo;have hg:=rc c9;have wo:=ZL h hc (rY c9);have hfq:=h.fx.q _ (rY c9);generalize x.qs[i]=q at hg wo hfq;have v1:dQ.ok (.agg [.int .i64 q.k,Am q.cs,Am q.ls,.int .i64 q.n])=True:=Ke q;have v2:dQ.dec (.agg [.int .i64 q.k,Am q.cs,Am q.ls,.int .i64 q.n])=q:=Hd q;have y1:∀z,(n+z=0)=False:=λz=>ri zo
  have hq:=Th (vals:=AW k) (letters:=letters) (cells:=cells) hg;cases wq:Fd (AW k) q letters cells with
  |true=>
   rw[wq]at wo hq;rw[Rq s8 hq];simp only[eZ,seval,eY,AN c9,hg,AQ,Bq hf,y1,h0,Tpc,PB,u1,u2,v1,v2,k1,k2,Ax,ra hfq.1,ra hfq.2,ra hfl,ra hfc,wo,AG]
  |false=>
   rw[wq]at wo hq;simp only[eZ,seval,eY,AN c9,hg,AQ,Bq hf,y1,h0,Tpc,PB,u1,u2,v1,v2,k1,k2,Ax,ra hfq.1,ra hfq.2,ra hfl,ra hfc,wo,e,AG];refine .mk ⟨i+1,hset H (n+3) (.box [.int .i64 q.k,Am q.cs,Am q.ls,.int .i64 q.n]),n+6⟩ rfl ⟨c9,zp,hf.hset (m:=n+6) zo zo,by simp only[];rw[AA _ _ _ _ zo];exact wj,λj hj=>?_⟩ zp;by_cases z:j<i
   ·exact s8 j z
   ·have hj':j<i+1:=hj;obtain rfl:j=i:=zo
    exact hq
 obtain rfl:i=x.qs.length:=zo
 simp only[eZ,seval,r9,Ad c9,h0];refine AO (λv:VPm=>⟨[(1,true,Am cells),(2,true,.ptr 0 0),(36,true,.sl (.none 2) (x.ps.map GP)),(37,true,.int .i64 x.ps.length),(38,true,.int .i64 v.i)],v.H,v.n⟩) (IPc k x letters x.ps.length λj=>Bl (AW k) x letters cells ((x.qs.length+j:Nat):Int)=false) (λv=>x.ps.length-v.i)
  ⟨0,H,n⟩ rfl ⟨rm _,hn,hf,wj,λj hj=>by cases hj⟩ ?_
 rintro⟨i,H1,n1⟩ ⟨hi1,me,hf1,wc,hno1⟩;simp only at hi1 me hf1 wc hno1;have h01':=wc;simp only[BQ,AF,AE,AL,AY,si,sj]at wc;have hnoI:∀j:Nat,j<x.qs.length+i->Bl (AW k) x letters cells (j:Int)=false:=λj hj=>by
  by_cases z:j<x.qs.length
  ·exact s8 j z
  ·have:=hno1 (j-x.qs.length) zo
   rwa[show x.qs.length+(j-x.qs.length)=j by omega]at this
 by_cases hlp:i<x.ps.length
 ·have e:=AK (k:=i) zo;have hg:=rc hlp;have hmem:=rY hlp;generalize x.ps[i]=p at hg hmem;have hq:=Ti (vals:=AW k) (letters:=letters) (cells:=cells) hg;have hpc:=Kt h.ox hmem;rw[<-hc.cl.len]at hpc;have hgc:=CZ hpc.1 hpc.2;have xm:=te hgc;unfold Jh at hq;generalize BW cells p.c=s at hgc hq xm;have y1:∀z,(n1+z=0)=False:=λz=>ri zo
  have nx:Bl (AW k) x letters cells ((x.qs.length+i:Nat):Int)=false->IPc k x letters x.ps.length (λj=>Bl (AW k) x letters cells ((x.qs.length+j:Nat):Int)=false) ⟨i+1,hset H1 (n1+3) (.box [.int .i64 p.c,Am p.ls]),n1+6⟩:=λhz=>by
   refine⟨hlp,zp,hf1.hset (m:=n1+6) zo zo,by simp only[];rw[AA _ _ _ _ zo];exact h01',λj hj=>?_⟩;by_cases z:j<i
   ·exact hno1 j z
   ·have hj':j<i+1:=hj;obtain rfl:j=i:=zo
    exact hz
  by_cases hs:0<=s;case neg=>
   rw[sa hs,sV]at hq;simp only[eZ,seval,eY,AN hlp,hg,AQ,Bq hf1,y1,wc,ra hpc.1,ra hpc.2,hgc,ri hs,e];exact .mk ⟨i+1,hset H1 (n1+3) (.box [.int .i64 p.c,Am p.ls]),n1+6⟩ rfl (nx hq) zp
  rw[sk hs,sS]at hq;have hcon:(DI k.d.syms.length x letters p.c).contains s=(p.ls.map (BW letters)).contains s:=by
   rw[Fv,su,sN,tV,Ia];unfold Cr;rw[Im h.ox hmem];simp only[];exact⟨λz=>z.2,λz=>⟨⟨hs,(hc.cl.sy s xm hs).2⟩,z⟩⟩
  have hfew:An (DI k.d.syms.length x letters p.c):=by
   show(DI k.d.syms.length x letters p.c).length<_;rw[Fv];have h1:=tg (Cr x letters p.c) (B7 k.d.syms.length);have h2:(B7 k.d.syms.length).length=k.d.syms.length:=by unfold B7;simp
   have h3:=CP h.ck;omega
  rw[<-hcon]at hq;generalize hL:DI k.d.syms.length x letters p.c=L at hq hfew;have r1:∀H,rdL H (Am L)=L:=λH=>I6 (.inl ⟨_,rfl,.inl rfl⟩)
  have r2:∀H,O2 H (Am L) L=True:=λH=>ra (.inl ⟨_,rfl,.inl rfl⟩)
  have w1:IntKind.wrap .i64 ((x.qs.length:Int)+(i:Int))=((x.qs.length+i:Nat):Int):=by rw[A6 zo zo];omega
  cases wg:L.contains s with
  |true=>
   rw[wg]at hq;simp only[eZ,seval,re,eY,AN hlp,hg,AQ,Bq hf1,y1,wc,ra hpc.1,ra hpc.2,hgc,ra hs,Tpc,PC,uk,hL,Cu,r1,r2,ra hfew,wg,e,AG];exact⟨rfl,.mk ⟨i+1,hset H1 (n1+3) (.box [.int .i64 p.c,Am p.ls]),n1+6⟩ rfl (nx hq) zp⟩
  |false=>
   rw[wg]at hq;rw[Rq hnoI hq];simp only[eZ,seval,rf,eY,AN hlp,hg,AQ,Bq hf1,y1,wc,ra hpc.1,ra hpc.2,hgc,ra hs,Tpc,PC,uk,hL,Cu,r1,r2,ra hfew,wg,w1,AG];rfl
 obtain rfl:i=x.ps.length:=zo
 rw[ZM hnoI];simp only[eZ,seval,Ad hlp]
end
section
structure NdP(nc tc N:Nat)(T:List x9)(H:AB)(tl:w8):Prop where
 hN:AD H nc=some (.box [.int .i64 N])
 hT:∃E,AD H tc=some (.box [.sl tl E])/\(N<=65536->Wks E (T.map OQ))/\(tl.esz=2\/E=[])
 tk:DA 2 0 H tl
 len:T.length<=N
def NdF(id nc tc n:Nat)(tl:w8)(H H':AB):Prop:=∀i,i<n->i≠id->i≠nc->i≠tc->(∀e,tl≠ .own i e)->AD H' i=AD H i
def tkN(n:Nat)(tl tl':w8):Prop:=tl'=tl\/∃j,tl'= .own j 2/\n<=j
variable {nc tc n:Nat} {tl:w8}
def ZN:Nat->Nat
 |0=>1
 |f+1=>1+16*ZN f
end
structure GwC(k:zx)(x:zy)(letters:List Int)(d0 d1 d2 d3 id nc tc:Nat)(H:AB):Prop where
 h0:AD H d0=some (.box (BQ k x letters))
 h1:AD H d1=some (.box [.ref id 1 0 x.cs.length x.cs.length])
 h2:AD H d2=some (.box [.fn (.func 25) [] [.ptr nc 0,.ptr tc 0]])
 h3:AD H d3=some (.box [.fn (.func 48) [] [.ptr d0 0,.ptr d1 0,.ptr d2 0,.ptr d3 0]])
def Kw(k:zx)(x:zy)(letters:List Int):List Fs->AB->Prop×Fs:=λa H=>match a with
 |[P,av]=>(P=O9 k x letters/\O2 H av (rdL H av)/\ClP k x (rdL H av),.int .i64 (I8 (AW k) x letters (rdL H av)))
 |_=>(False,.tup [])
def dt{k:zx}{x:zy}{letters:List Int}(h:PrC k x letters):∀args H n,(Kw k x letters args H).1->Ao prog 31 args H n (Kw k x letters args H).2:=by
 intro args H n hh;unfold Kw at hh⊢;split at hh
 ·obtain⟨rfl,h1,h2⟩:=hh;exact(p31 k x letters _ h h2).view zt (.cons (.wk (Wk.refl _)) (.cons (QP h1) .nil)) n
 ·exact hh.elim
structure VGw where
 j:Nat
 pre:List x9
 tl:w8
 H:AB
 n:Nat
structure IGw(id nc tc N n0:Nat)(T:List x9)(tl:w8)(H0:AB)(cells L:List Int)(i f:Nat)(F:Int->Option (List x9))(v:VGw):Prop where
 hj:v.j<=L.length
 fr:AP v.H v.n
 hn:n0<=v.n
 tk:tkN n0 tl v.tl
 nf:NdF id nc tc n0 tl H0 v.H
 nd:NdP nc tc (N+1+v.pre.length) (T++[⟨Id,i⟩]++v.pre) v.H v.tl
 ar:∃cur,AD v.H id=some (.arr 1 ((cells.set i cur).map eI))
 he:cJ F L=(cJ F (L.drop v.j)).map λt=>v.pre++t
 le:v.pre.length<=v.j*ZN f
section
def FJ(k:zx)(x:zy):Fs:=if BT k x≠0 then .tup [.sl .nil [],.int .i64 (BT k x)]else .tup [.sl (.none 1) ((Gs k.d.syms.length x.ls.length).map Am),.int .i64 0]
def Tpv:Bc:=AG 46 (s2 B2 dI (λk _=>zk k.d) F2) Tsv
def mQ:AH prog Tpv:=ZD.add (q2 λk n h=>p46 k n h)
theorem ZO(a:List Fs)(H:AB):Tpv 43 a H=s1 B2 (λk=>zk k.d) (λk=>.int .i64 (BM k)) a H:=rfl
theorem jK(a:List Fs)(H:AB):Tpv 35 a H=s1 dX xw (λx=>eI (Gt x)) a H:=rfl
theorem Tpv_l(a:List Fs)(H:AB):Tpv 46 a H=s2 B2 dI (λk _=>zk k.d) F2 a H:=rfl
variable {x:zy}
theorem ZP(h:Gt x=0):OKL x:=by
 unfold Gt at h;split at h
 ·rename_i q;exact(Q8 x).1 q
 ·cases h
theorem p23(k:zx)(x:zy)(hk:zk k.d)(hx:xw x):Aw prog 23 [A5 k,BZ x] (FJ k x):=by
 have u1:B2.ok (.agg (AF k))=True:=CC k;have u2:B2.dec (.agg (AF k))=k:=Bm k;simp only[AF,AE,AL,si,sj]at u1 u2;have v1:dX.ok (.agg (AY x))=True:=D5 x;have v2:dX.dec (.agg (AY x))=x:=C4 x;simp only[AY]at v1 v2;have i1:∀z:Int,dI.ok (.int .i64 z)=True:=λz=>ra zt
 have i2:∀z:Int,dI.dec (.int .i64 z)=z:=λz=>rfl
 refine .mk ⟨Aj 0 k,At 0 x,zt⟩ ?_ (c23.a (AI mQ (AJ ?_)))
 ·unfold FJ;split
  ·exact⟨⟨zt,zt⟩,zt,zt⟩
  ·exact⟨⟨zt,Ay (λl=>AZ 0 l) _⟩,zt,zt⟩
 unfold FJ;by_cases h:BM k=0;case neg=>
  have hv:BT k x=BM k:=by unfold BT;rw[rt h]
  rw[hv,rt h];simp only[eZ,seval,rf,c23,AF,AE,AL,ZO,s1,u1,u2,ra hk,ri h];exact Wk.refl _
 have hv:BT k x=Gt x:=by unfold BT;rw[rj (by simpa using h)]
 rw[hv];by_cases h2:Gt x=0;case neg=>
  rw[rt h2];simp only[eZ,seval,re,rf,c23,AF,AE,AL,ZO,jK,s1,u1,u2,v1,v2,ra hk,ra hx,ra h,ri h2];exact Wk.refl _
 rw[rj (by simpa using h2)];have hl:F2 k (x.ls.length:Int)= .tup [.sl (.none 1) ((Gs k.d.syms.length x.ls.length).map Am),.int .i64 0]:=by
  unfold F2;have:=(ZP h2).ls.2.2;rw[rj (by simpa using h),rj zo,rr]
 simp only[eZ,seval,re,eY,c23,AF,AE,AL,ZO,jK,Tpv_l,s1,s2,u1,u2,v1,v2,i1,i2,ra hk,ra hx,ra h,ra h2,hl];exact Wk.refl _
theorem dv{k:zx}{letters:List Int}(h:PrC k x letters):ClP k x (Fe x letters):=by
 have hvl:(AW k).length=k.d.syms.length:=by unfold AW;rw[r9]
 have hb:=OA (vals:=AW k) h.ox (by rw[hvl];exact h.lt);refine⟨⟨N9 ..,λs hs h0=>?_⟩,λs hs=>?_⟩
 ·grind [Fe]
 ·grind [Fe]
end
end Go.AM
