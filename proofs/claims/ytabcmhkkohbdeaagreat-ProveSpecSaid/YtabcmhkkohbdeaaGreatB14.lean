/-
  Parts of the proof. Conditions: none.
-/
import Derived.Test.YtabcmhkkohbdeaaGreatB13
set_option maxRecDepth 20000
set_option linter.all false
namespace Go.AM
open Go.Lib Go.Proofs Go.Proofs.Tryz
section
abbrev Cs(k:zx)(x:zk)(wA:List Int)(w:Fs):List Fs:=AG k++(Aa x++[Aj wA,w])
def IJ(x:zk)(wA:List Int)(c:Int):Fs:=match FC x c with
 |none=>.wJ [.sl .nil [],.bool false]
 |some p=>.wJ [Aj (p.ls.map (BG wA)),.bool true]
def R7(x:zk)(wA:List Int)(c:Int)(n:Nat):(IJ x wA c).under n:=by
 unfold IJ;split
 ·exact⟨⟨zt,zt⟩,zt,zt⟩
 ·exact⟨AV n _,zt,zt⟩
structure VPm where
 i:Nat
 H:AB
 n:Nat
structure VPl where
 j:Nat
 tk:v8
 H:AB
 n:Nat
structure IPm(H0:AB)(n0:Nat)(x:zk)(c:Int)(v:VPm):Prop where
 hi:v.i<=x.ps.length
 fr:AO v.H v.n
 hn:n0<=v.n
 kp:C0 H0 v.H
 he:FC x c=(x.ps.drop v.i).find? λp=>decide (p.c=c)
structure IPl(H0:AB)(n0:Nat)(p:Prm)(wA:List Int)(v:VPl):Prop where
 hj:v.j<=p.ls.length
 fr:AO v.H v.n
 hn:n0<=v.n
 kp:C0 H0 v.H
 tok:C8 1 n0 v.H v.tk
 es:v.tk.esz=1\/(p.ls.take v.j).map (BG wA)=[]
variable {H:AB} {k:zx} {wA cells vals:List Int} {x:zk} {n rp:Nat} {p:Prm}
theorem T7{H0:AB}{n0 e:Nat}{tk:v8}(hf:AO H0 n0)(h:C8 e n0 H tk)(hk:C0 H0 H):C0 H0 (AU H tk):=λid ob h0=>by
 rw[Ac h (.inl (hf.lt h0))];exact hk id ob h0
theorem mb{w:Fs}(c:Int)(hf:AO H n)(hq:AD H rp=some (.box (Cs k x wA w)))(hps:Aq x.ps)(xg:∀p∈x.ps,Aq p.ls/\∀c∈p.ls,0<=c/\c<(wA.length:Int)):
  AX prog 147 [.ptr rp 0,.int .i64 c] H n (Ux H (IJ x wA c)):=by
 have hpsl:x.ps.length<1000000000:=hps;have hq0:=hq;simp only[Cs,AG,AE,AL,Aa,sJ,sI]at hq;refine qa.a (AI AH.wD (AJ ?_));simp only[eE,eN,seval,ry,qa,hq];refine AQ (λv:VPm=>⟨[(0,true,.ptr rp 0),(1,true,.int .i64 c),(4,true,.sl .nil []),(14,true,.sl (.none 2) (x.ps.map F4)),(15,true,.int .i64 x.ps.length),(16,true,.int .i64 v.i)],v.H,v.n⟩) (IPm H n x c) (λv=>x.ps.length-v.i)
  ⟨0,H,n⟩ rfl ⟨sk _,hf,sj _,C0.refl _,rfl⟩ ?_
 rintro⟨i,H1,n1⟩ ⟨hi,wW,to,hk1,he⟩;simp only at hi wW to hk1 he;by_cases e9:i<x.ps.length;case neg=>
  obtain rfl:i=x.ps.length:=zo
  rw[t5]at he;simp only[eZ,seval,Ag e9];unfold IJ;rw[he];exact⟨Wk.refl _,hk1⟩
 have hg:=rz e9;have e:=AK (k:=i) zo;obtain⟨hpf,hpi⟩:=xg _ (sC e9);rw[sO e9]at he;generalize x.ps[i]=p at hg hpf hpi he;have so:∀{ob:x9} {j:Nat},n1<=j->C0 H (wB H1 j ob):=λhj=>hk1.new hf zo
 by_cases hc:p.c=c;case neg=>
  rw[List.find?_cons_of_neg (by simpa using hc)]at he;simp only[eZ,seval,eY,AN e9,hg,Bq wW,AW,sb hc,e];exact .mk ⟨i+1,wB H1 (n1+2) (.box [.int .i64 p.c,Aj p.ls]),n1+4⟩ rfl ⟨e9,wW.wB (m:=n1+4) zo zo,zp,so zo,he⟩ zp
 rw[List.find?_cons_of_pos (by simpa using hc)]at he;have hpl':p.ls.length<1000000000:=hpf;simp only[eZ,seval,eY,AN e9,hg,Bq wW,AW,r9 hc];refine AQ (λv:VPl=>⟨[(0,true,.ptr rp 0),(4,true,.sl v.tk (((p.ls.take v.j).map (BG wA)).map eI)),(25,true,Aj p.ls),(26,true,.int .i64 p.ls.length),(27,true,.int .i64 v.j)],v.H,v.n⟩) (IPl H n p wA) (λv=>p.ls.length-v.j)
  ⟨0,.nil,wB H1 (n1+2) (.box [.int .i64 p.c,Aj p.ls]),n1+4⟩ rfl ⟨sk _,wW.wB (m:=n1+4) zo zo,zp,so zo,.inl rfl,.inr rfl⟩ ?_
 rintro⟨j,tk,H2,n2⟩ ⟨hj,wn,yq,hk2',l7,s7⟩;simp only at hj wn yq hk2' l7 s7;by_cases s6:j<p.ls.length;case neg=>
  obtain rfl:j=p.ls.length:=zo
  rw[sD]at s7;simp only[eZ,seval,Ag s6];rw[sD];unfold IJ;rw[he];exact⟨Wk.wJ (.cons (Wk.sl (s7.imp id λq=>by rw[q];rfl)) (.cons (Wk.refl _) .nil)),hk2'⟩
 have hg:=rz s6;have e:=AK (k:=j) zo;have hci:=hpi _ (sC s6);have yB:p.ls.take (j+1)=p.ls.take j++[p.ls[j]]:=by rw[sG,hg];rfl
 generalize p.ls[j]=y at hg hci yB;have hgx:=BY hci.1 hci.2;have hX:((p.ls.take j).map (BG wA)).length<=j:=by simp;omega
 have q1:BB H2 1 tk=True:=r9 l7.app;have q2:(((p.ls.take j).map (BG wA)).length<=35184372088831)=True:=r9 zo;have q3:Al (((p.ls.take j).map (BG wA)).length+1) 8=True:=r9 (Ae zo zd);have hrp:=hk2' _ _ hq;generalize hXd:(p.ls.take j).map (BG wA)=X at hX q2 q3 s7;simp only[eZ,seval,eY,AN s6,hg,hrp,r9 hci.1,r9 hci.2,hgx,q1,q2,q3,Bq wn,e];refine .mk ⟨j+1,.own (n2+9) 1,wB (AU H2 tk) (n2+9) .tok,n2+11⟩ ?_ ⟨s6,(Ab l7 wn).wB (m:=n2+11) zo zo,zp,C0.new hf zo (T7 hf l7 hk2'),.inr (.inr ⟨n2+9,rfl,zo,AC ..⟩),.inl rfl⟩ zp;simp only[yB,su,sS,t6,hXd]
theorem mc{w:Fs}(c:Int)(hq:AD H rp=some (.box (Cs k x wA w)))(hps:Aq x.ps)(xg:∀p∈x.ps,Aq p.ls/\∀c∈p.ls,0<=c/\c<(wA.length:Int)):
  Ao prog 147 [.ptr rp 0,.int .i64 c] H n (IJ x wA c):=
 Ao.of qa.l (R7 x wA c n) λhf=>mb c hf hq hps xg
structure RdC(k:zx)(x:zk)(wA:List Int):Prop where
 ck:BE k=0
 fd:zy k.d
 fx:wq x
 ox:OKL x
 ll:wA.length=x.ls.length
structure ClC(k:zx)(x:zk)(cells:List Int):Prop where
 len:cells.length=x.cs.length
 sy:∀s∈cells,0<=s->De k s
def Zk(H:AB)(rp:Nat)(k:zx)(x:zk)(wA:List Int):Prop:=∃w,AD H rp=some (.box (Cs k x wA w))
theorem NG(h:BE k=0):∀y∈k.d.wE,0<=y.v/\y.v<=99:=by
 have h1:JL k=true:=by
  unfold BE at h;split at h
  ·assumption
  ·cases h
 obtain⟨x,cells,-,h3,-,h4⟩:=Mz (Rr h1);have h5:k.d=x:=by rw[h4];rfl
 rw[<-h5]at h3;have h6:=(co.1 h3).1.form;unfold CA at h6;simp only[sf,sE,si]at h6;intro y hy;exact h6.1.1.1 y hy
theorem G1(h:RdC k x wA):∀p∈x.ps,Aq p.ls/\∀c∈p.ls,0<=c/\c<(wA.length:Int):=by
 intro p hp;refine⟨h.fx.p p hp,λc hc=>?_⟩;have:=sE.1 (Fy (h.ox.ps p hp).1) c hc;simp only[sf,si]at this;rw[h.ll];exact this
theorem Kr(h:OKL x)(hp:p∈x.ps):0<=p.c/\p.c<(x.cs.length:Int):=by
 have:=sE.1 (Fy h.pc) p.c (tn.2 ⟨p,hp,rfl⟩);simpa only[sf,si]using this
theorem Oe{ps:List Prm}(h:Bn (ps.map (·.c))=true)(hp:p∈ps):ps.find? (λq=>decide (q.c=p.c))=some p:=by
 induction ps with
 |nil=>cases hp
 |cons q ps ih=>
  rw[sS,Bn,sf]at h;rcases tg.1 hp with rfl|hp
  ·rw[List.find?_cons_of_pos zw]
  ·grind
theorem PJ(h:OKL x)(hp:p∈x.ps):FC x p.c=some p:=by
 have:=h.pc;unfold CI at this;rw[sf]at this;exact Oe this.2 hp
theorem F9{α:Type}[DecidableEq α]:∀{l:List α},Bn l=true->l.Nodup
 |[],_=>wd
 |x::r,h=>by
  rw[Bn,sf]at h;refine uH.2 ⟨λhx=>?_,F9 h.2⟩;have h1:=h.1;simp only[tJ,vH,si]at h1;exact h1 x hx rfl
theorem Vx{l:List Int}(h:CI l n=true):l.length<=n:=by
 have h1:=Fy h;unfold CI at h;rw[sf]at h;have:=Kp (b:=CP n) (F9 h.2) λc hc=>by
  have:=sE.1 h1 c hc;simp only[sf,si]at this;exact Dd.2 this
 unfold CP at this;simpa using this
theorem jh(h:RdC k x wA)(hc:ClC k x cells){q:Cnd}(hq:q∈x.qs):ClOK k q wA cells:=by
 have h1:=RN (h.ox.qs q hq);have hf:=h.fx.q q hq;have xl:=h.ox.cs.2.2.2;refine⟨by rcases h1.kind with h|h|h|h|h<;>omega,?_,hf.1,λc hcc=>?_,hf.2,λc hcc=>?_,hc.sy,NG h.ck⟩
 ·have:=Vx h1.cs;rcases h1.kind with h|h|h|h|h<;>omega
 ·have:=sE.1 (Fy h1.cs) c hcc;simp only[sf,si]at this;rw[hc.len];exact this
 ·have:=sE.1 (Fy h1.ls) c hcc;simp only[sf,si]at this;rw[h.ll];exact this
theorem Zl{i:Int}(h:i<0):Bj vals x wA cells i=false:=by unfold Bj;rw[sn h]
theorem Zm{a:Nat}(h:x.qs.length+x.ps.length<=a):Bj vals x wA cells (a:Int)=false:=by simp_all [Bj,Eo,sm]
theorem T8{a:Nat}{q:Cnd}(h:x.qs[a]?=some q):Bj vals x wA cells (a:Int)=FA vals q wA cells:=by
 unfold Bj Eo;have:=(t8.1 h).1;rw[sg zo,sm,tQ (by simpa using this),sF,h];rfl
theorem T9{b:Nat}(h:x.ps[b]?=some p):Bj vals x wA cells ((x.qs.length+b:Nat):Int)=Dl p wA cells:=by
 unfold Bj Eo;rw[sg zo,sm,tR zw,ry,Nat.add_sub_cancel_left,sF,h];rfl
def IK(k:zx):List Fs->AB->Prop×Fs:=λa H=>match a with
 |[K,Q,.sl t L,av]=>(CQ.ok K/\CQ.dec K=k/\dQ.ok Q/\A3.ok (.sl t L)/\OV H av (rdL H av)/\ClOK k (dQ.dec Q) (L.map A9) (rdL H av),.bool (FA (AP k) (dQ.dec Q) (L.map A9) (rdL H av)))
 |_=>(False,.wJ [])
theorem Vy(k:zx):∀args H n,(IK k args H).1->Ao prog 93 args H n (IK k args H).2:=by
 intro args H m hh;unfold IK at hh⊢;split at hh
 ·obtain⟨h1,h2,h3,h4,h5,h6⟩:=hh;have w1:=CQ.wk _ h1;rw[h2]at w1;exact(p93 k _ _ _ h6).view zt (.cons (.wk w1) (.cons (.wk (dQ.wk _ h3)) (.cons (.wk (A3.wk _ h4)) (.cons (Me h5) .nil)))) m
 ·exact hh.elim
def JD(k:zx)(x:zk)(wA:List Int):List Fs->AB->Prop×Fs:=λa H=>match a with
 |[.ptr rp 0,.int .i64 c]=>(Zk H rp k x wA,IJ x wA c)
 |_=>(False,.wJ [])
theorem md(h:RdC k x wA):∀args H n,(JD k x wA args H).1->Ao prog 147 args H n (JD k x wA args H).2:=by
 intro args H m hh;unfold JD at hh⊢;split at hh
 ·obtain⟨w,hw⟩:=hh;exact mc _ hw h.fx.ps (G1 h)
 ·exact hh.elim
def mf(k:zx)(x:zk)(wA:List Int):Bg:=AF 93 (IK k) (AF 147 (JD k x wA) (AF 60 Cp wD))
theorem Zn(h:RdC k x wA):AH prog (mf k x wA):=((AH.wD.add Mf).add (md h)).add (Vy k)
theorem mg{av:Fs}(at':Int)(h:RdC k x wA)(hc:ClC k x cells)(hr:Zk H rp k x wA)(hv:OV H av cells):
  AX prog 146 [.ptr rp 0,.int .i64 at',av] H n (Ux H (.bool (Bj (AP k) x wA cells at'))):=by
 have hr0:=hr;obtain⟨w,hq⟩:=hr;simp only[Cs,AG,AE,AL,Aa,sJ,sI]at hq;have hnq:x.qs.length<1000000000:=h.fx.qs;have hnp:x.ps.length<1000000000:=h.fx.ps;have hw1:IntKind.wrap .i64 ((x.qs.length:Int)+(x.ps.length:Int))=((x.qs.length+x.ps.length:Nat):Int):=by rw[A4 zo zo];omega
 have u1:CQ.ok (.agg (AG k))=True:=Ce k;have u2:CQ.dec (.agg (AG k))=k:=Bx k;simp only[AG,AE,AL,sJ,sI]at u1 u2;have xu:A3.ok (Aj wA):=(Ah wA).mpr zt;refine Q9.a (AI (Zn h) (AJ ?_));by_cases h0:at'<0
 ·rw[Zl h0];simp only[eZ,seval,sa,ry,Q9,hq,r9 h0];exact C0.refl _
 obtain⟨a,rfl⟩:=ur (Int.not_lt.1 h0);by_cases h1:x.qs.length+x.ps.length<=a
 ·rw[Zm h1];have h1':((x.qs.length+x.ps.length:Nat):Int)<=(a:Int):=zo
  simp only[eZ,seval,ry,Q9,hq,sb h0,hw1,r9 h1'];exact C0.refl _
 have h1':¬((x.qs.length+x.ps.length:Nat):Int)<=(a:Int):=zo
 by_cases h2:a<x.qs.length
 ·have hg:=rz h2;have wi:=jh h hc (sC h2);generalize x.qs[a]=q at hg wi;have hql:dQ.ok (.agg [.int .i64 q.k,Aj q.cs,Aj q.ls,.int .i64 q.n])=True:=MP q;have hqd:dQ.dec (.agg [.int .i64 q.k,Aj q.cs,Aj q.ls,.int .i64 q.n])=q:=It q;rw[T8 hg];simp only[eZ,seval,eY,Q9,hq,sb h0,hw1,sb h1',AN h2,hg,mf,IK,u1,u2,Aw,hql,hqd,II hv,r9 hv,r9 wi,r9 xu,AF];exact C0.refl _
 obtain⟨b,rfl⟩:∃b,a=x.qs.length+b:=⟨a-x.qs.length,zo⟩;have hb:b<x.ps.length:=zo
 have hg:=rz hb;have xJ:=sC hb;generalize x.ps[b]=p at hg xJ;rw[T9 hg];have hw2:IntKind.wrap .i64 (((x.qs.length+b:Nat):Int)-(x.qs.length:Int))=(b:Int):=by rw[A4 zo zo];omega
 have hpv:IJ x wA p.c= .wJ [Aj (p.ls.map (BG wA)),.bool true]:=by unfold IJ;rw[PJ h.ox xJ]
 have hpc:=Kr h.ox xJ;rw[<-hc.len]at hpc;have hgc:=BY hpc.1 hpc.2;have hfl:Aq (p.ls.map (BG wA)):=by show(p.ls.map _).length<_;rw[ry];exact h.fx.p p xJ
 have hrd:OV H (Aj (p.ls.map (BG wA))) (p.ls.map (BG wA)):=.inl ⟨_,rfl,.inl rfl⟩;have hd:Dl p wA cells=(decide (0<=BG cells p.c)&& !(p.ls.map (BG wA)).contains (BG cells p.c)):=rfl;rw[hd];generalize p.ls.map (BG wA)=L at hpv hfl hrd;generalize BG cells p.c=s at hgc;have wl:p.c.toNat<cells.length:=zo
 have r1:=II hrd;rcases hv with⟨t,rfl,ht⟩|⟨id,cap,rest,rfl,ha,xO⟩
 ·have ht':(t.esz=1)=True:=r9 (ht.resolve_right λe=>by rw[e]at wl;simp at wl);by_cases hs:0<=s
  ·simp only[eZ,seval,eY,Q9,hq,sb h0,hw1,sb h1',Ag h2,AN hb,hg,hw2,mf,JD,Cp,r9 hr0,hpv,r9 hpc.1,r9 hpc.2,hgc,ht',r9 hs,r1,r9 hrd,r9 hfl,AF];exact C0.refl _
  ·simp only[eZ,seval,eY,Q9,hq,sb h0,hw1,sb h1',Ag h2,AN hb,hg,hw2,mf,JD,Cp,r9 hr0,hpv,r9 hpc.1,r9 hpc.2,hgc,ht',sb hs,r1,r9 hrd,r9 hfl,AF];exact C0.refl _
 ·have xW:(cells++rest)[p.c.toNat]?=some s:=by rw[tQ wl];exact hgc
  have hla:(p.c.toNat<(cells++rest).length)=True:=r9 (by simp;omega);by_cases hs:0<=s
  ·simp only[eZ,seval,eY,Q9,hq,sb h0,hw1,sb h1',Ag h2,AN hb,hg,hw2,mf,JD,Cp,r9 hr0,hpv,r9 hpc.1,r9 hpc.2,ha,xW,hla,r9 hs,r1,r9 hrd,r9 hfl,AF];exact C0.refl _
  ·simp only[eZ,seval,eY,Q9,hq,sb h0,hw1,sb h1',Ag h2,AN hb,hg,hw2,mf,JD,Cp,r9 hr0,hpv,r9 hpc.1,r9 hpc.2,ha,xW,hla,sb hs,r1,r9 hrd,r9 hfl,AF];exact C0.refl _
theorem mh{av:Fs}(at':Int)(h:RdC k x wA)(hc:ClC k x cells)(hr:Zk H rp k x wA)(hv:OV H av cells):
  Ao prog 146 [.ptr rp 0,.int .i64 at',av] H n (.bool (Bj (AP k) x wA cells at')):=
 Ao.of Q9.l zt λ_=>mg at' h hc hr hv
end
section
abbrev Qg(c:xv):Fs:=.agg [.int .i64 c.k,.int .i64 c.a]
abbrev Rh(l:List xv):Fs:=.sl (.none 2) (l.map Qg)
def DF(rp n:Nat)(H H':AB):Prop:=∀i,i<n->i≠rp->AD H' i=AD H i
variable {H H':AB} {k:zx} {wA:List Int} {x:zk} {rp n:Nat}
theorem DF.refl(H:AB):DF rp n H H:=λ_ _ _=>rfl
theorem DF.trans{n':Nat}{H'':AB}(h:DF rp n H H')(k:DF rp n' H' H'')(hn:n<=n'):DF rp n H H'':=λi hi hr=>(k i zo hr).trans (h i hi hr)
theorem DF.new{j:Nat}{ob:x9}(h:DF rp n H H')(hj:n<=j):DF rp n H (wB H' j ob):=λi hi hr=>by
 rw[AA _ _ _ _ zo];exact h i hi hr
theorem DF.set{ob:x9}(h:DF rp n H H'):DF rp n H (wB H' rp ob):=λi hi hr=>by
 rw[AA _ _ _ _ (Ne.symm hr)];exact h i hi hr
def Zo(rp:Nat)(k:zx)(x:zk)(wA:List Int)(H:AB)(n:Nat)(r:Option (List xv)):xw->AB->Nat->Prop:=λo H' n'=>
 AO H' n'/\n<=n'/\DF rp n H H'/\match r with
  |some l=>o= .ret (.bool true)/\AD H' rp=some (.box (Cs k x wA (Rh l)))
  |none=>o= .ret (.bool false)
def PL(k:zx)(x:zk)(wA:List Int):List Fs->AB->Prop×Fs:=λa H=>match a with
 |[.ptr rp 0,.int .i64 c,av]=>(Zk H rp k x wA/\OV H av (rdL H av)/\ClC k x (rdL H av),.bool (Bj (AP k) x wA (rdL H av) c))
 |_=>(False,.wJ [])
theorem mj(h:RdC k x wA):∀args H n,(PL k x wA args H).1->Ao prog 146 args H n (PL k x wA args H).2:=by
 intro args H m hh;unfold PL at hh⊢;split at hh
 ·exact mh _ h hh.2.2 hh.1 hh.2.1
 ·exact hh.elim
def Ttr(k:zx)(x:zk)(wA:List Int):Bg:=AF 146 (PL k x wA) (mf k x wA)
theorem mn(h:RdC k x wA):AH prog (Ttr k x wA):=(Zn h).add (mj h)
theorem Ttr_m(k:zx)(x:zk)(wA:List Int)(a:List Fs)(H:AB):Ttr k x wA 146 a H=PL k x wA a H:=rfl
theorem Ttr_p(k:zx)(x:zk)(wA:List Int)(a:List Fs)(H:AB):Ttr k x wA 147 a H=JD k x wA a H:=rfl
theorem Zp(k:zx)(x:zk)(wA:List Int)(a:List Fs)(H:AB):Ttr k x wA 60 a H=Cp a H:=rfl
def DB(x:zk)(wA:List Int)(c s:Int):Bool:=match FC x c with
 |none=>true
 |some p=>(p.ls.map (BG wA)).contains s
theorem Es(m:Nat)(x:zk)(wA:List Int)(c:Int):C6 m x wA c=(CP m).filter (DB x wA c):=by
 unfold C6 DB;cases FC x c with
 |none=>exact(uX.2 λ_ _=>rfl).symm
 |some p=>rfl
theorem Vz{F:Int->List xv->Option (List xv)}(hF:∀s l r,F s l=some r->r.length<=l.length):∀(ss:List Int) (l r:List xv),LY F ss l=some r->r.length<=l.length
 |[],l,r,h=>by rw[LY]at h;cases h;exact sj _
 |s::ss,l,r,h=>by
  rw[LY]at h;obtain⟨l1,h1,h2⟩:=Option.bind_eq_some_iff.1 h;exact sX (Vz hF ss l1 r h2) (hF s l l1 h1)
theorem R8{vals:List Int}:∀(f:Nat) (cells:List Int) (l r:List xv),CE vals x wA f cells l=some r->r.length<=l.length
 |_,_,[],r,h=>by rw[CE]at h;cases h
 |0,cells,n::l,r,h=>by
  rw[CE]at h;split at h
  ·split at h
   ·cases h;simp
   ·cases h
  ·split at h<;>cases h
 |f+1,cells,n::l,r,h=>by
  rw[CE]at h;split at h
  ·split at h
   ·cases h;simp
   ·cases h
  ·split at h
   ·have:=Vz (λs l r=>R8 f (cells.set n.a.toNat s) l r) _ _ _ h;simp;omega
   ·cases h
theorem XY(h:RdC k x wA)(c:Int):∃L ok t,IJ x wA c= .wJ [.sl t (L.map eI),.bool ok]/\(t.esz=1\/L=[])/\Aq L/\∀s,DB x wA c s=(!ok||L.contains s):=by
 unfold IJ DB;cases hp:FC x c with
 |none=>exact⟨[],false,.nil,rfl,.inr rfl,(by show(0:Nat)<_;decide),λs=>rfl⟩
 |some p=>
  refine⟨p.ls.map (BG wA),true,.none 1,rfl,.inl rfl,?_,λs=>rfl⟩;show(p.ls.map _).length<_;rw[ry];exact h.fx.p p (List.mem_of_find?_eq_some hp)
theorem con_f{ok b:Bool}(h:false=(!ok||b)):ok=true/\b=false:=by cases ok<;>cases b<;>simp at h⊢
theorem con_t{ok b:Bool}(h:true=(!ok||b)):ok=false\/ok=true/\b=true:=by cases ok<;>cases b<;>simp at h⊢
theorem Jv{m i:Nat}(h:i<m):(CP m).drop i=(i:Int)::(CP m).drop (i+1):=by
 unfold CP;rw[<-List.map_drop,<-List.map_drop,sO (by simpa using h)];simp
structure VTr where
 i:Nat
 l:List xv
 H:AB
 n:Nat
structure ITr(rp:Nat)(k:zx)(x:zk)(wA:List Int)(F:Int->List xv->Option (List xv))(p:Int->Bool)(R:Option (List xv))(H0:AB)(n0:Nat)(v:VTr):Prop where
 hi:v.i<=k.d.wE.length
 fr:AO v.H v.n
 hn:n0<=v.n
 kp:DF rp n0 H0 v.H
 hr:AD v.H rp=some (.box (Cs k x wA (Rh v.l)))
 he:R=LY F (((CP k.d.wE.length).drop v.i).filter p) v.l
 hl:v.l.length<1000000000
theorem V0(h:RdC k x wA)(rp:Nat)(f:Nat)(cells:List Int)
  (ih:∀(xB:List Int) (l:List xv) (H:AB) (n id cap:Nat) (rest:List Int),AO H n->AD H rp=some (.box (Cs k x wA (Rh l)))->AD H id=some (.arr 1 ((xB++rest).map eI))->xB.length<=cap->ClC k x xB->GW xB+1=GW cells->l.length<1000000000->
   AX prog 98 [.ptr rp 0,.ref id 1 0 xB.length cap] H n (Zo rp k x wA H n (CE (AP k) x wA f xB l)))
  (l:List xv) (H:AB) (n id cap:Nat) (rest:List Int) (hf:AO H n) (hrp:AD H rp=some (.box (Cs k x wA (Rh l)))) (hidq:AD H id=some (.arr 1 ((cells++rest).map eI))) (xO:cells.length<=cap) (hC:ClC k x cells) (hl:l.length<1000000000):
  AX prog 98 [.ptr rp 0,.ref id 1 0 cells.length cap] H n (Zo rp k x wA H n (CE (AP k) x wA (f+1) cells l)):=by
 have hq:=hrp;simp only[Cs,AG,AE,AL,Aa,sJ,sI]at hq;refine kM.a (AI (mn h) (AJ ?_));cases l with
 |nil=>
  simp only[eZ,seval,c0,kM,hq];exact⟨hf,sj _,DF.refl _,by rw[CE]⟩
 |cons c l=>
 have g1:(((l.length+1:Nat):Int)=0)=False:=cS0;have g2:(n+6=rp)=False:=sb (by have:=hf.lt hrp;omega);have g3:(rp=n+6)=False:=sb (by have:=hf.lt hrp;omega);have g4:((1:Int)<=((l.length+1:Nat):Int))=True:=r9 zo;have hck:CE (AP k) x wA (f+1) cells (c::l)=if c.k=Ir then(if Bj (AP k) x wA cells c.a then some l else none)
  else if c.k=FB/\0<=c.a/\c.a<cells.length/\BG cells c.a<0 then LY (λs l=>CE (AP k) x wA f (cells.set c.a.toNat s) l) (C6 (AP k).length x wA c.a) l else none:=by rw[CE]
 rw[hck];clear hck;have g5:((0:Int)<((l.length+1:Nat):Int))=True:=r9 zo;have xN:List.take l.length (l.map Qg)=l.map Qg:=tL zw;have hrpn:=hf.lt hrp;have hidn:=hf.lt hidq;have s8:rp≠id:=λe=>by rw[e,hidq]at hrp;cases hrp
 obtain⟨H2,hH2⟩:∃H2,wB (wB H (n+6) (.box [.int .i64 c.k,.int .i64 c.a])) rp (.box (Cs k x wA (Rh l)))=H2:=⟨_,rfl⟩;have wn:AO H2 (n+8):=by rw[<-hH2];exact(hf.wB (m:=n+8) zo zo).wB (sj _) zo
 have hrp2:AD H2 rp=some (.box (Cs k x wA (Rh l))):=by rw[<-hH2,AC]
 have hid2:AD H2 id=some (.arr 1 ((cells++rest).map eI)):=by rw[<-hH2,AA _ _ _ _ s8,AA _ _ _ _ zo];exact hidq
 have hnb2:AD H2 (n+6)=some (.box [.int .i64 c.k,.int .i64 c.a]):=by rw[<-hH2,AA _ _ _ _ zo,AC]
 have hkb2:DF rp n H H2:=by rw[<-hH2];exact((DF.refl H).new zo).set
 have hRd2:Zk H2 rp k x wA:=⟨_,hrp2⟩;have hRI2:OV H2 (.ref id 1 0 cells.length cap) cells:=.inr ⟨id,cap,rest,rfl,hid2,xO⟩;have hrd:=II hRI2;simp only[Cs,AG,AE,AL,Aa,sJ,sI]at hH2;by_cases so:c.k=2
 ·have hz:c.k=Ir:=so;rw[sn hz];simp only[eZ,seval,eY,kM,hq,g1,g2,g4,g5,xN,Bq hf,AW,hH2,hnb2,r9 so,Ttr_m,PL,hrd,r9 hRI2,r9 hRd2,r9 hC];refine⟨wn,zo,hkb2,?_⟩;cases hcm:Bj (AP k) x wA cells c.a with
  |true=>exact⟨rfl,hrp2⟩
  |false=>rfl
 have hk2':¬c.k=Ir:=so;rw[sg hk2'];by_cases hk1:c.k=1;case neg=>
  have hk1':¬(c.k=FB/\0<=c.a/\c.a<cells.length/\BG cells c.a<0):=λq=>hk1 q.1
  rw[sg hk1'];simp only[eZ,seval,eY,kM,hq,g1,g2,g4,g5,xN,Bq hf,AW,hH2,hnb2,sb so,sb hk1];exact⟨wn,zo,hkb2,rfl⟩
 by_cases ha0:c.a<0
 ·rw[sg zo];simp only[eZ,seval,sa,eY,kM,hq,g1,g2,g4,g5,xN,Bq hf,AW,hH2,hnb2,sb so,r9 hk1,r9 ha0];exact⟨wn,zo,hkb2,rfl⟩
 by_cases wu:(cells.length:Int)<=c.a
 ·rw[sg zo];simp only[eZ,seval,sa,eY,kM,hq,g1,g2,g4,g5,xN,Bq hf,AW,hH2,hnb2,sb so,r9 hk1,sb ha0,r9 wu];exact⟨wn,zo,hkb2,rfl⟩
 obtain⟨a,ha⟩:=ur (Int.not_lt.1 ha0);have hal':a<cells.length:=zo
 have hgc:cells[a]?=some (BG cells c.a):=by have:=BY (l:=cells) (i:=c.a) zo zo;rwa[show c.a.toNat=a by omega]at this
 have xW:(cells++rest)[a]?=some (BG cells c.a):=by rw[tQ hal'];exact hgc
 have hla:(a<(cells++rest).length)=True:=r9 (by simp;omega);have yi:c.a.toNat=a:=zo
 rw[yi];generalize hs:BG cells c.a=s at hgc xW;have b0:(0<=c.a)=True:=r9 zo;have b1:(c.a<(cells.length:Int))=True:=r9 zo;by_cases hs0:0<=s
 ·rw[sg zo];simp only[eZ,seval,eY,kM,hq,g1,g2,g4,g5,xN,Bq hf,AW,hH2,hnb2,sb so,r9 hk1,sb ha0,sb wu,hid2,yi,xW,hla,b0,b1,r9 hs0];exact⟨wn,zo,hkb2,rfl⟩
 rw[sn ⟨hk1,zo,zo,zo⟩];obtain⟨L,ok,t,hpv,hLt,hLf,hcon⟩:=XY h c.a;have hq2:=hrp2;simp only[Cs,AG,AE,AL,Aa,sJ,sI]at hq2;have hvl:(AP k).length=k.d.wE.length:=by unfold AP;rw[ry]
 have hsy:=BZ h.ck;rw[Es,hvl];simp only[eZ,seval,eY,kM,hq,g1,g2,g4,g5,xN,Bq hf,AW,hH2,hnb2,hq2,sb so,r9 hk1,sb ha0,sb wu,hid2,yi,xW,hla,b0,b1,sb hs0,Ttr_p,JD,r9 hRd2,hpv];refine AQ (λv:VTr=>⟨[(0,true,.ptr rp 0),(1,true,.ref id 1 0 cells.length cap),(5,true,.ptr (n+6) 0),(6,true,.sl t (L.map eI)),(7,true,.bool ok),(72,true,.int .i64 k.d.wE.length),(73,true,.int .i64 v.i)],v.H,v.n⟩)
  (ITr rp k x wA (λs l=>CE (AP k) x wA f (cells.set a s) l) (DB x wA c.a) (LY (λs l=>CE (AP k) x wA f (cells.set a s) l) ((CP k.d.wE.length).filter (DB x wA c.a)) l) H2 (n+8)) (λv=>k.d.wE.length-v.i)
  ⟨0,l,H2,n+8⟩ rfl ⟨sk _,wn,sj _,DF.refl _,hrp2,rfl,by simp only[sM]at hl;simp only[];omega⟩ ?_
 rintro⟨i,l1,H1,n1⟩ ⟨hi,wW,to,hk,hr1,he,hl1⟩;simp only at hi wW to hk hr1 he hl1;rw[he];by_cases e9:i<k.d.wE.length;case neg=>
  obtain rfl:i=k.d.wE.length:=zo
  rw[uy (by unfold CP;simp)];simp only[eZ,seval,Ag e9];exact⟨wW,zo,hkb2.trans hk zo,rfl,hr1⟩
 have e:=AK (k:=i) zo;have hd:=Jv e9;have hci:=hcon (i:Int);have hid1:AD H1 id=some (.arr 1 ((cells++rest).map eI)):=(hk id zo (Ne.symm s8)).trans hid2;have hnb1:AD H1 (n+6)=some (.box [.int .i64 c.k,.int .i64 c.a]):=(hk (n+6) zo zo).trans hnb2;have hRI1:OV H1 (.ref id 1 0 cells.length cap) cells:=.inr ⟨id,cap,rest,rfl,hid1,xO⟩;have hRL:OV H1 (.sl t (L.map eI)) L:=.inl ⟨t,rfl,hLt⟩;have r1:=II hRL;by_cases wo:DB x wA c.a (i:Int)=true;case neg=>
  have hcb':DB x wA c.a (i:Int)=false:=by simpa using wo
  rw[hd,vj wo];rw[hcb']at hci;have h2:=con_f hci;obtain⟨rfl,h2⟩:=h2;simp only[eZ,seval,se,AN e9,Zp,Cp,r1,r9 hRL,r9 hLf,h2,se,e];exact .mk ⟨i+1,l1,H1,n1⟩ rfl ⟨e9,wW,to,hk,hr1,rfl,hl1⟩ zp
 rw[hd,vk wo,LY];rw[wo]at hci;have h2:=con_t hci;have hcf:Aq cells:=by show cells.length<_;have:=h.ox.cs.2.2.2;rw[hC.len];omega
 rcases h2 with rfl|⟨rfl,h2⟩
 case' inl=>simp only[eZ,seval,AN e9,Zp,Cp,r1,r9 hRL,r9 hLf]
 case' inr=>simp only[eZ,seval,sa,AN e9,Zp,Cp,r1,r9 hRL,r9 hLf,h2,sa]
 all_goals
  refine(Tx hRI1 hcf).mono ?_;rintro o H3 n3 (⟨hz,-⟩|⟨-,rfl,rest3,rfl,rfl⟩)
  ·rw[hz]at hal';simp at hal'
  have y1:(n1=n+4)=False:=sb zo;have hla3:(a<(cells++rest3).length)=True:=r9 (by simp;omega);simp only[eZ,seval,eY,BL,hnb1,y1,b0,b1,yi,hla3,AW];have eset:((cells++rest3).map eI).set a (.int .i64 (i:Int))=((cells.set a (i:Int))++rest3).map eI:=by
   rw[<-List.set_append_left _ _ hal',List.map_set]
  have hlen:(cells.set a (i:Int)).length=cells.length:=tz;have hrpn1:=wW.lt hr1;have hC':ClC k x (cells.set a (i:Int)):=⟨by rw[hlen];exact hC.len,λs hs h0=>by
   rcases ua hs with q|q
   ·exact hC.sy s q h0
   ·rw[q];exact⟨zo,zo⟩⟩
  have hng:=Is hgc zo (show(0:Int)<=(i:Int)by omega);rw[eset];have hcall:=ih (cells.set a (i:Int)) l1 (wB H1 (n1+2) (.arr 1 (((cells.set a (i:Int))++rest3).map eI))) (n1+4) (n1+2) (cells.length+rest3.length) rest3 (wW.wB zo zo) (by rw[AA _ _ _ _ zo];exact hr1) (AC ..) (by rw[hlen];omega) hC' hng hl1;rw[hlen]at hcall;refine hcall.mono ?_;rintro o H4 n4 ⟨hf4,hn4,hk4,xR⟩;have hk4':DF rp (n+8) H2 H4:=(hk.new zo).trans hk4 zo;cases htr:CE (AP k) x wA f (cells.set a (i:Int)) l1 with
  |none=>
   rw[htr]at xR;obtain rfl:o= .ret (.bool false):=xR;simp only[eZ,seval,se,BL,se];exact⟨hf4,zo,hkb2.trans hk4' zo,rfl⟩
  |some l2=>
   rw[htr]at xR;obtain⟨rfl,hr4⟩:=xR;have hl2:=R8 _ _ _ _ htr;simp only[eZ,seval,sa,BL,sa,e];exact .mk ⟨i+1,l2,H4,n4⟩ rfl ⟨e9,hf4,zp,hk4',hr4,rfl,zp⟩ zp
theorem Kt{cells:List Int}{a:Nat}{t:Int}(h:GW cells=0)(ha:cells[a]?=some t):0<=t:=by
 apply Classical.byContradiction;intro q;have h1:t∈cells.filter λs=>decide (s<0):=tV.2 ⟨sZ ha,by simp;omega⟩
 unfold GW at h;rw[tv h]at h1;cases h1
theorem XZ{vals:List Int}{cells:List Int}(h:GW cells=0)(l:List xv):CE vals x wA 0 cells l=CE vals x wA 1 cells l:=by
 cases l with
 |nil=>rw[CE,CE]
 |cons c l=>
  rw[CE,CE];have v9:¬(c.k=FB/\0<=c.a/\c.a<cells.length/\BG cells c.a<0):=λq=>by
   have:=Kt h (BY q.2.1 q.2.2.1);omega
  rw[sg v9,sg v9]
theorem Zq(h:RdC k x wA)(rp:Nat):∀(f:Nat) (cells:List Int) (l:List xv) (H:AB) (n id cap:Nat) (rest:List Int),AO H n->AD H rp=some (.box (Cs k x wA (Rh l)))->AD H id=some (.arr 1 ((cells++rest).map eI))->cells.length<=cap->ClC k x cells->GW cells<=f->l.length<1000000000->
  AX prog 98 [.ptr rp 0,.ref id 1 0 cells.length cap] H n (Zo rp k x wA H n (CE (AP k) x wA f cells l))
 |0,cells,l,H,n,id,cap,rest,hf,hrp,hidq,xO,hC,hneg,hl=>by
  rw[XZ zo];exact V0 h rp 0 cells (λxB l H n id cap rest _ _ _ _ _ hn _=>zo) l H n id cap rest hf hrp hidq xO hC hl
 |f+1,cells,l,H,n,id,cap,rest,hf,hrp,hidq,xO,hC,hneg,hl=>
  V0 h rp f cells (λxB l H n id cap rest a1 a2 a3 a4 a5 hn a6=>Zq h rp f xB l H n id cap rest a1 a2 a3 a4 a5 zo a6) l H n id cap rest hf hrp hidq xO hC hl
end
section
def BH(k:zx)(x:zk):Int:=if BE k≠0 then BE k else JA x
def Tsv:Bg:=AF 35 (s1 dX wq λx=>eI (JA x)) rj
def Zr:AH prog Tsv:=Zj.add (q1 λx h=>p35 x h)
theorem ji(a:List Fs)(H:AB):Tsv 43 a H=s1 CQ (λk=>zy k.d) (λk=>.int .i64 (BE k)) a H:=rfl
theorem Tsv_m(a:List Fs)(H:AB):Tsv 35 a H=s1 dX wq (λx=>eI (JA x)) a H:=rfl
def p97(k:zx)(x:zk)(hk:zy k.d)(hx:wq x):Av prog 97 [BA k,Cl x] (eI (BH k x)):=by
 have u1:CQ.ok (.agg (AG k))=True:=Ce k;have u2:CQ.dec (.agg (AG k))=k:=Bx k;simp only[AG,AE,AL,sJ,sI]at u1 u2;have v1:dX.ok (.agg (Aa x))=True:=Gm x;have v2:dX.dec (.agg (Aa x))=x:=Ei x;simp only[Aa]at v1 v2;refine .mk ⟨Am 0 k,BN 0 x,zt⟩ zt (c97.a (AI Zr (AJ ?_)));unfold BH;by_cases h:BE k=0
 ·simp only[eZ,seval,sa,c97,AG,AE,AL,ji,Tsv_m,s1,u1,u2,v1,v2,r9 hk,r9 hx,r9 h]
 ·simp only[eZ,seval,se,c97,AG,AE,AL,ji,s1,u1,u2,r9 hk,sb h]
def i04:((0:Int)<4)=True:=r9 zd
abbrev mo(t:List (List xv)):Fs:=.sl (.none 1) (t.map Rh)
abbrev EW(t:List (List xv)):Fs:=.agg [mo t]
def PM(n:Nat)(l:List xv):(Rh l).under n:=⟨zt,BW (f:=Qg) (λc=>⟨zt,zt,zt⟩) _⟩
def FP(n:Nat)(t:List (List xv)):(EW t).under n:=⟨⟨zt,BW (PM n) _⟩,zt⟩
abbrev eCk:List (Nat×Bool×Fs):=[(3,true,.ptr 0 0),(4,true,.ptr 1 0),(5,true,.ptr 2 0),(6,true,.ptr 3 0),(7,true,.ptr 4 0),(8,true,.ptr 5 0),(25,true,clC 8 7)]
noncomputable abbrev Zs (l':Nat) (st:LoopState) (xQ:Option Code):x9:=.lp ⟨l',st,xQ,75,eCk, #[26],LI,LJ⟩
def Zt(k:zx)(x:zk)(trees:List (List xv))(D:List (List Int)):Prop:=∀(i:Nat) l,D[i]?=some l->∃t,trees[i]?=some t/\CE (AP k) x l x.cs.length (C7 x l) t=some []
structure CkJ(k:zx)(x:zk)(trees:List (List xv))(l':Nat)(F:Nat->Prop)(D:List (List Int))(H:AB)(m:Nat):Prop where
 fr:AO H m
 lm:11<=m
 nF:∀i,F i->i=7\/i=8\/11<=i
 h0:AD H 0=some (.box (AG k))
 h1:AD H 1=some (.box (Aa x))
 h2:AD H 2=some (.box [mo trees])
 h3:AD H 3=some (.box [.bool false])
 h4:AD H 4=some (.box [.int .i64 0])
 h5:AD H 5=some (.box [.int .i64 D.length])
 hL:AD H 10=some (Zs l' .ready none)
 ok:Zt k x trees D
def CkS(k:zx)(x:zk)(trees:List (List xv))(l':Nat)(H:AB)(m:Nat):Prop:=
 AD H 3=some (.box [.bool false])/\AD H 4=some (.box [.int .i64 0])/\AD H 10=some (Zs l' .done (some .ret))/\ED (AP k) x trees=false
variable {k:zx} {x:zk}
theorem fE{trees:List (List xv)}{l':Nat}(hR:∀wA∈EP (AP k).length x.ls.length,RdC k x wA)(htr':Aq trees)(ht:∀t∈trees,Aq t):Gen (EP (AP k).length x.ls.length) l' (CkJ k x trees l') (CkS k x trees l') where
 fr:=λF D H m h=>h.fr
 frame:=by
  rintro F F' D H H' m m' ⟨fr,lm,nF,h0,h1,h2,h3,h4,h5,hL,ok⟩ hF hH hf hm;have n1:∀i,i<11->i≠7->i≠8->AD H' i=AD H i:=λi a b c=>hH i λq=>by
   rcases hF i q with q|q
   ·have:=nF i q;omega
   ·omega
  exact⟨hf,zo,λi h=>(hF i h).elim (nF i) (λq=>zo),by rw[n1 0 zd zd zd];exact h0,by rw[n1 1 zd zd zd];exact h1,by rw[n1 2 zd zd zd];exact h2,
   by rw[n1 3 zd zd zd];exact h3,by rw[n1 4 zd zd zd];exact h4,by rw[n1 5 zd zd zd];exact h5,by rw[n1 10 zd zd zd];exact hL,ok⟩
 yld:=by
  rintro F D wA H m R ⟨fr,lm,nF,h0,h1,h2,h3,h4,h5,hL,ok⟩ hF hA hRt hRf;refine y67_0 hL rfl (AI AH.wD (AJ ?_));simp only[eE,eN,seval,U2,Gv,uI,uT,ug,vn];refine⟨_,hL,rfl,AI AH.wD (AJ ?_)⟩;have hf':AO (wB H 10 (Zs l' .busy none)) m:=fr.wB (sj _) zo;generalize yA:wB H 10 (Zs l' .busy none)=H1 at hf'⊢;have k1:∀i,i≠10->AD H1 i=AD H i:=λi hi=>by rw[<-yA,AA _ _ _ _ hi.symm]
  have hL1:AD H1 10=some (Zs l' .busy none):=by rw[<-yA,AC]
  have a0:=(k1 0 zd).trans h0;have a1:=(k1 1 zd).trans h1;have a2:=(k1 2 zd).trans h2;have a3:=(k1 3 zd).trans h3;have a4:=(k1 4 zd).trans h4;have a5:=(k1 5 zd).trans h5;clear yA;have xJ:wA∈EP (AP k).length x.ls.length:=by
   obtain⟨t,ht⟩:=hA;rw[<-ht];simp
  have hrd:=hR _ xJ;simp only[AG,AE,AL,sJ,sI]at a0;by_cases hl:D.length=trees.length
  ·have hl':((D.length:Int)=(trees.length:Int))=True:=r9 zo;have hl2:decide ((D.length:Int)=(trees.length:Int))=true:=by simp;omega
   simp only[eZ,seval,ry,RA,a5,a2,hl',a3,a4];refine⟨⟨l',.busy,none,75,eCk, #[26],LI,LJ⟩,by rw[AA _ _ _ _ zd,AA _ _ _ _ zd];exact hL1,hRf _ _ ⟨?_,?_,AC ..,?_⟩⟩
   ·simp_all [AA,decide,AC]
   ·rw[AA _ _ _ _ zd,AC]
   ·unfold ED;obtain⟨t,hA⟩:=hA;have hlen:(EP (AP k).length x.ls.length).length≠trees.length:=by
     rw[<-hA];simp;omega
    rw[sA hlen,uk]
  have hl':((D.length:Int)=(trees.length:Int))=False:=sb zo;have hl2:decide ((D.length:Int)=(trees.length:Int))=false:=by simp;omega
  have hDl:D.length<trees.length:=by
   have:D.length<=trees.length:=by
    apply Classical.byContradiction;intro q;obtain⟨t,h1,-⟩:=ok trees.length D[trees.length] (rz zo);rw[uG zo]at h1;cases h1
   omega
  have hgt:=rz hDl;have htf:=ht _ (sC hDl);generalize trees[D.length]=tr at hgt htf;have hX:=hrd.ox;have hxc:=hX.c;have hxl:=hX.l;have hx4:=hX.cs.2.2;rw[<-hrd.ll]at hxl;have hgl:=BY hxl.1 hxl.2;have z:∀j,j<11->(m=j)=False:=λj hj=>sb zo
  have z':∀j,j<11->(j=m)=False:=λj hj=>sb zo
  have z0:=z 0 zd;have z1:=z 1 zd;have z2:=z 2 zd;have z3:=z 3 zd;have z4:=z 4 zd;have z5:=z 5 zd;have z10:=z 10 zd;have w1:((x.cs.length:Int)<=4)=True:=r9 zo;have w2:(0<=x.c)=True:=r9 hxc.1;have w3:(x.c<(x.cs.length:Int))=True:=r9 hxc.2;have w4:(x.c.toNat<4)=True:=r9 zo;have w5:(0<=x.l)=True:=r9 hxl.1;have w6:(x.l<(wA.length:Int))=True:=r9 hxl.2;have w7:(x.l.toNat<wA.length)=True:=r9 zo;simp only[Aa]at a1;simp only[eZ,seval,xE,eY,RA,a5,a2,hl',a0,a1,Bq hf',OZ hf',Xn,Xo,z0,z1,z2,z5,w1,w2,w3,w4,w5,w6,hgl,hgt,AN hDl,Nat.sub_zero,jf,i04,AW];have hbeg:([.int .i64 (-1),.int .i64 (-1),.int .i64 (-1),.int .i64 (-1)]:List Fs).set x.c.toNat (eI (BG wA x.l))=((C7 x wA)++List.replicate (4-x.cs.length) (-1)).map eI:=by
   unfold C7;rw[<-List.set_append_left _ _ (by rw[tK];omega),List.replicate_append_replicate,show x.cs.length+(4-x.cs.length)=4 by omega,List.map_set];rfl
  rw[hbeg];generalize hHa:wB H1 m (x9.arr 1 _)=Ha;have hfa:AO Ha (m+15):=by rw[<-hHa];exact hf'.wB zo zo
  have hbl:=HJ x wA;have hC:ClC k x (C7 x wA):=by
   refine⟨hbl,λs hs h0=>?_⟩;have hb:=FD hX xJ;unfold C7 at hs;rcases ua hs with q|q
   ·rw[vX]at q;omega
   ·grind [AP,List.length_map]
  have hcall:=Zq hrd (m+15) x.cs.length (C7 x wA) tr (wB Ha (m+15) (.box (Cs k x wA (Rh tr)))) (m+17) m 4 (List.replicate (4-x.cs.length) (-1)) (hfa.wB zo zo) (AC ..) (by rw[AA _ _ _ _ zo,<-hHa,AC]) (by rw[hbl];omega) hC Kd htf;rw[hbl]at hcall;refine hcall.mono ?_;rintro o H4 n4 ⟨hf4,hn4,hk4,xR⟩;have hkeep:∀i,i<m->AD H4 i=AD H1 i:=λi hi=>by
   rw[hk4 i zo zo,AA _ _ _ _ zo,<-hHa,AA _ _ _ _ zo]
  have b3:=(hkeep 3 zo).trans a3;have b4:=(hkeep 4 zo).trans a4;have b5:=(hkeep 5 zo).trans a5;have b10:=(hkeep 10 zo).trans hL1;have hwrong:∀q,CE (AP k) x wA x.cs.length (C7 x wA) tr=q->q≠some []->ED (AP k) x trees=false:=λq hq s8=>by
   unfold ED;rw[vp];by_cases hlen:(EP (AP k).length x.ls.length).length=trees.length
   ·right;rw[vq];obtain⟨t,hA⟩:=hA;refine⟨(wA,tr),?_,by rw[hq];simpa using s8⟩;rw[List.mem_iff_getElem?];refine⟨D.length,?_⟩;rw[List.getElem?_zip_eq_some];refine⟨?_,hgt⟩;rw[<-hA];simp
   ·exact .inl (sA hlen)
  have stop:ED (AP k) x trees=false->bt 10 R x6.ret ⟨[],wB (wB H4 3 (.box [.bool false])) 4 (.box [.int .i64 0]),n4⟩:=λhw=>by
   refine⟨⟨l',.busy,none,75,eCk, #[26],LI,LJ⟩,by rw[AA _ _ _ _ zd,AA _ _ _ _ zd];exact b10,hRf _ _ ⟨?_,?_,AC ..,hw⟩⟩
   ·simp_all [AA,decide,AC]
   ·rw[AA _ _ _ _ zd,AC]
  cases htr:CE (AP k) x wA x.cs.length (C7 x wA) tr with
  |none=>
   rw[htr]at xR;obtain rfl:o= .ret (.bool false):=xR;simp only[eZ,seval,sa,se,BL,b3,b4,se];exact stop (hwrong _ htr zw)
  |some l2=>
   rw[htr]at xR;obtain⟨rfl,hr4⟩:=xR;simp only[Cs,AG,AE,AL,Aa,sJ,sI]at hr4;cases l2 with
   |cons c2 l2=>
    have g2:((0:Int)<((l2.length+1:Nat):Int))=True:=cS1;simp only[eZ,seval,sa,ry,BL,b3,b4,hr4,sa,g2];exact stop (hwrong _ htr zw)
   |nil=>
    have e:=AK (k:=D.length) (by have:trees.length<1000000000:=htr';omega);simp only[eZ,seval,sa,eY,BL,b5,hr4,sa,e];have hF':∀i,F i->i≠5/\i≠10:=λi hi=>by have:=nF i hi;omega
    refine⟨⟨l',.busy,none,75,eCk, #[26],LI,LJ⟩,by rw[AA _ _ _ _ zd];exact b10,hRt _ _ ⟨(hf4.wB (m:=n4) (sj _) zo).wB (m:=n4) (sj _) zo,zp,nF,?_,?_,?_,?_,?_,?_,AC ..,?_⟩ (λi hi=>?_) zp⟩
    ·rw[AA _ _ _ _ zd,AA _ _ _ _ zd,hkeep 0 zo,k1 0 zd];exact h0
    ·rw[AA _ _ _ _ zd,AA _ _ _ _ zd,hkeep 1 zo,k1 1 zd];exact h1
    ·rw[AA _ _ _ _ zd,AA _ _ _ _ zd,hkeep 2 zo];exact a2
    ·rw[AA _ _ _ _ zd,AA _ _ _ _ zd];exact b3
    ·rw[AA _ _ _ _ zd,AA _ _ _ _ zd];exact b4
    ·rw[AA _ _ _ _ zd,AC,sH];rfl
    ·intro i l hl;by_cases q:i<D.length
     ·rw[tQ q]at hl;exact ok i l hl
     ·grind
    ·have:=hF i hi;rw[AA _ _ _ _ (λq=>(hF' i hi).2 q.symm),AA _ _ _ _ (λq=>(hF' i hi).1 q.symm),hkeep i zo,k1 i (hF' i hi).2]
theorem Xa{trees:List (List xv)}(h:Zt k x trees (EP (AP k).length x.ls.length)):ED (AP k) x trees=decide ((EP (AP k).length x.ls.length).length=trees.length):=by
 unfold ED;rw[Bool.and_eq_left_iff_imp];intro hl;rw[sE];rintro⟨l,t⟩ hm;obtain⟨i,hi⟩:=List.mem_iff_getElem?.1 hm;rw[List.getElem?_zip_eq_some]at hi;obtain⟨t',h1,h2⟩:=h i l hi.1;rw[hi.2]at h1;cases h1;exact sK h2
def NH(k:zx)(x:zk)(trees:List (List xv)):Fs:=if BH k x≠0 then .wJ [.bool false,.int .i64 (BH k x)]else .wJ [.bool (ED (AP k) x trees),.int .i64 0]
theorem Zu(hk:zy k.d)(hx:wq x)(h:BH k x=0){wA:List Int}(hl:wA∈EP (AP k).length x.ls.length):RdC k x wA:=by
 unfold BH at h;by_cases hc:BE k=0
 ·rw[sg (by simpa using hc)]at h;have ho:FY x=true:=by
   unfold JA at h;split at h
   ·assumption
   ·cases h
  exact⟨hc,hk,hx,(RM x).1 ho,(Hn hl).1⟩
 ·rw[sn hc]at h;exact absurd h hc
def rowVd:List Fs->AB->Prop×Fs:=s2 CQ dX (λk x=>zy k.d/\wq x) λk x=>eI (BH k x)
def Tsc:Bg:=AF 97 rowVd wD
theorem mq:AH prog Tsc:=AH.wD.add (q2 λk x h=>p97 k x h.1 h.2)
theorem jj(a:List Fs)(H:AB):Tsc 97 a H=s2 CQ dX (λk x=>zy k.d/\wq x) (λk x=>eI (BH k x)) a H:=rfl
theorem p67(k:zx)(x:zk)(trees:List (List xv))(hk:zy k.d)(hx:wq x)(htr:Aq trees)(ht:∀t∈trees,Aq t):Av prog 67 [BA k,Cl x,EW trees] (NH k x trees):=by
 have u1:CQ.ok (.agg (AG k))=True:=Ce k;have u2:CQ.dec (.agg (AG k))=k:=Bx k;simp only[AG,AE,AL,sJ,sI]at u1 u2;have v1:dX.ok (.agg (Aa x))=True:=Gm x;have v2:dX.dec (.agg (Aa x))=x:=Ei x;simp only[Aa]at v1 v2;refine .mk ⟨Am 0 k,BN 0 x,FP 0 trees,zt⟩ ?_ (a67 (AI mq (AJ ?_)))
 ·unfold NH;split<;>exact⟨zt,zt,zt⟩
 unfold NH;by_cases hv:BH k x=0;case neg=>simp only[eZ,eX,seval,se,BO,c67,AG,AE,AL,jj,s2,u1,u2,v1,v2,r9 hk,r9 hx,sb hv];exact Wk.refl _
 have hvl:(AP k).length=k.d.wE.length:=by unfold AP;rw[ry]
 simp only[eZ,seval,sa,ry,c67,AG,AE,AL,jj,s2,u1,u2,v1,v2,r9 hk,r9 hx,r9 hv,AW];rw[hv];have hck:BE k=0:=by simp_all [BH]<;>omega
 have hsy:=BZ hck;generalize hHa:wB (wB _ 4 _) 5 (x9.box _)=Ha;have fa:AO Ha 7:=by
  rw[<-hHa];repeat' (first|exact AO.nil.wB (m:=7) (sk _) zd|refine AO.wB ?_ (sj _) zd)
 have f0:AD Ha 0=some (.box (AG k)):=by rw[<-hHa];rfl
 have f1:AD Ha 1=some (.box (Aa x)):=by rw[<-hHa];rfl
 have f2:AD Ha 2=some (.box [mo trees]):=by rw[<-hHa];rfl
 have f3:AD Ha 3=some (.box [.bool false]):=by rw[<-hHa];rfl
 have f4:AD Ha 4=some (.box [.int .i64 0]):=by rw[<-hHa];rfl
 have f5:AD Ha 5=some (.box [.int .i64 0]):=by rw[<-hHa];rfl
 clear hHa;have xu:x.ls.length<=1000:=by
  have ho:FY x=true:=by
   unfold BH at hv;rw[sg (by simpa using hck)]at hv;unfold JA at hv;split at hv
   ·assumption
   ·cases hv
  have:=((RM x).1 ho).ls.2.2.2;omega
 refine(Lp (M:=k.d.wE.length) (n:=x.ls.length) fa).mono ?_;rintro o H1 n1 ⟨rfl,rfl,rfl⟩;simp only[eE,eN,seval,BL,GE];intro l';generalize hHb:wB (wB (wB Ha 7 _) _ _) _ (x9.lp _)=Hb;have kb:∀i,i<7->AD Hb i=AD Ha i:=λi hi=>by
  rw[<-hHb,AA _ _ _ _ zo,AA _ _ _ _ zo,AA _ _ _ _ zo]
 have e8:AD Hb 8=some (.box [.int .i64 x.ls.length]):=by rw[<-hHb,AA _ _ _ _ zd];exact AC ..
 have e7:AD Hb 7=some (.box [.int .i64 (AP k).length]):=by rw[<-hHb,AA _ _ _ _ zd,AA _ _ _ _ zd,hvl];exact AC ..
 have hJ:CkJ k x trees l' (λi=>i=7\/i=8) [] Hb 11:=by
  refine⟨?_,sj _,λi h=>zo,(kb 0 zd).trans f0,(kb 1 zd).trans f1,(kb 2 zd).trans f2,(kb 3 zd).trans f3,(kb 4 zd).trans f4,(kb 5 zd).trans f5,by rw[<-hHb];exact AC ..,λi l h=>by simp at h⟩;rw[<-hHb];exact((fa.wB (m:=11) zd zd).wB (sj _) zd).wB (sj _) zd
 have hgen:=fE (k:=k) (x:=x) (trees:=trees) (l':=l') (λwA hl=>Zu hk hx hv hl) htr ht;have hM:(AP k).length<=1000:=zo
 refine(Vw hgen hM xu hJ (λi h=>zo) (.inr rfl) (.inl rfl) e8 e7).mono ?_;rintro o H' m' ⟨rfl,⟨F',-,hF',hj⟩|⟨s3,s4,sL,hw⟩⟩
 ·obtain⟨fr,lm,nF,h0,h1,h2,h3,h4,h5,hL,ok⟩:=hj;rw[Xa ok];generalize (EP (AP k).length x.ls.length).length=cl at h5;simp only[eE,eN,seval,BO,ry,GD,hL,h2,h3,h4,h5];rw[show decide ((cl:Int)=(trees.length:Int))=decide (cl=trees.length)from decide_eq_decide.2 zo];exact Wk.refl _
 ·simp only[eE,eN,seval,BO,GD,sL,s3,s4,hw];exact Wk.refl _
end
def mr:List Bs:=[[97],[98],[99],[100]]
def Of(q:Cnd)(nc nl:Nat):zk:=⟨[120],1,mr.take nc,mr.take nl,[q],[],0,0⟩
def p92(q:Cnd)(nc nl:Nat)(h1:nc<=4)(h2:nl<=4):Av prog 92 [GQ q,.int .i64 nc,.int .i64 nl] (Cl (Of q nc nl)):=by
 refine .mk ⟨FF 0 q,zt,zt,zt⟩ (BN 0 _) (c92.a (AI AH.wD (AJ ?_)));have w1:((nc:Int)<=4)=True:=r9 zo;have w2:((nl:Int)<=4)=True:=r9 zo;simp only[eE,eN,seval,BO,eY,c92,w1,w2,jf];have hn:∀(b:Bool) (m:Nat),Wk (.sl (if b=true then v8.exact 1 else v8.none 1) (List.take m [.str [97],.str [98],.str [99],.str [100]])) (.sl (.none 1) ((mr.take m).map .str)):=λb m=>by
  rw[List.map_take];exact Wk.sl (.inl (by cases b<;>rfl))
 have hn':∀(p:Prop) [Decidable p] (m:Nat),Wk (.sl (if p then v8.exact 1 else v8.none 1) (List.take m [.str [97],.str [98],.str [99],.str [100]])) (.sl (.none 1) ((mr.take m).map .str)):=λp _ m=>by
  have:=hn (decide p) m;simpa only[si]using this
 exact Wk.agg (.cons (Wk.refl _) (.cons (Wk.refl _) (.cons (hn' _ _) (.cons (hn' _ _) (.cons (Wk.sl (.inl rfl)) (.cons (Wk.sl (.inr rfl)) (.cons (Wk.refl _) (.cons (Wk.refl _) .nil))))))))
def p91(s m:Int):Av prog 91 [eI s,.ep [.int .i64 m]] (.bool (decide (s< -1)||decide (m<=s))):=by
 refine .mk ⟨zt,⟨zt,zt⟩,zt⟩ zt (c91.a (AI AH.wD (AJ ?_)));by_cases h:s< -1
 ·simp only[eZ,seval,sa,c91,r9 h]
 ·simp only[eZ,seval,c91,sb h]
def dp(l:List Int)(p:Int->Bool):Int:=match l.findIdx? p with
 |some i=>i
 |none=>-1
def fF(l:List Int)(p:Int->Bool):decide (0<=dp l p)=l.any p:=by
 unfold dp;cases h:l.findIdx? p with
 |none=>simp_all
 |some i=>
  obtain⟨hi,h1,-⟩:=t7.1 h;rw[show l.any p=true from vf.2 ⟨_,sC hi,h1⟩];simp
theorem mu{g:FuncId}{cap:List Fs}{p:Int->Bool}(l:List Int)(hl:Aq l)(xO:wN 0 cap)(hq:∀x,x∈l->Av prog g (eI x::cap) (.bool (p x))):
  Av prog 134 [Aj l,.fn (.func g) [] cap] (.int .i64 (dp l p)):=by
 have hT:AH prog (AF g (IH cap (λx=>x∈l) λx=>.bool (p x)) wD):=AH.wD.add (ZY hq);have yR:∀a H,AF g (IH cap (λx=>x∈l) λx=>.bool (p x)) wD g a H=IH cap (λx=>x∈l) (λx=>.bool (p x)) a H:=λa H=>by unfold AF;rw[sn rfl]
 generalize AF g (IH cap (λx=>x∈l) λx=>.bool (p x)) wD=T at hT yR;refine .mk ⟨AV 0 _,⟨zt,xO⟩,zt⟩ zt (qZ.a (AI hT (AJ ?_)));have wm:l.length<1000000000:=hl;simp only[eE,eN,seval,ry,qZ];refine AQ (λi:Nat=>⟨[(0,true,Aj l),(1,true,.fn (.func g) [] cap),(7,true,.int .i64 l.length),(8,true,.int .i64 i)],Ak,0⟩) (λi=>i<=l.length/\∀(j:Nat) x,j<i->l[j]?=some x->p x=false) (λi=>l.length-i) 0 rfl ⟨sk _,λj x h=>zo⟩ ?_;rintro i ⟨hi,he⟩;by_cases e9:i<l.length;case neg=>
  obtain rfl:i=l.length:=zo
  have:dp l p= -1:=by
   unfold dp;rw[ui.2 λx hx=>by
    obtain⟨j,hj,rfl⟩:=sV.1 hx;exact he j _ hj (rz hj)]
  rw[this];simp only[eZ,seval,Ag e9]
 have hg:=rz e9;have hm:=sC e9;have e:=AK (k:=i) zo;have hfx:p l[i]=true->dp l p=(i:Int):=λhp=>by
  unfold dp;rw[t7.2 ⟨e9,hp,λj hj=>by
   have:=he j _ hj (rz zo);rw[this];decide⟩]
 generalize l[i]=x at hg hm hfx;cases hp:p x with
 |true=>
  rw[hfx hp];simp only[eZ,seval,eY,AN e9,hg,yR,IH,r9 hm,hp]
 |false=>
  simp only[eZ,seval,eY,AN e9,hg,yR,IH,r9 hm,hp,e];refine .mk (i+1) rfl ⟨e9,λj y hj hy=>?_⟩ zo;by_cases q:j<i
  ·exact he j y q hy
  ·obtain rfl:j=i:=zo
   rw[hg]at hy;cases hy;exact hp
def jk{g:FuncId}{cap:List Fs}{p:Int->Bool}(l:List Int)(hl:Aq l)(xO:wN 0 cap)(hq:∀x,x∈l->Av prog g (eI x::cap) (.bool (p x))):
  Av prog 87 [Aj l,.fn (.func g) [] cap] (.bool (l.any p)):=by
 have hp:=mu l hl xO hq;refine .mk ⟨AV 0 _,⟨zt,xO⟩,zt⟩ zt (c87.a (AI (T:=AF 134 (HN [Aj l,.fn (.func g) [] cap] (λ_=>True) (.int .i64 (dp l p))) wD) (AH.wD.add (NA λH n _=>hp.quiet H n)) (AJ ?_)));have yR:∀a H,AF 134 (HN [Aj l,.fn (.func g) [] cap] (λ_=>True) (.int .i64 (dp l p))) wD 134 a H=HN [Aj l,.fn (.func g) [] cap] (λ_=>True) (.int .i64 (dp l p)) a H:=λa H=>by unfold AF;rw[sn rfl]
 simp only[eE,eN,seval,c87,HN];rw[fF]
def Zv(q:Cnd){nc nl:Nat}(h1:1<=nc/\nc<=4)(h2:1<=nl/\nl<=3):FY (Of q nc nl)=CJ q nc nl:=by
 have e1:CH [120]=true:=zd
 have e2:CH [97]=true:=zd
 have e3:CH [98]=true:=zd
 have e4:CH [99]=true:=zd
 have e5:CH [100]=true:=zd
 have a:nc=1\/nc=2\/nc=3\/nc=4:=zo
 have b:nl=1\/nl=2\/nl=3:=zo
 rcases a with rfl|rfl|rfl|rfl<;>rcases b with rfl|rfl|rfl<;>simp [FY,Of,Cm,CI,Bn,mr,e1,e2,e3,e4,e5]
theorem IL{α:Type}[DecidableEq α]:∀{l:List α},l.Nodup->Bn l=true
 |[],_=>rfl
 |x::r,h=>by
  obtain⟨h1,h2⟩:=uH.1 h;rw[Bn,IL h2,Bool.and_true,tJ,vH];intro y hy;simp only[si];rintro rfl;exact h1 hy
def G2{l:List Int}{n:Nat}:CI l n=true↔(∀c∈l,0<=c/\c<(n:Int))/\l.Nodup:=by
 unfold CI;rw[sf,sE];constructor
 ·rintro⟨h1,h2⟩;exact⟨λc hc=>by simpa using h1 c hc,F9 h2⟩
 ·rintro⟨h1,h2⟩;exact⟨λc hc=>by simpa using h1 c hc,IL h2⟩
def Ku(k:zx)(q:Cnd)(wA cells:List Int):Fs:=
 if BE k≠0 then .wJ [.bool false,.int .i64 (BE k)]
 else if wA.length<1\/3<wA.length\/cells.length<1\/4<cells.length then .wJ [.bool false,.int .i64 1]
 else if CI wA k.d.wE.length=false then .wJ [.bool false,.int .i64 1]
 else if(cells.any λs=>decide (s< -1)||decide ((k.d.wE.length:Int)<=s))=true then .wJ [.bool false,.int .i64 1]
 else if CJ q cells.length wA.length=false then .wJ [.bool false,.int .i64 300]
 else .wJ [.bool (FA (AP k) q wA cells),.int .i64 0]
def NI:List Fs->AB->Prop×Fs:=λa H=>match a with
 |[Q,.int .i64 nc,.int .i64 nl]=>(dQ.ok Q/\(0<=nc/\nc<=4)/\0<=nl/\nl<=4,Cl (Of (dQ.dec Q) nc.toNat nl.toNat))
 |_=>(False,.wJ [])
def mw:∀args H n,(NI args H).1->Ao prog 92 args H n (NI args H).2:=by
 intro args H m hh;unfold NI at hh⊢;split at hh
 ·rename_i Q nc nl;obtain⟨h1,h2,h3⟩:=hh;obtain⟨a,rfl⟩:=ur h2.1;obtain⟨b,rfl⟩:=ur h3.1;refine AX.args ((p92 (dQ.dec Q) a b zo zo).quiet H m) ?_;rintro g vs ⟨v,r,rfl,k1,k2⟩;exact⟨v,_,rfl,dQ.wk _ h1 _ _ k1,k2⟩
 ·exact hh.elim
def Lq(m:Int):List Fs->AB->Prop×Fs:=λa H=>match a with
 |[.sl t L,.fn (.func g) [] [.ptr q 0]]=>(g=91/\AD H q=some (.box [.int .i64 m])/\A3.ok (.sl t L)/\Aq (L.map A9),.bool ((L.map A9).any λs=>decide (s< -1)||decide (m<=s)))
 |_=>(False,.wJ [])
def mz(m:Int):∀args H n,(Lq m args H).1->Ao prog 87 args H n (Lq m args H).2:=by
 intro args H n hh;unfold Lq at hh⊢;split at hh
 ·obtain⟨rfl,h1,h2,h3⟩:=hh;exact(jk _ h3 ⟨⟨zt,zt⟩,zt⟩ (p:=λs=>decide (s< -1)||decide (m<=s)) (cap:=[.ep [.int .i64 m]]) λx _=>p91 x m).view zt (.cons (.wk (A3.wk _ h2)) (.cons (.fn .nil (.cons (View.ptr (off:=0) h1) .nil)) .nil)) n
 ·exact hh.elim
def m4(k:zx):Bg:=AF 43 (s1 CQ (λk=>zy k.d) λk=>.int .i64 (BE k)) (AF 35 (s1 dX wq λx=>eI (JA x)) (AF 92 NI (AF 87 (Lq k.d.wE.length) (AF 93 (IK k) (AF 60 Cp wD)))))
def m5(k:zx):AH prog (m4 k):=(((((AH.wD.add Mf).add (Vy k)).add (mz _)).add mw).add (q1 λx h=>p35 x h)).add (q1 λk h=>p43 k h)
theorem PN(k:zx)(a:List Fs)(H:AB):m4 k 43 a H=s1 CQ (λk=>zy k.d) (λk=>.int .i64 (BE k)) a H:=rfl
theorem jl(k:zx)(a:List Fs)(H:AB):m4 k 35 a H=s1 dX wq (λx=>eI (JA x)) a H:=rfl
theorem jm(k:zx)(a:List Fs)(H:AB):m4 k 92 a H=NI a H:=rfl
theorem Zw(k:zx)(a:List Fs)(H:AB):m4 k 87 a H=Lq k.d.wE.length a H:=rfl
theorem Tcw_c(k:zx)(a:List Fs)(H:AB):m4 k 93 a H=IK k a H:=rfl
theorem jn(k:zx)(a:List Fs)(H:AB):m4 k 60 a H=Cp a H:=rfl
def p59(k:zx)(q:Cnd)(wA cells:List Int)(hk:zy k.d)(hq:Aq q.cs/\Aq q.ls)(hl:Aq wA)(hc:Aq cells):Av prog 59 [BA k,GQ q,Aj wA,Aj cells] (Ku k q wA cells):=by
 have u1:CQ.ok (.agg (AG k))=True:=Ce k
 have u2:CQ.dec (.agg (AG k))=k:=Bx k
 simp only[AG,AE,AL,sJ,sI]at u1 u2
 have v1:dQ.ok (.agg [.int .i64 q.k,Aj q.cs,Aj q.ls,.int .i64 q.n])=True:=MP q
 have v2:dQ.dec (.agg [.int .i64 q.k,Aj q.cs,Aj q.ls,.int .i64 q.n])=q:=It q
 have wm:wA.length<1000000000:=hl
 have wi:cells.length<1000000000:=hc
 refine .mk ⟨Am 0 k,FF 0 q,AV 0 _,AV 0 _,zt⟩ ?_ (kK.a (AI (m5 k) (AJ ?_)))
 ·unfold Ku
  repeat' split
  all_goals exact⟨zt,zt,zt⟩
 unfold Ku
 by_cases h0:BE k=0
 case neg=>
  simp only[eZ,seval,se,kK,AG,AE,AL,PN,s1,u1,u2,r9 hk,sb h0]
  exact Wk.refl _
 by_cases b1:(wA.length:Int)<1
 ·simp only[eZ,seval,sa,ry,kK,AG,AE,AL,PN,s1,u1,u2,r9 hk,r9 h0,r9 b1]
  rw[sn zo];exact Wk.refl _
 by_cases b2:(3:Int)<wA.length
 ·simp only[eZ,seval,sa,ry,kK,AG,AE,AL,PN,s1,u1,u2,r9 hk,r9 h0,sb b1,r9 b2]
  rw[sn zo];exact Wk.refl _
 by_cases b3:(cells.length:Int)<1
 ·simp only[eZ,seval,sa,ry,kK,AG,AE,AL,PN,s1,u1,u2,r9 hk,r9 h0,sb b1,sb b2,r9 b3]
  rw[sn zo];exact Wk.refl _
 by_cases b4:(4:Int)<cells.length
 ·simp only[eZ,seval,sa,ry,kK,AG,AE,AL,PN,s1,u1,u2,r9 hk,r9 h0,sb b1,sb b2,sb b3,r9 b4]
  rw[sn zo];exact Wk.refl _
 rw[sg (by simpa using h0),sg zo]
 simp only[eZ,seval,sa,ry,kK,AG,AE,AL,PN,s1,u1,u2,r9 hk,r9 h0,sb b1,sb b2,sb b3,sb b4,AW]
 generalize hHa:wB (wB (wB Ak 0 _) 1 _) _ (x9.box _)=Ha
 have f0:AD Ha 0=some (.box (AG k)):=by rw[<-hHa];rfl
 have f1:AD Ha 1=some (.box [.int .i64 q.k,Aj q.cs,Aj q.ls,.int .i64 q.n]):=by rw[<-hHa];rfl
 have f8:AD Ha 8=some (.box [.int .i64 k.d.wE.length]):=by rw[<-hHa];rfl
 clear hHa
 simp only[AG,AE,AL,sJ,sI]at f0
 refine AQ (λi:Nat=>⟨[(2,true,Aj wA),(3,true,Aj cells),(4,true,.ptr 0 0),(5,true,.ptr 1 0),(10,true,.ptr 8 0),(40,true,Aj wA),(41,true,.int .i64 wA.length),(42,true,.int .i64 i)],Ha,10⟩) (λi=>i<=wA.length/\CI (wA.take i) k.d.wE.length=true) (λi=>wA.length-i) 0 rfl ⟨sk _,rfl⟩ ?_
 rintro i ⟨hi,he⟩
 by_cases e9:i<wA.length
 ·have hg:=rz e9
  have e:=AK (k:=i) zo
  have yB:wA.take (i+1)=wA.take i++[wA[i]]:=by rw[sG,hg];rfl
  have xJ:=sC e9
  have hrng:∀s,s∈wA->¬(0<=s/\s<(k.d.wE.length:Int))->CI wA k.d.wE.length=false:=λs hs hm=>by
   rw[uF]
   intro hd
   exact hm ((G2.1 hd).1 s hs)
  generalize wA[i]=s at hg yB xJ
  have hb':s∈wA.take i->CI wA k.d.wE.length=false:=λhm=>by
   rw[uF]
   intro hd
   have hn:=(List.take_sublist (i+1) wA).nodup (G2.1 hd).2
   rw[yB,uD]at hn
   exact hn.2.2 s hm s zw rfl
  have hr':=hrng s xJ
  by_cases s0:s<0
  ·rw[sn (hr' zo)]
   simp only[eZ,seval,sa,eY,AN e9,hg,f8,r9 s0]
   exact Wk.refl _
  by_cases s1':(k.d.wE.length:Int)<=s
  ·rw[sn (hr' zo)]
   simp only[eZ,seval,sa,eY,AN e9,hg,f8,sb s0,r9 s1']
   exact Wk.refl _
  have hRL:OV Ha (.sl (.none 1) ((wA.take i).map eI)) (wA.take i):=.inl ⟨_,rfl,.inl rfl⟩
  have r1:=II hRL
  have htf:Aq (wA.take i):=by show(wA.take i).length<_;rw[sU];omega
  have hile:((i:Int)<=(wA.length:Int))=True:=r9 zo
  have hmt:List.take i (wA.map eI)=(wA.take i).map eI:=List.map_take.symm
  cases wx:(wA.take i).contains s with
  |true=>
   rw[sn (hb' (t9.1 wx))]
   simp only[eZ,seval,eY,AN e9,hg,f8,sb s0,sb s1',hile,hmt,jn,Cp,r1,r9 hRL,r9 htf,wx]
   exact Wk.refl _
  |false=>
   simp only[eZ,seval,eY,AN e9,hg,f8,sb s0,sb s1',hile,hmt,jn,Cp,r1,r9 hRL,r9 htf,wx,e]
   refine .mk (i+1) rfl ⟨e9,?_⟩ zo
   obtain⟨d1,d2⟩:=G2.1 he
   have xb:¬s∈wA.take i:=λhm=>by rw[t9.2 hm]at wx;cases wx
   rw[yB]
   refine G2.2 ⟨λc hc=>?_,uD.2 ⟨d2,zw,λa ha b hb e=>?_⟩⟩
   ·rcases tP.1 hc with q|q
    ·exact d1 c q
    ·rw[tB.1 q];omega
   ·rw[tB.1 hb]at e
    exact xb (e▸ha)
 obtain rfl:i=wA.length:=zo
 rw[sD]at he
 rw[sg (by rw[he];decide)]
 have k1:A3.ok (Aj cells)=True:=Ah cells
 have k2:A3.ok (Aj wA)=True:=Ah wA
 cases hany:(cells.any λs=>decide (s< -1)||decide ((k.d.wE.length:Int)<=s))with
 |true=>
  rw[sn rfl]
  simp only[eZ,seval,Ag e9,f8,Zw,Lq,k1,Aw,r9 hc,hany]
  exact Wk.refl _
 |false=>
 rw[sg zd]
 have x1:dX.ok (Cl (Of q cells.length wA.length))=True:=Gm _
 have x2:dX.dec (Cl (Of q cells.length wA.length))=Of q cells.length wA.length:=Ei _
 have x3:wq (Of q cells.length wA.length):=by
  have t4:∀m,Aq (mr.take m):=λm=>by show(mr.take m).length<_;rw[sU];exact Nat.lt_of_le_of_lt (Nat.min_le_right ..) zd
  exact⟨t4 _,t4 _,by show(1:Nat)<_;decide,by show(0:Nat)<_;decide,λp hp=>by rw[tB.1 hp];exact hq,λp hp=>by cases hp⟩
 have x4:=Zv q (nc:=cells.length) (nl:=wA.length) zo zo
 have w1:((cells.length:Int)<=4)=True:=r9 zo
 have w2:((wA.length:Int)<=4)=True:=r9 zo
 cases hco:CJ q cells.length wA.length with
 |false=>
  have x5:JA (Of q cells.length wA.length)=300:=by unfold JA;rw[x4,hco];rfl
  rw[sn rfl]
  simp only[eZ,seval,se,eY,Ag e9,f1,f8,Zw,Lq,k1,Aw,r9 hc,hany,jm,NI,v1,v2,w1,w2,jl,s1,x1,x2,r9 x3,x5]
  exact Wk.refl _
 |true=>
  have x5:JA (Of q cells.length wA.length)=0:=by unfold JA;rw[x4,hco];rfl
  rw[sg zd]
  have hRC:OV Ha (Aj cells) cells:=.inl ⟨_,rfl,.inl rfl⟩
  have r1:=II hRC
  have hC:ClOK k q wA cells:=by
   have h1:=RN hco
   have hsy:=BZ h0
   refine⟨by rcases h1.kind with h|h|h|h|h<;>omega,?_,hq.1,λc hcc=>?_,hq.2,λc hcc=>?_,λs hs hs0=>?_,NG h0⟩
   ·have:=Vx h1.cs
    rcases h1.kind with h|h|h|h|h<;>omega
   ·have:=sE.1 (Fy h1.cs) c hcc
    simpa only[sf,si]using this
   ·have:=sE.1 (Fy h1.ls) c hcc
    simpa only[sf,si]using this
   ·grind
  simp only[eZ,seval,sa,eY,Ag e9,f0,f1,f8,Zw,Lq,k1,k2,u1,u2,Aw,r9 hc,hany,jm,NI,v1,v2,w1,w2,jl,s1,x1,x2,r9 x3,x5,Tcw_c,IK,r1,r9 hRC,r9 hC]
  exact Wk.refl _
section
variable {x:zk}
theorem Xb{vals:List Int}{wA cells:List Int}:Bk vals x wA cells=true↔∀i:Nat,i<x.qs.length+x.ps.length->Bj vals x wA cells (i:Int)=false:=by
 unfold Bk;rw[sE];have hl:(Eo vals x wA cells).length=x.qs.length+x.ps.length:=by unfold Eo;simp
 constructor
 ·intro h i hi;unfold Bj;rw[sg zo,sm,rz zo,sw];have:=h _ (sC (l:=Eo vals x wA cells) (n:=i) zo);simpa using this
 ·intro h b hb;obtain⟨i,hi,rfl⟩:=sV.1 hb;have:=h i zo;unfold Bj at this;rw[sg zo,sm,rz hi,sw]at this;rw[this];rfl
abbrev A0(k:zx)(x:zk)(wA:List Int):List Fs:=AG k++(Aa x++[Aj wA])
abbrev JE(k:zx)(x:zk)(wA:List Int):Fs:=.agg (A0 k x wA)
theorem FG(n:Nat)(k:zx)(x:zk)(wA:List Int):wN n (A0 k x wA):=by
 have h1:wN n (AG k):=Am n k;have h2:wN n (Aa x):=BN n x;have app:∀{a b:List Fs},wN n a->wN n b->wN n (a++b):=λ{a b} ha hb=>by
  induction a with
  |nil=>exact hb
  |cons c a ih=>exact⟨ha.1,ih ha.2⟩
 exact app h1 (app h2 ⟨AV n _,zt⟩)
def dM:Dc Prm:=dEx F4 dg
theorem PO(p:Prm):dM.ok (F4 p)=True:=r9 (by show F4 p=F4 (dg (F4 p));rw[OR])
theorem Kv(p:Prm):dM.dec (F4 p)=p:=OR p
theorem p86(p:Prm)(c:Int):Av prog 86 [F4 p,.ep [.int .i64 c]] (.bool (decide (p.c=c))):=by
 refine .mk ⟨Hq 0 p,⟨⟨zt,zt⟩,zt⟩⟩ zt (c86.a (AI AH.wD (AJ ?_)));simp only[eE,eN,seval,c86]
theorem p88(k:zx)(x:zk)(wA:List Int)(n s:Int)(h:0<=n/\n<(wA.length:Int)):Av prog 88 [eI n,.ep (A0 k x wA),.ep [.int .i64 s]] (.bool (decide (BG wA n=s))):=by
 refine .mk ⟨zt,FG 0 k x wA,⟨⟨zt,zt⟩,zt⟩⟩ zt (c88.a (AI AH.wD (AJ ?_)));have hg:=BY h.1 h.2;simp only[eE,eN,seval,eY,c88,A0,AG,AE,AL,Aa,r9 h.1,r9 h.2,hg]
def Fc{α:Type}(l:List α)(p:α->Bool):Int:=match l.findIdx? p with
 |some i=>i
 |none=>-1
def Qh(cap:List Fs)(ok:Prm->Prop)(f:Prm->Fs):List Fs->AB->Prop×Fs:=λa _=>match a with
 |M::c=>(c=cap/\dM.ok M/\ok (dM.dec M),f (dM.dec M))
 |_=>(False,.wJ [])
theorem rowMq{y9:FuncId}{cap:List Fs}{ok:Prm->Prop}{f:Prm->Fs}(h:∀x,ok x->Av prog y9 (F4 x::cap) (f x)):∀args H n,(Qh cap ok f args H).1->Ao prog y9 args H n (Qh cap ok f args H).2:=by
 intro args H n hh;unfold Qh at hh⊢;split at hh
 ·obtain⟨rfl,h1,h2⟩:=hh;refine AX.args ((h _ h2).quiet H n) ?_;rintro g vs ⟨v,r,rfl,k1,k2⟩;exact⟨v,_,rfl,dM.wk _ h1 _ _ k1,k2⟩
 ·exact hh.elim
theorem m6{g:FuncId}{cap:List Fs}{p:Prm->Bool}(l:List Prm)(hl:Aq l)(xO:wN 0 cap)(hq:∀x,x∈l->Av prog g (F4 x::cap) (.bool (p x))):
  Av prog 85 [.sl (.none 2) (l.map F4),.fn (.func g) [] cap] (.int .i64 (Fc l p)):=by
 have hT:AH prog (AF g (Qh cap (λx=>x∈l) λx=>.bool (p x)) wD):=AH.wD.add (rowMq hq);have yR:∀a H,AF g (Qh cap (λx=>x∈l) λx=>.bool (p x)) wD g a H=Qh cap (λx=>x∈l) (λx=>.bool (p x)) a H:=λa H=>by unfold AF;rw[sn rfl]
 generalize AF g (Qh cap (λx=>x∈l) λx=>.bool (p x)) wD=T at hT yR;refine .mk ⟨⟨zt,BW (Hq 0) _⟩,⟨zt,xO⟩,zt⟩ zt (c85.a (AI hT (AJ ?_)));have wm:l.length<1000000000:=hl;simp only[eE,eN,seval,ry,c85];refine AQ (λi:Nat=>⟨[(0,true,.sl (.none 2) (l.map F4)),(1,true,.fn (.func g) [] cap),(7,true,.int .i64 l.length),(8,true,.int .i64 i)],Ak,0⟩) (λi=>i<=l.length/\∀(j:Nat) x,j<i->l[j]?=some x->p x=false) (λi=>l.length-i) 0 rfl ⟨sk _,λj x h=>zo⟩ ?_;rintro i ⟨hi,he⟩;by_cases e9:i<l.length;case neg=>
  obtain rfl:i=l.length:=zo
  have:Fc l p= -1:=by
   unfold Fc;rw[ui.2 λx hx=>by
    obtain⟨j,hj,rfl⟩:=sV.1 hx;exact he j _ hj (rz hj)]
  rw[this];simp only[eZ,seval,Ag e9]
 have hg:=rz e9;have hm:=sC e9;have e:=AK (k:=i) zo;have hfx:p l[i]=true->Fc l p=(i:Int):=λhp=>by
  unfold Fc;rw[t7.2 ⟨e9,hp,λj hj=>by
   have:=he j _ hj (rz zo);rw[this];decide⟩]
 generalize l[i]=x at hg hm hfx;have m1:dM.ok (.agg [.int .i64 x.c,Aj x.ls])=True:=PO x;have m2:dM.dec (.agg [.int .i64 x.c,Aj x.ls])=x:=Kv x;cases hp:p x with
 |true=>
  rw[hfx hp];simp only[eZ,seval,eY,AN e9,hg,yR,Qh,m1,m2,r9 hm,hp]
 |false=>
  simp only[eZ,seval,eY,AN e9,hg,yR,Qh,m1,m2,r9 hm,hp,e];refine .mk (i+1) rfl ⟨e9,λj y hj hy=>?_⟩ zo;by_cases q:j<i
  ·exact he j y q hy
  ·obtain rfl:j=i:=zo
   rw[hg]at hy;cases hy;exact hp
def Og(H:AB)(r:Nat):Int:=match AD H r with
 |some (.box [.int .i64 s])=>s
 |_=>0
theorem Zx{H:AB}{r:Nat}{s:Int}(h:AD H r=some (.box [.int .i64 s])):Og H r=s:=by unfold Og;rw[h]
def R9(x:zk):List Fs->AB->Prop×Fs:=λa H=>match a with
 |[P,.fn (.func g) [] [.ptr r 0]]=>(P= .sl (.none 2) (x.ps.map F4)/\g=86/\AD H r=some (.box [.int .i64 (Og H r)]),.int .i64 (Fc x.ps λp=>decide (p.c=Og H r)))
 |_=>(False,.wJ [])
theorem m7(h:Aq x.ps):∀args H n,(R9 x args H).1->Ao prog 85 args H n (R9 x args H).2:=by
 intro args H n hh;unfold R9 at hh⊢;split at hh
 ·rename_i P g r;obtain⟨rfl,rfl,h2⟩:=hh;generalize Og H r=s at h2⊢;exact(m6 _ h ⟨⟨zt,zt⟩,zt⟩ (p:=λp=>decide (p.c=s)) (cap:=[.ep [.int .i64 s]]) λp _=>p86 p s).view zt (.cons (.wk (Wk.refl _)) (.cons (.fn .nil (.cons (View.ptr (off:=0) h2) .nil)) .nil)) n
 ·exact hh.elim
def PP(k:zx)(x:zk)(wA:List Int):List Fs->AB->Prop×Fs:=λa H=>match a with
 |[.sl t L,.fn (.func g) [] [.ptr q 0,.ptr r 0]]=>(g=88/\AD H q=some (.box (A0 k x wA))/\AD H r=some (.box [.int .i64 (Og H r)])/\A3.ok (.sl t L)/\Aq (L.map A9)/\∀n∈L.map A9,0<=n/\n<(wA.length:Int),.bool ((L.map A9).any λn=>decide (BG wA n=Og H r)))
 |_=>(False,.wJ [])
theorem m8(k:zx)(x:zk)(wA:List Int):∀args H n,(PP k x wA args H).1->Ao prog 87 args H n (PP k x wA args H).2:=by
 intro args H n hh;unfold PP at hh⊢;split at hh
 ·rename_i t L g q r;obtain⟨rfl,h1,h2,h3,h4,h5⟩:=hh;generalize Og H r=s at h2⊢;exact(jk _ h4 ⟨FG 0 k x wA,⟨zt,zt⟩,zt⟩ (p:=λn=>decide (BG wA n=s)) (cap:=[.ep (A0 k x wA),.ep [.int .i64 s]]) λn hn=>p88 k x wA n s (h5 n hn)).view zt (.cons (.wk (A3.wk _ h3)) (.cons (.fn .nil (.cons (View.ptr (off:=0) h1) (.cons (View.ptr (off:=0) h2) .nil))) .nil)) n
 ·exact hh.elim
theorem Mg{c:Int}:(FC x c=none/\Fc x.ps (λp=>decide (p.c=c))= -1)\/∃(i:Nat) (p:Prm),FC x c=some p/\x.ps[i]?=some p/\Fc x.ps (λp=>decide (p.c=c))=(i:Int):=by
 unfold FC Fc;cases h:x.ps.findIdx? (λp=>decide (p.c=c))with
 |none=>simp_all
 |some i=>
  obtain⟨h1,h2,h3⟩:=t7.1 h;refine .inr ⟨i,x.ps[i],?_,rz h1,rfl⟩;rw[List.find?_eq_some_iff_getElem];exact⟨h2,i,h1,rfl,λj hj=>by simpa using h3 j hj⟩
end
def Tpy(k:zx)(x:zk)(wA:List Int):Bg:=AF 85 (R9 x) (AF 87 (PP k x wA) wD)
def m9{k:zx}{x:zk}{wA:List Int}(h:Aq x.ps):AH prog (Tpy k x wA):=(AH.wD.add (m8 k x wA)).add (m7 h)
structure VPy where
 i:Nat
 tk:v8
 H:AB
 n:Nat
structure IPy(k:zx)(x:zk)(wA:List Int)(p:Int->Bool)(v:VPy):Prop where
 hi:v.i<=k.d.wE.length
 hn:3<=v.n
 fr:AO v.H v.n
 h0:AD v.H 0=some (.box (A0 k x wA))
 tok:C8 1 2 v.H v.tk
 es:v.tk.esz=1\/((CP k.d.wE.length).take v.i).filter p=[]
def NJ{m i:Nat}(h:i<m):(CP m).take (i+1)=(CP m).take i++[(i:Int)]:=by simp_all [sG,CP]
def SA(m i:Nat)(p:Int->Bool):(((CP m).take i).filter p).length<=i:=by grind
def fG{ls wA:List Int}{s:Int}:(ls.any λn=>decide (BG wA n=s))=(ls.map (BG wA)).contains s:=by grind
def p50(k:zx)(x:zk)(wA:List Int)(c:Int)(hm:k.d.wE.length<=16)(hps:Aq x.ps)(xg:∀p∈x.ps,Aq p.ls/\∀c∈p.ls,0<=c/\c<(wA.length:Int)):Av prog 50 [JE k x wA,.int .i64 c] (Aj (C6 k.d.wE.length x wA c)):=by
 refine .mk ⟨FG 0 k x wA,zt,zt⟩ (AV 0 _) (c50.a (AI (m9 (k:=k) (wA:=wA) hps) (AJ ?_)));rw[Es];have yp:Og (wB (wB Ak 0 (.box (A0 k x wA))) 1 (.box [.int .i64 c])) 1=c:=Zx (AC ..);have hcon:∀s,DB x wA c s=match FC x c with|none=>true|some p=>p.ls.any λn=>decide (BG wA n=s):=λs=>by
  unfold DB;cases FC x c with
  |none=>rfl
  |some p=>exact fG.symm
 simp only[A0,AG,AE,AL,Aa,sJ,sI]at yp;simp only[eE,eN,seval,ry,c50,A0,AG,AE,AL,Aa,Tpy,R9,yp,AF];refine AQ (λv:VPy=>⟨[(2,true,.ptr 0 0),(4,true,.sl v.tk ((((CP k.d.wE.length).take v.i).filter (DB x wA c)).map eI)),(5,true,.int .i64 (Fc x.ps λp=>decide (p.c=c))),(16,true,.int .i64 k.d.wE.length),(17,true,.int .i64 v.i)],v.H,v.n⟩) (IPy k x wA (DB x wA c)) (λv=>k.d.wE.length-v.i)
  ⟨0,.nil,_,3⟩ rfl ⟨sk _,sj _,(AO.nil.wB (m:=3) (sk _) zd).wB (m:=3) (sj _) zd,rfl,.inl rfl,.inr rfl⟩ ?_
 rintro⟨i,tk,H,n⟩ ⟨hi,hn,hf,h0,l7,s7⟩;simp only at hi hn hf h0 l7 s7;by_cases e9:i<k.d.wE.length;case neg=>
  obtain rfl:i=k.d.wE.length:=zo
  have l5:(CP k.d.wE.length).take k.d.wE.length=CP k.d.wE.length:=tL (by unfold CP;simp);rw[l5]at s7;simp only[eZ,seval,Ag e9,l5];exact Wk.sl (s7.imp (λz=>z) λq=>by rw[q];rfl)
 have e:=AK (k:=i) zo;have yB:=NJ e9;have wm:=SA k.d.wE.length i (DB x wA c);have wj:=h0;simp only[A0,AG,AE,AL,Aa,sJ,sI]at h0;have y1:∀z,(n+z=0)=False:=λz=>sb zo
 have hc:=hcon (i:Int);have yA:AO (wB H (n+1) (.box [.int .i64 (i:Int)])) (n+3):=hf.wB zo zo;have hg1:Og (wB H (n+1) (.box [.int .i64 (i:Int)])) (n+1)=(i:Int):=Zx (AC ..);have hq0:AD (wB H (n+1) (.box [.int .i64 (i:Int)])) 0=some (.box (A0 k x wA)):=by rw[AA _ _ _ _ zo];exact wj
 have htk1:C8 1 2 (wB H (n+1) (.box [.int .i64 (i:Int)])) tk:=l7.set (.inr (.inr (hf _ zo)));have q1:BB (wB H (n+1) (.box [.int .i64 (i:Int)])) 1 tk=True:=r9 htk1.app;have q2:((((CP k.d.wE.length).take i).filter (DB x wA c)).length<=35184372088831)=True:=r9 zo;have q3:Al ((((CP k.d.wE.length).take i).filter (DB x wA c)).length+1) 8=True:=r9 (Ae zo zd);have hbx:=AC H (n+1) (.box [.int .i64 (i:Int)]);simp only[A0,AG,AE,AL,Aa,sJ,sI]at hq0;have addT:DB x wA c (i:Int)=true->((CP k.d.wE.length).take (i+1)).filter (DB x wA c)=((CP k.d.wE.length).take i).filter (DB x wA c)++[(i:Int)]:=λq=>by
  rw[yB,uh,vk q];rfl
 have addF:DB x wA c (i:Int)=false->((CP k.d.wE.length).take (i+1)).filter (DB x wA c)=((CP k.d.wE.length).take i).filter (DB x wA c):=λq=>by
  rw[yB,uh,vj (by rw[q];decide),uV,sR]
 have nextT:DB x wA c (i:Int)=true->IPy k x wA (DB x wA c) ⟨i+1,.own (n+6) 1,wB (AU (wB H (n+1) (.box [.int .i64 (i:Int)])) tk) (n+6) .tok,n+8⟩:=λq=>by
  refine⟨e9,zp,(Ab htk1 yA).wB (m:=n+8) zo zo,?_,.inr (.inr ⟨n+6,rfl,zo,AC ..⟩),.inl rfl⟩;simp only[];rw[AA _ _ _ _ zo,Ac htk1 (.inl zo),AA _ _ _ _ zo];exact wj
 rcases Mg (x:=x) (c:=c)with⟨p1,p2⟩|⟨a,p,p1,p2,p3⟩
 ·have wx:DB x wA c (i:Int)=true:=by unfold DB;rw[p1]
  rw[p2];simp only[eZ,seval,sa,ry,AN e9,AW,Bq hf,y1,q1,q2,q3,e];exact .mk ⟨i+1,.own (n+6) 1,wB (AU (wB H (n+1) (.box [.int .i64 (i:Int)])) tk) (n+6) .tok,n+8⟩ (by simp only[addT wx,su];rfl) (nextT wx) zp
 ·have xJ:=sZ p2;have ha:=(t8.1 p2).1;have hneg:((a:Int)<0)=False:=sb zo;have hdneg:decide ((a:Int)<0)=false:=sA zo;obtain⟨f1,f2⟩:=xg p xJ;have k1:A3.ok (Aj p.ls)=True:=Ah p.ls;rw[p3];rw[p1]at hc;simp only[]at hc;cases wx:DB x wA c (i:Int)with
  |true=>
   rw[wx]at hc;simp only[eZ,seval,eY,AN e9,AW,Bq hf,q1,q2,q3,e,hneg,AN ha,p2,Tpy,PP,hg1,hq0,hbx,k1,Aw,r9 f1,uA,r9 f2,A0,AG,AE,AL,Aa,<-hc,AF];exact .mk ⟨i+1,.own (n+6) 1,wB (AU (wB H (n+1) (.box [.int .i64 (i:Int)])) tk) (n+6) .tok,n+8⟩ (by simp only[addT wx,su];rfl) (nextT wx) zp
  |false=>
   rw[wx]at hc;simp only[eZ,seval,eY,AN e9,AW,Bq hf,e,hneg,AN ha,p2,Tpy,PP,hg1,hq0,hbx,k1,Aw,r9 f1,uA,r9 f2,A0,AG,AE,AL,Aa,<-hc,AF];exact .mk ⟨i+1,tk,wB H (n+1) (.box [.int .i64 (i:Int)]),n+3⟩ (by simp only[addF wx]) ⟨e9,zp,yA,hq0,htk1,by simp only[addF wx];exact s7⟩ zp
section
structure PrC(k:zx)(x:zk)(wA:List Int):Prop where
 ck:BE k=0
 fd:zy k.d
 fx:wq x
 ox:OKL x
 lt:wA∈EP k.d.wE.length x.ls.length
variable {k:zx} {wA cells:List Int} {x:zk}
theorem PrC.rd(h:PrC k x wA):RdC k x wA:=⟨h.ck,h.fd,h.fx,h.ox,(Hn h.lt).1⟩
theorem PrC.df(h:PrC k x wA):CI wA k.d.wE.length=true:=G2.2 ⟨(Hn h.lt).2.2,(Hn h.lt).2.1⟩
structure ClP(k:zx)(x:zk)(cells:List Int):Prop where
 cl:ClC k x cells
 ge:∀s∈cells,-1<=s
theorem Zy(h:PrC k x wA)(hc:ClP k x cells){q:Cnd}(hq:q∈x.qs):Ku k q wA cells= .wJ [.bool (FA (AP k) q wA cells),.int .i64 0]:=by
 unfold Ku;have hl:=h.ox.ls.2.2;have hx:=h.ox.cs.2.2;have wm:=h.rd.ll;have wi:=hc.cl.len;rw[sg (by simpa using h.ck),sg zo,sg (by rw[h.df];decide),sg ?_,sg ?_]
 ·rw[wi,wm,h.ox.qs q hq];decide
 ·rw[Bool.not_eq_true,vH];intro s hs;have:=hc.ge s hs;simp only[sQ,si,not_or];refine⟨zo,?_⟩;by_cases q:0<=s
  ·have:=hc.cl.sy s hs q;unfold De at this;omega
  ·omega
def Dh(vals:List Int)(x:zk)(wA cells:List Int):Int:=match FE vals x wA cells with
 |some i=>i
 |none=>-1
def PQ(k:zx):List Fs->AB->Prop×Fs:=λa H=>match a with
 |[K,Q,.sl t1 L1,.sl t2 L2]=>(CQ.ok K/\CQ.dec K=k/\dQ.ok Q/\(Aq (dQ.dec Q).cs/\Aq (dQ.dec Q).ls)/\(A3.ok (.sl t1 L1)/\Aq (L1.map A9))/\A3.ok (.sl t2 L2)/\Aq (L2.map A9),Ku k (dQ.dec Q) (L1.map A9) (L2.map A9))
 |_=>(False,.wJ [])
theorem nA(hk:zy k.d):∀args H n,(PQ k args H).1->Ao prog 59 args H n (PQ k args H).2:=by
 intro args H m hh;unfold PQ at hh⊢;split at hh
 ·obtain⟨h1,h2,h3,h4,⟨h5,h6⟩,h7,h8⟩:=hh;have w1:=CQ.wk _ h1;rw[h2]at w1;refine AX.args ((p59 k _ _ _ hk h4 h6 h8).quiet H m) ?_;rintro g vs ⟨v1,r1,rfl,k1,v2,r2,rfl,k2,v3,r3,rfl,k3,v4,r4,rfl,k4,k5⟩;exact⟨v1,_,rfl,w1 _ _ k1,v2,_,rfl,dQ.wk _ h3 _ _ k2,v3,_,rfl,A3.wk _ h5 _ _ k3,v4,_,rfl,A3.wk _ h7 _ _ k4,k5⟩
 ·exact hh.elim
def Lr(k:zx)(x:zk)(wA:List Int):List Fs->AB->Prop×Fs:=λa H=>match a with
 |[P,.int .i64 c]=>(P=JE k x wA,Aj (C6 k.d.wE.length x wA c))
 |_=>(False,.wJ [])
theorem Zz(h:RdC k x wA):∀args H n,(Lr k x wA args H).1->Ao prog 50 args H n (Lr k x wA args H).2:=by
 intro args H m hh;unfold Lr at hh⊢;split at hh
 ·subst hh;exact(p50 k x wA _ (BZ h.ck).2 h.fx.ps (G1 h)).quiet H m
 ·exact hh.elim
def Tpc(k:zx)(x:zk)(wA:List Int):Bg:=AF 59 (PQ k) (AF 50 (Lr k x wA) (AF 60 Cp wD))
theorem nC(h:RdC k x wA):AH prog (Tpc k x wA):=((AH.wD.add Mf).add (Zz h)).add (nA h.fd)
structure IPc(k:zx)(x:zk)(wA:List Int)(len:Nat)(no:Nat->Prop)(v:VPm):Prop where
 hi:v.i<=len
 hn:2<=v.n
 fr:AO v.H v.n
 h0:AD v.H 0=some (.box (A0 k x wA))
 no:∀j,j<v.i->no j
theorem Jw{vals:List Int}{i:Nat}(h1:∀j:Nat,j<i->Bj vals x wA cells (j:Int)=false)(h2:Bj vals x wA cells (i:Int)=true):Dh vals x wA cells=(i:Int):=by
 have get:∀j:Nat,Bj vals x wA cells (j:Int)=(Eo vals x wA cells)[j]?.getD false:=λj=>by unfold Bj;rw[sg zo,sm]
 have hi:i<(Eo vals x wA cells).length:=by grind
 unfold Dh FE;rw[t7.2 ⟨hi,by rw[get,rz hi]at h2;exact h2,λj hj=>by
  have:=h1 j hj;rw[get,rz zo,sw]at this;rw[this];decide⟩]
theorem SB{vals:List Int}(h:∀j:Nat,j<x.qs.length+x.ps.length->Bj vals x wA cells (j:Int)=false):Dh vals x wA cells= -1:=by
 unfold Dh;rw[GO.2 (Xb.2 h)]
theorem p31(k:zx)(x:zk)(wA cells:List Int)(h:PrC k x wA)(hc:ClP k x cells):Av prog 31 [JE k x wA,Aj cells] (.int .i64 (Dh (AP k) x wA cells)):=by
 have hnq:x.qs.length<1000000000:=h.fx.qs;have hnp:x.ps.length<1000000000:=h.fx.ps;have u1:CQ.ok (.agg (AG k))=True:=Ce k;have u2:CQ.dec (.agg (AG k))=k:=Bx k;simp only[AG,AE,AL,sJ,sI]at u1 u2;have k1:A3.ok (Aj cells)=True:=Ah cells;have k2:A3.ok (Aj wA)=True:=Ah wA;have hfl:Aq wA:=by show wA.length<_;have:=h.ox.ls.2.2.2;rw[h.rd.ll];omega
 have hfc:Aq cells:=by show cells.length<_;have:=h.ox.cs.2.2.2;rw[hc.cl.len];omega
 refine .mk ⟨FG 0 k x wA,AV 0 _,zt⟩ zt (c31.a (AI (nC h.rd) (AJ ?_)));simp only[eE,eN,seval,ry,c31,A0,AG,AE,AL,Aa];refine AQ (λv:VPm=>⟨[(1,true,Aj cells),(2,true,.ptr 0 0),(14,true,.sl (.none 4) (x.qs.map GQ)),(15,true,.int .i64 x.qs.length),(16,true,.int .i64 v.i)],v.H,v.n⟩) (IPc k x wA x.qs.length λj=>Bj (AP k) x wA cells (j:Int)=false) (λv=>x.qs.length-v.i)
  ⟨0,_,2⟩ rfl ⟨sk _,sj _,AO.nil.wB (m:=2) (sk _) zd,rfl,λj hj=>by cases hj⟩ ?_
 rintro⟨i,H,n⟩ ⟨hi,hn,hf,h0,v9⟩;simp only at hi hn hf h0 v9;have wj:=h0;simp only[A0,AG,AE,AL,Aa,sJ,sI]at h0;by_cases e9:i<x.qs.length
 ·have e:=AK (k:=i) zo;have hg:=rz e9;have wi:=Zy h hc (sC e9);have hfq:=h.fx.q _ (sC e9);generalize x.qs[i]=q at hg wi hfq;have v1:dQ.ok (.agg [.int .i64 q.k,Aj q.cs,Aj q.ls,.int .i64 q.n])=True:=MP q;have v2:dQ.dec (.agg [.int .i64 q.k,Aj q.cs,Aj q.ls,.int .i64 q.n])=q:=It q;have y1:∀z,(n+z=0)=False:=λz=>sb zo
  have hq:=T8 (vals:=AP k) (wA:=wA) (cells:=cells) hg;cases wo:FA (AP k) q wA cells with
  |true=>
   rw[wo]at wi hq;rw[Jw v9 hq];simp only[eZ,seval,eY,AN e9,hg,AW,Bq hf,y1,h0,Tpc,PQ,u1,u2,v1,v2,k1,k2,Aw,r9 hfq.1,r9 hfq.2,r9 hfl,r9 hfc,wi,AF]
  |false=>
   rw[wo]at wi hq;simp only[eZ,seval,eY,AN e9,hg,AW,Bq hf,y1,h0,Tpc,PQ,u1,u2,v1,v2,k1,k2,Aw,r9 hfq.1,r9 hfq.2,r9 hfl,r9 hfc,wi,e,AF];refine .mk ⟨i+1,wB H (n+3) (.box [.int .i64 q.k,Aj q.cs,Aj q.ls,.int .i64 q.n]),n+6⟩ rfl ⟨e9,zp,hf.wB (m:=n+6) zo zo,by simp only[];rw[AA _ _ _ _ zo];exact wj,λj hj=>?_⟩ zp;by_cases z:j<i
   ·exact v9 j z
   ·have hj':j<i+1:=hj;obtain rfl:j=i:=zo
    exact hq
 obtain rfl:i=x.qs.length:=zo
 simp only[eZ,seval,ry,Ag e9,h0];refine AQ (λv:VPm=>⟨[(1,true,Aj cells),(2,true,.ptr 0 0),(36,true,.sl (.none 2) (x.ps.map F4)),(37,true,.int .i64 x.ps.length),(38,true,.int .i64 v.i)],v.H,v.n⟩) (IPc k x wA x.ps.length λj=>Bj (AP k) x wA cells ((x.qs.length+j:Nat):Int)=false) (λv=>x.ps.length-v.i)
  ⟨0,H,n⟩ rfl ⟨sk _,hn,hf,wj,λj hj=>by cases hj⟩ ?_
 rintro⟨i,H1,n1⟩ ⟨hi1,to,wW,wh,hno1⟩;simp only at hi1 to wW wh hno1;have yz:=wh;simp only[A0,AG,AE,AL,Aa,sJ,sI]at wh;have hnoI:∀j:Nat,j<x.qs.length+i->Bj (AP k) x wA cells (j:Int)=false:=λj hj=>by
  by_cases z:j<x.qs.length
  ·exact v9 j z
  ·have:=hno1 (j-x.qs.length) zo
   rwa[show x.qs.length+(j-x.qs.length)=j by omega]at this
 by_cases hlp:i<x.ps.length
 ·have e:=AK (k:=i) zo;have hg:=rz hlp;have xJ:=sC hlp;generalize x.ps[i]=p at hg xJ;have hq:=T9 (vals:=AP k) (wA:=wA) (cells:=cells) hg;have hpc:=Kr h.ox xJ;rw[<-hc.cl.len]at hpc;have hgc:=BY hpc.1 hpc.2;have yf:=sZ hgc;unfold Dl at hq;generalize BG cells p.c=s at hgc hq yf;have y1:∀z,(n1+z=0)=False:=λz=>sb zo
  have nx:Bj (AP k) x wA cells ((x.qs.length+i:Nat):Int)=false->IPc k x wA x.ps.length (λj=>Bj (AP k) x wA cells ((x.qs.length+j:Nat):Int)=false) ⟨i+1,wB H1 (n1+3) (.box [.int .i64 p.c,Aj p.ls]),n1+6⟩:=λhz=>by
   refine⟨hlp,zp,wW.wB (m:=n1+6) zo zo,by simp only[];rw[AA _ _ _ _ zo];exact yz,λj hj=>?_⟩;by_cases z:j<i
   ·exact hno1 j z
   ·have hj':j<i+1:=hj;obtain rfl:j=i:=zo
    exact hz
  by_cases hs:0<=s;case neg=>
   rw[sA hs,uk]at hq;simp only[eZ,seval,eY,AN hlp,hg,AW,Bq wW,y1,wh,r9 hpc.1,r9 hpc.2,hgc,sb hs,e];exact .mk ⟨i+1,wB H1 (n1+3) (.box [.int .i64 p.c,Aj p.ls]),n1+6⟩ rfl (nx hq) zp
  rw[sK hs,tS]at hq;have hcon:(C6 k.d.wE.length x wA p.c).contains s=(p.ls.map (BG wA)).contains s:=by
   rw[Es,sP,t9,tV,Dd];unfold DB;rw[PJ h.ox xJ];simp only[];exact⟨λz=>z.2,λz=>⟨⟨hs,(hc.cl.sy s yf hs).2⟩,z⟩⟩
  have hfew:Aq (C6 k.d.wE.length x wA p.c):=by
   show(C6 k.d.wE.length x wA p.c).length<_;rw[Es];have h1:=tN (DB x wA p.c) (CP k.d.wE.length);have h2:(CP k.d.wE.length).length=k.d.wE.length:=by unfold CP;simp
   have h3:=BZ h.ck;omega
  rw[<-hcon]at hq;generalize hL:C6 k.d.wE.length x wA p.c=L at hq hfew;have r1:∀H,rdL H (Aj L)=L:=λH=>II (.inl ⟨_,rfl,.inl rfl⟩)
  have r2:∀H,OV H (Aj L) L=True:=λH=>r9 (.inl ⟨_,rfl,.inl rfl⟩)
  have w1:IntKind.wrap .i64 ((x.qs.length:Int)+(i:Int))=((x.qs.length+i:Nat):Int):=by rw[A4 zo zo];omega
  cases wx:L.contains s with
  |true=>
   rw[wx]at hq;simp only[eZ,seval,sa,eY,AN hlp,hg,AW,Bq wW,y1,wh,r9 hpc.1,r9 hpc.2,hgc,r9 hs,Tpc,Lr,uA,hL,Cp,r1,r2,r9 hfew,wx,e,AF];exact⟨rfl,.mk ⟨i+1,wB H1 (n1+3) (.box [.int .i64 p.c,Aj p.ls]),n1+6⟩ rfl (nx hq) zp⟩
  |false=>
   rw[wx]at hq;rw[Jw hnoI hq];simp only[eZ,seval,se,eY,AN hlp,hg,AW,Bq wW,y1,wh,r9 hpc.1,r9 hpc.2,hgc,r9 hs,Tpc,Lr,uA,hL,Cp,r1,r2,r9 hfew,wx,w1,AF];rfl
 obtain rfl:i=x.ps.length:=zo
 rw[SB hnoI];simp only[eZ,seval,Ag hlp]
end
def fH{a b c d:Int}(h1:decide (a=c)=true)(h2:decide (b=d)=true):Wk (.wJ [.int .u64 a,.int .u64 b]) (.wJ [.int .u64 c,.int .u64 d]):=by
 rw[th h1,th h2];exact Wk.refl _
def p185(n:Int)(h:n=1\/n=2\/n=3\/n=4):Av prog 185 [.int .u64 1,.int .u64 n] (.wJ [.int .u64 0,.int .u64 n]):=by
 rcases h with rfl|rfl|rfl|rfl
 all_goals
  refine .mk ⟨zt,zt,zt⟩ ⟨zt,zt,zt⟩ (qd.a (AI AH.wD (AJ ?_)));simp only[eE,eN,seval,qd];exact fH (by kernel_rfl) (by kernel_rfl)
def Jx:List Fs->AB->Prop×Fs:=λa _=>match a with
 |[.int .u64 m,.int .u64 n]=>(m=1/\(n=1\/n=2\/n=3\/n=4),.wJ [.int .u64 0,.int .u64 n])
 |_=>(False,.wJ [])
def p133(n:Int)(h:n=1\/n=2\/n=3\/n=4):Av prog 133 [.int .u64 1,.int .u64 n] (.wJ [.int .u64 0,.int .u64 n]):=by
 have hT:AH prog (AF 185 Jx wD):=AH.wD.add λargs H m hh=>by
  unfold Jx at hh⊢;split at hh
  ·obtain⟨rfl,h⟩:=hh;exact(p185 _ h).quiet H m
  ·exact hh.elim
 have yR:∀a H,AF 185 Jx wD 185 a H=Jx a H:=λa H=>by unfold AF;rw[sn rfl]
 generalize AF 185 Jx wD=T at hT yR;refine .mk ⟨zt,zt,zt⟩ ⟨zt,zt,zt⟩ (qc.a (AI hT (AJ ?_)));simp only[eZ,seval,eY,qc,yR,Jx,r9 h];exact Wk.refl _
def Trp:Bg:=AF 133 Jx wD
def nD:AH prog Trp:=AH.wD.add λargs H m hh=>by
 unfold Jx at hh⊢;split at hh
 ·obtain⟨rfl,h⟩:=hh;exact(p133 _ h).quiet H m
 ·exact hh.elim
abbrev UA(n c:Nat):List Fs:=List.replicate c (.int .i64 (-1))++List.replicate (n-c) (.int .i64 0)
def nE{H:AB}{m n:Nat}{t:v8}(hf:AO H m)(hn:1<=n/\n<=4)(ht:t.esz=1):AX prog 84 [.sl t [.int .i64 (-1)],.int .i64 n] H m λo H' m'=>o= .ret (.ref (m+2) 1 0 n n)/\H'=wB H (m+2) (.arr 1 (List.replicate n (.int .i64 (-1))))/\m'=m+4:=by
 refine c84.a (AI nD (AJ ?_));have w0:((n:Int)<0)=False:=sb zo;have d0:decide ((n:Int)<0)=false:=sA zo;have w1:IntKind.wrap .u64 1=1:=by rfl
 have w2:IntKind.wrap .u64 (n:Int)=(n:Int):=by rw[IntKind.wrap_u64];omega
 have w3:IntKind.wrap .i64 (n:Int)=(n:Int):=A4 zo zo;have w4:((n:Int)=1\/(n:Int)=2\/(n:Int)=3\/(n:Int)=4)=True:=r9 zo;have w5:((9223372036854775807:Int)<(n:Int))=False:=sb zo;have d5:decide ((9223372036854775807:Int)<(n:Int))=false:=sA zo;have w6:((n:Int)<=35184372088832)=True:=r9 zo;have w7:Al n 8=True:=r9 (Ae zo zd);have w8:∀H,Oj H 1 (.sl t [.int .i64 (-1)]) false=some [.int .i64 (-1)]:=λH=>by unfold Oj;simp only[];rw[sn (.inl ht)]
 have w9:min 1 n=1:=zo
 have w10:(n<=n)=True:=r9 (sj _);have w11:((1:Nat)<=n)=True:=r9 hn.1;simp only[eZ,seval,xE,eY,c84,w0,w1,w2,w3,w4,w5,Trp,Jx,Bq hf,w6,w7,w8,w9,w10,tK,List.drop_replicate,AW,AF];refine AQ (λc:Nat=>⟨[(7,true,.ref (m+2) 1 0 n n),(8,true,.int .i64 c)],wB H (m+2) (.arr 1 (UA n c)),m+4⟩) (λc=>1<=c/\c<=n) (λc=>n-c) 1 rfl ⟨sj _,hn.1⟩ ?_;rintro c ⟨hc1,hcn⟩;by_cases e9:c<n;case neg=>
  obtain rfl:c=n:=zo
  have er:UA c c=List.replicate c (.int .i64 (-1)):=by show List.replicate c _++List.replicate (c-c) _=_;rw[Nat.sub_self];simp
  rw[er];simp only[eZ,seval,Ag e9]
 have z1:((c:Int)<=(n:Int))=True:=r9 zo;have z2:(c<=n)=True:=r9 hcn;have hsrc:Oj (wB H (m+2) (.arr 1 (UA n c))) 1 (.ref (m+2) 1 0 c n) false=some (List.replicate c (.int .i64 (-1))):=by simp_all [Oj,AC,vI,vV]
 have hlen:(UA n c).length=n:=by simp;omega
 simp only[eZ,seval,xE,eY,AN e9,z1,hsrc,hlen,tK,Nat.sub_zero];generalize hd:min c (n-c)=d;have hd1:1<=d/\d<=c/\d<=n-c:=zo
 have e1:IntKind.wrap .i64 ((c:Int)+(d:Int))=((c+d:Nat):Int):=by rw[A4 zo zo];omega
 have e2:List.take c (UA n c)++List.take d (List.replicate c (Fs.int IntKind.i64 (-1)))++List.drop (c+d) (UA n c)=UA n (c+d):=by grind [List.drop_append,List.drop_eq_nil_of_le,List.length_replicate,List.replicate_append_replicate]
 rw[AW,e1,e2];exact⟨zo,zo,.mk (c+d) rfl ⟨zo,zo⟩ zo⟩
def Xc{H:AB}{m:Nat}{k:zx}{x:zk}{wA:List Int}(hf:AO H m)(h:RdC k x wA):
  AX prog 47 [JE k x wA] H m λo H' m'=>o= .ret (.ref (m+4) 1 0 x.cs.length x.cs.length)/\H'=wB (wB H m (.box (A0 k x wA))) (m+4) (.arr 1 ((C7 x wA).map eI))/\m'=m+6:=by
 refine c47.a (AI AH.wD (AJ ?_));have hx4:=h.ox.cs.2.2;simp only[eE,eN,seval,ry,c47,OZ hf,A0,AG,AE,AL,Aa];have hxc:=h.ox.c;have hxl:=h.ox.l;rw[<-h.ll]at hxl;have hgl:=BY hxl.1 hxl.2;refine(nE (n:=x.cs.length) (t:=.exact 1) (hf.wB (m:=m+2) zo zo) zo rfl).mono ?_;rintro o H1 m1 ⟨rfl,rfl,rfl⟩;have w2:(0<=x.c)=True:=r9 hxc.1;have w3:(x.c<(x.cs.length:Int))=True:=r9 hxc.2;have w4:(x.c.toNat<x.cs.length)=True:=r9 zo;have w5:(0<=x.l)=True:=r9 hxl.1;have w6:(x.l<(wA.length:Int))=True:=r9 hxl.2;have y1:(m+4=m)=False:=sb zo;simp only[eZ,seval,eY,BL,y1,w2,w3,w4,w5,w6,hgl,tK,AW];have hb:(List.replicate x.cs.length (.int .i64 (-1):Fs)).set x.c.toNat (eI (BG wA x.l))=(C7 x wA).map eI:=by
  unfold C7;rw[List.map_set,ud]
 rw[hb]
section
structure NdP(nc tc N:Nat)(T:List xv)(H:AB)(tl:v8):Prop where
 hN:AD H nc=some (.box [.int .i64 N])
 hT:∃E,AD H tc=some (.box [.sl tl E])/\(N<=65536->zn E (T.map Qg))/\(tl.esz=2\/E=[])
 tk:C8 2 0 H tl
 len:T.length<=N
def Ri(id nc tc n:Nat)(tl:v8)(H H':AB):Prop:=∀i,i<n->i≠id->i≠nc->i≠tc->(∀e,tl≠ .own i e)->AD H' i=AD H i
def dq(n:Nat)(tl tl':v8):Prop:=tl'=tl\/∃j,tl'= .own j 2/\n<=j
variable {nc tc n:Nat} {tl:v8}
theorem Ri.refl{id:Nat}(H:AB):Ri id nc tc n tl H H:=λ_ _ _ _ _ _=>rfl
theorem Ri.trans{id n':Nat}{tl':v8}{H H' H'':AB}(h:Ri id nc tc n tl H H')(k:Ri id nc tc n' tl' H' H'')(hn:n<=n')(ht:dq n tl tl'):Ri id nc tc n tl H H'':=λi a1 a2 a3 a4 a5=>by
 refine(k i zo a2 a3 a4 λe q=>?_).trans (h i a1 a2 a3 a4 a5);rcases ht with rfl|⟨j,rfl,hj⟩
 ·exact a5 e q
 ·cases q;omega
theorem dq.trans{n':Nat}{t1 t2 t3:v8}(h:dq n t1 t2)(k:dq n' t2 t3)(hn:n<=n'):dq n t1 t3:=by
 rcases k with rfl|⟨j,rfl,hj⟩
 ·exact h
 ·exact .inr ⟨j,rfl,zo⟩
theorem Z0{H:AB}{N:Nat}{T:List xv}(c:xv)(id:Nat)(hf:AO H n)(h:NdP nc tc N T H tl)(s8:nc≠tc)(hN:N<=1000000000000):
  AX prog 25 [Qg c,.ptr nc 0,.ptr tc 0] H n λo H' n'=>o= .ret (.wJ [])/\AO H' n'/\n<=n'/\∃tl',NdP nc tc (N+1) (T++[c]) H' tl'/\dq n tl tl'/\Ri id nc tc n tl H H':=by
 obtain⟨hNc,⟨E,hTc,hE,s7⟩,l7,hlen⟩:=h;have x1:=hf.lt hNc;have x2:=hf.lt hTc;have e:=AK (k:=N) zo;have y1:(n=nc)=False:=sb zo;have y2:(nc=n)=False:=sb zo;have y3:(n=tc)=False:=sb zo;have y4:(nc=tc)=False:=sb s8;have y5:(tc=nc)=False:=sb (Ne.symm s8);have y6:(tc=n)=False:=sb zo;refine c25.a (AI AH.wD (AJ ?_));obtain⟨H1,yA⟩:∃H1,wB (wB H n (.box [.int .i64 c.k,.int .i64 c.a])) nc (.box [.int .i64 ((N+1:Nat):Int)])=H1:=⟨_,rfl⟩;have wW:AO H1 (n+1):=by rw[<-yA];exact(hf.wB (m:=n+1) zo zo).wB (sj _) zo
 have g1:AD H1 n=some (.box [.int .i64 c.k,.int .i64 c.a]):=by rw[<-yA,AA _ _ _ _ zo,AC]
 have g2:AD H1 nc=some (.box [.int .i64 ((N+1:Nat):Int)]):=by rw[<-yA,AC]
 have g3:AD H1 tc=some (.box [.sl tl E]):=by rw[<-yA,AA _ _ _ _ s8,AA _ _ _ _ zo];exact hTc
 have gk:∀i,i<n->i≠nc->AD H1 i=AD H i:=λi a b=>by rw[<-yA,AA _ _ _ _ (Ne.symm b),AA _ _ _ _ zo]
 have htk1:C8 2 0 H1 tl:=by
  rcases l7 with rfl|rfl|⟨j,rfl,h1,h2⟩
  ·exact .inl rfl
  ·exact .inr (.inl rfl)
  ·refine .inr (.inr ⟨j,rfl,h1,?_⟩);rw[gk j (hf.lt h2) (λq=>by rw[q,hNc]at h2;cases h2)];exact h2
 by_cases hle:N+1<=65536;case neg=>
  have hle':(((N+1:Nat):Int)<=65536)=False:=sb zo;have hd:decide (((N+1:Nat):Int)<=65536)=false:=sA zo;simp only[eZ,seval,c25,OZ hf,hNc,y1,e,hle',yA,g2];exact⟨wW,tl,⟨g2,⟨E,g3,λq=>zo,s7⟩,htk1,by simp;omega⟩,.inl rfl,λi a1 a2 a3 a4 a5=>gk i a1 a3⟩
 have hle':(((N+1:Nat):Int)<=65536)=True:=r9 zo;have hd:decide (((N+1:Nat):Int)<=65536)=true:=sK zo;have hEl:=(hE zo).len;rw[ry]at hEl;have q1:BB H1 2 tl=True:=r9 htk1.app;have q2:(E.length<=35184372088831)=True:=r9 zo;have q3:Al (E.length+1) 16=True:=r9 (Ae zo zd);have htc:AD (AU H1 tl) tc=AD H1 tc:=Ac htk1 (.inr ⟨_,g3⟩);have hnc:AD (AU H1 tl) nc=AD H1 nc:=Ac htk1 (.inr ⟨_,g2⟩);have y7:∀z,(n+z=tc)=False:=λz=>sb zo
 simp only[eZ,seval,c25,OZ hf,hNc,y1,y7,e,hle',yA,g1,g2,g3,q1,q2,q3,htc];refine⟨wW _ zo,?_,.own (n+4) 2,⟨?_,⟨_,AC ..,λ_=>?_,.inl rfl⟩,.inr (.inr ⟨n+4,rfl,sk _,?_⟩),by simp;omega⟩,.inr ⟨n+4,rfl,zo⟩,λi a1 a2 a3 a4 a5=>?_⟩
 ·exact((Ab htk1 wW).wB (m:=n+6) zo zo).wB (sj _) zo
 ·grind [AA]
 ·rw[su];exact(hE zo).app (.cons (Wk.refl _) .nil)
 ·rw[AA _ _ _ _ zo,AC]
 ·rw[AA _ _ _ _ (Ne.symm a4),AA _ _ _ _ zo];have:AD (AU H1 tl) i=AD H1 i:=by
   cases tl<;>try rfl
   rename_i j e;simp only[AU];exact AA _ _ _ _ λq=>a5 e (by rw[q])
  rw[this];exact gk i a1 a3
def EE:Nat->Nat
 |0=>1
 |f+1=>1+16*EE f
theorem V1{F:Int->Option (List xv)}{b:Nat}:∀{ss:List Int} {t:List xv},(∀s∈ss,∀a,F s=some a->a.length<=b)->GU F ss=some t->t.length<=ss.length*b
 |[],t,_,h=>by rw[GU]at h;cases h;simp
 |s::ss,t,hF,h=>by
  rw[GU]at h;cases hs:F s with
  |none=>rw[hs]at h;cases h
  |some a=>
   rw[hs]at h;obtain⟨r,h1,rfl⟩:=tt.1 h;have:=V1 (λs hs=>hF s (tM _ hs)) h1;have:=hF s zw a hs;rw[sH,sM,tA];omega
theorem NK{m:Nat}{x:zk}{wA:List Int}{c:Int}:(C6 m x wA c).length<=m:=by grind [Es,CP]
theorem G3{vals:List Int}{x:zk}{wA:List Int}(hv:vals.length<=16):∀(f:Nat) (cells:List Int) (t:List xv),B8 vals x wA f cells=some t->t.length<=EE f
 |0,cells,t,h=>by
  rw[B8]at h;split at h
  ·cases h;simp [EE]
  ·split at h<;>cases h
 |f+1,cells,t,h=>by
  rw[B8]at h;split at h
  ·cases h;simp [EE]
  ·split at h
   ·cases h
   ·rename_i i hi;obtain⟨t',h1,rfl⟩:=tt.1 h;have h2:=V1 (λs _ a ha=>G3 hv f _ a ha) h1;have h3:=NK (m:=vals.length) (x:=x) (wA:=wA) (c:=(i:Int));have h4:(C6 vals.length x wA (i:Int)).length*EE f<=16*EE f:=tT _ zo;simp only[sM,EE];omega
end
structure GwC(k:zx)(x:zk)(wA:List Int)(d0 d1 d2 d3 id nc tc:Nat)(H:AB):Prop where
 h0:AD H d0=some (.box (A0 k x wA))
 h1:AD H d1=some (.box [.ref id 1 0 x.cs.length x.cs.length])
 h2:AD H d2=some (.box [.fn (.func 25) [] [.ptr nc 0,.ptr tc 0]])
 h3:AD H d3=some (.box [.fn (.func 48) [] [.ptr d0 0,.ptr d1 0,.ptr d2 0,.ptr d3 0]])
def GwC.keep{k:zx}{x:zk}{wA:List Int}{d0 d1 d2 d3 id nc tc n N:Nat}{T:List xv}{tl:v8}{H H':AB}(h:GwC k x wA d0 d1 d2 d3 id nc tc H)(s5:∃L,AD H id=some (.arr 1 L))(hP:NdP nc tc N T H tl)(hf:AO H n)(hk:Ri id nc tc n tl H H'):GwC k x wA d0 d1 d2 d3 id nc tc H':=by
 obtain⟨L,s5⟩:=s5;obtain⟨hN,⟨E,hT,-,-⟩,l7,-⟩:=hP;have key:∀d cs,AD H d=some (.box cs)->(∀N:Nat,cs≠[.int .i64 (N:Int)])->(∀E,cs≠[.sl tl E])->AD H' d=some (.box cs):=λd cs hd c1 c2=>by
  refine(hk d (hf.lt hd) (λe=>?_) (λe=>?_) (λe=>?_) (λe q=>?_)).trans hd
  ·rw[e,s5]at hd;cases hd
  ·rw[e,hN]at hd;cases hd;exact c1 _ rfl
  ·rw[e,hT]at hd;cases hd;exact c2 _ rfl
  ·rcases l7 with rfl|rfl|⟨j,rfl,-,h2⟩
   ·cases q
   ·cases q
   ·cases q;rw[h2]at hd;cases hd
 obtain⟨h0,h1,h2,h3⟩:=h;exact⟨key _ _ h0 (λN q=>by cases q) (λE q=>by cases q),key _ _ h1 (λN q=>by cases q) (λE q=>by cases q),key _ _ h2 (λN q=>by cases q) (λE q=>by cases q),key _ _ h3 (λN q=>by cases q) (λE q=>by cases q)⟩
def Gp(k:zx)(x:zk)(wA:List Int):List Fs->AB->Prop×Fs:=λa H=>match a with
 |[P,av]=>(P=JE k x wA/\OV H av (rdL H av)/\ClP k x (rdL H av),.int .i64 (Dh (AP k) x wA (rdL H av)))
 |_=>(False,.wJ [])
def V2{k:zx}{x:zk}{wA:List Int}(h:PrC k x wA):∀args H n,(Gp k x wA args H).1->Ao prog 31 args H n (Gp k x wA args H).2:=by
 intro args H n hh;unfold Gp at hh⊢;split at hh
 ·obtain⟨rfl,h1,h2⟩:=hh;exact(p31 k x wA _ h h2).view zt (.cons (.wk (Wk.refl _)) (.cons (Me h1) .nil)) n
 ·exact hh.elim
def PR:List Fs->AB->Prop×Fs:=λa H=>match a with
 |[av,.int .i64 s]=>(OV H av (rdL H av)/\Aq (rdL H av),.int .i64 (Hp (rdL H av) s))
 |_=>(False,.wJ [])
def nG:∀args H n,(PR args H).1->Ao prog 49 args H n (PR args H).2:=by
 intro args H n hh;unfold PR at hh⊢;split at hh
 ·obtain⟨h1,h2⟩:=hh;exact(rO _ _ h2).view zt (.cons (Me h1) (.cons (.wk (Wk.refl _)) .nil)) n
 ·exact hh.elim
def Tqg(k:zx)(x:zk)(wA:List Int):Bg:=AF 31 (Gp k x wA) (AF 50 (Lr k x wA) (AF 49 PR wD))
def nH{k:zx}{x:zk}{wA:List Int}(h:PrC k x wA):AH prog (Tqg k x wA):=((AH.wD.add nG).add (Zz h.rd)).add (V2 h)
theorem NL{α:Type}{p q:α->Bool}:∀{l:List α},(∀x∈l,p x=q x)->l.findIdx? p=l.findIdx? q
 |[],_=>rfl
 |x::l,h=>by
  rw[vD,vD,h x zw,NL λy hy=>h y (tM _ hy)]
def Z1{cells:List Int}(h:∀s∈cells,-1<=s):Hp cells (-1)=match GN cells with|some i=>(i:Int)|none=>-1:=by
 have hc:(cells.findIdx? λx=>decide (x= -1))=cells.findIdx? λs=>decide (s<0):=by
  refine NL λs hs=>?_
  have:=h s hs;exact decide_eq_decide.2 zo
 unfold Hp GN;rw[hc];cases cells.findIdx? λs=>decide (s<0)<;>rfl
def V3{vals:List Int}{x:zk}{wA cells:List Int}{f c:Nat}(h:FE vals x wA cells=some c):B8 vals x wA f cells=some [⟨Ir,c⟩]:=by
 cases f<;>rw[B8,h]
def V4{vals:List Int}{x:zk}{wA cells:List Int}{f:Nat}(h:FE vals x wA cells=none)(h2:GN cells=none):B8 vals x wA f cells=none:=by
 cases f<;>rw[B8,h,h2]
def V5{vals:List Int}{x:zk}{wA cells:List Int}{f i:Nat}(h:FE vals x wA cells=none)(h2:GN cells=some i):B8 vals x wA (f+1) cells=(GU (λs=>B8 vals x wA f (cells.set i s)) (C6 vals.length x wA i)).map λt=>⟨FB,i⟩::t:=by
 rw[B8,h,h2]
def GwP(id nc tc n N:Nat)(T:List xv)(tl:v8)(H:AB)(cells:List Int)(r:Option (List xv)):xw->AB->Nat->Prop:=λo H' n'=>
 AO H' n'/\n<=n'/\∃tl',dq n tl tl'/\Ri id nc tc n tl H H'/\match r with
  |some t=>o= .ret (.bool true)/\NdP nc tc (N+t.length) (T++t) H' tl'/\AD H' id=some (.arr 1 (cells.map eI))
  |none=>o= .ret (.bool false)
def GwG(k:zx)(x:zk)(wA:List Int)(d0 d1 d2 d3 id nc tc f:Nat):Prop:=∀(cells:List Int) (T:List xv) (N:Nat) (H:AB) (n:Nat) (tl:v8),GW cells<=f->N+EE f<=1000000000000->AO H n->GwC k x wA d0 d1 d2 d3 id nc tc H->NdP nc tc N T H tl->AD H id=some (.arr 1 (cells.map eI))->ClP k x cells->
 AX prog 48 [.ptr d0 0,.ptr d1 0,.ptr d2 0,.ptr d3 0] H n (GwP id nc tc n N T tl H cells (B8 (AP k) x wA f cells))
def NdP.other{nc tc N id n:Nat}{T:List xv}{H:AB}{tl:v8}{ob:x9}(h:NdP nc tc N T H tl)(s5:∃L,AD H id=some (.arr 1 L)):NdP nc tc N T (wB H id ob) tl:=by
 obtain⟨L,s5⟩:=s5;obtain⟨hN,⟨E,hT,hE,hz⟩,l7,hl⟩:=h;refine⟨by rw[AA _ _ _ _ (λe=>by rw[e,hN]at s5;cases s5)];exact hN,⟨E,by rw[AA _ _ _ _ (λe=>by rw[e,hT]at s5;cases s5)];exact hT,hE,hz⟩,?_,hl⟩;rcases l7 with rfl|rfl|⟨j,rfl,h1,h2⟩
 ·exact .inl rfl
 ·exact .inr (.inl rfl)
 ·exact .inr (.inr ⟨j,rfl,h1,by rw[AA _ _ _ _ (λe=>by rw[e,h2]at s5;cases s5)];exact h2⟩)
def Ri.setId{id nc tc n:Nat}{tl:v8}{H H':AB}{ob:x9}(h:Ri id nc tc n tl H H'):Ri id nc tc n tl H (wB H' id ob):=λi a1 a2 a3 a4 a5=>by
 rw[AA _ _ _ _ (Ne.symm a2)];exact h i a1 a2 a3 a4 a5
structure VGw where
 j:Nat
 pre:List xv
 tl:v8
 H:AB
 n:Nat
structure IGw(id nc tc N n0:Nat)(T:List xv)(tl:v8)(H0:AB)(cells L:List Int)(i f:Nat)(F:Int->Option (List xv))(v:VGw):Prop where
 hj:v.j<=L.length
 fr:AO v.H v.n
 hn:n0<=v.n
 tk:dq n0 tl v.tl
 nf:Ri id nc tc n0 tl H0 v.H
 nd:NdP nc tc (N+1+v.pre.length) (T++[⟨FB,i⟩]++v.pre) v.H v.tl
 ar:∃cur,AD v.H id=some (.arr 1 ((cells.set i cur).map eI))
 he:GU F L=(GU F (L.drop v.j)).map λt=>v.pre++t
 le:v.pre.length<=v.j*EE f
def jo{k:zx}{x:zk}{wA:List Int}(h:PrC k x wA)(d0 d1 d2 d3 id nc tc f:Nat)(s8:nc≠tc)(ih:∀f',f=f'+1->GwG k x wA d0 d1 d2 d3 id nc tc f'):GwG k x wA d0 d1 d2 d3 id nc tc f:=by
 intro cells T N H n tl hneg hN hf hG hP s5 hC;have wi:=hC.cl.len;have hRI:OV H (.ref id 1 0 x.cs.length x.cs.length) cells:=.inr ⟨id,_,[],by rw[wi],by rw[sR];exact s5,zo⟩;have hrd:=II hRI;have hG0:=hG;obtain⟨h0,h1,h2,h3⟩:=hG0;have hP0:=hP;have wj:=h0;simp only[A0,AG,AE,AL,Aa,sJ,sI]at wj;have hx4:=h.ox.cs.2.2.2;have hfew:Aq cells:=by show cells.length<_;omega
 have xa:=Z1 hC.ge;refine c48.a (AI (nH h) (AJ ?_));have eP:∀P:Prop,((Fs.agg [.str k.d.nm,.int .i64 k.d.yN,.int .i64 k.d.sh,.int .i64 k.d.w,.int .i64 k.d.h,Aj k.d.wC,He k.d.wE,Gz k.d.wK,Eh k.d.wG,DZ k.d.wF,.int .i64 k.g.sh,.int .i64 k.g.w,.int .i64 k.g.h,Aj k.g.wC,Aj k.g.cells,Br k.nb,Jo k.ls,.str x.nm,.int .i64 x.lv,FN x.cs,FN x.ls,.sl (.none 4) (x.qs.map GQ),.sl (.none 2) (x.ps.map F4),.int .i64 x.c,.int .i64 x.l,Aj wA]=JE k x wA)/\P)=P:=λP=>propext ⟨λq=>q.2,λq=>⟨rfl,q⟩⟩
 have eP1:(Fs.agg [.str k.d.nm,.int .i64 k.d.yN,.int .i64 k.d.sh,.int .i64 k.d.w,.int .i64 k.d.h,Aj k.d.wC,He k.d.wE,Gz k.d.wK,Eh k.d.wG,DZ k.d.wF,.int .i64 k.g.sh,.int .i64 k.g.w,.int .i64 k.g.h,Aj k.g.wC,Aj k.g.cells,Br k.nb,Jo k.ls,.str x.nm,.int .i64 x.lv,FN x.cs,FN x.ls,.sl (.none 4) (x.qs.map GQ),.sl (.none 2) (x.ps.map F4),.int .i64 x.c,.int .i64 x.l,Aj wA]=JE k x wA)=True:=r9 rfl;have weak:∀{H'},Ri nc nc tc n tl H H'->Ri id nc tc n tl H H':=λq i a1 a2 a3 a4 a5=>q i a1 a3 a3 a4 a5
 have idk:∀{H'},Ri nc nc tc n tl H H'->AD H' id=AD H id:=λq=>q id (hf.lt s5) (λe=>by rw[e,hP.hN]at s5;cases s5) (λe=>by rw[e,hP.hN]at s5;cases s5) (λe=>by
  obtain⟨E,hT,-⟩:=hP.hT;rw[e,hT]at s5;cases s5) (λe q=>by
  rcases hP.tk with hk|hk|⟨j,hk,-,so⟩
  ·rw[hk]at q;cases q
  ·rw[hk]at q;cases q
  ·rw[hk]at q;cases q;rw[so]at s5;cases s5)
 cases hfc:FE (AP k) x wA cells with
 |some c=>
  have hcn:Dh (AP k) x wA cells=(c:Int):=by unfold Dh;rw[hfc]
  rw[V3 hfc];simp only[eZ,seval,sr,c48,wj,h1,h2,Tqg,Gp,eP1,hrd,r9 hRI,r9 hC,hcn,AF];have hg1:1<=EE f:=by cases f<;>simp [EE]
  refine(Z0 ⟨Ir,c⟩ nc hf hP s8 zo).mono ?_;rintro o H' n' ⟨rfl,q1,q2,tl',q3,q4,q5⟩;simp only[eE,eN,seval,BL];exact⟨q1,q2,tl',q4,weak q5,rfl,q3,(idk q5).trans s5⟩
 |none=>
 have hcn:Dh (AP k) x wA cells= -1:=by unfold Dh;rw[hfc]
 cases l9:GN cells with
 |none=>
  rw[l9]at xa;simp only[]at xa;rw[V4 hfc l9];simp only[eZ,seval,c48,wj,h1,Tqg,Gp,eP1,hrd,r9 hRI,r9 hC,hcn,PR,r9 hfew,xa,AF];exact⟨hf,sj _,tl,.inl rfl,Ri.refl _,rfl⟩
 |some i=>
 rw[l9]at xa;simp only[]at xa;obtain⟨s0,hs0,hs0n⟩:=HK l9;cases f with
 |zero=>have:=Kt zo hs0;omega
 |succ f=>
 have ih:=ih f rfl;rw[V5 hfc l9];have hvl:(AP k).length=k.d.wE.length:=by unfold AP;rw[ry]
 rw[hvl];have hsy:=BZ h.ck;have hCl:=NK (m:=k.d.wE.length) (x:=x) (wA:=wA) (c:=(i:Int));have hCr:∀s∈C6 k.d.wE.length x wA (i:Int),0<=s/\s<(k.d.wE.length:Int):=λs hs=>by
  rw[Es]at hs;exact Dd.1 (tV.1 hs).1
 have il:i<cells.length:=(t8.1 hs0).1;have i0:((0:Int)<=(i:Int))=True:=r9 zo;have ineg:((i:Int)<0)=False:=sb zo;have idneg:decide ((i:Int)<0)=false:=sA zo;simp only[EE]at hN;simp only[eZ,seval,c48,wj,h1,h2,Tqg,Gp,eP1,hrd,r9 hRI,r9 hC,hcn,PR,r9 hfew,xa,ineg,AF];refine(Z0 ⟨FB,i⟩ nc hf hP s8 zo).mono ?_;rintro o H1 n1 ⟨rfl,q1,q2,tl1,q3,q4,q5⟩;have hG1:=hG.keep ⟨_,s5⟩ hP hf (weak q5);have hid1:=(idk q5).trans s5;obtain⟨e0,e1,e2,e3⟩:=hG1;have e0':=e0;simp only[A0,AG,AE,AL,Aa,sJ,sI]at e0';simp only[eE,eN,seval,ry,BL,e0',Tqg,Lr,eP1,AF];generalize C6 k.d.wE.length x wA (i:Int)=L at hCl hCr;obtain⟨F,hF⟩:∃F:Int->Option (List xv),(λs=>B8 (AP k) x wA f (cells.set i s))=F:=⟨_,rfl⟩;rw[hF];have hFs:∀s,F s=B8 (AP k) x wA f (cells.set i s):=λs=>by rw[<-hF]
 have hse:cells.set i s0=cells:=by
  refine uM λa=>?_
  rw[tC];split
  ·rename_i q;subst q;exact hs0.symm
  ·rfl
 have wr:s0= -1:=by have:=hC.ge s0 (sZ hs0);omega
 subst wr;refine AQ (λv:VGw=>⟨[(1,true,.ptr d1 0),(3,true,.ptr d3 0),(6,true,.int .i64 i),(28,true,Aj L),(29,true,.int .i64 L.length),(30,true,.int .i64 v.j)],v.H,v.n⟩) (IGw id nc tc N n T tl H cells L i f F) (λv=>L.length-v.j)
  ⟨0,[],tl1,H1,n1⟩ rfl ⟨sk _,q1,q2,q4,weak q5,by simpa using q3,⟨-1,by rw[hse];exact hid1⟩,zw,zw⟩ ?_
 rintro⟨j,pre,tl2,H2,n2⟩ ⟨hj,wn,yq,yW,hnf2,hnd2,⟨cur,har2⟩,he,hle⟩;simp only at hj wn yq yW hnf2 hnd2 har2 he hle;have hG2:=hG.keep ⟨_,s5⟩ hP hf hnf2;obtain⟨u0,u1,u2,u3⟩:=hG2;have il2:(i<(cells.set i cur).length)=True:=r9 (by simpa using il);have il3:((i:Int)<(x.cs.length:Int))=True:=r9 zo;have est:∀z:Int,((cells.set i cur).map eI).set i (.int .i64 z)=(cells.set i z).map eI:=λz=>by
  rw[show(.int .i64 z:Fs)=eI z from rfl,<-List.map_set,List.set_set]
 have hidn2:=wn.lt har2;by_cases e9:j<L.length;case neg=>
  obtain rfl:j=L.length:=zo
  rw[t5,GU,td,sR]at he;rw[he,td];have est1:=est (-1);rw[hse]at est1;simp only[eZ,seval,eY,Ag e9,u1,har2,il2,il3,est1];refine⟨wn.wB (sj _) hidn2,yq,tl2,yW,hnf2.setId,rfl,?_,AC ..⟩;have:=hnd2.other (n:=n2) (ob:=.arr 1 (cells.map eI)) ⟨_,har2⟩;rw[sM,show N+(pre.length+1)=N+1+pre.length by omega,show T++(⟨FB,i⟩:xv)::pre=T++[⟨FB,i⟩]++pre by simp];exact this
 have e:=AK (k:=j) zo;have hg:=rz e9;have hdr:=sO e9;have hsr:=hCr _ (sC e9);rw[hdr,GU]at he;generalize L[j]=s at hg hsr he;have y4:(id=d3)=False:=sb λq=>by rw[q,u3]at har2;cases har2
 simp only[eZ,seval,eY,AN e9,hg,u1,u3,har2,il2,il3,est s,y4];generalize hH3:wB H2 id (x9.arr 1 ((cells.set i s).map eI))=H3;have hf3:AO H3 n2:=by rw[<-hH3];exact wn.wB (sj _) hidn2
 have har3:AD H3 id=some (.arr 1 ((cells.set i s).map eI)):=by rw[<-hH3,AC]
 have hnd3:NdP nc tc (N+1+pre.length) (T++[⟨FB,i⟩]++pre) H3 tl2:=by rw[<-hH3];exact hnd2.other (n:=n2) ⟨_,har2⟩
 have hnf3:Ri id nc tc n tl H H3:=by rw[<-hH3];exact hnf2.setId
 have hC3:ClP k x (cells.set i s):=⟨⟨by rw[tz];exact wi,λz hz h0=>by
  rcases ua hz with q|q
  ·exact hC.cl.sy z q h0
  ·rw[q];exact hsr⟩,λz hz=>by
  rcases ua hz with q|q
  ·exact hC.ge z q
  ·omega⟩
 have hng3:GW (cells.set i s)<=f:=by have:=Is hs0 hs0n hsr.1;omega
 have hjm:(j+1)*EE f<=16*EE f:=tT _ zo;rw[tA]at hjm;refine(ih (cells.set i s) (T++[⟨FB,i⟩]++pre) (N+1+pre.length) H3 n2 tl2 hng3 zo hf3 (hG.keep ⟨_,s5⟩ hP hf hnf3) hnd3 har3 hC3).mono ?_;rintro o H4 n4 ⟨r1,r2,tl4,r3,r4,r5⟩;rw[<-hFs]at r5;have hnf4:=hnf3.trans r4 yq yW;have htk4:=yW.trans r3 yq;cases hFr:F s with
 |none=>
  rw[hFr]at r5 he;simp only[tU]at he;obtain rfl:o= .ret (.bool false):=r5;rw[he];simp only[eZ,seval,se,BL,se];exact⟨r1,zo,tl4,htk4,hnf4,rfl⟩
 |some t=>
  rw[hFr]at r5 he;obtain⟨rfl,r6,r7⟩:=r5;simp only[eZ,seval,sa,BL,sa,e];have hgl:=G3 (vals:=AP k) (x:=x) (wA:=wA) zo f _ t (by rw[<-hFs];exact hFr);refine .mk ⟨j+1,pre++t,tl4,H4,n4⟩ rfl ⟨e9,r1,zp,htk4,hnf4,?_,⟨s,r7⟩,?_,?_⟩ zp
  ·grind
  ·rw[he];simp only[Option.map_map];congr 1;funext b;simp
  ·simp only[sH,tA];omega
theorem t_gw{k:zx}{x:zk}{wA:List Int}(h:PrC k x wA)(d0 d1 d2 d3 id nc tc:Nat)(s8:nc≠tc):∀f,GwG k x wA d0 d1 d2 d3 id nc tc f
 |0=>jo h d0 d1 d2 d3 id nc tc 0 s8 λf' hf=>zo
 |f+1=>jo h d0 d1 d2 d3 id nc tc (f+1) s8 λf' hf=>by
  obtain rfl:f'=f:=zo
  exact t_gw h d0 d1 d2 d3 id nc tc s8 f'
section
def DG(k:zx)(x:zk):Fs:=if BH k x≠0 then .wJ [.sl .nil [],.int .i64 (BH k x)]else .wJ [.sl (.none 1) ((EP k.d.wE.length x.ls.length).map Aj),.int .i64 0]
def Tpv:Bg:=AF 46 (s2 CQ dI (λk _=>zy k.d) CV) Tsv
def nI:AH prog Tpv:=Zr.add (q2 λk n h=>p46 k n h)
theorem Z2(a:List Fs)(H:AB):Tpv 43 a H=s1 CQ (λk=>zy k.d) (λk=>.int .i64 (BE k)) a H:=rfl
theorem jp(a:List Fs)(H:AB):Tpv 35 a H=s1 dX wq (λx=>eI (JA x)) a H:=rfl
theorem Tpv_l(a:List Fs)(H:AB):Tpv 46 a H=s2 CQ dI (λk _=>zy k.d) CV a H:=rfl
variable {x:zk}
theorem Z3(h:JA x=0):OKL x:=by
 unfold JA at h;split at h
 ·rename_i q;exact(RM x).1 q
 ·cases h
theorem p23(k:zx)(x:zk)(hk:zy k.d)(hx:wq x):Av prog 23 [BA k,Cl x] (DG k x):=by
 have u1:CQ.ok (.agg (AG k))=True:=Ce k;have u2:CQ.dec (.agg (AG k))=k:=Bx k;simp only[AG,AE,AL,sJ,sI]at u1 u2;have v1:dX.ok (.agg (Aa x))=True:=Gm x;have v2:dX.dec (.agg (Aa x))=x:=Ei x;simp only[Aa]at v1 v2;have i1:∀z:Int,dI.ok (.int .i64 z)=True:=λz=>r9 zt
 have i2:∀z:Int,dI.dec (.int .i64 z)=z:=λz=>rfl
 refine .mk ⟨Am 0 k,BN 0 x,zt⟩ ?_ (c23.a (AI nI (AJ ?_)))
 ·unfold DG;split
  ·exact⟨⟨zt,zt⟩,zt,zt⟩
  ·exact⟨⟨zt,BW (λl=>AV 0 l) _⟩,zt,zt⟩
 unfold DG;by_cases h:BE k=0;case neg=>
  have hv:BH k x=BE k:=by unfold BH;rw[sn h]
  rw[hv,sn h];simp only[eZ,seval,se,c23,AG,AE,AL,Z2,s1,u1,u2,r9 hk,sb h];exact Wk.refl _
 have hv:BH k x=JA x:=by unfold BH;rw[sg (by simpa using h)]
 rw[hv];by_cases h2:JA x=0;case neg=>
  rw[sn h2];simp only[eZ,seval,sa,se,c23,AG,AE,AL,Z2,jp,s1,u1,u2,v1,v2,r9 hk,r9 hx,r9 h,sb h2];exact Wk.refl _
 rw[sg (by simpa using h2)];have hl:CV k (x.ls.length:Int)= .wJ [.sl (.none 1) ((EP k.d.wE.length x.ls.length).map Aj),.int .i64 0]:=by
  unfold CV;have:=(Z3 h2).ls.2.2;rw[sg (by simpa using h),sg zo,sm]
 simp only[eZ,seval,sa,eY,c23,AG,AE,AL,Z2,jp,Tpv_l,s1,s2,u1,u2,v1,v2,i1,i2,r9 hk,r9 hx,r9 h,r9 h2,hl];exact Wk.refl _
def TgP(nc tc n N:Nat)(T:List xv)(tl:v8)(H:AB)(r:Option (List xv)):xw->AB->Nat->Prop:=λo H' n'=>
 AO H' n'/\n<=n'/\∃tl',dq n tl tl'/\(∀i,i<n->i≠nc->i≠tc->(∀e,tl≠ .own i e)->AD H' i=AD H i)/\match r with
  |some t=>o= .ret (.bool true)/\NdP nc tc (N+t.length) (T++t) H' tl'
  |none=>o= .ret (.bool false)
theorem NdP.low{nc tc N n:Nat}{T:List xv}{H H':AB}{tl:v8}(h:NdP nc tc N T H tl)(hf:AO H n)(hk:∀i,i<n->AD H' i=AD H i):NdP nc tc N T H' tl:=by
 obtain⟨hN,⟨E,hT,hE,hz⟩,l7,hl⟩:=h;refine⟨(hk _ (hf.lt hN)).trans hN,⟨E,(hk _ (hf.lt hT)).trans hT,hE,hz⟩,?_,hl⟩;rcases l7 with rfl|rfl|⟨j,rfl,h1,h2⟩
 ·exact .inl rfl
 ·exact .inr (.inl rfl)
 ·exact .inr (.inr ⟨j,rfl,h1,(hk _ (hf.lt h2)).trans h2⟩)
theorem V6{k:zx}{wA:List Int}(h:PrC k x wA):ClP k x (C7 x wA):=by
 have hvl:(AP k).length=k.d.wE.length:=by unfold AP;rw[ry]
 have hb:=FD (vals:=AP k) h.ox (by rw[hvl];exact h.lt);refine⟨⟨HJ ..,λs hs h0=>?_⟩,λs hs=>?_⟩
 ·grind [C7]
 ·grind [C7]
theorem Z4{k:zx}{wA:List Int}(h:PrC k x wA){H:AB}{n nc tc N:Nat}{T:List xv}{tl:v8}(s8:nc≠tc)(hN:N+EE x.cs.length<=1000000000000)(hf:AO H n)(hP:NdP nc tc N T H tl):
  AX prog 24 [JE k x wA,.fn (.func 25) [] [.ptr nc 0,.ptr tc 0]] H n (TgP nc tc n N T tl H (B8 (AP k) x wA x.cs.length (C7 x wA))):=by
 have x1:=hf.lt hP.hN;obtain⟨E,hT,-⟩:=hP.hT;have x2:=hf.lt hT;refine c24.a (AI AH.wD (AJ ?_));have w1:∀a b:Nat,(n+a=n+b)=(a=b):=λa b=>propext ⟨λh=>zo,λh=>zo⟩
 have w2:∀b:Nat,(n=n+b)=(b=0):=λb=>propext ⟨λh=>zo,λh=>zo⟩
 simp only[eE,eN,seval,c24,OZ hf,Bq hf,A0,AG,AE,AL,Aa,w2];obtain⟨Ha,hHa⟩:∃Ha,wB (wB H n (.box (A0 k x wA))) (n+1) (.box [.fn (.func 25) [] [.ptr nc 0,.ptr tc 0]])=Ha:=⟨_,rfl⟩;have hfa:AO Ha (n+3):=by rw[<-hHa];exact(hf.wB (m:=n+3) zo zo).wB (sj _) zo
 have ga0:AD Ha n=some (.box (A0 k x wA)):=by rw[<-hHa,AA _ _ _ _ zo,AC]
 have ga1:AD Ha (n+1)=some (.box [.fn (.func 25) [] [.ptr nc 0,.ptr tc 0]]):=by rw[<-hHa,AC]
 have gk:∀i,i<n->AD Ha i=AD H i:=λi hi=>by rw[<-hHa,AA _ _ _ _ zo,AA _ _ _ _ zo]
 simp only[A0,AG,AE,AL,Aa,sJ,sI]at hHa;rw[hHa];have hfa7:AO Ha (n+7):=λi hi=>hfa i zo
 refine(Xc hfa7 h.rd).mono ?_;rintro o H1 n1 ⟨rfl,rfl,rfl⟩;simp only[eE,eN,seval,BL,w1,AW];refine⟨hfa _ zo,hfa _ zo,?_⟩;generalize hHb:wB (wB (wB (wB Ha (n+7) _) (n+11) _) (n+5) _) (n+13) _=Hb;have hfb:AO Hb (n+14):=by
  rw[<-hHb];exact(((hfa.wB (m:=n+14) zo zo).wB (sj _) zo).wB (sj _) zo).wB (sj _) zo
 have kb:∀i,i<n+5->AD Hb i=AD Ha i:=λi hi=>by
  rw[<-hHb,AA _ _ _ _ zo,AA _ _ _ _ zo,AA _ _ _ _ zo,AA _ _ _ _ zo]
 have kn:∀i,i<n->AD Hb i=AD H i:=λi hi=>(kb i zo).trans (gk i hi)
 have hG:GwC k x wA n (n+5) (n+1) (n+13) (n+11) nc tc Hb:=by
  refine⟨(kb n zo).trans ga0,?_,(kb (n+1) zo).trans ga1,?_⟩
  ·rw[<-hHb,AA _ _ _ _ zo,AC]
  ·rw[<-hHb,AC]
 have s5:AD Hb (n+11)=some (.arr 1 ((C7 x wA).map eI)):=by grind [AA,AC]
 refine(t_gw h n (n+5) (n+1) (n+13) (n+11) nc tc s8 x.cs.length (C7 x wA) T N Hb (n+14) tl Kd hN hfb hG (hP.low hf kn) s5 (V6 h)).mono ?_;rintro o H' n' ⟨q1,q2,tl',q3,q4,q5⟩;have hk:∀i,i<n->i≠nc->i≠tc->(∀e,tl≠ .own i e)->AD H' i=AD H i:=λi a1 a2 a3 a4=>(q4 i zo zo a2 a3 a4).trans (kn i a1)
 have htn:dq n tl tl':=q3.imp (λz=>z) λ⟨j,e,hj⟩=>⟨j,e,zo⟩
 cases hg:B8 (AP k) x wA x.cs.length (C7 x wA)with
 |none=>
  rw[hg]at q5;obtain rfl:o= .ret (.bool false):=q5;simp only[eE,eN,seval,BL];exact⟨q1,zo,tl',htn,hk,rfl⟩
 |some t=>
  rw[hg]at q5;obtain⟨rfl,q6,-⟩:=q5;simp only[eE,eN,seval,BL];exact⟨q1,zo,tl',htn,hk,rfl,q6⟩
end
end Go.AM
