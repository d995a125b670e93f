/-
  The program's reader of a proof: premises and complaints · The program's reader of a tree · The program's Check of proof.
  Conditions: none beyond those of its parts.
-/
import Derived.Test.YtepckdbdfhpggaaGreatB13
import Derived.Test.YtepckdbdfhpggaaGreatB9
import Derived.Test.YtepckdbdfhpggaaGreatB7

set_option maxRecDepth 20000
set_option linter.all false
namespace Go.AM
open Go.Proofs Go.Lib
abbrev BX (k:Knd) (x:Lma) (letters:List Int) (w:AVal):List AVal:=AE k++(AT x++[eIs letters,w])
def Gr (x:Lma) (letters:List Int) (c:Int):AVal:=match DT x c with
 |none=>.tup [.sl .nil [],.bool false]
 |some p=>.tup [eIs (p.ls.map (at0 letters)),.bool true]
theorem LX (x:Lma) (letters:List Int) (c:Int) (n:Nat):(Gr x letters c).under n:=by
 unfold Gr
 split
 ·exact⟨⟨trivial,trivial⟩,trivial,trivial⟩
 ·exact⟨AW n _,trivial,trivial⟩
structure VPm where
 i:Nat
 H:AB
 n:Nat
structure VPl where
 j:Nat
 tk:Tok
 H:AB
 n:Nat
structure IPm (H0:AB) (n0:Nat) (x:Lma) (c:Int) (v:VPm):Prop where
 hi:v.i<=x.ps.length
 fr:AN v.H v.n
 hn:n0<=v.n
 kp:B6 H0 v.H
 he:DT x c=(x.ps.drop v.i).find? λp=>decide (p.c=c)
structure IPl (H0:AB) (n0:Nat) (p:Prm) (letters:List Int) (v:VPl):Prop where
 hj:v.j<=p.ls.length
 fr:AN v.H v.n
 hn:n0<=v.n
 kp:B6 H0 v.H
 tok:tkG 1 n0 v.H v.tk
 es:v.tk.esz=1\/(p.ls.take v.j).map (at0 letters)=[]
theorem N2 {H0 H:AB} {n0 e:Nat} {tk:Tok} (hf:AN H0 n0) (h:tkG e n0 H tk) (hk:B6 H0 H):B6 H0 (AV H tk):=λid ob h0=>by
 rw[Ad h (.inl (hf.lt h0))];exact hk id ob h0
theorem t_prem {H:AB} {n rp:Nat} {k:Knd} {x:Lma} {letters:List Int} {w:AVal} (c:Int) (hf:AN H n) (hq:hget H rp=some (.box (BX k x letters w))) (hps:few x.ps) (hpl:∀p∈x.ps,few p.ls/\∀c∈p.ls,0<=c/\c<(letters.length:Int)):
  AO Tryz.prog 92 [.ptr rp 0,.int .i64 c] H n (QRet H (Gr x letters c)):=by
 have hpsl:x.ps.length<1000000000:=hps
 have hq0:=hq
 simp only[BX,AE,AD,AK,AT,Xl,Xo]at hq
 refine a92 (AF AH.tnil (AG ?_))
 simp only[eE,eN,reduceCtorEq,Nat.reduceEqDiff,↓reduceIte,Nat.reduceAdd,Nat.reduceLeDiff,X0,c92,hq]
 refine AU (λv:VPm=>⟨[(0,true,.ptr rp 0),(1,true,.int .i64 c),(4,true,.sl .nil []),(14,true,.sl (.none 2) (x.ps.map encM)),(15,true,.int .i64 x.ps.length),(16,true,.int .i64 v.i)],v.H,v.n⟩) (IPm H n x c) (λv=>x.ps.length-v.i)
  ⟨0,H,n⟩ rfl ⟨Xh _,hf,Xb _,B6.refl _,rfl⟩ ?_
 rintro⟨i,H1,n1⟩ ⟨hi,hf1,hn1,hk1,he⟩
 simp only at hi hf1 hn1 hk1 he
 by_cases hlt:i<x.ps.length
 case neg=>
  obtain rfl:i=x.ps.length:=by omega
  rw[Yt]at he
  simp only[eE,eC,eN,reduceCtorEq,Nat.reduceEqDiff,↓reduceIte,lt_F hlt]
  unfold Gr
  rw[he]
  exact⟨Wk.refl _,hk1⟩
 have hg:=X5 hlt
 have e:=AL (k:=i) (by omega)
 obtain⟨hpf,hpi⟩:=hpl _ (Xk hlt)
 rw[XM hlt]at he
 generalize x.ps[i]=p at hg hpf hpi he
 have hk2:∀{ob:AObj} {j:Nat},n1<=j->B6 H (hset H1 j ob):=λhj=>hk1.new hf (by omega)
 by_cases hc:p.c=c
 case neg=>
  rw[List.find?_cons_of_neg (by simpa using hc)]at he
  simp only[eE,eC,eN,reduceCtorEq,Nat.reduceEqDiff,↓reduceIte,Nat.reduceAdd,Nat.reduceLeDiff,Int.reduceEq,X2,X3,X4,X0,X6,lt_T hlt,hg,fr1 hf1,AJ,X9 hc,e]
  exact .mk ⟨i+1,hset H1 (n1+2) (.box [.int .i64 p.c,eIs p.ls]),n1+4⟩ rfl ⟨hlt,hf1.hset (m:=n1+4) (by omega) (by omega),by simp only[];omega,hk2 (by omega),he⟩ (by simp only[];omega)
 rw[List.find?_cons_of_pos (by simpa using hc)]at he
 have hpl':p.ls.length<1000000000:=hpf
 simp only[eE,eC,eN,reduceCtorEq,Nat.reduceEqDiff,↓reduceIte,Nat.reduceAdd,Nat.reduceLeDiff,X2,X3,X4,X0,X6,lt_T hlt,hg,fr1 hf1,AJ,X1 hc]
 refine AU (λv:VPl=>⟨[(0,true,.ptr rp 0),(4,true,.sl v.tk (((p.ls.take v.j).map (at0 letters)).map eI)),(25,true,eIs p.ls),(26,true,.int .i64 p.ls.length),(27,true,.int .i64 v.j)],v.H,v.n⟩) (IPl H n p letters) (λv=>p.ls.length-v.j)
  ⟨0,.nil,hset H1 (n1+2) (.box [.int .i64 p.c,eIs p.ls]),n1+4⟩ rfl ⟨Xh _,hf1.hset (m:=n1+4) (by omega) (by omega),by simp only[];omega,hk2 (by omega),.inl rfl,.inr rfl⟩ ?_
 rintro⟨j,tk,H2,n2⟩ ⟨hj,hf2,hn2,hk2',htk,hes⟩
 simp only at hj hf2 hn2 hk2' htk hes
 by_cases hlj:j<p.ls.length
 case neg=>
  obtain rfl:j=p.ls.length:=by omega
  rw[XY]at hes
  simp only[eE,eC,eN,reduceCtorEq,Nat.reduceEqDiff,↓reduceIte,lt_F hlj]
  rw[XY]
  unfold Gr
  rw[he]
  exact⟨Wk.tup (.cons (Wk.sl (hes.imp id λq=>by rw[q];rfl)) (.cons (Wk.refl _) .nil)),hk2'⟩
 have hg:=X5 hlj
 have e:=AL (k:=j) (by omega)
 have hci:=hpi _ (Xk hlj)
 have htake:p.ls.take (j+1)=p.ls.take j++[p.ls[j]]:=by rw[Y2,hg];rfl
 generalize p.ls[j]=y at hg hci htake
 have hgx:=A5 hci.1 hci.2
 have hX:((p.ls.take j).map (at0 letters)).length<=j:=by simp;omega
 have q1:Bj H2 1 tk=True:=X1 htk.app
 have q2:(((p.ls.take j).map (at0 letters)).length<=35184372088831)=True:=X1 (by omega)
 have q3:Ap (((p.ls.take j).map (at0 letters)).length+1) 8=True:=X1 (AX (by omega) (by decide))
 have hrp:=hk2' _ _ hq
 generalize hXd:(p.ls.take j).map (at0 letters)=X at hX q2 q3 hes
 simp only[eE,eC,eN,reduceCtorEq,Nat.reduceEqDiff,↓reduceIte,Nat.reduceAdd,Nat.reduceLeDiff,Nat.reduceMul,Nat.reduceLT,Int.reduceEq,X2,X3,X4,X0,X6,lt_T hlj,hg,hrp,X1 hci.1,X1 hci.2,hgx,q1,q2,q3,fr1 hf2,e]
 refine .mk ⟨j+1,.own (n2+9) 1,hset (AV H2 tk) (n2+9) .tok,n2+11⟩ ?_ ⟨hlj,(Ag htk hf2).hset (m:=n2+11) (by omega) (by omega),by simp only[];omega,B6.new hf (by omega) (N2 hf htk hk2'),.inr (.inr ⟨n2+9,rfl,by omega,AC ..⟩),.inl rfl⟩ (by simp only[];omega)
 simp only[htake,Xj,Xt,XZ,hXd]
theorem q_prem {H:AB} {n rp:Nat} {k:Knd} {x:Lma} {letters:List Int} {w:AVal} (c:Int) (hq:hget H rp=some (.box (BX k x letters w))) (hps:few x.ps) (hpl:∀p∈x.ps,few p.ls/\∀c∈p.ls,0<=c/\c<(letters.length:Int)):
  Aa Tryz.prog 92 [.ptr rp 0,.int .i64 c] H n (Gr x letters c):=
 Aa.of l92 (LX x letters c n) λhf=>t_prem c hf hq hps hpl
structure RdC (k:Knd) (x:Lma) (letters:List Int):Prop where
 ck:Al k=0
 fd:FewD k.d
 fx:FewL x
 ox:OKL x
 ll:letters.length=x.ls.length
structure ClC (k:Knd) (x:Lma) (cells:List Int):Prop where
 len:cells.length=x.cs.length
 sy:∀s∈cells,0<=s->okSy k s
def RdAt (H:AB) (rp:Nat) (k:Knd) (x:Lma) (letters:List Int):Prop:=∃w,hget H rp=some (.box (BX k x letters w))
theorem IS {k:Knd} (h:Al k=0):∀y∈k.d.syms,0<=y.v/\y.v<=99:=by
 have h1:IP k=true:=by
  unfold Al at h
  split at h
  ·assumption
  ·cases h
 obtain⟨x,cells,-,h3,-,h4⟩:=JA (Mi h1)
 have h5:k.d=x:=by rw[h4];rfl
 rw[<-h5]at h3
 have h6:=(Tl.1 h3).1.form
 unfold CY at h6
 simp only[X8,Xi,Xf]at h6
 intro y hy
 exact h6.1.1.1 y hy
theorem Mo {k:Knd} {x:Lma} {letters:List Int} (h:RdC k x letters):∀p∈x.ps,few p.ls/\∀c∈p.ls,0<=c/\c<(letters.length:Int):=by
 intro p hp
 refine⟨h.fx.p p hp,λc hc=>?_⟩
 have:=Xi.1 (Dk (h.ox.ps p hp).1) c hc
 simp only[X8,Xf]at this
 rw[h.ll];exact this
theorem KD {x:Lma} (h:OKL x) {p:Prm} (hp:p∈x.ps):0<=p.c/\p.c<(x.cs.length:Int):=by
 have:=Xi.1 (Dk h.pc) p.c (XN.2 ⟨p,hp,rfl⟩)
 simpa only[X8,Xf]using this
theorem JJ {ps:List Prm} (h:Av (ps.map (·.c))=true) {p:Prm} (hp:p∈ps):ps.find? (λq=>decide (q.c=p.c))=some p:=by
 induction ps with
 |nil=>cases hp
 |cons q ps ih=>
  rw[Xt,Av,X8]at h
  rcases XQ.1 hp with rfl|hp
  ·rw[List.find?_cons_of_pos (by simp)]
  ·rw[List.find?_cons_of_neg,ih h.2 hp]
   intro e
   have h1:=h.1
   simp only[Yb,Z3,Xf]at h1 e
   exact h1 p.c (XN.2 ⟨p,hp,rfl⟩) e.symm
theorem KE {x:Lma} (h:OKL x) {p:Prm} (hp:p∈x.ps):DT x p.c=some p:=by
 have:=h.pc
 unfold difI at this
 rw[X8]at this
 exact JJ this.2 hp
theorem DB {α:Type} [DecidableEq α]:∀{l:List α},Av l=true->l.Nodup
 |[],_=>ZM
 |x::r,h=>by
  rw[Av,X8]at h
  refine YP.2 ⟨λhx=>?_,DB h.2⟩
  have h1:=h.1
  simp only[Yb,Z3,Xf]at h1
  exact h1 x hx rfl
theorem Pn {l:List Int} {n:Nat} (h:difI l n=true):l.length<=n:=by
 have h1:=Dk h
 unfold difI at h
 rw[X8]at h
 have:=Gj (b:=symI n) (DB h.2) λc hc=>by
  have:=Xi.1 h1 c hc
  simp only[X8,Xf]at this
  exact B3.2 this
 unfold symI at this
 simpa using this
theorem cl_ok {k:Knd} {x:Lma} {letters cells:List Int} (h:RdC k x letters) (hc:ClC k x cells) {q:Cnd} (hq:q∈x.qs):ClOK k q letters cells:=by
 have h1:=RO (h.ox.qs q hq)
 have hf:=h.fx.q q hq
 have hcs:=h.ox.cs.2.2.2
 refine⟨by rcases h1.kind with h|h|h|h|h<;>omega,?_,hf.1,λc hcc=>?_,hf.2,λc hcc=>?_,hc.sy,IS h.ck⟩
 ·have:=Pn h1.cs
  rcases h1.kind with h|h|h|h|h<;>omega
 ·have:=Xi.1 (Dk h1.cs) c hcc
  simp only[X8,Xf]at this
  rw[hc.len];exact this
 ·have:=Xi.1 (Dk h1.ls) c hcc
  simp only[X8,Xf]at this
  rw[h.ll];exact this
theorem Sb {vals:List Int} {x:Lma} {letters cells:List Int} {i:Int} (h:i<0):A0 vals x letters cells i=false:=by unfold A0;rw[Xg h]
theorem Sc {vals:List Int} {x:Lma} {letters cells:List Int} {a:Nat} (h:x.qs.length+x.ps.length<=a):A0 vals x letters cells (a:Int)=false:=by
 unfold A0 D4
 rw[Xc (by omega),X3,Yk (by simp;omega)];rfl
theorem UR {vals:List Int} {x:Lma} {letters cells:List Int} {a:Nat} {q:Cnd} (h:x.qs[a]?=some q):A0 vals x letters cells (a:Int)=Fd vals q letters cells:=by
 unfold A0 D4
 have:=(Xw.1 h).1
 rw[Xc (by omega),X3,Yl (by simpa using this),X6,h];rfl
theorem US {vals:List Int} {x:Lma} {letters cells:List Int} {b:Nat} {p:Prm} (h:x.ps[b]?=some p):A0 vals x letters cells ((x.qs.length+b:Nat):Int)=Fe p letters cells:=by
 unfold A0 D4
 rw[Xc (by omega),X3,Yg (by simp),X0,Nat.add_sub_cancel_left,X6,h];rfl
def FH (k:Knd):List AVal->AB->Prop×AVal:=λa H=>match a with
 |[K,Q,.sl t L,av]=>(dKn.ok K/\dKn.dec K=k/\dQ.ok Q/\dIs.ok (.sl t L)/\RdI H av (rdL H av)/\ClOK k (dQ.dec Q) (L.map toI) (rdL H av),.bool (Fd (AP k) (dQ.dec Q) (L.map toI) (rdL H av)))
 |_=>(False,.tup [])
theorem Po (k:Knd):∀args H n,(FH k args H).1->Aa Tryz.prog 91 args H n (FH k args H).2:=by
 intro args H m hh
 unfold FH at hh⊢
 split at hh
 ·obtain⟨h1,h2,h3,h4,h5,h6⟩:=hh
  have w1:=dKn.wk _ h1
  rw[h2]at w1
  exact(p91 k _ _ _ h6).view trivial (.cons (.wk w1) (.cons (.wk (dQ.wk _ h3)) (.cons (.wk (dIs.wk _ h4)) (.cons (JG h5) .nil)))) m
 ·exact hh.elim
def Gs (k:Knd) (x:Lma) (letters:List Int):List AVal->AB->Prop×AVal:=λa H=>match a with
 |[.ptr rp 0,.int .i64 c]=>(RdAt H rp k x letters,Gr x letters c)
 |_=>(False,.tup [])
theorem rowPmq {k:Knd} {x:Lma} {letters:List Int} (h:RdC k x letters):∀args H n,(Gs k x letters args H).1->Aa Tryz.prog 92 args H n (Gs k x letters args H).2:=by
 intro args H m hh
 unfold Gs at hh⊢
 split at hh
 ·obtain⟨w,hw⟩:=hh
  exact q_prem _ hw h.fx.ps (Mo h)
 ·exact hh.elim
def Tcp (k:Knd) (x:Lma) (letters:List Int):Tab:=tadd 91 (FH k) (tadd 92 (Gs k x letters) (tadd 73 BP tnil))
theorem UT {k:Knd} {x:Lma} {letters:List Int} (h:RdC k x letters):AH Tryz.prog (Tcp k x letters):=((AH.tnil.add JH).add (rowPmq h)).add (Po k)
theorem Tcp_c (k:Knd) (x:Lma) (letters:List Int) (a:List AVal) (H:AB):Tcp k x letters 91 a H=FH k a H:=rfl
theorem Sd (k:Knd) (x:Lma) (letters:List Int) (a:List AVal) (H:AB):Tcp k x letters 92 a H=Gs k x letters a H:=rfl
theorem Se (k:Knd) (x:Lma) (letters:List Int) (a:List AVal) (H:AB):Tcp k x letters 73 a H=BP a H:=rfl
theorem t_comp {H:AB} {n rp:Nat} {k:Knd} {x:Lma} {letters cells:List Int} {av:AVal} (at':Int) (h:RdC k x letters) (hc:ClC k x cells) (hr:RdAt H rp k x letters) (hv:RdI H av cells):
  AO Tryz.prog 57 [.ptr rp 0,.int .i64 at',av] H n (QRet H (.bool (A0 (AP k) x letters cells at'))):=by
 have hr0:=hr
 obtain⟨w,hq⟩:=hr
 simp only[BX,AE,AD,AK,AT,Xl,Xo]at hq
 have hnq:x.qs.length<1000000000:=h.fx.qs
 have hnp:x.ps.length<1000000000:=h.fx.ps
 have hw1:IntKind.wrap .i64 ((x.qs.length:Int)+(x.ps.length:Int))=((x.qs.length+x.ps.length:Nat):Int):=by rw[Ay (by omega) (by omega)];omega
 have u1:dKn.ok (.agg (AE k))=True:=CX k
 have u2:dKn.dec (.agg (AE k))=k:=Bd k
 simp only[AE,AD,AK,Xl,Xo]at u1 u2
 have hls:dIs.ok (eIs letters):=(Ax letters).mpr trivial
 refine a57 (AF (UT h) (AG ?_))
 by_cases h0:at'<0
 ·rw[Sb h0]
  simp only[eE,eC,eN,reduceCtorEq,Nat.reduceEqDiff,↓reduceIte,Nat.reduceAdd,Nat.reduceLeDiff,X7,X0,c57,hq,X1 h0]
  exact B6.refl _
 obtain⟨a,rfl⟩:=YW (Int.not_lt.1 h0)
 by_cases h1:x.qs.length+x.ps.length<=a
 ·rw[Sc h1]
  have h1':((x.qs.length+x.ps.length:Nat):Int)<=(a:Int):=by omega
  simp only[eE,eC,eN,reduceCtorEq,Nat.reduceEqDiff,↓reduceIte,Nat.reduceAdd,Nat.reduceLeDiff,X0,c57,hq,X9 h0,hw1,X1 h1']
  exact B6.refl _
 have h1':¬((x.qs.length+x.ps.length:Nat):Int)<=(a:Int):=by omega
 by_cases h2:a<x.qs.length
 ·have hg:=X5 h2
  have hcl:=cl_ok h hc (Xk h2)
  generalize x.qs[a]=q at hg hcl
  have hql:dQ.ok (.agg [.int .i64 q.k,eIs q.cs,eIs q.ls,.int .i64 q.n])=True:=T9 q
  have hqd:dQ.dec (.agg [.int .i64 q.k,eIs q.cs,eIs q.ls,.int .i64 q.n])=q:=Nm q
  rw[UR hg]
  simp only[eE,eC,eN,reduceCtorEq,Nat.reduceEqDiff,↓reduceIte,Nat.reduceAdd,Nat.reduceLeDiff,X2,X3,X4,X0,X6,c57,hq,X9 h0,hw1,X9 h1',lt_T h2,hg,Tcp_c,FH,u1,u2,As,hql,hqd,Gp hv,X1 hv,X1 hcl,X1 hls]
  exact B6.refl _
 obtain⟨b,rfl⟩:∃b,a=x.qs.length+b:=⟨a-x.qs.length,by omega⟩
 have hb:b<x.ps.length:=by omega
 have hg:=X5 hb
 have hmem:=Xk hb
 generalize x.ps[b]=p at hg hmem
 rw[US hg]
 have hw2:IntKind.wrap .i64 (((x.qs.length+b:Nat):Int)-(x.qs.length:Int))=(b:Int):=by rw[Ay (by omega) (by omega)];omega
 have hpv:Gr x letters p.c= .tup [eIs (p.ls.map (at0 letters)),.bool true]:=by unfold Gr;rw[KE h.ox hmem]
 have hpc:=KD h.ox hmem
 rw[<-hc.len]at hpc
 have hgc:=A5 hpc.1 hpc.2
 have hfl:few (p.ls.map (at0 letters)):=by show(p.ls.map _).length<_;rw[X0];exact h.fx.p p hmem
 have hrd:RdI H (eIs (p.ls.map (at0 letters))) (p.ls.map (at0 letters)):=.inl ⟨_,rfl,.inl rfl⟩
 have hd:Fe p letters cells=(decide (0<=at0 cells p.c)&& !(p.ls.map (at0 letters)).contains (at0 cells p.c)):=rfl
 rw[hd]
 generalize p.ls.map (at0 letters)=L at hpv hfl hrd
 generalize at0 cells p.c=s at hgc
 have hin:p.c.toNat<cells.length:=by omega
 have r1:=Gp hrd
 rcases hv with⟨t,rfl,ht⟩|⟨id,cap,rest,rfl,ha,hcap⟩
 ·have ht':(t.esz=1)=True:=X1 (ht.resolve_right λe=>by rw[e]at hin;simp at hin)
  by_cases hs:0<=s
  ·simp only[eE,eC,eN,reduceCtorEq,Nat.reduceEqDiff,↓reduceIte,Nat.reduceAdd,Nat.reduceLeDiff,Nat.reduceLT,X2,X3,X4,X0,X6,Xa,Xd,c57,hq,X9 h0,hw1,X9 h1',lt_F h2,lt_T hb,hg,hw2,Sd,Se,Gs,BP,X1 hr0,hpv,X1 hpc.1,X1 hpc.2,hgc,ht',X1 hs,r1,X1 hrd,X1 hfl]
   exact B6.refl _
  ·simp only[eE,eC,eN,reduceCtorEq,Nat.reduceEqDiff,↓reduceIte,Nat.reduceAdd,Nat.reduceLeDiff,Nat.reduceLT,X2,X3,X4,X0,X6,Xa,Xd,c57,hq,X9 h0,hw1,X9 h1',lt_F h2,lt_T hb,hg,hw2,Sd,Se,Gs,BP,X1 hr0,hpv,X1 hpc.1,X1 hpc.2,hgc,ht',X9 hs,r1,X1 hrd,X1 hfl]
   exact B6.refl _
 ·have hga:(cells++rest)[p.c.toNat]?=some s:=by rw[Yl hin];exact hgc
  have hla:(p.c.toNat<(cells++rest).length)=True:=X1 (by simp;omega)
  by_cases hs:0<=s
  ·simp only[eE,eC,eN,reduceCtorEq,Nat.reduceEqDiff,↓reduceIte,Nat.reduceAdd,Nat.reduceLeDiff,Nat.reduceLT,X2,X3,X4,X0,X6,Xa,Xd,c57,hq,X9 h0,hw1,X9 h1',lt_F h2,lt_T hb,hg,hw2,Sd,Se,Gs,BP,X1 hr0,hpv,X1 hpc.1,X1 hpc.2,ha,hga,hla,X1 hs,r1,X1 hrd,X1 hfl]
   exact B6.refl _
  ·simp only[eE,eC,eN,reduceCtorEq,Nat.reduceEqDiff,↓reduceIte,Nat.reduceAdd,Nat.reduceLeDiff,Nat.reduceLT,X2,X3,X4,X0,X6,Xa,Xd,c57,hq,X9 h0,hw1,X9 h1',lt_F h2,lt_T hb,hg,hw2,Sd,Se,Gs,BP,X1 hr0,hpv,X1 hpc.1,X1 hpc.2,ha,hga,hla,X9 hs,r1,X1 hrd,X1 hfl]
   exact B6.refl _
theorem q_comp {H:AB} {n rp:Nat} {k:Knd} {x:Lma} {letters cells:List Int} {av:AVal} (at':Int) (h:RdC k x letters) (hc:ClC k x cells) (hr:RdAt H rp k x letters) (hv:RdI H av cells):
  Aa Tryz.prog 57 [.ptr rp 0,.int .i64 at',av] H n (.bool (A0 (AP k) x letters cells at')):=
 Aa.of l57 trivial λ_=>t_comp at' h hc hr hv
end Go.AM
namespace Go.AM
open Go.Proofs Go.Lib
abbrev encC (c:Cas):AVal:=.agg [.int .i64 c.k,.int .i64 c.a]
abbrev eCs (l:List Cas):AVal:=.sl (.none 2) (l.map encC)
def CN (rp n:Nat) (H H':AB):Prop:=∀i,i<n->i≠rp->hget H' i=hget H i
theorem CN.refl {rp n:Nat} (H:AB):CN rp n H H:=λ_ _ _=>rfl
theorem CN.trans {rp n n':Nat} {H H' H'':AB} (h:CN rp n H H') (k:CN rp n' H' H'') (hn:n<=n'):CN rp n H H'':=λi hi hr=>(k i (by omega) hr).trans (h i hi hr)
theorem CN.new {rp n j:Nat} {H H':AB} {ob:AObj} (h:CN rp n H H') (hj:n<=j):CN rp n H (hset H' j ob):=λi hi hr=>by
 rw[AA _ _ _ _ (by omega)];exact h i hi hr
theorem CN.set {rp n:Nat} {H H':AB} {ob:AObj} (h:CN rp n H H'):CN rp n H (hset H' rp ob):=λi hi hr=>by
 rw[AA _ _ _ _ (Ne.symm hr)];exact h i hi hr
def VV (rp:Nat) (k:Knd) (x:Lma) (letters:List Int) (H:AB) (n:Nat) (r:Option (List Cas)):AOut->AB->Nat->Prop:=λo H' n'=>
 AN H' n'/\n<=n'/\CN rp n H H'/\match r with
  |some l=>o= .ret (.bool true)/\hget H' rp=some (.box (BX k x letters (eCs l)))
  |none=>o= .ret (.bool false)
def N4 (k:Knd) (x:Lma) (letters:List Int):List AVal->AB->Prop×AVal:=λa H=>match a with
 |[.ptr rp 0,.int .i64 c,av]=>(RdAt H rp k x letters/\RdI H av (rdL H av)/\ClC k x (rdL H av),.bool (A0 (AP k) x letters (rdL H av) c))
 |_=>(False,.tup [])
theorem rowCmq {k:Knd} {x:Lma} {letters:List Int} (h:RdC k x letters):∀args H n,(N4 k x letters args H).1->Aa Tryz.prog 57 args H n (N4 k x letters args H).2:=by
 intro args H m hh
 unfold N4 at hh⊢
 split at hh
 ·exact q_comp _ h hh.2.2 hh.1 hh.2.1
 ·exact hh.elim
def Ttr (k:Knd) (x:Lma) (letters:List Int):Tab:=tadd 57 (N4 k x letters) (Tcp k x letters)
theorem Ttr_ok {k:Knd} {x:Lma} {letters:List Int} (h:RdC k x letters):AH Tryz.prog (Ttr k x letters):=(UT h).add (rowCmq h)
theorem Ttr_m (k:Knd) (x:Lma) (letters:List Int) (a:List AVal) (H:AB):Ttr k x letters 57 a H=N4 k x letters a H:=rfl
theorem Ttr_p (k:Knd) (x:Lma) (letters:List Int) (a:List AVal) (H:AB):Ttr k x letters 92 a H=Gs k x letters a H:=rfl
theorem VW (k:Knd) (x:Lma) (letters:List Int) (a:List AVal) (H:AB):Ttr k x letters 73 a H=BP a H:=rfl
def conB (x:Lma) (letters:List Int) (c s:Int):Bool:=match DT x c with
 |none=>true
 |some p=>(p.ls.map (at0 letters)).contains s
theorem DG (m:Nat) (x:Lma) (letters:List Int) (c:Int):Bq m x letters c=(symI m).filter (conB x letters c):=by
 unfold Bq conB
 cases DT x c with
 |none=>exact(Zi.2 λ_ _=>rfl).symm
 |some p=>rfl
theorem Pp {F:Int->List Cas->Option (List Cas)} (hF:∀s l r,F s l=some r->r.length<=l.length):∀(ss:List Int) (l r:List Cas),seqT F ss l=some r->r.length<=l.length
 |[],l,r,h=>by rw[seqT]at h;cases h;exact Xb _
 |s::ss,l,r,h=>by
  rw[seqT]at h
  obtain⟨l1,h1,h2⟩:=Zu.1 h
  exact XT (Pp hF ss l1 r h2) (hF s l l1 h1)
theorem Mp {vals:List Int} {x:Lma} {letters:List Int}:∀(f:Nat) (cells:List Int) (l r:List Cas),A3 vals x letters f cells l=some r->r.length<=l.length
 |_,_,[],r,h=>by rw[A3]at h;cases h
 |0,cells,n::l,r,h=>by
  rw[A3]at h
  split at h
  ·split at h
   ·cases h;simp
   ·cases h
  ·split at h<;>cases h
 |f+1,cells,n::l,r,h=>by
  rw[A3]at h
  split at h
  ·split at h
   ·cases h;simp
   ·cases h
  ·split at h
   ·have:=Pp (λs l r=>Mp f (cells.set n.a.toNat s) l r) _ _ _ h
    simp;omega
   ·cases h
theorem Pq {k:Knd} {x:Lma} {letters:List Int} (h:RdC k x letters) (c:Int):∃L ok t,Gr x letters c= .tup [.sl t (L.map eI),.bool ok]/\(t.esz=1\/L=[])/\few L/\∀s,conB x letters c s=(!ok||L.contains s):=by
 unfold Gr conB
 cases hp:DT x c with
 |none=>exact⟨[],false,.nil,rfl,.inr rfl,(by show(0:Nat)<_;decide),λs=>rfl⟩
 |some p=>
  refine⟨p.ls.map (at0 letters),true,.none 1,rfl,.inl rfl,?_,λs=>rfl⟩
  show(p.ls.map _).length<_
  rw[X0]
  exact h.fx.p p (List.mem_of_find?_eq_some hp)
theorem con_f {ok b:Bool} (h:false=(!ok||b)):ok=true/\b=false:=by cases ok<;>cases b<;>simp at h⊢
theorem con_t {ok b:Bool} (h:true=(!ok||b)):ok=false\/ok=true/\b=true:=by cases ok<;>cases b<;>simp at h⊢
theorem Mq {m i:Nat} (h:i<m):(symI m).drop i=(i:Int)::(symI m).drop (i+1):=by
 unfold symI
 rw[<-List.map_drop,<-List.map_drop,XM (by simpa using h)]
 simp
structure VTr where
 i:Nat
 l:List Cas
 H:AB
 n:Nat
structure ITr (rp:Nat) (k:Knd) (x:Lma) (letters:List Int) (F:Int->List Cas->Option (List Cas)) (p:Int->Bool) (R:Option (List Cas)) (H0:AB) (n0:Nat) (v:VTr):Prop where
 hi:v.i<=k.d.syms.length
 fr:AN v.H v.n
 hn:n0<=v.n
 kp:CN rp n0 H0 v.H
 hr:hget v.H rp=some (.box (BX k x letters (eCs v.l)))
 he:R=seqT F (((symI k.d.syms.length).drop v.i).filter p) v.l
 hl:v.l.length<1000000000
theorem Pr {k:Knd} {x:Lma} {letters:List Int} (h:RdC k x letters) (rp:Nat) (f:Nat) (cells:List Int)
  (ih:∀(cells':List Int) (l:List Cas) (H:AB) (n id cap:Nat) (rest:List Int),AN H n->hget H rp=some (.box (BX k x letters (eCs l)))->hget H id=some (.arr 1 ((cells'++rest).map eI))->cells'.length<=cap->ClC k x cells'->negs cells'+1=negs cells->l.length<1000000000->
   AO Tryz.prog 58 [.ptr rp 0,.ref id 1 0 cells'.length cap] H n (VV rp k x letters H n (A3 (AP k) x letters f cells' l)))
  (l:List Cas) (H:AB) (n id cap:Nat) (rest:List Int) (hf:AN H n) (hrp:hget H rp=some (.box (BX k x letters (eCs l)))) (hid:hget H id=some (.arr 1 ((cells++rest).map eI))) (hcap:cells.length<=cap) (hC:ClC k x cells) (hl:l.length<1000000000):
  AO Tryz.prog 58 [.ptr rp 0,.ref id 1 0 cells.length cap] H n (VV rp k x letters H n (A3 (AP k) x letters (f+1) cells l)):=by
 have hq:=hrp
 simp only[BX,AE,AD,AK,AT,Xl,Xo]at hq
 refine a58 (AF (Ttr_ok h) (AG ?_))
 cases l with
 |nil=>
  simp only[eE,eC,eN,reduceCtorEq,Nat.reduceEqDiff,↓reduceIte,Nat.reduceAdd,c0,c58,hq]
  exact⟨hf,Xb _,CN.refl _,by rw[A3]⟩
 |cons c l=>
 have g1:(((l.length+1:Nat):Int)=0)=False:=cS0
 have g2:(n+6=rp)=False:=X9 (by have:=hf.lt hrp;omega)
 have g3:(rp=n+6)=False:=X9 (by have:=hf.lt hrp;omega)
 have g4:((1:Int)<=((l.length+1:Nat):Int))=True:=X1 (by omega)
 have hck:A3 (AP k) x letters (f+1) cells (c::l)=if c.k=Eu then(if A0 (AP k) x letters cells c.a then some l else none)
  else if c.k=DA/\0<=c.a/\c.a<cells.length/\at0 cells c.a<0 then seqT (λs l=>A3 (AP k) x letters f (cells.set c.a.toNat s) l) (Bq (AP k).length x letters c.a) l else none:=by rw[A3]
 rw[hck]
 clear hck
 have g5:((0:Int)<((l.length+1:Nat):Int))=True:=X1 (by omega)
 have htl:List.take l.length (l.map encC)=l.map encC:=Y0 (by simp)
 have hrpn:=hf.lt hrp
 have hidn:=hf.lt hid
 have hne:rp≠id:=λe=>by rw[e,hid]at hrp;cases hrp
 obtain⟨H2,hH2⟩:∃H2,hset (hset H (n+6) (.box [.int .i64 c.k,.int .i64 c.a])) rp (.box (BX k x letters (eCs l)))=H2:=⟨_,rfl⟩
 have hf2:AN H2 (n+8):=by rw[<-hH2];exact(hf.hset (m:=n+8) (by omega) (by omega)).hset (Xb _) (by omega)
 have hrp2:hget H2 rp=some (.box (BX k x letters (eCs l))):=by rw[<-hH2,AC]
 have hid2:hget H2 id=some (.arr 1 ((cells++rest).map eI)):=by rw[<-hH2,AA _ _ _ _ hne,AA _ _ _ _ (by omega)];exact hid
 have hnb2:hget H2 (n+6)=some (.box [.int .i64 c.k,.int .i64 c.a]):=by rw[<-hH2,AA _ _ _ _ (by omega),AC]
 have hkb2:CN rp n H H2:=by rw[<-hH2];exact((CN.refl H).new (by omega)).set
 have hRd2:RdAt H2 rp k x letters:=⟨_,hrp2⟩
 have hRI2:RdI H2 (.ref id 1 0 cells.length cap) cells:=.inr ⟨id,cap,rest,rfl,hid2,hcap⟩
 have hrd:=Gp hRI2
 simp only[BX,AE,AD,AK,AT,Xl,Xo]at hH2
 by_cases hk2:c.k=2
 ·have hz:c.k=Eu:=hk2
  rw[Xg hz]
  simp only[eE,eC,eN,reduceCtorEq,Nat.reduceEqDiff,↓reduceIte,Nat.reduceAdd,Nat.reduceLeDiff,Int.reduceLE,X2,XW,YF,XP,X3,X0,Xa,c58,hq,g1,g2,g4,g5,htl,fr1 hf,AJ,hH2,hnb2,X1 hk2,Ttr_m,N4,hrd,X1 hRI2,X1 hRd2,X1 hC]
  refine⟨hf2,by omega,hkb2,?_⟩
  cases hcm:A0 (AP k) x letters cells c.a with
  |true=>exact⟨rfl,hrp2⟩
  |false=>rfl
 have hk2':¬c.k=Eu:=hk2
 rw[Xc hk2']
 by_cases hk1:c.k=1
 case neg=>
  have hk1':¬(c.k=DA/\0<=c.a/\c.a<cells.length/\at0 cells c.a<0):=λq=>hk1 q.1
  rw[Xc hk1']
  simp only[eE,eC,eN,reduceCtorEq,Nat.reduceEqDiff,↓reduceIte,Nat.reduceAdd,Nat.reduceLeDiff,Int.reduceLE,X2,XW,YF,XP,X3,X0,Xa,c58,hq,g1,g2,g4,g5,htl,fr1 hf,AJ,hH2,hnb2,X9 hk2,X9 hk1]
  exact⟨hf2,by omega,hkb2,rfl⟩
 by_cases ha0:c.a<0
 ·rw[Xc (by omega)]
  simp only[eE,eC,eN,reduceCtorEq,Nat.reduceEqDiff,↓reduceIte,Nat.reduceAdd,Nat.reduceLeDiff,Int.reduceLE,X7,X2,XW,YF,XP,X3,X0,Xa,c58,hq,g1,g2,g4,g5,htl,fr1 hf,AJ,hH2,hnb2,X9 hk2,X1 hk1,X1 ha0]
  exact⟨hf2,by omega,hkb2,rfl⟩
 by_cases hal:(cells.length:Int)<=c.a
 ·rw[Xc (by omega)]
  simp only[eE,eC,eN,reduceCtorEq,Nat.reduceEqDiff,↓reduceIte,Nat.reduceAdd,Nat.reduceLeDiff,Int.reduceLE,X7,X2,XW,YF,XP,X3,X0,Xa,c58,hq,g1,g2,g4,g5,htl,fr1 hf,AJ,hH2,hnb2,X9 hk2,X1 hk1,X9 ha0,X1 hal]
  exact⟨hf2,by omega,hkb2,rfl⟩
 obtain⟨a,ha⟩:=YW (Int.not_lt.1 ha0)
 have hal':a<cells.length:=by omega
 have hgc:cells[a]?=some (at0 cells c.a):=by have:=A5 (l:=cells) (i:=c.a) (by omega) (by omega);rwa[show c.a.toNat=a by omega]at this
 have hga:(cells++rest)[a]?=some (at0 cells c.a):=by rw[Yl hal'];exact hgc
 have hla:(a<(cells++rest).length)=True:=X1 (by simp;omega)
 have hta:c.a.toNat=a:=by omega
 rw[hta]
 generalize hs:at0 cells c.a=s at hgc hga
 have b0:(0<=c.a)=True:=X1 (by omega)
 have b1:(c.a<(cells.length:Int))=True:=X1 (by omega)
 by_cases hs0:0<=s
 ·rw[Xc (by omega)]
  simp only[eE,eC,eN,reduceCtorEq,Nat.reduceEqDiff,↓reduceIte,Nat.reduceAdd,Nat.reduceLeDiff,Int.reduceLE,X2,XW,YF,XP,X3,X0,X6,Xa,c58,hq,g1,g2,g4,g5,htl,fr1 hf,AJ,hH2,hnb2,X9 hk2,X1 hk1,X9 ha0,X9 hal,hid2,hta,hga,hla,b0,b1,X1 hs0]
  exact⟨hf2,by omega,hkb2,rfl⟩
 rw[Xg ⟨hk1,by omega,by omega,by omega⟩]
 obtain⟨L,ok,t,hpv,hLt,hLf,hcon⟩:=Pq h c.a
 have hq2:=hrp2
 simp only[BX,AE,AD,AK,AT,Xl,Xo]at hq2
 have hvl:(AP k).length=k.d.syms.length:=by unfold AP;rw[X0]
 have hsy:=A7 h.ck
 rw[DG,hvl]
 simp only[eE,eC,eN,reduceCtorEq,Nat.reduceEqDiff,↓reduceIte,Nat.reduceAdd,Nat.reduceLeDiff,Nat.reduceLT,Int.reduceLE,X2,XW,YF,XP,X3,X0,X6,Xa,Xd,c58,hq,g1,g2,g4,g5,htl,fr1 hf,AJ,hH2,hnb2,hq2,X9 hk2,X1 hk1,X9 ha0,X9 hal,hid2,hta,hga,hla,b0,b1,X9 hs0,Ttr_p,Gs,X1 hRd2,hpv]
 refine AU (λv:VTr=>⟨[(0,true,.ptr rp 0),(1,true,.ref id 1 0 cells.length cap),(5,true,.ptr (n+6) 0),(6,true,.sl t (L.map eI)),(7,true,.bool ok),(72,true,.int .i64 k.d.syms.length),(73,true,.int .i64 v.i)],v.H,v.n⟩)
  (ITr rp k x letters (λs l=>A3 (AP k) x letters f (cells.set a s) l) (conB x letters c.a) (seqT (λs l=>A3 (AP k) x letters f (cells.set a s) l) ((symI k.d.syms.length).filter (conB x letters c.a)) l) H2 (n+8)) (λv=>k.d.syms.length-v.i)
  ⟨0,l,H2,n+8⟩ rfl ⟨Xh _,hf2,Xb _,CN.refl _,hrp2,rfl,by simp only[Xn]at hl;simp only[];omega⟩ ?_
 rintro⟨i,l1,H1,n1⟩ ⟨hi,hf1,hn1,hk,hr1,he,hl1⟩
 simp only at hi hf1 hn1 hk hr1 he hl1
 rw[he]
 by_cases hlt:i<k.d.syms.length
 case neg=>
  obtain rfl:i=k.d.syms.length:=by omega
  rw[YQ (by unfold symI;simp)]
  simp only[eE,eC,eN,reduceCtorEq,Nat.reduceEqDiff,↓reduceIte,lt_F hlt]
  exact⟨hf1,by omega,hkb2.trans hk (by omega),rfl,hr1⟩
 have e:=AL (k:=i) (by omega)
 have hd:=Mq hlt
 have hci:=hcon (i:Int)
 have hid1:hget H1 id=some (.arr 1 ((cells++rest).map eI)):=(hk id (by omega) (Ne.symm hne)).trans hid2
 have hnb1:hget H1 (n+6)=some (.box [.int .i64 c.k,.int .i64 c.a]):=(hk (n+6) (by omega) (by omega)).trans hnb2
 have hRI1:RdI H1 (.ref id 1 0 cells.length cap) cells:=.inr ⟨id,cap,rest,rfl,hid1,hcap⟩
 have hRL:RdI H1 (.sl t (L.map eI)) L:=.inl ⟨t,rfl,hLt⟩
 have r1:=Gp hRL
 by_cases hcb:conB x letters c.a (i:Int)=true
 case neg=>
  have hcb':conB x letters c.a (i:Int)=false:=by simpa using hcb
  rw[hd,List.filter_cons_of_neg hcb]
  rw[hcb']at hci
  have h2:=con_f hci
  obtain⟨rfl,h2⟩:=h2
  simp only[eE,eC,eN,reduceCtorEq,Nat.reduceEqDiff,↓reduceIte,Int.reduceEq,Xe,lt_T hlt,VW,BP,r1,X1 hRL,X1 hLf,h2,Xe,e]
  exact .mk ⟨i+1,l1,H1,n1⟩ rfl ⟨hlt,hf1,hn1,hk,hr1,rfl,hl1⟩ (by simp only[];omega)
 rw[hd,List.filter_cons_of_pos hcb,seqT]
 rw[hcb]at hci
 have h2:=con_t hci
 have hcf:few cells:=by show cells.length<_;have:=h.ox.cs.2.2.2;rw[hC.len];omega
 rcases h2 with rfl|⟨rfl,h2⟩
 case' inl=>simp only[eE,eC,eN,reduceCtorEq,Nat.reduceEqDiff,↓reduceIte,lt_T hlt,VW,BP,r1,X1 hRL,X1 hLf]
 case' inr=>simp only[eE,eC,eN,reduceCtorEq,Nat.reduceEqDiff,↓reduceIte,X7,lt_T hlt,VW,BP,r1,X1 hRL,X1 hLf,h2,X7]
 all_goals
  refine(Pb hRI1 hcf).mono ?_
  rintro o H3 n3 (⟨hz,-⟩|⟨-,rfl,rest3,rfl,rfl⟩)
  ·rw[hz]at hal';simp at hal'
  have y1:(n1=n+4)=False:=X9 (by omega)
  have hla3:(a<(cells++rest3).length)=True:=X1 (by simp;omega)
  simp only[eE,eC,eN,reduceCtorEq,Nat.reduceEqDiff,↓reduceIte,Nat.reduceAdd,X0,X6,retK,hnb1,y1,b0,b1,hta,hla3,AJ]
  have eset:((cells++rest3).map eI).set a (.int .i64 (i:Int))=((cells.set a (i:Int))++rest3).map eI:=by
   rw[<-List.set_append_left _ _ hal',ZK]
  have hlen:(cells.set a (i:Int)).length=cells.length:=Ye
  have hrpn1:=hf1.lt hr1
  have hC':ClC k x (cells.set a (i:Int)):=⟨by rw[hlen];exact hC.len,λs hs h0=>by
   rcases Yq hs with q|q
   ·exact hC.sy s q h0
   ·rw[q];exact⟨by omega,by omega⟩⟩
  have hng:=Gg hgc (by omega) (show(0:Int)<=(i:Int)by omega)
  rw[eset]
  have hcall:=ih (cells.set a (i:Int)) l1 (hset H1 (n1+2) (.arr 1 (((cells.set a (i:Int))++rest3).map eI))) (n1+4) (n1+2) (cells.length+rest3.length) rest3 (hf1.hset (by omega) (by omega)) (by rw[AA _ _ _ _ (by omega)];exact hr1) (AC ..) (by rw[hlen];omega) hC' hng hl1
  rw[hlen]at hcall
  refine hcall.mono ?_
  rintro o H4 n4 ⟨hf4,hn4,hk4,hres⟩
  have hk4':CN rp (n+8) H2 H4:=(hk.new (by omega)).trans hk4 (by omega)
  cases htr:A3 (AP k) x letters f (cells.set a (i:Int)) l1 with
  |none=>
   rw[htr]at hres
   obtain rfl:o= .ret (.bool false):=hres
   simp only[eE,eC,eN,reduceCtorEq,Nat.reduceEqDiff,↓reduceIte,Xe,retK,Xe]
   exact⟨hf4,by omega,hkb2.trans hk4' (by omega),rfl⟩
  |some l2=>
   rw[htr]at hres
   obtain⟨rfl,hr4⟩:=hres
   have hl2:=Mp _ _ _ _ htr
   simp only[eE,eC,eN,reduceCtorEq,Nat.reduceEqDiff,↓reduceIte,Int.reduceEq,X7,retK,X7,e]
   exact .mk ⟨i+1,l2,H4,n4⟩ rfl ⟨hlt,hf4,by simp only[];omega,hk4',hr4,rfl,by simp only[];omega⟩ (by simp only[];omega)
theorem KF {cells:List Int} {a:Nat} {t:Int} (h:negs cells=0) (ha:cells[a]?=some t):0<=t:=by
 apply Classical.byContradiction
 intro q
 have h1:t∈cells.filter λs=>decide (s<0):=Yo.2 ⟨XS ha,by simp;omega⟩
 unfold negs at h
 rw[XV h]at h1
 cases h1
theorem Ps {vals:List Int} {x:Lma} {letters:List Int} {cells:List Int} (h:negs cells=0) (l:List Cas):A3 vals x letters 0 cells l=A3 vals x letters 1 cells l:=by
 cases l with
 |nil=>rw[A3,A3]
 |cons c l=>
  rw[A3,A3]
  have hno:¬(c.k=DA/\0<=c.a/\c.a<cells.length/\at0 cells c.a<0):=λq=>by
   have:=KF h (A5 q.2.1 q.2.2.1)
   omega
  rw[Xc hno,Xc hno]
theorem UU {k:Knd} {x:Lma} {letters:List Int} (h:RdC k x letters) (rp:Nat):∀(f:Nat) (cells:List Int) (l:List Cas) (H:AB) (n id cap:Nat) (rest:List Int),AN H n->hget H rp=some (.box (BX k x letters (eCs l)))->hget H id=some (.arr 1 ((cells++rest).map eI))->cells.length<=cap->ClC k x cells->negs cells<=f->l.length<1000000000->
  AO Tryz.prog 58 [.ptr rp 0,.ref id 1 0 cells.length cap] H n (VV rp k x letters H n (A3 (AP k) x letters f cells l))
 |0,cells,l,H,n,id,cap,rest,hf,hrp,hid,hcap,hC,hneg,hl=>by
  rw[Ps (by omega)]
  exact Pr h rp 0 cells (λcells' l H n id cap rest _ _ _ _ _ hn _=>by omega) l H n id cap rest hf hrp hid hcap hC hl
 |f+1,cells,l,H,n,id,cap,rest,hf,hrp,hid,hcap,hC,hneg,hl=>
  Pr h rp f cells (λcells' l H n id cap rest a1 a2 a3 a4 a5 hn a6=>UU h rp f cells' l H n id cap rest a1 a2 a3 a4 a5 (by omega) a6) l H n id cap rest hf hrp hid hcap hC hl
end Go.AM
namespace Go.AM
open Go.Proofs Go.Lib
def Ao (k:Knd) (x:Lma):Int:=if Al k≠0 then Al k else chk x
def Tsv:Tab:=tadd 42 (s1 dX FewL λx=>eI (chk x)) Tlt
theorem UV:AH Tryz.prog Tsv:=UQ.add (q1 λx h=>p42 x h)
theorem Tsv_c (a:List AVal) (H:AB):Tsv 50 a H=s1 dKn (λk=>FewD k.d) (λk=>.int .i64 (Al k)) a H:=rfl
theorem Tsv_m (a:List AVal) (H:AB):Tsv 42 a H=s1 dX FewL (λx=>eI (chk x)) a H:=rfl
theorem p54 (k:Knd) (x:Lma) (hk:FewD k.d) (hx:FewL x):Pur Tryz.prog 54 [BF k,encL x] (eI (Ao k x)):=by
 have u1:dKn.ok (.agg (AE k))=True:=CX k
 have u2:dKn.dec (.agg (AE k))=k:=Bd k
 simp only[AE,AD,AK,Xl,Xo]at u1 u2
 have v1:dX.ok (.agg (AT x))=True:=GY x
 have v2:dX.dec (.agg (AT x))=x:=Dy x
 simp only[AT]at v1 v2
 refine .mk ⟨Ab 0 k,Ah 0 x,trivial⟩ trivial (a54 (AF UV (AG ?_)))
 unfold Ao
 by_cases h:Al k=0
 ·simp only[eE,eC,eN,reduceCtorEq,Nat.reduceEqDiff,↓reduceIte,Nat.reduceAdd,X7,c54,AE,AD,AK,Tsv_c,Tsv_m,s1,u1,u2,v1,v2,X1 hk,X1 hx,X1 h]
 ·simp only[eE,eC,eN,reduceCtorEq,Nat.reduceEqDiff,↓reduceIte,Nat.reduceAdd,Xe,c54,AE,AD,AK,Tsv_c,s1,u1,u2,X1 hk,X9 h]
theorem i04:((0:Int)<4)=True:=X1 (by decide)
abbrev eTr (t:List (List Cas)):AVal:=.sl (.none 1) (t.map eCs)
abbrev BY (t:List (List Cas)):AVal:=.agg [eTr t]
theorem Pt (n:Nat) (l:List Cas):(eCs l).under n:=⟨trivial,AY (f:=encC) (λc=>⟨trivial,trivial,trivial⟩) _⟩
theorem A9 (n:Nat) (t:List (List Cas)):(BY t).under n:=⟨⟨trivial,AY (Pt n) _⟩,trivial⟩
abbrev eCk:List (Nat×Bool×AVal):=[(3,true,.ptr 0 0),(4,true,.ptr 1 0),(5,true,.ptr 2 0),(6,true,.ptr 3 0),(7,true,.ptr 4 0),(8,true,.ptr 5 0),(25,true,clC 8 7)]
noncomputable abbrev lpCk (l':Nat) (st:LoopState) (pend:Option Code):AObj:=.lp ⟨l',st,pend,75,eCk, #[26],Iy,Iz⟩
def UW (k:Knd) (x:Lma) (trees:List (List Cas)) (D:List (List Int)):Prop:=∀(i:Nat) l,D[i]?=some l->∃t,trees[i]?=some t/\A3 (AP k) x l x.cs.length (begC x l) t=some []
structure CkJ (k:Knd) (x:Lma) (trees:List (List Cas)) (l':Nat) (F:Nat->Prop) (D:List (List Int)) (H:AB) (m:Nat):Prop where
 fr:AN H m
 lm:11<=m
 nF:∀i,F i->i=7\/i=8\/11<=i
 h0:hget H 0=some (.box (AE k))
 h1:hget H 1=some (.box (AT x))
 h2:hget H 2=some (.box [eTr trees])
 h3:hget H 3=some (.box [.bool false])
 h4:hget H 4=some (.box [.int .i64 0])
 h5:hget H 5=some (.box [.int .i64 D.length])
 hL:hget H 10=some (lpCk l' .ready none)
 ok:UW k x trees D
def CkS (k:Knd) (x:Lma) (trees:List (List Cas)) (l':Nat) (H:AB) (m:Nat):Prop:=
 hget H 3=some (.box [.bool false])/\hget H 4=some (.box [.int .i64 0])/\hget H 10=some (lpCk l' .done (some .ret))/\B4 (AP k) x trees=false
theorem VX {k:Knd} {x:Lma} {trees:List (List Cas)} {l':Nat} (hR:∀letters∈chs (AP k).length x.ls.length,RdC k x letters) (htr':few trees) (ht:∀t∈trees,few t):Gen (chs (AP k).length x.ls.length) l' (CkJ k x trees l') (CkS k x trees l') where
 fr:=λF D H m h=>h.fr
 frame:=by
  rintro F F' D H H' m m' ⟨fr,lm,nF,h0,h1,h2,h3,h4,h5,hL,ok⟩ hF hH hf hm
  have n1:∀i,i<11->i≠7->i≠8->hget H' i=hget H i:=λi a b c=>hH i λq=>by
   rcases hF i q with q|q
   ·have:=nF i q;omega
   ·omega
  exact⟨hf,by omega,λi h=>(hF i h).elim (nF i) (λq=>by omega),by rw[n1 0 (by decide) (by decide) (by decide)];exact h0,by rw[n1 1 (by decide) (by decide) (by decide)];exact h1,by rw[n1 2 (by decide) (by decide) (by decide)];exact h2,
   by rw[n1 3 (by decide) (by decide) (by decide)];exact h3,by rw[n1 4 (by decide) (by decide) (by decide)];exact h4,by rw[n1 5 (by decide) (by decide) (by decide)];exact h5,by rw[n1 10 (by decide) (by decide) (by decide)];exact hL,ok⟩
 yld:=by
  rintro F D letters H m R ⟨fr,lm,nF,h0,h1,h2,h3,h4,h5,hL,ok⟩ hF hA hRt hRf
  refine y27_0 hL rfl (AF AH.tnil (AG ?_))
  simp only[eE,eN,Nat.reduceEqDiff,↓reduceIte,RK,renv,YT,Za,Yy,Zj]
  refine⟨_,hL,rfl,AF AH.tnil (AG ?_)⟩
  have hf':AN (hset H 10 (lpCk l' .busy none)) m:=fr.hset (Xb _) (by omega)
  generalize hH1:hset H 10 (lpCk l' .busy none)=H1 at hf'⊢
  have k1:∀i,i≠10->hget H1 i=hget H i:=λi hi=>by rw[<-hH1,AA _ _ _ _ hi.symm]
  have hL1:hget H1 10=some (lpCk l' .busy none):=by rw[<-hH1,AC]
  have a0:=(k1 0 (by decide)).trans h0
  have a1:=(k1 1 (by decide)).trans h1
  have a2:=(k1 2 (by decide)).trans h2
  have a3:=(k1 3 (by decide)).trans h3
  have a4:=(k1 4 (by decide)).trans h4
  have a5:=(k1 5 (by decide)).trans h5
  clear hH1
  have hmem:letters∈chs (AP k).length x.ls.length:=by
   obtain⟨t,ht⟩:=hA
   rw[<-ht];simp
  have hrd:=hR _ hmem
  simp only[AE,AD,AK,Xl,Xo]at a0
  by_cases hl:D.length=trees.length
  ·have hl':((D.length:Int)=(trees.length:Int))=True:=X1 (by omega)
   have hl2:decide ((D.length:Int)=(trees.length:Int))=true:=by simp;omega
   simp only[eE,eC,eN,Nat.reduceEqDiff,↓reduceIte,X0,NT,a5,a2,hl',a3,a4]
   refine⟨⟨l',.busy,none,75,eCk, #[26],Iy,Iz⟩,by rw[AA _ _ _ _ (by decide),AA _ _ _ _ (by decide)];exact hL1,hRf _ _ ⟨?_,?_,AC ..,?_⟩⟩
   ·rw[AA _ _ _ _ (by decide),AA _ _ _ _ (by decide),AC]
   ·rw[AA _ _ _ _ (by decide),AC]
   ·unfold B4
    obtain⟨t,hA⟩:=hA
    have hlen:(chs (AP k).length x.ls.length).length≠trees.length:=by
     rw[<-hA];simp;omega
    rw[Xr hlen,YC]
  have hl':((D.length:Int)=(trees.length:Int))=False:=X9 (by omega)
  have hl2:decide ((D.length:Int)=(trees.length:Int))=false:=by simp;omega
  have hDl:D.length<trees.length:=by
   have:D.length<=trees.length:=by
    apply Classical.byContradiction
    intro q
    obtain⟨t,h1,-⟩:=ok trees.length D[trees.length] (X5 (by omega))
    rw[Yk (by omega)]at h1;cases h1
   omega
  have hgt:=X5 hDl
  have htf:=ht _ (Xk hDl)
  generalize trees[D.length]=tr at hgt htf
  have hX:=hrd.ox
  have hxc:=hX.c
  have hxl:=hX.l
  have hx4:=hX.cs.2.2
  rw[<-hrd.ll]at hxl
  have hgl:=A5 hxl.1 hxl.2
  have z:∀j,j<11->(m=j)=False:=λj hj=>X9 (by omega)
  have z':∀j,j<11->(j=m)=False:=λj hj=>X9 (by omega)
  have z0:=z 0 (by decide)
  have z1:=z 1 (by decide)
  have z2:=z 2 (by decide)
  have z3:=z 3 (by decide)
  have z4:=z 4 (by decide)
  have z5:=z 5 (by decide)
  have z10:=z 10 (by decide)
  have w1:((x.cs.length:Int)<=4)=True:=X1 (by omega)
  have w2:(0<=x.c)=True:=X1 hxc.1
  have w3:(x.c<(x.cs.length:Int))=True:=X1 hxc.2
  have w4:(x.c.toNat<4)=True:=X1 (by omega)
  have w5:(0<=x.l)=True:=X1 hxl.1
  have w6:(x.l<(letters.length:Int))=True:=X1 hxl.2
  have w7:(x.l.toNat<letters.length)=True:=X1 (by omega)
  simp only[AT]at a1
  simp only[eE,eC,eN,reduceCtorEq,Nat.reduceEqDiff,↓reduceIte,Nat.reduceAdd,Nat.reduceLeDiff,Nat.reduceMul,Nat.reduceLT,xE,X2,XW,XP,X3,X4,X0,X6,NT,a5,a2,hl',a0,a1,fr1 hf',fr0 hf',bsmS,bsmF,z0,z1,z2,z5,w1,w2,w3,w4,w5,w6,hgl,hgt,lt_T hDl,Nat.sub_zero,c4n,i04,AJ]
  have hbeg:([.int .i64 (-1),.int .i64 (-1),.int .i64 (-1),.int .i64 (-1)]:List AVal).set x.c.toNat (eI (at0 letters x.l))=((begC x letters)++List.replicate (4-x.cs.length) (-1)).map eI:=by
   unfold begC
   rw[<-List.set_append_left _ _ (by rw[Yp];omega),List.replicate_append_replicate,show x.cs.length+(4-x.cs.length)=4 by omega,ZK]
   rfl
  rw[hbeg]
  generalize hHa:hset H1 m (AObj.arr 1 _)=Ha
  have hfa:AN Ha (m+15):=by rw[<-hHa];exact hf'.hset (by omega) (by omega)
  have hbl:=Eh x letters
  have hC:ClC k x (begC x letters):=by
   refine⟨hbl,λs hs h0=>?_⟩
   have hb:=Cs hX hmem
   unfold begC at hs
   rcases Yq hs with q|q
   ·rw[Zm]at q;omega
   ·rw[q]
    have:(AP k).length=k.d.syms.length:=by unfold AP;rw[X0]
    exact⟨hb.1,by omega⟩
  have hcall:=UU hrd (m+15) x.cs.length (begC x letters) tr (hset Ha (m+15) (.box (BX k x letters (eCs tr)))) (m+17) m 4 (List.replicate (4-x.cs.length) (-1)) (hfa.hset (by omega) (by omega)) (AC ..) (by rw[AA _ _ _ _ (by omega),<-hHa,AC]) (by rw[hbl];omega) hC Jx htf
  rw[hbl]at hcall
  refine hcall.mono ?_
  rintro o H4 n4 ⟨hf4,hn4,hk4,hres⟩
  have hkeep:∀i,i<m->hget H4 i=hget H1 i:=λi hi=>by
   rw[hk4 i (by omega) (by omega),AA _ _ _ _ (by omega),<-hHa,AA _ _ _ _ (by omega)]
  have b3:=(hkeep 3 (by omega)).trans a3
  have b4:=(hkeep 4 (by omega)).trans a4
  have b5:=(hkeep 5 (by omega)).trans a5
  have b10:=(hkeep 10 (by omega)).trans hL1
  have hwrong:∀q,A3 (AP k) x letters x.cs.length (begC x letters) tr=q->q≠some []->B4 (AP k) x trees=false:=λq hq hne=>by
   unfold B4
   rw[Bool.and_eq_false_iff]
   by_cases hlen:(chs (AP k).length x.ls.length).length=trees.length
   ·right
    rw[Zc]
    obtain⟨t,hA⟩:=hA
    refine⟨(letters,tr),?_,by rw[hq];simpa using hne⟩
    rw[List.mem_iff_getElem?]
    refine⟨D.length,?_⟩
    rw[Zr]
    refine⟨?_,hgt⟩
    rw[<-hA];simp
   ·exact .inl (Xr hlen)
  have stop:B4 (AP k) x trees=false->Um 10 R AExit.ret ⟨[],hset (hset H4 3 (.box [.bool false])) 4 (.box [.int .i64 0]),n4⟩:=λhw=>by
   refine⟨⟨l',.busy,none,75,eCk, #[26],Iy,Iz⟩,by rw[AA _ _ _ _ (by decide),AA _ _ _ _ (by decide)];exact b10,hRf _ _ ⟨?_,?_,AC ..,hw⟩⟩
   ·rw[AA _ _ _ _ (by decide),AA _ _ _ _ (by decide),AC]
   ·rw[AA _ _ _ _ (by decide),AC]
  cases htr:A3 (AP k) x letters x.cs.length (begC x letters) tr with
  |none=>
   rw[htr]at hres
   obtain rfl:o= .ret (.bool false):=hres
   simp only[eE,eC,eN,reduceCtorEq,Nat.reduceEqDiff,↓reduceIte,Nat.reduceAdd,X7,Xe,retK,b3,b4,Xe]
   exact stop (hwrong _ htr (by simp))
  |some l2=>
   rw[htr]at hres
   obtain⟨rfl,hr4⟩:=hres
   simp only[BX,AE,AD,AK,AT,Xl,Xo]at hr4
   cases l2 with
   |cons c2 l2=>
    have g2:((0:Int)<((l2.length+1:Nat):Int))=True:=cS1
    simp only[eE,eC,eN,Nat.reduceEqDiff,↓reduceIte,Nat.reduceAdd,X7,X0,retK,b3,b4,hr4,X7,g2]
    exact stop (hwrong _ htr (by simp))
   |nil=>
    have e:=AL (k:=D.length) (by have:trees.length<1000000000:=htr';omega)
    simp only[eE,eC,eN,Nat.reduceEqDiff,↓reduceIte,Nat.reduceAdd,Int.reduceEq,X7,c0,i00,retK,b5,hr4,X7,i00,e]
    have hF':∀i,F i->i≠5/\i≠10:=λi hi=>by have:=nF i hi;omega
    refine⟨⟨l',.busy,none,75,eCk, #[26],Iy,Iz⟩,by rw[AA _ _ _ _ (by decide)];exact b10,hRt _ _ ⟨(hf4.hset (m:=n4) (Xb _) (by omega)).hset (m:=n4) (Xb _) (by omega),by simp only[];omega,nF,?_,?_,?_,?_,?_,?_,AC ..,?_⟩ (λi hi=>?_) (by simp only[];omega)⟩
    ·rw[AA _ _ _ _ (by decide),AA _ _ _ _ (by decide),hkeep 0 (by omega),k1 0 (by decide)];exact h0
    ·rw[AA _ _ _ _ (by decide),AA _ _ _ _ (by decide),hkeep 1 (by omega),k1 1 (by decide)];exact h1
    ·rw[AA _ _ _ _ (by decide),AA _ _ _ _ (by decide),hkeep 2 (by omega)];exact a2
    ·rw[AA _ _ _ _ (by decide),AA _ _ _ _ (by decide)];exact b3
    ·rw[AA _ _ _ _ (by decide),AA _ _ _ _ (by decide)];exact b4
    ·rw[AA _ _ _ _ (by decide),AC,Xm];rfl
    ·intro i l hl
     by_cases q:i<D.length
     ·rw[Yl q]at hl
      exact ok i l hl
     ·have hi:i<(D++[letters]).length:=(Xw.1 hl).1
      simp at hi
      obtain rfl:i=D.length:=by omega
      rw[Yg (Xb _),Nat.sub_self]at hl
      cases hl
      exact⟨tr,hgt,htr⟩
    ·have:=hF i hi
     rw[AA _ _ _ _ (λq=>(hF' i hi).2 q.symm),AA _ _ _ _ (λq=>(hF' i hi).1 q.symm),hkeep i (by omega),k1 i (hF' i hi).2]
theorem Pu {k:Knd} {x:Lma} {trees:List (List Cas)} (h:UW k x trees (chs (AP k).length x.ls.length)):B4 (AP k) x trees=decide ((chs (AP k).length x.ls.length).length=trees.length):=by
 unfold B4
 rw[Bool.and_eq_left_iff_imp]
 intro hl
 rw[Xi]
 rintro⟨l,t⟩ hm
 obtain⟨i,hi⟩:=List.mem_iff_getElem?.1 hm
 rw[Zr]at hi
 obtain⟨t',h1,h2⟩:=h i l hi.1
 rw[hi.2]at h1;cases h1
 exact Xz h2
def CZ (k:Knd) (x:Lma) (trees:List (List Cas)):AVal:=if Ao k x≠0 then .tup [.bool false,.int .i64 (Ao k x)]else .tup [.bool (B4 (AP k) x trees),.int .i64 0]
theorem Sf {k:Knd} {x:Lma} (hk:FewD k.d) (hx:FewL x) (h:Ao k x=0) {letters:List Int} (hl:letters∈chs (AP k).length x.ls.length):RdC k x letters:=by
 unfold Ao at h
 by_cases hc:Al k=0
 ·rw[Xc (by simpa using hc)]at h
  have ho:Hd x=true:=by
   unfold chk at h
   split at h
   ·assumption
   ·cases h
  exact⟨hc,hk,hx,(MP x).1 ho,(Hs hl).1⟩
 ·rw[Xg hc]at h;exact absurd h hc
def rowVd:List AVal->AB->Prop×AVal:=s2 dKn dX (λk x=>FewD k.d/\FewL x) λk x=>eI (Ao k x)
def Tsc:Tab:=tadd 54 rowVd tnil
theorem Tsc_ok:AH Tryz.prog Tsc:=AH.tnil.add (q2 λk x h=>p54 k x h.1 h.2)
theorem Tsc_v (a:List AVal) (H:AB):Tsc 54 a H=s2 dKn dX (λk x=>FewD k.d/\FewL x) (λk x=>eI (Ao k x)) a H:=rfl
theorem p27 (k:Knd) (x:Lma) (trees:List (List Cas)) (hk:FewD k.d) (hx:FewL x) (htr:few trees) (ht:∀t∈trees,few t):Pur Tryz.prog 27 [BF k,encL x,BY trees] (CZ k x trees):=by
 have u1:dKn.ok (.agg (AE k))=True:=CX k
 have u2:dKn.dec (.agg (AE k))=k:=Bd k
 simp only[AE,AD,AK,Xl,Xo]at u1 u2
 have v1:dX.ok (.agg (AT x))=True:=GY x
 have v2:dX.dec (.agg (AT x))=x:=Dy x
 simp only[AT]at v1 v2
 refine .mk ⟨Ab 0 k,Ah 0 x,A9 0 trees,trivial⟩ ?_ (a27 (AF Tsc_ok (AG ?_)))
 ·unfold CZ
  split<;>exact⟨trivial,trivial,trivial⟩
 unfold CZ
 by_cases hv:Ao k x=0
 case neg=>simp only[eE,eC,eN,eX,reduceCtorEq,Nat.reduceEqDiff,↓reduceIte,Nat.reduceAdd,Nat.reduceLeDiff,Nat.reduceLT,Nat.reduceMod,Nat.reduceSub,Nat.reduceDiv,Xe,Bc,c27,AE,AD,AK,Tsc_v,s2,u1,u2,v1,v2,X1 hk,X1 hx,X9 hv];exact Wk.refl _
 have hvl:(AP k).length=k.d.syms.length:=by unfold AP;rw[X0]
 simp only[eE,eC,eN,reduceCtorEq,Nat.reduceEqDiff,↓reduceIte,Nat.reduceAdd,Nat.reduceLeDiff,X7,X0,c27,AE,AD,AK,Tsc_v,s2,u1,u2,v1,v2,X1 hk,X1 hx,X1 hv,AJ]
 rw[hv]
 have hck:Al k=0:=by
  unfold Ao at hv
  by_cases hc:Al k=0
  ·exact hc
  ·rw[Xg hc]at hv;exact absurd hv hc
 have hsy:=A7 hck
 generalize hHa:hset (hset _ 4 _) 5 (AObj.box _)=Ha
 have fa:AN Ha 7:=by
  rw[<-hHa]
  repeat' (first|exact AN.nil.hset (m:=7) (Xh _) (by decide)|refine AN.hset ?_ (Xb _) (by decide))
 have f0:hget Ha 0=some (.box (AE k)):=by rw[<-hHa];rfl
 have f1:hget Ha 1=some (.box (AT x)):=by rw[<-hHa];rfl
 have f2:hget Ha 2=some (.box [eTr trees]):=by rw[<-hHa];rfl
 have f3:hget Ha 3=some (.box [.bool false]):=by rw[<-hHa];rfl
 have f4:hget Ha 4=some (.box [.int .i64 0]):=by rw[<-hHa];rfl
 have f5:hget Ha 5=some (.box [.int .i64 0]):=by rw[<-hHa];rfl
 clear hHa
 have hls:x.ls.length<=1000:=by
  have ho:Hd x=true:=by
   unfold Ao at hv
   rw[Xc (by simpa using hck)]at hv
   unfold chk at hv
   split at hv
   ·assumption
   ·cases hv
  have:=((MP x).1 ho).ls.2.2.2
  omega
 refine(Gq (M:=k.d.syms.length) (n:=x.ls.length) fa).mono ?_
 rintro o H1 n1 ⟨rfl,rfl,rfl⟩
 simp only[eE,eN,Nat.reduceEqDiff,↓reduceIte,Nat.reduceAdd,retK,E4]
 intro l'
 generalize hHb:hset (hset (hset Ha 7 _) _ _) _ (AObj.lp _)=Hb
 have kb:∀i,i<7->hget Hb i=hget Ha i:=λi hi=>by
  rw[<-hHb,AA _ _ _ _ (by omega),AA _ _ _ _ (by omega),AA _ _ _ _ (by omega)]
 have e8:hget Hb 8=some (.box [.int .i64 x.ls.length]):=by rw[<-hHb,AA _ _ _ _ (by decide)];exact AC ..
 have e7:hget Hb 7=some (.box [.int .i64 (AP k).length]):=by rw[<-hHb,AA _ _ _ _ (by decide),AA _ _ _ _ (by decide),hvl];exact AC ..
 have hJ:CkJ k x trees l' (λi=>i=7\/i=8) [] Hb 11:=by
  refine⟨?_,Xb _,λi h=>by omega,(kb 0 (by decide)).trans f0,(kb 1 (by decide)).trans f1,(kb 2 (by decide)).trans f2,(kb 3 (by decide)).trans f3,(kb 4 (by decide)).trans f4,(kb 5 (by decide)).trans f5,by rw[<-hHb];exact AC ..,λi l h=>by simp at h⟩
  rw[<-hHb]
  exact((fa.hset (m:=11) (by decide) (by decide)).hset (Xb _) (by decide)).hset (Xb _) (by decide)
 have hgen:=VX (k:=k) (x:=x) (trees:=trees) (l':=l') (λletters hl=>Sf hk hx hv hl) htr ht
 have hM:(AP k).length<=1000:=by omega
 refine(Pm hgen hM hls hJ (λi h=>by omega) (.inr rfl) (.inl rfl) e8 e7).mono ?_
 rintro o H' m' ⟨rfl,⟨F',-,hF',hj⟩|⟨s3,s4,sL,hw⟩⟩
 ·obtain⟨fr,lm,nF,h0,h1,h2,h3,h4,h5,hL,ok⟩:=hj
  rw[Pu ok]
  generalize (chs (AP k).length x.ls.length).length=cl at h5
  simp only[eE,eN,reduceCtorEq,Nat.reduceEqDiff,↓reduceIte,Bc,X0,Ez,hL,h2,h3,h4,h5]
  rw[show decide ((cl:Int)=(trees.length:Int))=decide (cl=trees.length)from decide_eq_decide.2 (by omega)]
  exact Wk.refl _
 ·simp only[eE,eN,reduceCtorEq,Nat.reduceEqDiff,↓reduceIte,Bc,Ez,sL,s3,s4,hw]
  exact Wk.refl _
end Go.AM
namespace Go.AM
open Go.Proofs Go.Lib
def nms:List Bs:=[[97],[98],[99],[100]]
def lemS (q:Cnd) (nc nl:Nat):Lma:=⟨[120],1,nms.take nc,nms.take nl,[q],[],0,0⟩
theorem p107 (q:Cnd) (nc nl:Nat) (h1:nc<=4) (h2:nl<=4):Pur Tryz.prog 107 [encQ q,.int .i64 nc,.int .i64 nl] (encL (lemS q nc nl)):=by
 refine .mk ⟨Ej 0 q,trivial,trivial,trivial⟩ (Ah 0 _) (a107 (AF AH.tnil (AG ?_)))
 have w1:((nc:Int)<=4)=True:=X1 (by omega)
 have w2:((nl:Int)<=4)=True:=X1 (by omega)
 simp only[eE,eN,reduceCtorEq,Nat.reduceEqDiff,↓reduceIte,Nat.reduceAdd,Nat.reduceLeDiff,Nat.reduceMul,Nat.reduceLT,Bc,XW,XP,X3,X4,c107,w1,w2,c4n]
 have hn:∀(b:Bool) (m:Nat),Wk (.sl (if b=true then Tok.exact 1 else Tok.none 1) (List.take m [.str [97],.str [98],.str [99],.str [100]])) (.sl (.none 1) ((nms.take m).map .str)):=λb m=>by
  rw[List.map_take]
  exact Wk.sl (.inl (by cases b<;>rfl))
 have hn':∀(p:Prop) [Decidable p] (m:Nat),Wk (.sl (if p then Tok.exact 1 else Tok.none 1) (List.take m [.str [97],.str [98],.str [99],.str [100]])) (.sl (.none 1) ((nms.take m).map .str)):=λp _ m=>by
  have:=hn (decide p) m
  simpa only[Xf]using this
 exact Wk.agg (.cons (Wk.refl _) (.cons (Wk.refl _) (.cons (hn' _ _) (.cons (hn' _ _) (.cons (Wk.sl (.inl rfl)) (.cons (Wk.sl (.inr rfl)) (.cons (Wk.refl _) (.cons (Wk.refl _) .nil))))))))
theorem p106 (s m:Int):Pur Tryz.prog 106 [eI s,.ep [.int .i64 m]] (.bool (decide (s< -1)||decide (m<=s))):=by
 refine .mk ⟨trivial,⟨trivial,trivial⟩,trivial⟩ trivial (a106 (AF AH.tnil (AG ?_)))
 by_cases h:s< -1
 ·simp only[eE,eC,eN,reduceCtorEq,Nat.reduceEqDiff,↓reduceIte,Nat.reduceAdd,X7,c106,X1 h]
 ·simp only[eE,eC,eN,reduceCtorEq,Nat.reduceEqDiff,↓reduceIte,Nat.reduceAdd,c106,X9 h]
def fIx (l:List Int) (p:Int->Bool):Int:=match l.findIdx? p with
 |some i=>i
 |none=>-1
theorem VY (l:List Int) (p:Int->Bool):decide (0<=fIx l p)=l.any p:=by
 unfold fIx
 cases h:l.findIdx? p with
 |none=>
  rw[Yd]at h
  rw[show l.any p=false from by rw[Z3];intro x hx;rw[h x hx];decide];rfl
 |some i=>
  obtain⟨hi,h1,-⟩:=XK.1 h
  rw[show l.any p=true from YZ.2 ⟨_,Xk hi,h1⟩]
  simp
theorem p_ixfI {g:FuncId} {cap:List AVal} {p:Int->Bool} (l:List Int) (hl:few l) (hcap:unders 0 cap) (hq:∀x,x∈l->Pur Tryz.prog g (eI x::cap) (.bool (p x))):
  Pur Tryz.prog 154 [eIs l,.fn (.func g) [] cap] (.int .i64 (fIx l p)):=by
 have hT:AH Tryz.prog (tadd g (rowS cap (λx=>x∈l) λx=>.bool (p x)) tnil):=AH.tnil.add (VN hq)
 have hTe:∀a H,tadd g (rowS cap (λx=>x∈l) λx=>.bool (p x)) tnil g a H=rowS cap (λx=>x∈l) (λx=>.bool (p x)) a H:=λa H=>by unfold tadd;rw[Xg rfl]
 generalize tadd g (rowS cap (λx=>x∈l) λx=>.bool (p x)) tnil=T at hT hTe
 refine .mk ⟨AW 0 _,⟨trivial,hcap⟩,trivial⟩ trivial (a154 (AF hT (AG ?_)))
 have hll:l.length<1000000000:=hl
 simp only[eE,eN,reduceCtorEq,Nat.reduceEqDiff,↓reduceIte,Nat.reduceAdd,X0,c154]
 refine AU (λi:Nat=>⟨[(0,true,eIs l),(1,true,.fn (.func g) [] cap),(7,true,.int .i64 l.length),(8,true,.int .i64 i)],hnil,0⟩) (λi=>i<=l.length/\∀(j:Nat) x,j<i->l[j]?=some x->p x=false) (λi=>l.length-i) 0 rfl ⟨Xh _,λj x h=>by omega⟩ ?_
 rintro i ⟨hi,he⟩
 by_cases hlt:i<l.length
 case neg=>
  obtain rfl:i=l.length:=by omega
  have:fIx l p= -1:=by
   unfold fIx
   rw[Yd.2 λx hx=>by
    obtain⟨j,hj,rfl⟩:=Xx.1 hx
    exact he j _ hj (X5 hj)]
  rw[this]
  simp only[eE,eC,eN,reduceCtorEq,Nat.reduceEqDiff,↓reduceIte,lt_F hlt]
 have hg:=X5 hlt
 have hm:=Xk hlt
 have e:=AL (k:=i) (by omega)
 have hfx:p l[i]=true->fIx l p=(i:Int):=λhp=>by
  unfold fIx
  rw[XK.2 ⟨hlt,hp,λj hj=>by
   have:=he j _ hj (X5 (by omega))
   rw[this];decide⟩]
 generalize l[i]=x at hg hm hfx
 cases hp:p x with
 |true=>
  rw[hfx hp]
  simp only[eE,eC,eN,reduceCtorEq,Nat.reduceEqDiff,↓reduceIte,X2,X3,X4,X0,X6,lt_T hlt,hg,hTe,rowS,X1 hm,hp]
 |false=>
  simp only[eE,eC,eN,reduceCtorEq,Nat.reduceEqDiff,↓reduceIte,Int.reduceEq,X2,X3,X4,X0,X6,lt_T hlt,hg,hTe,rowS,X1 hm,hp,e]
  refine .mk (i+1) rfl ⟨hlt,λj y hj hy=>?_⟩ (by omega)
  by_cases q:j<i
  ·exact he j y q hy
  ·obtain rfl:j=i:=by omega
   rw[hg]at hy;cases hy;exact hp
theorem p_cfI {g:FuncId} {cap:List AVal} {p:Int->Bool} (l:List Int) (hl:few l) (hcap:unders 0 cap) (hq:∀x,x∈l->Pur Tryz.prog g (eI x::cap) (.bool (p x))):
  Pur Tryz.prog 103 [eIs l,.fn (.func g) [] cap] (.bool (l.any p)):=by
 have hp:=p_ixfI l hl hcap hq
 refine .mk ⟨AW 0 _,⟨trivial,hcap⟩,trivial⟩ trivial (a103 (AF (T:=tadd 154 (rowX [eIs l,.fn (.func g) [] cap] (λ_=>True) (.int .i64 (fIx l p))) tnil) (AH.tnil.add (Hy λH n _=>hp.quiet H n)) (AG ?_)))
 have hTe:∀a H,tadd 154 (rowX [eIs l,.fn (.func g) [] cap] (λ_=>True) (.int .i64 (fIx l p))) tnil 154 a H=rowX [eIs l,.fn (.func g) [] cap] (λ_=>True) (.int .i64 (fIx l p)) a H:=λa H=>by unfold tadd;rw[Xg rfl]
 simp only[eE,eN,reduceCtorEq,Nat.reduceEqDiff,↓reduceIte,Nat.reduceAdd,c103,rowX]
 rw[VY]
end Go.AM
namespace Go.AM
open Go.Proofs Go.Lib
theorem Sg (q:Cnd) {nc nl:Nat} (h1:1<=nc/\nc<=4) (h2:1<=nl/\nl<=3):Hd (lemS q nc nl)=CR q nc nl:=by
 have e1:CH [120]=true:=by decide
 have e2:CH [97]=true:=by decide
 have e3:CH [98]=true:=by decide
 have e4:CH [99]=true:=by decide
 have e5:CH [100]=true:=by decide
 have a:nc=1\/nc=2\/nc=3\/nc=4:=by omega
 have b:nl=1\/nl=2\/nl=3:=by omega
 rcases a with rfl|rfl|rfl|rfl<;>rcases b with rfl|rfl|rfl<;>simp [Hd,lemS,CW,difI,Av,nms,e1,e2,e3,e4,e5]
theorem Em {α:Type} [DecidableEq α]:∀{l:List α},l.Nodup->Av l=true
 |[],_=>rfl
 |x::r,h=>by
  obtain⟨h1,h2⟩:=YP.1 h
  rw[Av,Em h2,Bool.and_true,Yb,Z3]
  intro y hy
  simp only[Xf]
  rintro rfl
  exact h1 hy
theorem D6 {l:List Int} {n:Nat}:difI l n=true↔(∀c∈l,0<=c/\c<(n:Int))/\l.Nodup:=by
 unfold difI
 rw[X8,Xi]
 constructor
 ·rintro⟨h1,h2⟩
  exact⟨λc hc=>by simpa using h1 c hc,DB h2⟩
 ·rintro⟨h1,h2⟩
  exact⟨λc hc=>by simpa using h1 c hc,Em h2⟩
def IT (k:Knd) (q:Cnd) (letters cells:List Int):AVal:=
 if Al k≠0 then .tup [.bool false,.int .i64 (Al k)]
 else if letters.length<1\/3<letters.length\/cells.length<1\/4<cells.length then .tup [.bool false,.int .i64 1]
 else if difI letters k.d.syms.length=false then .tup [.bool false,.int .i64 1]
 else if(cells.any λs=>decide (s< -1)||decide ((k.d.syms.length:Int)<=s))=true then .tup [.bool false,.int .i64 1]
 else if CR q cells.length letters.length=false then .tup [.bool false,.int .i64 300]
 else .tup [.bool (Fd (AP k) q letters cells),.int .i64 0]
def LY:List AVal->AB->Prop×AVal:=λa H=>match a with
 |[Q,.int .i64 nc,.int .i64 nl]=>(dQ.ok Q/\(0<=nc/\nc<=4)/\0<=nl/\nl<=4,encL (lemS (dQ.dec Q) nc.toNat nl.toNat))
 |_=>(False,.tup [])
theorem rowLeq:∀args H n,(LY args H).1->Aa Tryz.prog 107 args H n (LY args H).2:=by
 intro args H m hh
 unfold LY at hh⊢
 split at hh
 ·rename_i Q nc nl
  obtain⟨h1,h2,h3⟩:=hh
  obtain⟨a,rfl⟩:=YW h2.1
  obtain⟨b,rfl⟩:=YW h3.1
  refine AO.args ((p107 (dQ.dec Q) a b (by omega) (by omega)).quiet H m) ?_
  rintro g vs ⟨v,r,rfl,k1,k2⟩
  exact⟨v,_,rfl,dQ.wk _ h1 _ _ k1,k2⟩
 ·exact hh.elim
def KG (m:Int):List AVal->AB->Prop×AVal:=λa H=>match a with
 |[.sl t L,.fn (.func g) [] [.ptr q 0]]=>(g=106/\hget H q=some (.box [.int .i64 m])/\dIs.ok (.sl t L)/\few (L.map toI),.bool ((L.map toI).any λs=>decide (s< -1)||decide (m<=s)))
 |_=>(False,.tup [])
theorem rowCfq (m:Int):∀args H n,(KG m args H).1->Aa Tryz.prog 103 args H n (KG m args H).2:=by
 intro args H n hh
 unfold KG at hh⊢
 split at hh
 ·obtain⟨rfl,h1,h2,h3⟩:=hh
  exact(p_cfI _ h3 ⟨⟨trivial,trivial⟩,trivial⟩ (p:=λs=>decide (s< -1)||decide (m<=s)) (cap:=[.ep [.int .i64 m]]) λx _=>p106 x m).view trivial (.cons (.wk (dIs.wk _ h2)) (.cons (.fn .nil (.cons (View.ptr (off:=0) h1) .nil)) .nil)) n
 ·exact hh.elim
def Tcw (k:Knd):Tab:=tadd 50 (s1 dKn (λk=>FewD k.d) λk=>.int .i64 (Al k)) (tadd 42 (s1 dX FewL λx=>eI (chk x)) (tadd 107 LY (tadd 103 (KG k.d.syms.length) (tadd 91 (FH k) (tadd 73 BP tnil)))))
theorem Tcw_ok (k:Knd):AH Tryz.prog (Tcw k):=(((((AH.tnil.add JH).add (Po k)).add (rowCfq _)).add rowLeq).add (q1 λx h=>p42 x h)).add (q1 λk h=>p50 k h)
theorem N5 (k:Knd) (a:List AVal) (H:AB):Tcw k 50 a H=s1 dKn (λk=>FewD k.d) (λk=>.int .i64 (Al k)) a H:=rfl
theorem Tcw_m (k:Knd) (a:List AVal) (H:AB):Tcw k 42 a H=s1 dX FewL (λx=>eI (chk x)) a H:=rfl
theorem Tcw_l (k:Knd) (a:List AVal) (H:AB):Tcw k 107 a H=LY a H:=rfl
theorem VZ (k:Knd) (a:List AVal) (H:AB):Tcw k 103 a H=KG k.d.syms.length a H:=rfl
theorem Tcw_c (k:Knd) (a:List AVal) (H:AB):Tcw k 91 a H=FH k a H:=rfl
theorem Tcw_h (k:Knd) (a:List AVal) (H:AB):Tcw k 73 a H=BP a H:=rfl
theorem p72 (k:Knd) (q:Cnd) (letters cells:List Int) (hk:FewD k.d) (hq:few q.cs/\few q.ls) (hl:few letters) (hc:few cells):Pur Tryz.prog 72 [BF k,encQ q,eIs letters,eIs cells] (IT k q letters cells):=by
 have u1:dKn.ok (.agg (AE k))=True:=CX k
 have u2:dKn.dec (.agg (AE k))=k:=Bd k
 simp only[AE,AD,AK,Xl,Xo]at u1 u2
 have v1:dQ.ok (.agg [.int .i64 q.k,eIs q.cs,eIs q.ls,.int .i64 q.n])=True:=T9 q
 have v2:dQ.dec (.agg [.int .i64 q.k,eIs q.cs,eIs q.ls,.int .i64 q.n])=q:=Nm q
 have hll:letters.length<1000000000:=hl
 have hcl:cells.length<1000000000:=hc
 refine .mk ⟨Ab 0 k,Ej 0 q,AW 0 _,AW 0 _,trivial⟩ ?_ (a72 (AF (Tcw_ok k) (AG ?_)))
 ·unfold IT
  repeat' split
  all_goals exact⟨trivial,trivial,trivial⟩
 unfold IT
 by_cases h0:Al k=0
 case neg=>
  simp only[eE,eC,eN,reduceCtorEq,Nat.reduceEqDiff,↓reduceIte,Nat.reduceAdd,Xe,c72,AE,AD,AK,N5,s1,u1,u2,X1 hk,X9 h0]
  exact Wk.refl _
 by_cases b1:(letters.length:Int)<1
 ·simp only[eE,eC,eN,reduceCtorEq,Nat.reduceEqDiff,↓reduceIte,Nat.reduceAdd,Nat.reduceLeDiff,X7,X0,c72,AE,AD,AK,N5,s1,u1,u2,X1 hk,X1 h0,X1 b1]
  rw[Xg (by omega)];exact Wk.refl _
 by_cases b2:(3:Int)<letters.length
 ·simp only[eE,eC,eN,reduceCtorEq,Nat.reduceEqDiff,↓reduceIte,Nat.reduceAdd,Nat.reduceLeDiff,X7,X0,c72,AE,AD,AK,N5,s1,u1,u2,X1 hk,X1 h0,X9 b1,X1 b2]
  rw[Xg (by omega)];exact Wk.refl _
 by_cases b3:(cells.length:Int)<1
 ·simp only[eE,eC,eN,reduceCtorEq,Nat.reduceEqDiff,↓reduceIte,Nat.reduceAdd,Nat.reduceLeDiff,X7,X0,c72,AE,AD,AK,N5,s1,u1,u2,X1 hk,X1 h0,X9 b1,X9 b2,X1 b3]
  rw[Xg (by omega)];exact Wk.refl _
 by_cases b4:(4:Int)<cells.length
 ·simp only[eE,eC,eN,reduceCtorEq,Nat.reduceEqDiff,↓reduceIte,Nat.reduceAdd,Nat.reduceLeDiff,X7,X0,c72,AE,AD,AK,N5,s1,u1,u2,X1 hk,X1 h0,X9 b1,X9 b2,X9 b3,X1 b4]
  rw[Xg (by omega)];exact Wk.refl _
 rw[Xc (by simpa using h0),Xc (by omega)]
 simp only[eE,eC,eN,reduceCtorEq,Nat.reduceEqDiff,↓reduceIte,Nat.reduceAdd,Nat.reduceLeDiff,X7,X0,c72,AE,AD,AK,N5,s1,u1,u2,X1 hk,X1 h0,X9 b1,X9 b2,X9 b3,X9 b4,AJ]
 generalize hHa:hset (hset (hset hnil 0 _) 1 _) _ (AObj.box _)=Ha
 have f0:hget Ha 0=some (.box (AE k)):=by rw[<-hHa];rfl
 have f1:hget Ha 1=some (.box [.int .i64 q.k,eIs q.cs,eIs q.ls,.int .i64 q.n]):=by rw[<-hHa];rfl
 have f8:hget Ha 8=some (.box [.int .i64 k.d.syms.length]):=by rw[<-hHa];rfl
 clear hHa
 simp only[AE,AD,AK,Xl,Xo]at f0
 refine AU (λi:Nat=>⟨[(2,true,eIs letters),(3,true,eIs cells),(4,true,.ptr 0 0),(5,true,.ptr 1 0),(10,true,.ptr 8 0),(40,true,eIs letters),(41,true,.int .i64 letters.length),(42,true,.int .i64 i)],Ha,10⟩) (λi=>i<=letters.length/\difI (letters.take i) k.d.syms.length=true) (λi=>letters.length-i) 0 rfl ⟨Xh _,rfl⟩ ?_
 rintro i ⟨hi,he⟩
 by_cases hlt:i<letters.length
 ·have hg:=X5 hlt
  have e:=AL (k:=i) (by omega)
  have htake:letters.take (i+1)=letters.take i++[letters[i]]:=by rw[Y2,hg];rfl
  have hmem:=Xk hlt
  have hrng:∀s,s∈letters->¬(0<=s/\s<(k.d.syms.length:Int))->difI letters k.d.syms.length=false:=λs hs hm=>by
   rw[Zp]
   intro hd
   exact hm ((D6.1 hd).1 s hs)
  generalize letters[i]=s at hg htake hmem
  have hb':s∈letters.take i->difI letters k.d.syms.length=false:=λhm=>by
   rw[Zp]
   intro hd
   have hn:=(List.take_sublist (i+1) letters).nodup (D6.1 hd).2
   rw[htake,YH]at hn
   exact hn.2.2 s hm s (by simp) rfl
  have hr':=hrng s hmem
  by_cases s0:s<0
  ·rw[Xg (hr' (by omega))]
   simp only[eE,eC,eN,reduceCtorEq,Nat.reduceEqDiff,↓reduceIte,X7,X2,XW,XP,X3,X4,X0,X6,lt_T hlt,hg,f8,X1 s0]
   exact Wk.refl _
  by_cases s1':(k.d.syms.length:Int)<=s
  ·rw[Xg (hr' (by omega))]
   simp only[eE,eC,eN,reduceCtorEq,Nat.reduceEqDiff,↓reduceIte,X7,X2,XW,XP,X3,X4,X0,X6,lt_T hlt,hg,f8,X9 s0,X1 s1']
   exact Wk.refl _
  have hRL:RdI Ha (.sl (.none 1) ((letters.take i).map eI)) (letters.take i):=.inl ⟨_,rfl,.inl rfl⟩
  have r1:=Gp hRL
  have htf:few (letters.take i):=by show(letters.take i).length<_;rw[Xv];omega
  have hile:((i:Int)<=(letters.length:Int))=True:=X1 (by omega)
  have hmt:List.take i (letters.map eI)=(letters.take i).map eI:=List.map_take.symm
  cases hct:(letters.take i).contains s with
  |true=>
   rw[Xg (hb' (Yi.1 hct))]
   simp only[eE,eC,eN,reduceCtorEq,Nat.reduceEqDiff,↓reduceIte,X2,XW,XP,X3,X4,X0,X6,lt_T hlt,hg,f8,X9 s0,X9 s1',hile,hmt,Tcw_h,BP,r1,X1 hRL,X1 htf,hct]
   exact Wk.refl _
  |false=>
   simp only[eE,eC,eN,reduceCtorEq,Nat.reduceEqDiff,↓reduceIte,Int.reduceEq,X2,XW,XP,X3,X4,X0,X6,lt_T hlt,hg,f8,X9 s0,X9 s1',hile,hmt,Tcw_h,BP,r1,X1 hRL,X1 htf,hct,e]
   refine .mk (i+1) rfl ⟨hlt,?_⟩ (by omega)
   obtain⟨d1,d2⟩:=D6.1 he
   have hnm:¬s∈letters.take i:=λhm=>by rw[Yi.2 hm]at hct;cases hct
   rw[htake]
   refine D6.2 ⟨λc hc=>?_,YH.2 ⟨d2,by simp,λa ha b hb e=>?_⟩⟩
   ·rcases Y6.1 hc with q|q
    ·exact d1 c q
    ·rw[Xy.1 q];omega
   ·rw[Xy.1 hb]at e
    exact hnm (e▸ha)
 obtain rfl:i=letters.length:=by omega
 rw[XY]at he
 rw[Xc (by rw[he];decide)]
 have k1:dIs.ok (eIs cells)=True:=Ax cells
 have k2:dIs.ok (eIs letters)=True:=Ax letters
 cases hany:(cells.any λs=>decide (s< -1)||decide ((k.d.syms.length:Int)<=s))with
 |true=>
  rw[Xg rfl]
  simp only[eE,eC,eN,Nat.reduceEqDiff,↓reduceIte,lt_F hlt,f8,VZ,KG,k1,As,X1 hc,hany]
  exact Wk.refl _
 |false=>
 rw[Xc (by decide)]
 have x1:dX.ok (encL (lemS q cells.length letters.length))=True:=GY _
 have x2:dX.dec (encL (lemS q cells.length letters.length))=lemS q cells.length letters.length:=Dy _
 have x3:FewL (lemS q cells.length letters.length):=by
  have t4:∀m,few (nms.take m):=λm=>by show(nms.take m).length<_;rw[Xv];exact Nat.lt_of_le_of_lt (Nat.min_le_right ..) (by decide)
  exact⟨t4 _,t4 _,by show(1:Nat)<_;decide,by show(0:Nat)<_;decide,λp hp=>by rw[Xy.1 hp];exact hq,λp hp=>by cases hp⟩
 have x4:=Sg q (nc:=cells.length) (nl:=letters.length) (by omega) (by omega)
 have w1:((cells.length:Int)<=4)=True:=X1 (by omega)
 have w2:((letters.length:Int)<=4)=True:=X1 (by omega)
 cases hco:CR q cells.length letters.length with
 |false=>
  have x5:chk (lemS q cells.length letters.length)=300:=by unfold chk;rw[x4,hco];rfl
  rw[Xg rfl]
  simp only[eE,eC,eN,Nat.reduceEqDiff,↓reduceIte,Nat.reduceAdd,Int.reduceEq,Xe,X3,X4,X0,lt_F hlt,f1,f8,VZ,KG,k1,As,X1 hc,hany,Tcw_l,LY,v1,v2,w1,w2,Tcw_m,s1,x1,x2,X1 x3,x5]
  exact Wk.refl _
 |true=>
  have x5:chk (lemS q cells.length letters.length)=0:=by unfold chk;rw[x4,hco];rfl
  rw[Xc (by decide)]
  have hRC:RdI Ha (eIs cells) cells:=.inl ⟨_,rfl,.inl rfl⟩
  have r1:=Gp hRC
  have hC:ClOK k q letters cells:=by
   have h1:=RO hco
   have hsy:=A7 h0
   refine⟨by rcases h1.kind with h|h|h|h|h<;>omega,?_,hq.1,λc hcc=>?_,hq.2,λc hcc=>?_,λs hs hs0=>?_,IS h0⟩
   ·have:=Pn h1.cs
    rcases h1.kind with h|h|h|h|h<;>omega
   ·have:=Xi.1 (Dk h1.cs) c hcc
    simpa only[X8,Xf]using this
   ·have:=Xi.1 (Dk h1.ls) c hcc
    simpa only[X8,Xf]using this
   ·have:=Z3.1 hany s hs
    simp only[Xp,Xf,not_or]at this
    exact⟨hs0,by omega⟩
  simp only[eE,eC,eN,Nat.reduceEqDiff,↓reduceIte,Nat.reduceAdd,X7,X3,X4,X0,lt_F hlt,f0,f1,f8,VZ,KG,k1,k2,u1,u2,As,X1 hc,hany,Tcw_l,LY,v1,v2,w1,w2,Tcw_m,s1,x1,x2,X1 x3,x5,Tcw_c,FH,r1,X1 hRC,X1 hC]
  exact Wk.refl _
end Go.AM
namespace Go.AM
open Go.Proofs Go.Lib
structure HoC (k:Knd) (x:Lma) (letters:List Int) (d1 d2 d3 d4 d5 rp id cap:Nat) (H:AB):Prop where
 h1:hget H d1=some (.box (AT x))
 h2:hget H d2=some (.box [.ptr rp 0])
 h3:hget H d3=some (.box [.ref id 1 0 x.cs.length cap])
 h4:hget H d4=some (.box [.fn (.func 56) [] [.ptr d1 0,.ptr d2 0,.ptr d3 0,.ptr d4 0,.ptr d5 0]])
 h5:hget H d5=some (.box (AE k))
 hr:RdAt H rp k x letters
theorem Pv {vals:List Int} {x:Lma} {letters cells:List Int}:A8 vals x letters cells=true↔∀i:Nat,i<x.qs.length+x.ps.length->A0 vals x letters cells (i:Int)=false:=by
 unfold A8
 rw[Xi]
 have hl:(D4 vals x letters cells).length=x.qs.length+x.ps.length:=by unfold D4;simp
 constructor
 ·intro h i hi
  unfold A0
  rw[Xc (by omega),X3,X5 (by omega),X2]
  have:=h _ (Xk (l:=D4 vals x letters cells) (n:=i) (by omega))
  simpa using this
 ·intro h b hb
  obtain⟨i,hi,rfl⟩:=Xx.1 hb
  have:=h i (by omega)
  unfold A0 at this
  rw[Xc (by omega),X3,X5 hi,X2]at this
  rw[this];rfl
structure VHo where
 s:Nat
 cur:Int
 H:AB
 n:Nat
structure IHo (k:Knd) (x:Lma) (letters cells rest:List Int) (id i j m n0:Nat) (H0:AB) (v:VHo):Prop where
 hs:v.s<=m
 fr:AN v.H v.n
 hn:n0<=v.n
 kp:CN id n0 H0 v.H
 ho:hget v.H id=some (.arr 1 ((cells.set i v.cur++rest).map eI))
 no:∀b:Nat,b<v.s->tryP (AP k) x letters j (i+1) (cells.set i (b:Int))=false
end Go.AM
namespace Go.AM
open Go.Proofs Go.Lib
abbrev eTe:List (Nat×Bool×AVal):=[(2,true,.ptr 0 0),(3,true,.ptr 1 0),(4,true,.ptr 2 0),(5,true,.ptr 3 0),(23,true,clC 5 4)]
noncomputable abbrev lpTe (l':Nat) (st:LoopState) (pend:Option Code):AObj:=.lp ⟨l',st,pend,47,eTe, #[24],ra26_0,rb26_0⟩
structure TeJ (k:Knd) (x:Lma) (l':Nat) (F:Nat->Prop) (D:List (List Int)) (H:AB) (m:Nat):Prop where
 fr:AN H m
 lm:8<=m
 nF:∀i,F i->i=4\/i=5\/8<=i
 h0:hget H 0=some (.box (AE k))
 h1:hget H 1=some (.box (AT x))
 h2:hget H 2=some (.box [.bool false])
 h3:hget H 3=some (.box [.int .i64 0])
 hL:hget H 7=some (lpTe l' .ready none)
 ok:∀l∈D,tryP (AP k) x l x.cs.length 0 (begC x l)=false
end Go.AM
namespace Go.AM
open Go.Proofs Go.Lib
abbrev Ac (k:Knd) (x:Lma) (letters:List Int):List AVal:=AE k++(AT x++[eIs letters])
abbrev H8 (k:Knd) (x:Lma) (letters:List Int):AVal:=.agg (Ac k x letters)
theorem Ca (n:Nat) (k:Knd) (x:Lma) (letters:List Int):unders n (Ac k x letters):=by
 have h1:unders n (AE k):=Ab n k
 have h2:unders n (AT x):=Ah n x
 have app:∀{a b:List AVal},unders n a->unders n b->unders n (a++b):=λ{a b} ha hb=>by
  induction a with
  |nil=>exact hb
  |cons c a ih=>exact⟨ha.1,ih ha.2⟩
 exact app h1 (app h2 ⟨AW n _,trivial⟩)
def dM:Dc Prm:=dEx encM decM
theorem dM_ok (p:Prm):dM.ok (encM p)=True:=X1 (by show encM p=encM (decM (encM p));rw[Jz])
theorem dM_dec (p:Prm):dM.dec (encM p)=p:=Jz p
theorem p102 (p:Prm) (c:Int):Pur Tryz.prog 102 [encM p,.ep [.int .i64 c]] (.bool (decide (p.c=c))):=by
 refine .mk ⟨Fy 0 p,⟨⟨trivial,trivial⟩,trivial⟩⟩ trivial (a102 (AF AH.tnil (AG ?_)))
 simp only[eE,eN,reduceCtorEq,Nat.reduceEqDiff,↓reduceIte,Nat.reduceAdd,Nat.reduceLeDiff,c102]
theorem p104 (k:Knd) (x:Lma) (letters:List Int) (n s:Int) (h:0<=n/\n<(letters.length:Int)):Pur Tryz.prog 104 [eI n,.ep (Ac k x letters),.ep [.int .i64 s]] (.bool (decide (at0 letters n=s))):=by
 refine .mk ⟨trivial,Ca 0 k x letters,⟨⟨trivial,trivial⟩,trivial⟩⟩ trivial (a104 (AF AH.tnil (AG ?_)))
 have hg:=A5 h.1 h.2
 simp only[eE,eN,reduceCtorEq,Nat.reduceEqDiff,↓reduceIte,Nat.reduceAdd,X2,X0,X6,c104,Ac,AE,AD,AK,AT,X1 h.1,X1 h.2,hg]
def fIxA {α:Type} (l:List α) (p:α->Bool):Int:=match l.findIdx? p with
 |some i=>i
 |none=>-1
def rowM (cap:List AVal) (ok:Prm->Prop) (f:Prm->AVal):List AVal->AB->Prop×AVal:=λa _=>match a with
 |M::c=>(c=cap/\dM.ok M/\ok (dM.dec M),f (dM.dec M))
 |_=>(False,.tup [])
theorem rowMq {fid:FuncId} {cap:List AVal} {ok:Prm->Prop} {f:Prm->AVal} (h:∀x,ok x->Pur Tryz.prog fid (encM x::cap) (f x)):∀args H n,(rowM cap ok f args H).1->Aa Tryz.prog fid args H n (rowM cap ok f args H).2:=by
 intro args H n hh
 unfold rowM at hh⊢
 split at hh
 ·obtain⟨rfl,h1,h2⟩:=hh
  refine AO.args ((h _ h2).quiet H n) ?_
  rintro g vs ⟨v,r,rfl,k1,k2⟩
  exact⟨v,_,rfl,dM.wk _ h1 _ _ k1,k2⟩
 ·exact hh.elim
theorem p_ixfP {g:FuncId} {cap:List AVal} {p:Prm->Bool} (l:List Prm) (hl:few l) (hcap:unders 0 cap) (hq:∀x,x∈l->Pur Tryz.prog g (encM x::cap) (.bool (p x))):
  Pur Tryz.prog 101 [.sl (.none 2) (l.map encM),.fn (.func g) [] cap] (.int .i64 (fIxA l p)):=by
 have hT:AH Tryz.prog (tadd g (rowM cap (λx=>x∈l) λx=>.bool (p x)) tnil):=AH.tnil.add (rowMq hq)
 have hTe:∀a H,tadd g (rowM cap (λx=>x∈l) λx=>.bool (p x)) tnil g a H=rowM cap (λx=>x∈l) (λx=>.bool (p x)) a H:=λa H=>by unfold tadd;rw[Xg rfl]
 generalize tadd g (rowM cap (λx=>x∈l) λx=>.bool (p x)) tnil=T at hT hTe
 refine .mk ⟨⟨trivial,AY (Fy 0) _⟩,⟨trivial,hcap⟩,trivial⟩ trivial (a101 (AF hT (AG ?_)))
 have hll:l.length<1000000000:=hl
 simp only[eE,eN,reduceCtorEq,Nat.reduceEqDiff,↓reduceIte,Nat.reduceAdd,X0,c101]
 refine AU (λi:Nat=>⟨[(0,true,.sl (.none 2) (l.map encM)),(1,true,.fn (.func g) [] cap),(7,true,.int .i64 l.length),(8,true,.int .i64 i)],hnil,0⟩) (λi=>i<=l.length/\∀(j:Nat) x,j<i->l[j]?=some x->p x=false) (λi=>l.length-i) 0 rfl ⟨Xh _,λj x h=>by omega⟩ ?_
 rintro i ⟨hi,he⟩
 by_cases hlt:i<l.length
 case neg=>
  obtain rfl:i=l.length:=by omega
  have:fIxA l p= -1:=by
   unfold fIxA
   rw[Yd.2 λx hx=>by
    obtain⟨j,hj,rfl⟩:=Xx.1 hx
    exact he j _ hj (X5 hj)]
  rw[this]
  simp only[eE,eC,eN,reduceCtorEq,Nat.reduceEqDiff,↓reduceIte,lt_F hlt]
 have hg:=X5 hlt
 have hm:=Xk hlt
 have e:=AL (k:=i) (by omega)
 have hfx:p l[i]=true->fIxA l p=(i:Int):=λhp=>by
  unfold fIxA
  rw[XK.2 ⟨hlt,hp,λj hj=>by
   have:=he j _ hj (X5 (by omega))
   rw[this];decide⟩]
 generalize l[i]=x at hg hm hfx
 have m1:dM.ok (.agg [.int .i64 x.c,eIs x.ls])=True:=dM_ok x
 have m2:dM.dec (.agg [.int .i64 x.c,eIs x.ls])=x:=dM_dec x
 cases hp:p x with
 |true=>
  rw[hfx hp]
  simp only[eE,eC,eN,reduceCtorEq,Nat.reduceEqDiff,↓reduceIte,Nat.reduceAdd,X2,X3,X4,X0,X6,lt_T hlt,hg,hTe,rowM,m1,m2,X1 hm,hp]
 |false=>
  simp only[eE,eC,eN,reduceCtorEq,Nat.reduceEqDiff,↓reduceIte,Nat.reduceAdd,Int.reduceEq,X2,X3,X4,X0,X6,lt_T hlt,hg,hTe,rowM,m1,m2,X1 hm,hp,e]
  refine .mk (i+1) rfl ⟨hlt,λj y hj hy=>?_⟩ (by omega)
  by_cases q:j<i
  ·exact he j y q hy
  ·obtain rfl:j=i:=by omega
   rw[hg]at hy;cases hy;exact hp
def getI (H:AB) (r:Nat):Int:=match hget H r with
 |some (.box [.int .i64 s])=>s
 |_=>0
theorem UX {H:AB} {r:Nat} {s:Int} (h:hget H r=some (.box [.int .i64 s])):getI H r=s:=by unfold getI;rw[h]
def N6 (x:Lma):List AVal->AB->Prop×AVal:=λa H=>match a with
 |[P,.fn (.func g) [] [.ptr r 0]]=>(P= .sl (.none 2) (x.ps.map encM)/\g=102/\hget H r=some (.box [.int .i64 (getI H r)]),.int .i64 (fIxA x.ps λp=>decide (p.c=getI H r)))
 |_=>(False,.tup [])
theorem rowIpq {x:Lma} (h:few x.ps):∀args H n,(N6 x args H).1->Aa Tryz.prog 101 args H n (N6 x args H).2:=by
 intro args H n hh
 unfold N6 at hh⊢
 split at hh
 ·rename_i P g r
  obtain⟨rfl,rfl,h2⟩:=hh
  generalize getI H r=s at h2⊢
  exact(p_ixfP _ h ⟨⟨trivial,trivial⟩,trivial⟩ (p:=λp=>decide (p.c=s)) (cap:=[.ep [.int .i64 s]]) λp _=>p102 p s).view trivial (.cons (.wk (Wk.refl _)) (.cons (.fn .nil (.cons (View.ptr (off:=0) h2) .nil)) .nil)) n
 ·exact hh.elim
def LZ (k:Knd) (x:Lma) (letters:List Int):List AVal->AB->Prop×AVal:=λa H=>match a with
 |[.sl t L,.fn (.func g) [] [.ptr q 0,.ptr r 0]]=>(g=104/\hget H q=some (.box (Ac k x letters))/\hget H r=some (.box [.int .i64 (getI H r)])/\dIs.ok (.sl t L)/\few (L.map toI)/\∀n∈L.map toI,0<=n/\n<(letters.length:Int),.bool ((L.map toI).any λn=>decide (at0 letters n=getI H r)))
 |_=>(False,.tup [])
theorem rowCpq (k:Knd) (x:Lma) (letters:List Int):∀args H n,(LZ k x letters args H).1->Aa Tryz.prog 103 args H n (LZ k x letters args H).2:=by
 intro args H n hh
 unfold LZ at hh⊢
 split at hh
 ·rename_i t L g q r
  obtain⟨rfl,h1,h2,h3,h4,h5⟩:=hh
  generalize getI H r=s at h2⊢
  exact(p_cfI _ h4 ⟨Ca 0 k x letters,⟨trivial,trivial⟩,trivial⟩ (p:=λn=>decide (at0 letters n=s)) (cap:=[.ep (Ac k x letters),.ep [.int .i64 s]]) λn hn=>p104 k x letters n s (h5 n hn)).view trivial (.cons (.wk (dIs.wk _ h3)) (.cons (.fn .nil (.cons (View.ptr (off:=0) h1) (.cons (View.ptr (off:=0) h2) .nil))) .nil)) n
 ·exact hh.elim
theorem Va {x:Lma} {c:Int}:(DT x c=none/\fIxA x.ps (λp=>decide (p.c=c))= -1)\/∃(i:Nat) (p:Prm),DT x c=some p/\x.ps[i]?=some p/\fIxA x.ps (λp=>decide (p.c=c))=(i:Int):=by
 unfold DT fIxA
 cases h:x.ps.findIdx? (λp=>decide (p.c=c))with
 |none=>
  rw[Yd]at h
  exact .inl ⟨List.find?_eq_none.2 λp hp=>by rw[h p hp];decide,rfl⟩
 |some i=>
  obtain⟨h1,h2,h3⟩:=XK.1 h
  refine .inr ⟨i,x.ps[i],?_,X5 h1,rfl⟩
  rw[List.find?_eq_some_iff_getElem]
  exact⟨h2,i,h1,rfl,λj hj=>by simpa using h3 j hj⟩
end Go.AM
namespace Go.AM
open Go.Proofs Go.Lib
def Tpy (k:Knd) (x:Lma) (letters:List Int):Tab:=tadd 101 (N6 x) (tadd 103 (LZ k x letters) tnil)
theorem Tpy_ok {k:Knd} {x:Lma} {letters:List Int} (h:few x.ps):AH Tryz.prog (Tpy k x letters):=(AH.tnil.add (rowCpq k x letters)).add (rowIpq h)
theorem Tpy_i (k:Knd) (x:Lma) (letters:List Int) (a:List AVal) (H:AB):Tpy k x letters 101 a H=N6 x a H:=rfl
theorem Tpy_c (k:Knd) (x:Lma) (letters:List Int) (a:List AVal) (H:AB):Tpy k x letters 103 a H=LZ k x letters a H:=rfl
structure VPy where
 i:Nat
 tk:Tok
 H:AB
 n:Nat
structure IPy (k:Knd) (x:Lma) (letters:List Int) (p:Int->Bool) (v:VPy):Prop where
 hi:v.i<=k.d.syms.length
 hn:3<=v.n
 fr:AN v.H v.n
 h0:hget v.H 0=some (.box (Ac k x letters))
 tok:tkG 1 2 v.H v.tk
 es:v.tk.esz=1\/((symI k.d.syms.length).take v.i).filter p=[]
theorem Si {m i:Nat} (h:i<m):(symI m).take (i+1)=(symI m).take i++[(i:Int)]:=by
 rw[Y2]
 congr 1
 unfold symI
 rw[X6,List.getElem?_range h];rfl
theorem La (m i:Nat) (p:Int->Bool):(((symI m).take i).filter p).length<=i:=by
 refine XT (Yh ..) ?_
 rw[Xv];omega
theorem Vb {ls letters:List Int} {s:Int}:(ls.any λn=>decide (at0 letters n=s))=(ls.map (at0 letters)).contains s:=by
 rw[Y8,YZ,Yi,XN]
 simp only[Xf]
theorem p64 (k:Knd) (x:Lma) (letters:List Int) (c:Int) (hm:k.d.syms.length<=16) (hps:few x.ps) (hpl:∀p∈x.ps,few p.ls/\∀c∈p.ls,0<=c/\c<(letters.length:Int)):Pur Tryz.prog 64 [H8 k x letters,.int .i64 c] (eIs (Bq k.d.syms.length x letters c)):=by
 refine .mk ⟨Ca 0 k x letters,trivial,trivial⟩ (AW 0 _) (a64 (AF (Tpy_ok (k:=k) (letters:=letters) hps) (AG ?_)))
 rw[DG]
 have hgi:getI (hset (hset hnil 0 (.box (Ac k x letters))) 1 (.box [.int .i64 c])) 1=c:=UX (AC ..)
 have hcon:∀s,conB x letters c s=match DT x c with|none=>true|some p=>p.ls.any λn=>decide (at0 letters n=s):=λs=>by
  unfold conB
  cases DT x c with
  |none=>rfl
  |some p=>exact Vb.symm
 simp only[Ac,AE,AD,AK,AT,Xl,Xo]at hgi
 simp only[eE,eN,reduceCtorEq,Nat.reduceEqDiff,↓reduceIte,Nat.reduceAdd,Nat.reduceLeDiff,X0,c64,Ac,AE,AD,AK,AT,Tpy_i,N6,hgi]
 refine AU (λv:VPy=>⟨[(2,true,.ptr 0 0),(4,true,.sl v.tk ((((symI k.d.syms.length).take v.i).filter (conB x letters c)).map eI)),(5,true,.int .i64 (fIxA x.ps λp=>decide (p.c=c))),(16,true,.int .i64 k.d.syms.length),(17,true,.int .i64 v.i)],v.H,v.n⟩) (IPy k x letters (conB x letters c)) (λv=>k.d.syms.length-v.i)
  ⟨0,.nil,_,3⟩ rfl ⟨Xh _,Xb _,(AN.nil.hset (m:=3) (Xh _) (by decide)).hset (m:=3) (Xb _) (by decide),rfl,.inl rfl,.inr rfl⟩ ?_
 rintro⟨i,tk,H,n⟩ ⟨hi,hn,hf,h0,htk,hes⟩
 simp only at hi hn hf h0 htk hes
 by_cases hlt:i<k.d.syms.length
 case neg=>
  obtain rfl:i=k.d.syms.length:=by omega
  have hall:(symI k.d.syms.length).take k.d.syms.length=symI k.d.syms.length:=Y0 (by unfold symI;simp)
  rw[hall]at hes
  simp only[eE,eC,eN,Nat.reduceEqDiff,↓reduceIte,lt_F hlt,hall]
  exact Wk.sl (hes.imp (λz=>z) λq=>by rw[q];rfl)
 have e:=AL (k:=i) (by omega)
 have htake:=Si hlt
 have hll:=La k.d.syms.length i (conB x letters c)
 have h0':=h0
 simp only[Ac,AE,AD,AK,AT,Xl,Xo]at h0
 have y1:∀z,(n+z=0)=False:=λz=>X9 (by omega)
 have hc:=hcon (i:Int)
 have hH1:AN (hset H (n+1) (.box [.int .i64 (i:Int)])) (n+3):=hf.hset (by omega) (by omega)
 have hg1:getI (hset H (n+1) (.box [.int .i64 (i:Int)])) (n+1)=(i:Int):=UX (AC ..)
 have hq0:hget (hset H (n+1) (.box [.int .i64 (i:Int)])) 0=some (.box (Ac k x letters)):=by rw[AA _ _ _ _ (by omega)];exact h0'
 have htk1:tkG 1 2 (hset H (n+1) (.box [.int .i64 (i:Int)])) tk:=htk.set (.inr (.inr (hf _ (by omega))))
 have q1:Bj (hset H (n+1) (.box [.int .i64 (i:Int)])) 1 tk=True:=X1 htk1.app
 have q2:((((symI k.d.syms.length).take i).filter (conB x letters c)).length<=35184372088831)=True:=X1 (by omega)
 have q3:Ap ((((symI k.d.syms.length).take i).filter (conB x letters c)).length+1) 8=True:=X1 (AX (by omega) (by decide))
 have hbx:=AC H (n+1) (.box [.int .i64 (i:Int)])
 simp only[Ac,AE,AD,AK,AT,Xl,Xo]at hq0
 have addT:conB x letters c (i:Int)=true->((symI k.d.syms.length).take (i+1)).filter (conB x letters c)=((symI k.d.syms.length).take i).filter (conB x letters c)++[(i:Int)]:=λq=>by
  rw[htake,Yz,List.filter_cons_of_pos q];rfl
 have addF:conB x letters c (i:Int)=false->((symI k.d.syms.length).take (i+1)).filter (conB x letters c)=((symI k.d.syms.length).take i).filter (conB x letters c):=λq=>by
  rw[htake,Yz,List.filter_cons_of_neg (by rw[q];decide),List.filter_nil,Xu]
 have nextT:conB x letters c (i:Int)=true->IPy k x letters (conB x letters c) ⟨i+1,.own (n+6) 1,hset (AV (hset H (n+1) (.box [.int .i64 (i:Int)])) tk) (n+6) .tok,n+8⟩:=λq=>by
  refine⟨hlt,by simp only[];omega,(Ag htk1 hH1).hset (m:=n+8) (by omega) (by omega),?_,.inr (.inr ⟨n+6,rfl,by omega,AC ..⟩),.inl rfl⟩
  simp only[]
  rw[AA _ _ _ _ (by omega),Ad htk1 (.inl (by omega)),AA _ _ _ _ (by omega)];exact h0'
 rcases Va (x:=x) (c:=c)with⟨p1,p2⟩|⟨a,p,p1,p2,p3⟩
 ·have hct:conB x letters c (i:Int)=true:=by unfold conB;rw[p1]
  rw[p2]
  simp only[eE,eC,eN,reduceCtorEq,Nat.reduceEqDiff,↓reduceIte,Nat.reduceAdd,Nat.reduceLeDiff,Nat.reduceMul,Nat.reduceLT,Int.reduceEq,Int.reduceLE,Int.reduceLT,Int.reduceToNat,X7,X0,lt_T hlt,AJ,fr1 hf,y1,q1,q2,q3,e]
  exact .mk ⟨i+1,.own (n+6) 1,hset (AV (hset H (n+1) (.box [.int .i64 (i:Int)])) tk) (n+6) .tok,n+8⟩ (by simp only[addT hct,Xj];rfl) (nextT hct) (by simp only[];omega)
 ·have hmem:=XS p2
  have ha:=(Xw.1 p2).1
  have hneg:((a:Int)<0)=False:=X9 (by omega)
  have hdneg:decide ((a:Int)<0)=false:=Xr (by omega)
  obtain⟨f1,f2⟩:=hpl p hmem
  have k1:dIs.ok (eIs p.ls)=True:=Ax p.ls
  rw[p3]
  rw[p1]at hc
  simp only[]at hc
  cases hct:conB x letters c (i:Int)with
  |true=>
   rw[hct]at hc
   simp only[eE,eC,eN,reduceCtorEq,Nat.reduceEqDiff,↓reduceIte,Nat.reduceAdd,Nat.reduceLeDiff,Nat.reduceMul,Nat.reduceLT,Int.reduceEq,X2,X3,X4,X0,X6,lt_T hlt,AJ,fr1 hf,q1,q2,q3,e,hneg,lt_T ha,p2,Tpy_c,LZ,hg1,hq0,hbx,k1,As,X1 f1,Zl,X1 f2,Ac,AE,AD,AK,AT,<-hc]
   exact .mk ⟨i+1,.own (n+6) 1,hset (AV (hset H (n+1) (.box [.int .i64 (i:Int)])) tk) (n+6) .tok,n+8⟩ (by simp only[addT hct,Xj];rfl) (nextT hct) (by simp only[];omega)
  |false=>
   rw[hct]at hc
   simp only[eE,eC,eN,Nat.reduceEqDiff,↓reduceIte,Nat.reduceAdd,Nat.reduceLeDiff,Int.reduceEq,X2,X3,X4,X0,X6,lt_T hlt,AJ,fr1 hf,e,hneg,lt_T ha,p2,Tpy_c,LZ,hg1,hq0,hbx,k1,As,X1 f1,Zl,X1 f2,Ac,AE,AD,AK,AT,<-hc]
   exact .mk ⟨i+1,tk,hset H (n+1) (.box [.int .i64 (i:Int)]),n+3⟩ (by simp only[addF hct]) ⟨hlt,by simp only[];omega,hH1,hq0,htk1,by simp only[addF hct];exact hes⟩ (by simp only[];omega)
end Go.AM
namespace Go.AM
open Go.Proofs Go.Lib
structure PrC (k:Knd) (x:Lma) (letters:List Int):Prop where
 ck:Al k=0
 fd:FewD k.d
 fx:FewL x
 ox:OKL x
 lt:letters∈chs k.d.syms.length x.ls.length
theorem PrC.rd {k:Knd} {x:Lma} {letters:List Int} (h:PrC k x letters):RdC k x letters:=⟨h.ck,h.fd,h.fx,h.ox,(Hs h.lt).1⟩
theorem PrC.df {k:Knd} {x:Lma} {letters:List Int} (h:PrC k x letters):difI letters k.d.syms.length=true:=D6.2 ⟨(Hs h.lt).2.2,(Hs h.lt).2.1⟩
structure ClP (k:Knd) (x:Lma) (cells:List Int):Prop where
 cl:ClC k x cells
 ge:∀s∈cells,-1<=s
theorem Sj {k:Knd} {x:Lma} {letters cells:List Int} (h:PrC k x letters) (hc:ClP k x cells) {q:Cnd} (hq:q∈x.qs):IT k q letters cells= .tup [.bool (Fd (AP k) q letters cells),.int .i64 0]:=by
 unfold IT
 have hl:=h.ox.ls.2.2
 have hx:=h.ox.cs.2.2
 have hll:=h.rd.ll
 have hcl:=hc.cl.len
 rw[Xc (by simpa using h.ck),Xc (by omega),Xc (by rw[h.df];decide),Xc ?_,Xc ?_]
 ·rw[hcl,hll,h.ox.qs q hq];decide
 ·rw[Bool.not_eq_true,Z3]
  intro s hs
  have:=hc.ge s hs
  simp only[Xp,Xf,not_or]
  refine⟨by omega,?_⟩
  by_cases q:0<=s
  ·have:=hc.cl.sy s hs q
   unfold okSy at this
   omega
  ·omega
def FI (vals:List Int) (x:Lma) (letters cells:List Int):Int:=match DU vals x letters cells with
 |some i=>i
 |none=>-1
def Lb (k:Knd):List AVal->AB->Prop×AVal:=λa H=>match a with
 |[K,Q,.sl t1 L1,.sl t2 L2]=>(dKn.ok K/\dKn.dec K=k/\dQ.ok Q/\(few (dQ.dec Q).cs/\few (dQ.dec Q).ls)/\(dIs.ok (.sl t1 L1)/\few (L1.map toI))/\dIs.ok (.sl t2 L2)/\few (L2.map toI),IT k (dQ.dec Q) (L1.map toI) (L2.map toI))
 |_=>(False,.tup [])
theorem rowScq {k:Knd} (hk:FewD k.d):∀args H n,(Lb k args H).1->Aa Tryz.prog 72 args H n (Lb k args H).2:=by
 intro args H m hh
 unfold Lb at hh⊢
 split at hh
 ·obtain⟨h1,h2,h3,h4,⟨h5,h6⟩,h7,h8⟩:=hh
  have w1:=dKn.wk _ h1
  rw[h2]at w1
  refine AO.args ((p72 k _ _ _ hk h4 h6 h8).quiet H m) ?_
  rintro g vs ⟨v1,r1,rfl,k1,v2,r2,rfl,k2,v3,r3,rfl,k3,v4,r4,rfl,k4,k5⟩
  exact⟨v1,_,rfl,w1 _ _ k1,v2,_,rfl,dQ.wk _ h3 _ _ k2,v3,_,rfl,dIs.wk _ h5 _ _ k3,v4,_,rfl,dIs.wk _ h7 _ _ k4,k5⟩
 ·exact hh.elim
def H9 (k:Knd) (x:Lma) (letters:List Int):List AVal->AB->Prop×AVal:=λa H=>match a with
 |[P,.int .i64 c]=>(P=H8 k x letters,eIs (Bq k.d.syms.length x letters c))
 |_=>(False,.tup [])
theorem UY {k:Knd} {x:Lma} {letters:List Int} (h:RdC k x letters):∀args H n,(H9 k x letters args H).1->Aa Tryz.prog 64 args H n (H9 k x letters args H).2:=by
 intro args H m hh
 unfold H9 at hh⊢
 split at hh
 ·subst hh
  exact(p64 k x letters _ (A7 h.ck).2 h.fx.ps (Mo h)).quiet H m
 ·exact hh.elim
def Tpc (k:Knd) (x:Lma) (letters:List Int):Tab:=tadd 72 (Lb k) (tadd 64 (H9 k x letters) (tadd 73 BP tnil))
theorem Tpc_ok {k:Knd} {x:Lma} {letters:List Int} (h:RdC k x letters):AH Tryz.prog (Tpc k x letters):=((AH.tnil.add JH).add (UY h)).add (rowScq h.fd)
theorem Tpc_c (k:Knd) (x:Lma) (letters:List Int) (a:List AVal) (H:AB):Tpc k x letters 72 a H=Lb k a H:=rfl
theorem Tpc_s (k:Knd) (x:Lma) (letters:List Int) (a:List AVal) (H:AB):Tpc k x letters 64 a H=H9 k x letters a H:=rfl
theorem Tpc_h (k:Knd) (x:Lma) (letters:List Int) (a:List AVal) (H:AB):Tpc k x letters 73 a H=BP a H:=rfl
structure IPc (k:Knd) (x:Lma) (letters:List Int) (len:Nat) (no:Nat->Prop) (v:VPm):Prop where
 hi:v.i<=len
 hn:2<=v.n
 fr:AN v.H v.n
 h0:hget v.H 0=some (.box (Ac k x letters))
 no:∀j,j<v.i->no j
theorem Mr {vals:List Int} {x:Lma} {letters cells:List Int} {i:Nat} (h1:∀j:Nat,j<i->A0 vals x letters cells (j:Int)=false) (h2:A0 vals x letters cells (i:Int)=true):FI vals x letters cells=(i:Int):=by
 have get:∀j:Nat,A0 vals x letters cells (j:Int)=(D4 vals x letters cells)[j]?.getD false:=λj=>by unfold A0;rw[Xc (by omega),X3]
 have hi:i<(D4 vals x letters cells).length:=by
  apply Classical.byContradiction
  intro q
  rw[get,Yk (by omega)]at h2;cases h2
 unfold FI DU
 rw[XK.2 ⟨hi,by rw[get,X5 hi]at h2;exact h2,λj hj=>by
  have:=h1 j hj
  rw[get,X5 (by omega),X2]at this
  rw[this];decide⟩]
theorem Sk {vals:List Int} {x:Lma} {letters cells:List Int} (h:∀j:Nat,j<x.qs.length+x.ps.length->A0 vals x letters cells (j:Int)=false):FI vals x letters cells= -1:=by
 unfold FI
 rw[Ei.2 (Pv.2 h)]
theorem p38 (k:Knd) (x:Lma) (letters cells:List Int) (h:PrC k x letters) (hc:ClP k x cells):Pur Tryz.prog 38 [H8 k x letters,eIs cells] (.int .i64 (FI (AP k) x letters cells)):=by
 have hnq:x.qs.length<1000000000:=h.fx.qs
 have hnp:x.ps.length<1000000000:=h.fx.ps
 have u1:dKn.ok (.agg (AE k))=True:=CX k
 have u2:dKn.dec (.agg (AE k))=k:=Bd k
 simp only[AE,AD,AK,Xl,Xo]at u1 u2
 have k1:dIs.ok (eIs cells)=True:=Ax cells
 have k2:dIs.ok (eIs letters)=True:=Ax letters
 have hfl:few letters:=by show letters.length<_;have:=h.ox.ls.2.2.2;rw[h.rd.ll];omega
 have hfc:few cells:=by show cells.length<_;have:=h.ox.cs.2.2.2;rw[hc.cl.len];omega
 refine .mk ⟨Ca 0 k x letters,AW 0 _,trivial⟩ trivial (a38 (AF (Tpc_ok h.rd) (AG ?_)))
 simp only[eE,eN,reduceCtorEq,Nat.reduceEqDiff,↓reduceIte,Nat.reduceAdd,Nat.reduceLeDiff,X0,c38,Ac,AE,AD,AK,AT]
 refine AU (λv:VPm=>⟨[(1,true,eIs cells),(2,true,.ptr 0 0),(14,true,.sl (.none 4) (x.qs.map encQ)),(15,true,.int .i64 x.qs.length),(16,true,.int .i64 v.i)],v.H,v.n⟩) (IPc k x letters x.qs.length λj=>A0 (AP k) x letters cells (j:Int)=false) (λv=>x.qs.length-v.i)
  ⟨0,_,2⟩ rfl ⟨Xh _,Xb _,AN.nil.hset (m:=2) (Xh _) (by decide),rfl,λj hj=>by cases hj⟩ ?_
 rintro⟨i,H,n⟩ ⟨hi,hn,hf,h0,hno⟩
 simp only at hi hn hf h0 hno
 have h0':=h0
 simp only[Ac,AE,AD,AK,AT,Xl,Xo]at h0
 by_cases hlt:i<x.qs.length
 ·have e:=AL (k:=i) (by omega)
  have hg:=X5 hlt
  have hcl:=Sj h hc (Xk hlt)
  have hfq:=h.fx.q _ (Xk hlt)
  generalize x.qs[i]=q at hg hcl hfq
  have v1:dQ.ok (.agg [.int .i64 q.k,eIs q.cs,eIs q.ls,.int .i64 q.n])=True:=T9 q
  have v2:dQ.dec (.agg [.int .i64 q.k,eIs q.cs,eIs q.ls,.int .i64 q.n])=q:=Nm q
  have y1:∀z,(n+z=0)=False:=λz=>X9 (by omega)
  have hq:=UR (vals:=AP k) (letters:=letters) (cells:=cells) hg
  cases hcb:Fd (AP k) q letters cells with
  |true=>
   rw[hcb]at hcl hq
   rw[Mr hno hq]
   simp only[eE,eC,eN,Nat.reduceEqDiff,↓reduceIte,Nat.reduceAdd,Nat.reduceLeDiff,Nat.reduceLT,X2,X3,X4,X0,X6,Xa,Xd,lt_T hlt,hg,AJ,fr1 hf,y1,h0,Tpc_c,Lb,u1,u2,v1,v2,k1,k2,As,X1 hfq.1,X1 hfq.2,X1 hfl,X1 hfc,hcl]
  |false=>
   rw[hcb]at hcl hq
   simp only[eE,eC,eN,Nat.reduceEqDiff,↓reduceIte,Nat.reduceAdd,Nat.reduceLeDiff,Nat.reduceLT,Int.reduceEq,X2,X3,X4,X0,X6,Xa,Xd,lt_T hlt,hg,AJ,fr1 hf,y1,h0,Tpc_c,Lb,u1,u2,v1,v2,k1,k2,As,X1 hfq.1,X1 hfq.2,X1 hfl,X1 hfc,hcl,e]
   refine .mk ⟨i+1,hset H (n+3) (.box [.int .i64 q.k,eIs q.cs,eIs q.ls,.int .i64 q.n]),n+6⟩ rfl ⟨hlt,by simp only[];omega,hf.hset (m:=n+6) (by omega) (by omega),by simp only[];rw[AA _ _ _ _ (by omega)];exact h0',λj hj=>?_⟩ (by simp only[];omega)
   by_cases z:j<i
   ·exact hno j z
   ·have hj':j<i+1:=hj
    obtain rfl:j=i:=by omega
    exact hq
 obtain rfl:i=x.qs.length:=by omega
 simp only[eE,eC,eN,Nat.reduceEqDiff,↓reduceIte,Nat.reduceAdd,Nat.reduceLeDiff,X0,lt_F hlt,h0]
 refine AU (λv:VPm=>⟨[(1,true,eIs cells),(2,true,.ptr 0 0),(36,true,.sl (.none 2) (x.ps.map encM)),(37,true,.int .i64 x.ps.length),(38,true,.int .i64 v.i)],v.H,v.n⟩) (IPc k x letters x.ps.length λj=>A0 (AP k) x letters cells ((x.qs.length+j:Nat):Int)=false) (λv=>x.ps.length-v.i)
  ⟨0,H,n⟩ rfl ⟨Xh _,hn,hf,h0',λj hj=>by cases hj⟩ ?_
 rintro⟨i,H1,n1⟩ ⟨hi1,hn1,hf1,h01,hno1⟩
 simp only at hi1 hn1 hf1 h01 hno1
 have h01':=h01
 simp only[Ac,AE,AD,AK,AT,Xl,Xo]at h01
 have hnoI:∀j:Nat,j<x.qs.length+i->A0 (AP k) x letters cells (j:Int)=false:=λj hj=>by
  by_cases z:j<x.qs.length
  ·exact hno j z
  ·have:=hno1 (j-x.qs.length) (by omega)
   rwa[show x.qs.length+(j-x.qs.length)=j by omega]at this
 by_cases hlp:i<x.ps.length
 ·have e:=AL (k:=i) (by omega)
  have hg:=X5 hlp
  have hmem:=Xk hlp
  generalize x.ps[i]=p at hg hmem
  have hq:=US (vals:=AP k) (letters:=letters) (cells:=cells) hg
  have hpc:=KD h.ox hmem
  rw[<-hc.cl.len]at hpc
  have hgc:=A5 hpc.1 hpc.2
  have hms:=XS hgc
  unfold Fe at hq
  generalize at0 cells p.c=s at hgc hq hms
  have y1:∀z,(n1+z=0)=False:=λz=>X9 (by omega)
  have nx:A0 (AP k) x letters cells ((x.qs.length+i:Nat):Int)=false->IPc k x letters x.ps.length (λj=>A0 (AP k) x letters cells ((x.qs.length+j:Nat):Int)=false) ⟨i+1,hset H1 (n1+3) (.box [.int .i64 p.c,eIs p.ls]),n1+6⟩:=λhz=>by
   refine⟨hlp,by simp only[];omega,hf1.hset (m:=n1+6) (by omega) (by omega),by simp only[];rw[AA _ _ _ _ (by omega)];exact h01',λj hj=>?_⟩
   by_cases z:j<i
   ·exact hno1 j z
   ·have hj':j<i+1:=hj
    obtain rfl:j=i:=by omega
    exact hz
  by_cases hs:0<=s
  case neg=>
   rw[Xr hs,YC]at hq
   simp only[eE,eC,eN,Nat.reduceEqDiff,↓reduceIte,Nat.reduceAdd,Nat.reduceLeDiff,Int.reduceEq,X2,X3,X4,X0,X6,lt_T hlp,hg,AJ,fr1 hf1,y1,h01,X1 hpc.1,X1 hpc.2,hgc,X9 hs,e]
   exact .mk ⟨i+1,hset H1 (n1+3) (.box [.int .i64 p.c,eIs p.ls]),n1+6⟩ rfl (nx hq) (by simp only[];omega)
  rw[Xz hs,YM]at hq
  have hcon:(Bq k.d.syms.length x letters p.c).contains s=(p.ls.map (at0 letters)).contains s:=by
   rw[DG,Y8,Yi,Yo,B3]
   unfold conB
   rw[KE h.ox hmem]
   simp only[]
   exact⟨λz=>z.2,λz=>⟨⟨hs,(hc.cl.sy s hms hs).2⟩,z⟩⟩
  have hfew:few (Bq k.d.syms.length x letters p.c):=by
   show(Bq k.d.syms.length x letters p.c).length<_
   rw[DG]
   have h1:=Yh (conB x letters p.c) (symI k.d.syms.length)
   have h2:(symI k.d.syms.length).length=k.d.syms.length:=by unfold symI;simp
   have h3:=A7 h.ck
   omega
  rw[<-hcon]at hq
  generalize hL:Bq k.d.syms.length x letters p.c=L at hq hfew
  have r1:∀H,rdL H (eIs L)=L:=λH=>Gp (.inl ⟨_,rfl,.inl rfl⟩)
  have r2:∀H,RdI H (eIs L) L=True:=λH=>X1 (.inl ⟨_,rfl,.inl rfl⟩)
  have w1:IntKind.wrap .i64 ((x.qs.length:Int)+(i:Int))=((x.qs.length+i:Nat):Int):=by rw[Ay (by omega) (by omega)];omega
  cases hct:L.contains s with
  |true=>
   rw[hct]at hq
   simp only[eE,eC,eN,reduceCtorEq,Nat.reduceEqDiff,↓reduceIte,Nat.reduceAdd,Nat.reduceLeDiff,Int.reduceEq,X7,X2,X3,X4,X0,X6,lt_T hlp,hg,AJ,fr1 hf1,y1,h01,X1 hpc.1,X1 hpc.2,hgc,X1 hs,Tpc_s,H9,Zl,hL,Tpc_h,BP,r1,r2,X1 hfew,hct,e]
   exact⟨rfl,.mk ⟨i+1,hset H1 (n1+3) (.box [.int .i64 p.c,eIs p.ls]),n1+6⟩ rfl (nx hq) (by simp only[];omega)⟩
  |false=>
   rw[hct]at hq
   rw[Mr hnoI hq]
   simp only[eE,eC,eN,reduceCtorEq,Nat.reduceEqDiff,↓reduceIte,Nat.reduceAdd,Nat.reduceLeDiff,Xe,X2,X3,X4,X0,X6,lt_T hlp,hg,AJ,fr1 hf1,y1,h01,X1 hpc.1,X1 hpc.2,hgc,X1 hs,Tpc_s,H9,Zl,hL,Tpc_h,BP,r1,r2,X1 hfew,hct,w1]
   rfl
 obtain rfl:i=x.ps.length:=by omega
 rw[Sk hnoI]
 simp only[eE,eC,eN,Nat.reduceEqDiff,↓reduceIte,lt_F hlp]
end Go.AM
namespace Go.AM
open Go.Proofs Go.Lib
theorem Vc {a b c d:Int} (h1:decide (a=c)=true) (h2:decide (b=d)=true):Wk (.tup [.int .u64 a,.int .u64 b]) (.tup [.int .u64 c,.int .u64 d]):=by
 rw[Ys h1,Ys h2];exact Wk.refl _
theorem p198 (n:Int) (h:n=1\/n=2\/n=3\/n=4):Pur Tryz.prog 198 [.int .u64 1,.int .u64 n] (.tup [.int .u64 0,.int .u64 n]):=by
 rcases h with rfl|rfl|rfl|rfl
 all_goals
  refine .mk ⟨trivial,trivial,trivial⟩ ⟨trivial,trivial,trivial⟩ (a198 (AF AH.tnil (AG ?_)))
  simp only[eE,eN,reduceCtorEq,Nat.reduceEqDiff,↓reduceIte,Nat.reduceAdd,Int.reduceEq,Int.reduceLE,c198]
  exact Vc (by kernel_rfl) (by kernel_rfl)
def IA:List AVal->AB->Prop×AVal:=λa _=>match a with
 |[.int .u64 m,.int .u64 n]=>(m=1/\(n=1\/n=2\/n=3\/n=4),.tup [.int .u64 0,.int .u64 n])
 |_=>(False,.tup [])
theorem p153 (n:Int) (h:n=1\/n=2\/n=3\/n=4):Pur Tryz.prog 153 [.int .u64 1,.int .u64 n] (.tup [.int .u64 0,.int .u64 n]):=by
 have hT:AH Tryz.prog (tadd 198 IA tnil):=AH.tnil.add λargs H m hh=>by
  unfold IA at hh⊢
  split at hh
  ·obtain⟨rfl,h⟩:=hh;exact(p198 _ h).quiet H m
  ·exact hh.elim
 have hTe:∀a H,tadd 198 IA tnil 198 a H=IA a H:=λa H=>by unfold tadd;rw[Xg rfl]
 generalize tadd 198 IA tnil=T at hT hTe
 refine .mk ⟨trivial,trivial,trivial⟩ ⟨trivial,trivial,trivial⟩ (a153 (AF hT (AG ?_)))
 simp only[eE,eC,eN,reduceCtorEq,Nat.reduceEqDiff,↓reduceIte,Nat.reduceAdd,Nat.reduceLT,X2,Xa,Xd,c153,hTe,IA,X1 h]
 exact Wk.refl _
def Trp:Tab:=tadd 153 IA tnil
theorem Trp_ok:AH Tryz.prog Trp:=AH.tnil.add λargs H m hh=>by
 unfold IA at hh⊢
 split at hh
 ·obtain⟨rfl,h⟩:=hh;exact(p153 _ h).quiet H m
 ·exact hh.elim
theorem Trp_m (a:List AVal) (H:AB):Trp 153 a H=IA a H:=rfl
abbrev repA (n c:Nat):List AVal:=List.replicate c (.int .i64 (-1))++List.replicate (n-c) (.int .i64 0)
theorem t_repI {H:AB} {m n:Nat} {t:Tok} (hf:AN H m) (hn:1<=n/\n<=4) (ht:t.esz=1):AO Tryz.prog 100 [.sl t [.int .i64 (-1)],.int .i64 n] H m λo H' m'=>o= .ret (.ref (m+2) 1 0 n n)/\H'=hset H (m+2) (.arr 1 (List.replicate n (.int .i64 (-1))))/\m'=m+4:=by
 refine a100 (AF Trp_ok (AG ?_))
 have w0:((n:Int)<0)=False:=X9 (by omega)
 have d0:decide ((n:Int)<0)=false:=Xr (by omega)
 have w1:IntKind.wrap .u64 1=1:=by rfl
 have w2:IntKind.wrap .u64 (n:Int)=(n:Int):=by rw[IntKind.wrap_u64];omega
 have w3:IntKind.wrap .i64 (n:Int)=(n:Int):=Ay (by omega) (by omega)
 have w4:((n:Int)=1\/(n:Int)=2\/(n:Int)=3\/(n:Int)=4)=True:=X1 (by omega)
 have w5:((9223372036854775807:Int)<(n:Int))=False:=X9 (by omega)
 have d5:decide ((9223372036854775807:Int)<(n:Int))=false:=Xr (by omega)
 have w6:((n:Int)<=35184372088832)=True:=X1 (by omega)
 have w7:Ap n 8=True:=X1 (AX (by omega) (by decide))
 have w8:∀H,srcV H 1 (.sl t [.int .i64 (-1)]) false=some [.int .i64 (-1)]:=λH=>by unfold srcV;simp only[];rw[Xg (.inl ht)]
 have w9:min 1 n=1:=by omega
 have w10:(n<=n)=True:=X1 (Xb _)
 have w11:((1:Nat)<=n)=True:=X1 hn.1
 simp only[eE,eC,eN,reduceCtorEq,Nat.reduceEqDiff,↓reduceIte,Nat.reduceAdd,Nat.reduceLT,xE,X2,c1,i00,X3,X4,Xa,Xd,c100,w0,w1,w2,w3,w4,w5,Trp_m,IA,fr1 hf,w6,w7,w8,w9,w10,Yp,List.drop_replicate,AJ]
 refine AU (λc:Nat=>⟨[(7,true,.ref (m+2) 1 0 n n),(8,true,.int .i64 c)],hset H (m+2) (.arr 1 (repA n c)),m+4⟩) (λc=>1<=c/\c<=n) (λc=>n-c) 1 rfl ⟨Xb _,hn.1⟩ ?_
 rintro c ⟨hc1,hcn⟩
 by_cases hlt:c<n
 case neg=>
  obtain rfl:c=n:=by omega
  have er:repA c c=List.replicate c (.int .i64 (-1)):=by show List.replicate c _++List.replicate (c-c) _=_;rw[Nat.sub_self];simp
  rw[er]
  simp only[eE,eC,eN,Nat.reduceEqDiff,↓reduceIte,lt_F hlt]
 have z1:((c:Int)<=(n:Int))=True:=X1 (by omega)
 have z2:(c<=n)=True:=X1 hcn
 have hsrc:srcV (hset H (m+2) (.arr 1 (repA n c))) 1 (.ref (m+2) 1 0 c n) false=some (List.replicate c (.int .i64 (-1))):=by
  unfold srcV
  simp only[AC]
  rw[Xg ⟨trivial,trivial,by simp⟩,List.drop_zero,Zw (by simp)]
 have hlen:(repA n c).length=n:=by simp;omega
 simp only[eE,eC,eN,Nat.reduceEqDiff,↓reduceIte,xE,XW,XP,X3,X4,lt_T hlt,z1,hsrc,hlen,Yp,Nat.sub_zero]
 generalize hd:min c (n-c)=d
 have hd1:1<=d/\d<=c/\d<=n-c:=by omega
 have e1:IntKind.wrap .i64 ((c:Int)+(d:Int))=((c+d:Nat):Int):=by rw[Ay (by omega) (by omega)];omega
 have e2:List.take c (repA n c)++List.take d (List.replicate c (AVal.int IntKind.i64 (-1)))++List.drop (c+d) (repA n c)=repA n (c+d):=by
  have h1:List.take c (repA n c)=List.replicate c (.int .i64 (-1)):=Zw (by simp)
  have h2:List.drop (c+d) (repA n c)=List.replicate (n-(c+d)) (.int .i64 0):=by
   show List.drop (c+d) (List.replicate c _++List.replicate (n-c) _)=_
   rw[List.drop_append,YQ (by simp),Xo,Yp,List.drop_replicate]
   congr 1;omega
  rw[h1,h2,List.take_replicate,show min d c=d by omega,List.replicate_append_replicate]
 rw[AJ,e1,e2]
 exact⟨by omega,by omega,.mk (c+d) rfl ⟨by omega,by omega⟩ (by omega)⟩
theorem Pw {H:AB} {m:Nat} {k:Knd} {x:Lma} {letters:List Int} (hf:AN H m) (h:RdC k x letters):
  AO Tryz.prog 61 [H8 k x letters] H m λo H' m'=>o= .ret (.ref (m+4) 1 0 x.cs.length x.cs.length)/\H'=hset (hset H m (.box (Ac k x letters))) (m+4) (.arr 1 ((begC x letters).map eI))/\m'=m+6:=by
 refine a61 (AF AH.tnil (AG ?_))
 have hx4:=h.ox.cs.2.2
 simp only[eE,eN,Nat.reduceEqDiff,↓reduceIte,Nat.reduceAdd,Nat.reduceLeDiff,Nat.reduceMul,Nat.reduceLT,X0,c61,fr0 hf,Ac,AE,AD,AK,AT]
 have hxc:=h.ox.c
 have hxl:=h.ox.l
 rw[<-h.ll]at hxl
 have hgl:=A5 hxl.1 hxl.2
 refine(t_repI (n:=x.cs.length) (t:=.exact 1) (hf.hset (m:=m+2) (by omega) (by omega)) (by omega) rfl).mono ?_
 rintro o H1 m1 ⟨rfl,rfl,rfl⟩
 have w2:(0<=x.c)=True:=X1 hxc.1
 have w3:(x.c<(x.cs.length:Int))=True:=X1 hxc.2
 have w4:(x.c.toNat<x.cs.length)=True:=X1 (by omega)
 have w5:(0<=x.l)=True:=X1 hxl.1
 have w6:(x.l<(letters.length:Int))=True:=X1 hxl.2
 have y1:(m+4=m)=False:=X9 (by omega)
 simp only[eE,eC,eN,Nat.reduceEqDiff,↓reduceIte,Nat.reduceAdd,Nat.reduceLeDiff,X2,X0,X6,retK,y1,w2,w3,w4,w5,w6,hgl,Yp,AJ]
 have hb:(List.replicate x.cs.length (.int .i64 (-1):AVal)).set x.c.toNat (eI (at0 letters x.l))=(begC x letters).map eI:=by
  unfold begC
  rw[ZK,YU]
 rw[hb]
end Go.AM
namespace Go.AM
open Go.Proofs Go.Lib
structure NdP (nc tc N:Nat) (T:List Cas) (H:AB) (tl:Tok):Prop where
 hN:hget H nc=some (.box [.int .i64 N])
 hT:∃E,hget H tc=some (.box [.sl tl E])/\(N<=65536->Wks E (T.map encC))/\(tl.esz=2\/E=[])
 tk:tkG 2 0 H tl
 len:T.length<=N
def NdF (id nc tc n:Nat) (tl:Tok) (H H':AB):Prop:=∀i,i<n->i≠id->i≠nc->i≠tc->(∀e,tl≠ .own i e)->hget H' i=hget H i
def tkN (n:Nat) (tl tl':Tok):Prop:=tl'=tl\/∃j,tl'= .own j 2/\n<=j
theorem NdF.refl {id nc tc n:Nat} {tl:Tok} (H:AB):NdF id nc tc n tl H H:=λ_ _ _ _ _ _=>rfl
theorem NdF.trans {id nc tc n n':Nat} {tl tl':Tok} {H H' H'':AB} (h:NdF id nc tc n tl H H') (k:NdF id nc tc n' tl' H' H'') (hn:n<=n') (ht:tkN n tl tl'):NdF id nc tc n tl H H'':=λi a1 a2 a3 a4 a5=>by
 refine(k i (by omega) a2 a3 a4 λe q=>?_).trans (h i a1 a2 a3 a4 a5)
 rcases ht with rfl|⟨j,rfl,hj⟩
 ·exact a5 e q
 ·cases q;omega
theorem tkN.trans {n n':Nat} {t1 t2 t3:Tok} (h:tkN n t1 t2) (k:tkN n' t2 t3) (hn:n<=n'):tkN n t1 t3:=by
 rcases k with rfl|⟨j,rfl,hj⟩
 ·exact h
 ·exact .inr ⟨j,rfl,by omega⟩
theorem UZ {H:AB} {n nc tc N:Nat} {T:List Cas} {tl:Tok} (c:Cas) (id:Nat) (hf:AN H n) (h:NdP nc tc N T H tl) (hne:nc≠tc) (hN:N<=1000000000000):
  AO Tryz.prog 32 [encC c,.ptr nc 0,.ptr tc 0] H n λo H' n'=>o= .ret (.tup [])/\AN H' n'/\n<=n'/\∃tl',NdP nc tc (N+1) (T++[c]) H' tl'/\tkN n tl tl'/\NdF id nc tc n tl H H':=by
 obtain⟨hNc,⟨E,hTc,hE,hes⟩,htk,hlen⟩:=h
 have x1:=hf.lt hNc
 have x2:=hf.lt hTc
 have e:=AL (k:=N) (by omega)
 have y1:(n=nc)=False:=X9 (by omega)
 have y2:(nc=n)=False:=X9 (by omega)
 have y3:(n=tc)=False:=X9 (by omega)
 have y4:(nc=tc)=False:=X9 hne
 have y5:(tc=nc)=False:=X9 (Ne.symm hne)
 have y6:(tc=n)=False:=X9 (by omega)
 refine a32 (AF AH.tnil (AG ?_))
 obtain⟨H1,hH1⟩:∃H1,hset (hset H n (.box [.int .i64 c.k,.int .i64 c.a])) nc (.box [.int .i64 ((N+1:Nat):Int)])=H1:=⟨_,rfl⟩
 have hf1:AN H1 (n+1):=by rw[<-hH1];exact(hf.hset (m:=n+1) (by omega) (by omega)).hset (Xb _) (by omega)
 have g1:hget H1 n=some (.box [.int .i64 c.k,.int .i64 c.a]):=by rw[<-hH1,AA _ _ _ _ (by omega),AC]
 have g2:hget H1 nc=some (.box [.int .i64 ((N+1:Nat):Int)]):=by rw[<-hH1,AC]
 have g3:hget H1 tc=some (.box [.sl tl E]):=by rw[<-hH1,AA _ _ _ _ hne,AA _ _ _ _ (by omega)];exact hTc
 have gk:∀i,i<n->i≠nc->hget H1 i=hget H i:=λi a b=>by rw[<-hH1,AA _ _ _ _ (Ne.symm b),AA _ _ _ _ (by omega)]
 have htk1:tkG 2 0 H1 tl:=by
  rcases htk with rfl|rfl|⟨j,rfl,h1,h2⟩
  ·exact .inl rfl
  ·exact .inr (.inl rfl)
  ·refine .inr (.inr ⟨j,rfl,h1,?_⟩)
   rw[gk j (hf.lt h2) (λq=>by rw[q,hNc]at h2;cases h2)];exact h2
 by_cases hle:N+1<=65536
 case neg=>
  have hle':(((N+1:Nat):Int)<=65536)=False:=X9 (by omega)
  have hd:decide (((N+1:Nat):Int)<=65536)=false:=Xr (by omega)
  simp only[eE,eC,eN,reduceCtorEq,Nat.reduceEqDiff,↓reduceIte,Nat.reduceAdd,Int.reduceEq,c32,fr0 hf,hNc,y1,e,hle',hH1,g2]
  exact⟨hf1,tl,⟨g2,⟨E,g3,λq=>by omega,hes⟩,htk1,by simp;omega⟩,.inl rfl,λi a1 a2 a3 a4 a5=>gk i a1 a3⟩
 have hle':(((N+1:Nat):Int)<=65536)=True:=X1 (by omega)
 have hd:decide (((N+1:Nat):Int)<=65536)=true:=Xz (by omega)
 have hEl:=(hE (by omega)).len
 rw[X0]at hEl
 have q1:Bj H1 2 tl=True:=X1 htk1.app
 have q2:(E.length<=35184372088831)=True:=X1 (by omega)
 have q3:Ap (E.length+1) 16=True:=X1 (AX (by omega) (by decide))
 have htc:hget (AV H1 tl) tc=hget H1 tc:=Ad htk1 (.inr ⟨_,g3⟩)
 have hnc:hget (AV H1 tl) nc=hget H1 nc:=Ad htk1 (.inr ⟨_,g2⟩)
 have y7:∀z,(n+z=tc)=False:=λz=>X9 (by omega)
 simp only[eE,eC,eN,reduceCtorEq,Nat.reduceEqDiff,↓reduceIte,Nat.reduceAdd,Nat.reduceLeDiff,Nat.reduceMul,Nat.reduceLT,Int.reduceEq,c32,fr0 hf,hNc,y1,y7,e,hle',hH1,g1,g2,g3,q1,q2,q3,htc]
 refine⟨hf1 _ (by omega),?_,.own (n+4) 2,⟨?_,⟨_,AC ..,λ_=>?_,.inl rfl⟩,.inr (.inr ⟨n+4,rfl,Xh _,?_⟩),by simp;omega⟩,.inr ⟨n+4,rfl,by omega⟩,λi a1 a2 a3 a4 a5=>?_⟩
 ·exact((Ag htk1 hf1).hset (m:=n+6) (by omega) (by omega)).hset (Xb _) (by omega)
 ·rw[AA _ _ _ _ (Ne.symm hne),AA _ _ _ _ (by omega),hnc];exact g2
 ·rw[Xj]
  exact(hE (by omega)).app (.cons (Wk.refl _) .nil)
 ·rw[AA _ _ _ _ (by omega),AC]
 ·rw[AA _ _ _ _ (Ne.symm a4),AA _ _ _ _ (by omega)]
  have:hget (AV H1 tl) i=hget H1 i:=by
   cases tl<;>try rfl
   rename_i j e
   simp only[AV]
   exact AA _ _ _ _ λq=>a5 e (by rw[q])
  rw[this];exact gk i a1 a3
def Dz:Nat->Nat
 |0=>1
 |f+1=>1+16*Dz f
theorem Px {F:Int->Option (List Cas)} {b:Nat}:∀{ss:List Int} {t:List Cas},(∀s∈ss,∀a,F s=some a->a.length<=b)->catT F ss=some t->t.length<=ss.length*b
 |[],t,_,h=>by rw[catT]at h;cases h;simp
 |s::ss,t,hF,h=>by
  rw[catT]at h
  cases hs:F s with
  |none=>rw[hs]at h;cases h
  |some a=>
   rw[hs]at h
   obtain⟨r,h1,rfl⟩:=Y3.1 h
   have:=Px (λs hs=>hF s (Y9 _ hs)) h1
   have:=hF s (by simp) a hs
   rw[Xm,Xn,Yc];omega
theorem IV {m:Nat} {x:Lma} {letters:List Int} {c:Int}:(Bq m x letters c).length<=m:=by
 rw[DG]
 refine XT (Yh ..) ?_
 unfold symI;simp
theorem JK {vals:List Int} {x:Lma} {letters:List Int} (hv:vals.length<=16):∀(f:Nat) (cells:List Int) (t:List Cas),B5 vals x letters f cells=some t->t.length<=Dz f
 |0,cells,t,h=>by
  rw[B5]at h
  split at h
  ·cases h;simp [Dz]
  ·split at h<;>cases h
 |f+1,cells,t,h=>by
  rw[B5]at h
  split at h
  ·cases h;simp [Dz]
  ·split at h
   ·cases h
   ·rename_i i hi
    obtain⟨t',h1,rfl⟩:=Y3.1 h
    have h2:=Px (λs _ a ha=>JK hv f _ a ha) h1
    have h3:=IV (m:=vals.length) (x:=x) (letters:=letters) (c:=(i:Int))
    have h4:(Bq vals.length x letters (i:Int)).length*Dz f<=16*Dz f:=YB _ (by omega)
    simp only[Xn,Dz]
    omega
end Go.AM
namespace Go.AM
open Go.Proofs Go.Lib
structure GwC (k:Knd) (x:Lma) (letters:List Int) (d0 d1 d2 d3 id nc tc:Nat) (H:AB):Prop where
 h0:hget H d0=some (.box (Ac k x letters))
 h1:hget H d1=some (.box [.ref id 1 0 x.cs.length x.cs.length])
 h2:hget H d2=some (.box [.fn (.func 32) [] [.ptr nc 0,.ptr tc 0]])
 h3:hget H d3=some (.box [.fn (.func 62) [] [.ptr d0 0,.ptr d1 0,.ptr d2 0,.ptr d3 0]])
theorem GwC.keep {k:Knd} {x:Lma} {letters:List Int} {d0 d1 d2 d3 id nc tc n N:Nat} {T:List Cas} {tl:Tok} {H H':AB} (h:GwC k x letters d0 d1 d2 d3 id nc tc H) (hid:∃L,hget H id=some (.arr 1 L)) (hP:NdP nc tc N T H tl) (hf:AN H n) (hk:NdF id nc tc n tl H H'):GwC k x letters d0 d1 d2 d3 id nc tc H':=by
 obtain⟨L,hid⟩:=hid
 obtain⟨hN,⟨E,hT,-,-⟩,htk,-⟩:=hP
 have key:∀d cs,hget H d=some (.box cs)->(∀N:Nat,cs≠[.int .i64 (N:Int)])->(∀E,cs≠[.sl tl E])->hget H' d=some (.box cs):=λd cs hd c1 c2=>by
  refine(hk d (hf.lt hd) (λe=>?_) (λe=>?_) (λe=>?_) (λe q=>?_)).trans hd
  ·rw[e,hid]at hd;cases hd
  ·rw[e,hN]at hd;cases hd;exact c1 _ rfl
  ·rw[e,hT]at hd;cases hd;exact c2 _ rfl
  ·rcases htk with rfl|rfl|⟨j,rfl,-,h2⟩
   ·cases q
   ·cases q
   ·cases q;rw[h2]at hd;cases hd
 obtain⟨h0,h1,h2,h3⟩:=h
 exact⟨key _ _ h0 (λN q=>by cases q) (λE q=>by cases q),key _ _ h1 (λN q=>by cases q) (λE q=>by cases q),key _ _ h2 (λN q=>by cases q) (λE q=>by cases q),key _ _ h3 (λN q=>by cases q) (λE q=>by cases q)⟩
def Dt (k:Knd) (x:Lma) (letters:List Int):List AVal->AB->Prop×AVal:=λa H=>match a with
 |[P,av]=>(P=H8 k x letters/\RdI H av (rdL H av)/\ClP k x (rdL H av),.int .i64 (FI (AP k) x letters (rdL H av)))
 |_=>(False,.tup [])
theorem Py {k:Knd} {x:Lma} {letters:List Int} (h:PrC k x letters):∀args H n,(Dt k x letters args H).1->Aa Tryz.prog 38 args H n (Dt k x letters args H).2:=by
 intro args H n hh
 unfold Dt at hh⊢
 split at hh
 ·obtain⟨rfl,h1,h2⟩:=hh
  exact(p38 k x letters _ h h2).view trivial (.cons (.wk (Wk.refl _)) (.cons (JG h1) .nil)) n
 ·exact hh.elim
def Lc:List AVal->AB->Prop×AVal:=λa H=>match a with
 |[av,.int .i64 s]=>(RdI H av (rdL H av)/\few (rdL H av),.int .i64 (idxG (rdL H av) s))
 |_=>(False,.tup [])
theorem rowIxq:∀args H n,(Lc args H).1->Aa Tryz.prog 63 args H n (Lc args H).2:=by
 intro args H n hh
 unfold Lc at hh⊢
 split at hh
 ·obtain⟨h1,h2⟩:=hh
  exact(pw63 _ _ h2).view trivial (.cons (JG h1) (.cons (.wk (Wk.refl _)) .nil)) n
 ·exact hh.elim
def Tqg (k:Knd) (x:Lma) (letters:List Int):Tab:=tadd 38 (Dt k x letters) (tadd 64 (H9 k x letters) (tadd 63 Lc tnil))
theorem Tqg_ok {k:Knd} {x:Lma} {letters:List Int} (h:PrC k x letters):AH Tryz.prog (Tqg k x letters):=((AH.tnil.add rowIxq).add (UY h.rd)).add (Py h)
theorem Vd (k:Knd) (x:Lma) (letters:List Int) (a:List AVal) (H:AB):Tqg k x letters 38 a H=Dt k x letters a H:=rfl
theorem Tqg_s (k:Knd) (x:Lma) (letters:List Int) (a:List AVal) (H:AB):Tqg k x letters 64 a H=H9 k x letters a H:=rfl
theorem Tqg_i (k:Knd) (x:Lma) (letters:List Int) (a:List AVal) (H:AB):Tqg k x letters 63 a H=Lc a H:=rfl
theorem IW {α:Type} {p q:α->Bool}:∀{l:List α},(∀x∈l,p x=q x)->l.findIdx? p=l.findIdx? q
 |[],_=>rfl
 |x::l,h=>by
  rw[Zv,Zv,h x (by simp),IW λy hy=>h y (Y9 _ hy)]
theorem Sl {cells:List Int} (h:∀s∈cells,-1<=s):idxG cells (-1)=match GX cells with|some i=>(i:Int)|none=>-1:=by
 have hc:(cells.findIdx? λx=>decide (x= -1))=cells.findIdx? λs=>decide (s<0):=by
  refine IW λs hs=>?_
  have:=h s hs
  exact decide_eq_decide.2 (by omega)
 unfold idxG GX
 rw[hc]
 cases cells.findIdx? λs=>decide (s<0)<;>rfl
theorem Ve {vals:List Int} {x:Lma} {letters cells:List Int} {f c:Nat} (h:DU vals x letters cells=some c):B5 vals x letters f cells=some [⟨Eu,c⟩]:=by
 cases f<;>rw[B5,h]
theorem Vf {vals:List Int} {x:Lma} {letters cells:List Int} {f:Nat} (h:DU vals x letters cells=none) (h2:GX cells=none):B5 vals x letters f cells=none:=by
 cases f<;>rw[B5,h,h2]
theorem Vi {vals:List Int} {x:Lma} {letters cells:List Int} {f i:Nat} (h:DU vals x letters cells=none) (h2:GX cells=some i):B5 vals x letters (f+1) cells=(catT (λs=>B5 vals x letters f (cells.set i s)) (Bq vals.length x letters i)).map λt=>⟨DA,i⟩::t:=by
 rw[B5,h,h2]
def GwP (id nc tc n N:Nat) (T:List Cas) (tl:Tok) (H:AB) (cells:List Int) (r:Option (List Cas)):AOut->AB->Nat->Prop:=λo H' n'=>
 AN H' n'/\n<=n'/\∃tl',tkN n tl tl'/\NdF id nc tc n tl H H'/\match r with
  |some t=>o= .ret (.bool true)/\NdP nc tc (N+t.length) (T++t) H' tl'/\hget H' id=some (.arr 1 (cells.map eI))
  |none=>o= .ret (.bool false)
def GwG (k:Knd) (x:Lma) (letters:List Int) (d0 d1 d2 d3 id nc tc f:Nat):Prop:=∀(cells:List Int) (T:List Cas) (N:Nat) (H:AB) (n:Nat) (tl:Tok),negs cells<=f->N+Dz f<=1000000000000->AN H n->GwC k x letters d0 d1 d2 d3 id nc tc H->NdP nc tc N T H tl->hget H id=some (.arr 1 (cells.map eI))->ClP k x cells->
 AO Tryz.prog 62 [.ptr d0 0,.ptr d1 0,.ptr d2 0,.ptr d3 0] H n (GwP id nc tc n N T tl H cells (B5 (AP k) x letters f cells))
theorem NdP.other {nc tc N id n:Nat} {T:List Cas} {H:AB} {tl:Tok} {ob:AObj} (h:NdP nc tc N T H tl) (hid:∃L,hget H id=some (.arr 1 L)):NdP nc tc N T (hset H id ob) tl:=by
 obtain⟨L,hid⟩:=hid
 obtain⟨hN,⟨E,hT,hE,hz⟩,htk,hl⟩:=h
 refine⟨by rw[AA _ _ _ _ (λe=>by rw[e,hN]at hid;cases hid)];exact hN,⟨E,by rw[AA _ _ _ _ (λe=>by rw[e,hT]at hid;cases hid)];exact hT,hE,hz⟩,?_,hl⟩
 rcases htk with rfl|rfl|⟨j,rfl,h1,h2⟩
 ·exact .inl rfl
 ·exact .inr (.inl rfl)
 ·exact .inr (.inr ⟨j,rfl,h1,by rw[AA _ _ _ _ (λe=>by rw[e,h2]at hid;cases hid)];exact h2⟩)
theorem NdF.setId {id nc tc n:Nat} {tl:Tok} {H H':AB} {ob:AObj} (h:NdF id nc tc n tl H H'):NdF id nc tc n tl H (hset H' id ob):=λi a1 a2 a3 a4 a5=>by
 rw[AA _ _ _ _ (Ne.symm a2)];exact h i a1 a2 a3 a4 a5
structure VGw where
 j:Nat
 pre:List Cas
 tl:Tok
 H:AB
 n:Nat
structure IGw (id nc tc N n0:Nat) (T:List Cas) (tl:Tok) (H0:AB) (cells L:List Int) (i f:Nat) (F:Int->Option (List Cas)) (v:VGw):Prop where
 hj:v.j<=L.length
 fr:AN v.H v.n
 hn:n0<=v.n
 tk:tkN n0 tl v.tl
 nf:NdF id nc tc n0 tl H0 v.H
 nd:NdP nc tc (N+1+v.pre.length) (T++[⟨DA,i⟩]++v.pre) v.H v.tl
 ar:∃cur,hget v.H id=some (.arr 1 ((cells.set i cur).map eI))
 he:catT F L=(catT F (L.drop v.j)).map λt=>v.pre++t
 le:v.pre.length<=v.j*Dz f
theorem t_gw1 {k:Knd} {x:Lma} {letters:List Int} (h:PrC k x letters) (d0 d1 d2 d3 id nc tc f:Nat) (hne:nc≠tc) (ih:∀f',f=f'+1->GwG k x letters d0 d1 d2 d3 id nc tc f'):GwG k x letters d0 d1 d2 d3 id nc tc f:=by
 intro cells T N H n tl hneg hN hf hG hP hid hC
 have hcl:=hC.cl.len
 have hRI:RdI H (.ref id 1 0 x.cs.length x.cs.length) cells:=.inr ⟨id,_,[],by rw[hcl],by rw[Xu];exact hid,by omega⟩
 have hrd:=Gp hRI
 have hG0:=hG
 obtain⟨h0,h1,h2,h3⟩:=hG0
 have hP0:=hP
 have h0':=h0
 simp only[Ac,AE,AD,AK,AT,Xl,Xo]at h0'
 have hx4:=h.ox.cs.2.2.2
 have hfew:few cells:=by show cells.length<_;omega
 have hfi:=Sl hC.ge
 refine a62 (AF (Tqg_ok h) (AG ?_))
 have eP:∀P:Prop,((AVal.agg [.str k.d.nm,.int .i64 k.d.ver,.int .i64 k.d.sh,.int .i64 k.d.w,.int .i64 k.d.h,eIs k.d.holes,eSys k.d.syms,eRgs k.d.regs,eCls k.d.clus,eRus k.d.ruls,.int .i64 k.g.sh,.int .i64 k.g.w,.int .i64 k.g.h,eIs k.g.holes,eIs k.g.cells,eLl k.nb,eLLs k.ls,.str x.nm,.int .i64 x.lv,eSs x.cs,eSs x.ls,.sl (.none 4) (x.qs.map encQ),.sl (.none 2) (x.ps.map encM),.int .i64 x.c,.int .i64 x.l,eIs letters]=H8 k x letters)/\P)=P:=λP=>propext ⟨λq=>q.2,λq=>⟨rfl,q⟩⟩
 have eP1:(AVal.agg [.str k.d.nm,.int .i64 k.d.ver,.int .i64 k.d.sh,.int .i64 k.d.w,.int .i64 k.d.h,eIs k.d.holes,eSys k.d.syms,eRgs k.d.regs,eCls k.d.clus,eRus k.d.ruls,.int .i64 k.g.sh,.int .i64 k.g.w,.int .i64 k.g.h,eIs k.g.holes,eIs k.g.cells,eLl k.nb,eLLs k.ls,.str x.nm,.int .i64 x.lv,eSs x.cs,eSs x.ls,.sl (.none 4) (x.qs.map encQ),.sl (.none 2) (x.ps.map encM),.int .i64 x.c,.int .i64 x.l,eIs letters]=H8 k x letters)=True:=X1 rfl
 have weak:∀{H'},NdF nc nc tc n tl H H'->NdF id nc tc n tl H H':=λq i a1 a2 a3 a4 a5=>q i a1 a3 a3 a4 a5
 have idk:∀{H'},NdF nc nc tc n tl H H'->hget H' id=hget H id:=λq=>q id (hf.lt hid) (λe=>by rw[e,hP.hN]at hid;cases hid) (λe=>by rw[e,hP.hN]at hid;cases hid) (λe=>by
  obtain⟨E,hT,-⟩:=hP.hT
  rw[e,hT]at hid;cases hid) (λe q=>by
  rcases hP.tk with hk|hk|⟨j,hk,-,hk2⟩
  ·rw[hk]at q;cases q
  ·rw[hk]at q;cases q
  ·rw[hk]at q;cases q;rw[hk2]at hid;cases hid)
 cases hfc:DU (AP k) x letters cells with
 |some c=>
  have hcn:FI (AP k) x letters cells=(c:Int):=by unfold FI;rw[hfc]
  rw[Ve hfc]
  simp only[eE,eC,eN,reduceCtorEq,Nat.reduceEqDiff,↓reduceIte,Nat.reduceAdd,Nat.reduceLeDiff,X4,c62,h0',h1,h2,Vd,Dt,eP1,hrd,X1 hRI,X1 hC,hcn]
  have hg1:1<=Dz f:=by cases f<;>simp [Dz]
  refine(UZ ⟨Eu,c⟩ nc hf hP hne (by omega)).mono ?_
  rintro o H' n' ⟨rfl,q1,q2,tl',q3,q4,q5⟩
  simp only[eE,eN,↓reduceIte,retK]
  exact⟨q1,q2,tl',q4,weak q5,rfl,q3,(idk q5).trans hid⟩
 |none=>
 have hcn:FI (AP k) x letters cells= -1:=by unfold FI;rw[hfc]
 cases hfr:GX cells with
 |none=>
  rw[hfr]at hfi
  simp only[]at hfi
  rw[Vf hfc hfr]
  simp only[eE,eC,eN,reduceCtorEq,Nat.reduceEqDiff,↓reduceIte,Nat.reduceAdd,Int.reduceLE,Int.reduceLT,c62,h0',h1,Vd,Dt,eP1,hrd,X1 hRI,X1 hC,hcn,Tqg_i,Lc,X1 hfew,hfi]
  exact⟨hf,Xb _,tl,.inl rfl,NdF.refl _,rfl⟩
 |some i=>
 rw[hfr]at hfi
 simp only[]at hfi
 obtain⟨s0,hs0,hs0n⟩:=Ff hfr
 cases f with
 |zero=>have:=KF (by omega) hs0;omega
 |succ f=>
 have ih:=ih f rfl
 rw[Vi hfc hfr]
 have hvl:(AP k).length=k.d.syms.length:=by unfold AP;rw[X0]
 rw[hvl]
 have hsy:=A7 h.ck
 have hCl:=IV (m:=k.d.syms.length) (x:=x) (letters:=letters) (c:=(i:Int))
 have hCr:∀s∈Bq k.d.syms.length x letters (i:Int),0<=s/\s<(k.d.syms.length:Int):=λs hs=>by
  rw[DG]at hs
  exact B3.1 (Yo.1 hs).1
 have il:i<cells.length:=(Xw.1 hs0).1
 have i0:((0:Int)<=(i:Int))=True:=X1 (by omega)
 have ineg:((i:Int)<0)=False:=X9 (by omega)
 have idneg:decide ((i:Int)<0)=false:=Xr (by omega)
 simp only[Dz]at hN
 simp only[eE,eC,eN,reduceCtorEq,Nat.reduceEqDiff,↓reduceIte,Nat.reduceAdd,Nat.reduceLeDiff,Int.reduceLE,c62,h0',h1,h2,Vd,Dt,eP1,hrd,X1 hRI,X1 hC,hcn,Tqg_i,Lc,X1 hfew,hfi,ineg]
 refine(UZ ⟨DA,i⟩ nc hf hP hne (by omega)).mono ?_
 rintro o H1 n1 ⟨rfl,q1,q2,tl1,q3,q4,q5⟩
 have hG1:=hG.keep ⟨_,hid⟩ hP hf (weak q5)
 have hid1:=(idk q5).trans hid
 obtain⟨e0,e1,e2,e3⟩:=hG1
 have e0':=e0
 simp only[Ac,AE,AD,AK,AT,Xl,Xo]at e0'
 simp only[eE,eN,reduceCtorEq,Nat.reduceEqDiff,↓reduceIte,Nat.reduceAdd,X0,retK,e0',Tqg_s,H9,eP1]
 generalize Bq k.d.syms.length x letters (i:Int)=L at hCl hCr
 obtain⟨F,hF⟩:∃F:Int->Option (List Cas),(λs=>B5 (AP k) x letters f (cells.set i s))=F:=⟨_,rfl⟩
 rw[hF]
 have hFs:∀s,F s=B5 (AP k) x letters f (cells.set i s):=λs=>by rw[<-hF]
 have hse:cells.set i s0=cells:=by
  refine Zb λa=>?_
  rw[Ya]
  split
  ·rename_i q;subst q;exact hs0.symm
  ·rfl
 have hs1:s0= -1:=by have:=hC.ge s0 (XS hs0);omega
 subst hs1
 refine AU (λv:VGw=>⟨[(1,true,.ptr d1 0),(3,true,.ptr d3 0),(6,true,.int .i64 i),(28,true,eIs L),(29,true,.int .i64 L.length),(30,true,.int .i64 v.j)],v.H,v.n⟩) (IGw id nc tc N n T tl H cells L i f F) (λv=>L.length-v.j)
  ⟨0,[],tl1,H1,n1⟩ rfl ⟨Xh _,q1,q2,q4,weak q5,by simpa using q3,⟨-1,by rw[hse];exact hid1⟩,by simp,by simp⟩ ?_
 rintro⟨j,pre,tl2,H2,n2⟩ ⟨hj,hf2,hn2,htk2,hnf2,hnd2,⟨cur,har2⟩,he,hle⟩
 simp only at hj hf2 hn2 htk2 hnf2 hnd2 har2 he hle
 have hG2:=hG.keep ⟨_,hid⟩ hP hf hnf2
 obtain⟨u0,u1,u2,u3⟩:=hG2
 have il2:(i<(cells.set i cur).length)=True:=X1 (by simpa using il)
 have il3:((i:Int)<(x.cs.length:Int))=True:=X1 (by omega)
 have est:∀z:Int,((cells.set i cur).map eI).set i (.int .i64 z)=(cells.set i z).map eI:=λz=>by
  rw[show(.int .i64 z:AVal)=eI z from rfl,<-ZK,List.set_set]
 have hidn2:=hf2.lt har2
 by_cases hlt:j<L.length
 case neg=>
  obtain rfl:j=L.length:=by omega
  rw[Yt,catT,XU,Xu]at he
  rw[he,XU]
  have est1:=est (-1)
  rw[hse]at est1
  simp only[eE,eC,eN,Nat.reduceEqDiff,↓reduceIte,X3,X4,X0,X6,lt_F hlt,u1,har2,il2,il3,est1]
  refine⟨hf2.hset (Xb _) hidn2,hn2,tl2,htk2,hnf2.setId,rfl,?_,AC ..⟩
  have:=hnd2.other (n:=n2) (ob:=.arr 1 (cells.map eI)) ⟨_,har2⟩
  rw[Xn,show N+(pre.length+1)=N+1+pre.length by omega,show T++(⟨DA,i⟩:Cas)::pre=T++[⟨DA,i⟩]++pre by simp]
  exact this
 have e:=AL (k:=j) (by omega)
 have hg:=X5 hlt
 have hdr:=XM hlt
 have hsr:=hCr _ (Xk hlt)
 rw[hdr,catT]at he
 generalize L[j]=s at hg hsr he
 have y4:(id=d3)=False:=X9 λq=>by rw[q,u3]at har2;cases har2
 simp only[eE,eC,eN,Nat.reduceEqDiff,↓reduceIte,X2,X3,X4,X0,X6,lt_T hlt,hg,u1,u3,har2,il2,il3,est s,y4]
 generalize hH3:hset H2 id (AObj.arr 1 ((cells.set i s).map eI))=H3
 have hf3:AN H3 n2:=by rw[<-hH3];exact hf2.hset (Xb _) hidn2
 have har3:hget H3 id=some (.arr 1 ((cells.set i s).map eI)):=by rw[<-hH3,AC]
 have hnd3:NdP nc tc (N+1+pre.length) (T++[⟨DA,i⟩]++pre) H3 tl2:=by rw[<-hH3];exact hnd2.other (n:=n2) ⟨_,har2⟩
 have hnf3:NdF id nc tc n tl H H3:=by rw[<-hH3];exact hnf2.setId
 have hC3:ClP k x (cells.set i s):=⟨⟨by rw[Ye];exact hcl,λz hz h0=>by
  rcases Yq hz with q|q
  ·exact hC.cl.sy z q h0
  ·rw[q];exact hsr⟩,λz hz=>by
  rcases Yq hz with q|q
  ·exact hC.ge z q
  ·omega⟩
 have hng3:negs (cells.set i s)<=f:=by have:=Gg hs0 hs0n hsr.1;omega
 have hjm:(j+1)*Dz f<=16*Dz f:=YB _ (by omega)
 rw[Yc]at hjm
 refine(ih (cells.set i s) (T++[⟨DA,i⟩]++pre) (N+1+pre.length) H3 n2 tl2 hng3 (by omega) hf3 (hG.keep ⟨_,hid⟩ hP hf hnf3) hnd3 har3 hC3).mono ?_
 rintro o H4 n4 ⟨r1,r2,tl4,r3,r4,r5⟩
 rw[<-hFs]at r5
 have hnf4:=hnf3.trans r4 hn2 htk2
 have htk4:=htk2.trans r3 hn2
 cases hFr:F s with
 |none=>
  rw[hFr]at r5 he
  simp only[YE]at he
  obtain rfl:o= .ret (.bool false):=r5
  rw[he]
  simp only[eE,eC,eN,Nat.reduceEqDiff,↓reduceIte,Xe,retK,Xe]
  exact⟨r1,by omega,tl4,htk4,hnf4,rfl⟩
 |some t=>
  rw[hFr]at r5 he
  obtain⟨rfl,r6,r7⟩:=r5
  simp only[eE,eC,eN,Nat.reduceEqDiff,↓reduceIte,Int.reduceEq,X7,retK,X7,e]
  have hgl:=JK (vals:=AP k) (x:=x) (letters:=letters) (by omega) f _ t (by rw[<-hFs];exact hFr)
  refine .mk ⟨j+1,pre++t,tl4,H4,n4⟩ rfl ⟨hlt,r1,by simp only[];omega,htk4,hnf4,?_,⟨s,r7⟩,?_,?_⟩ (by simp only[];omega)
  ·simp only[]
   rw[Xm,<-ZH,<-XR];exact r6
  ·rw[he]
   simp only[Option.map_map]
   congr 1
   funext b
   simp
  ·simp only[Xm,Yc];omega
theorem t_gw {k:Knd} {x:Lma} {letters:List Int} (h:PrC k x letters) (d0 d1 d2 d3 id nc tc:Nat) (hne:nc≠tc):∀f,GwG k x letters d0 d1 d2 d3 id nc tc f
 |0=>t_gw1 h d0 d1 d2 d3 id nc tc 0 hne λf' hf=>by omega
 |f+1=>t_gw1 h d0 d1 d2 d3 id nc tc (f+1) hne λf' hf=>by
  obtain rfl:f'=f:=by omega
  exact t_gw h d0 d1 d2 d3 id nc tc hne f'
end Go.AM
namespace Go.AM
open Go.Proofs Go.Lib
def Ba (k:Knd) (x:Lma):AVal:=if Ao k x≠0 then .tup [.sl .nil [],.int .i64 (Ao k x)]else .tup [.sl (.none 1) ((chs k.d.syms.length x.ls.length).map eIs),.int .i64 0]
def Tpv:Tab:=tadd 60 (s2 dKn dI (λk _=>FewD k.d) DV) Tsv
theorem Tpv_ok:AH Tryz.prog Tpv:=UV.add (q2 λk n h=>p60 k n h)
theorem Vj (a:List AVal) (H:AB):Tpv 50 a H=s1 dKn (λk=>FewD k.d) (λk=>.int .i64 (Al k)) a H:=rfl
theorem Tpv_m (a:List AVal) (H:AB):Tpv 42 a H=s1 dX FewL (λx=>eI (chk x)) a H:=rfl
theorem Tpv_l (a:List AVal) (H:AB):Tpv 60 a H=s2 dKn dI (λk _=>FewD k.d) DV a H:=rfl
theorem Ua {x:Lma} (h:chk x=0):OKL x:=by
 unfold chk at h
 split at h
 ·rename_i q;exact(MP x).1 q
 ·cases h
theorem p30 (k:Knd) (x:Lma) (hk:FewD k.d) (hx:FewL x):Pur Tryz.prog 30 [BF k,encL x] (Ba k x):=by
 have u1:dKn.ok (.agg (AE k))=True:=CX k
 have u2:dKn.dec (.agg (AE k))=k:=Bd k
 simp only[AE,AD,AK,Xl,Xo]at u1 u2
 have v1:dX.ok (.agg (AT x))=True:=GY x
 have v2:dX.dec (.agg (AT x))=x:=Dy x
 simp only[AT]at v1 v2
 have i1:∀z:Int,dI.ok (.int .i64 z)=True:=λz=>X1 trivial
 have i2:∀z:Int,dI.dec (.int .i64 z)=z:=λz=>rfl
 refine .mk ⟨Ab 0 k,Ah 0 x,trivial⟩ ?_ (a30 (AF Tpv_ok (AG ?_)))
 ·unfold Ba
  split
  ·exact⟨⟨trivial,trivial⟩,trivial,trivial⟩
  ·exact⟨⟨trivial,AY (λl=>AW 0 l) _⟩,trivial,trivial⟩
 unfold Ba
 by_cases h:Al k=0
 case neg=>
  have hv:Ao k x=Al k:=by unfold Ao;rw[Xg h]
  rw[hv,Xg h]
  simp only[eE,eC,eN,reduceCtorEq,Nat.reduceEqDiff,↓reduceIte,Nat.reduceAdd,Xe,c30,AE,AD,AK,Vj,s1,u1,u2,X1 hk,X9 h]
  exact Wk.refl _
 have hv:Ao k x=chk x:=by unfold Ao;rw[Xc (by simpa using h)]
 rw[hv]
 by_cases h2:chk x=0
 case neg=>
  rw[Xg h2]
  simp only[eE,eC,eN,reduceCtorEq,Nat.reduceEqDiff,↓reduceIte,Nat.reduceAdd,X7,Xe,c30,AE,AD,AK,Vj,Tpv_m,s1,u1,u2,v1,v2,X1 hk,X1 hx,X1 h,X9 h2]
  exact Wk.refl _
 rw[Xc (by simpa using h2)]
 have hl:DV k (x.ls.length:Int)= .tup [.sl (.none 1) ((chs k.d.syms.length x.ls.length).map eIs),.int .i64 0]:=by
  unfold DV
  have:=(Ua h2).ls.2.2
  rw[Xc (by simpa using h),Xc (by omega),X3]
 simp only[eE,eC,eN,reduceCtorEq,Nat.reduceEqDiff,↓reduceIte,Nat.reduceAdd,Nat.reduceLeDiff,Nat.reduceLT,X7,X2,X0,Xa,Xd,c30,AE,AD,AK,Vj,Tpv_m,Tpv_l,s1,s2,u1,u2,v1,v2,i1,i2,X1 hk,X1 hx,X1 h,X1 h2,hl]
 exact Wk.refl _
def TgP (nc tc n N:Nat) (T:List Cas) (tl:Tok) (H:AB) (r:Option (List Cas)):AOut->AB->Nat->Prop:=λo H' n'=>
 AN H' n'/\n<=n'/\∃tl',tkN n tl tl'/\(∀i,i<n->i≠nc->i≠tc->(∀e,tl≠ .own i e)->hget H' i=hget H i)/\match r with
  |some t=>o= .ret (.bool true)/\NdP nc tc (N+t.length) (T++t) H' tl'
  |none=>o= .ret (.bool false)
theorem NdP.low {nc tc N n:Nat} {T:List Cas} {H H':AB} {tl:Tok} (h:NdP nc tc N T H tl) (hf:AN H n) (hk:∀i,i<n->hget H' i=hget H i):NdP nc tc N T H' tl:=by
 obtain⟨hN,⟨E,hT,hE,hz⟩,htk,hl⟩:=h
 refine⟨(hk _ (hf.lt hN)).trans hN,⟨E,(hk _ (hf.lt hT)).trans hT,hE,hz⟩,?_,hl⟩
 rcases htk with rfl|rfl|⟨j,rfl,h1,h2⟩
 ·exact .inl rfl
 ·exact .inr (.inl rfl)
 ·exact .inr (.inr ⟨j,rfl,h1,(hk _ (hf.lt h2)).trans h2⟩)
theorem Vk {k:Knd} {x:Lma} {letters:List Int} (h:PrC k x letters):ClP k x (begC x letters):=by
 have hvl:(AP k).length=k.d.syms.length:=by unfold AP;rw[X0]
 have hb:=Cs (vals:=AP k) h.ox (by rw[hvl];exact h.lt)
 refine⟨⟨Eh ..,λs hs h0=>?_⟩,λs hs=>?_⟩
 ·unfold begC at hs
  rcases Yq hs with q|q
  ·rw[Zm]at q;omega
  ·rw[q];exact⟨hb.1,by omega⟩
 ·unfold begC at hs
  rcases Yq hs with q|q
  ·rw[Zm]at q;omega
  ·omega
theorem Sm {k:Knd} {x:Lma} {letters:List Int} (h:PrC k x letters) {H:AB} {n nc tc N:Nat} {T:List Cas} {tl:Tok} (hne:nc≠tc) (hN:N+Dz x.cs.length<=1000000000000) (hf:AN H n) (hP:NdP nc tc N T H tl):
  AO Tryz.prog 31 [H8 k x letters,.fn (.func 32) [] [.ptr nc 0,.ptr tc 0]] H n (TgP nc tc n N T tl H (B5 (AP k) x letters x.cs.length (begC x letters))):=by
 have x1:=hf.lt hP.hN
 obtain⟨E,hT,-⟩:=hP.hT
 have x2:=hf.lt hT
 refine a31 (AF AH.tnil (AG ?_))
 have w1:∀a b:Nat,(n+a=n+b)=(a=b):=λa b=>propext ⟨λh=>by omega,λh=>by omega⟩
 have w2:∀b:Nat,(n=n+b)=(b=0):=λb=>propext ⟨λh=>by omega,λh=>by omega⟩
 simp only[eE,eN,reduceCtorEq,Nat.reduceEqDiff,↓reduceIte,Nat.reduceAdd,c31,fr0 hf,fr1 hf,Ac,AE,AD,AK,AT,w2]
 obtain⟨Ha,hHa⟩:∃Ha,hset (hset H n (.box (Ac k x letters))) (n+1) (.box [.fn (.func 32) [] [.ptr nc 0,.ptr tc 0]])=Ha:=⟨_,rfl⟩
 have hfa:AN Ha (n+3):=by rw[<-hHa];exact(hf.hset (m:=n+3) (by omega) (by omega)).hset (Xb _) (by omega)
 have ga0:hget Ha n=some (.box (Ac k x letters)):=by rw[<-hHa,AA _ _ _ _ (by omega),AC]
 have ga1:hget Ha (n+1)=some (.box [.fn (.func 32) [] [.ptr nc 0,.ptr tc 0]]):=by rw[<-hHa,AC]
 have gk:∀i,i<n->hget Ha i=hget H i:=λi hi=>by rw[<-hHa,AA _ _ _ _ (by omega),AA _ _ _ _ (by omega)]
 simp only[Ac,AE,AD,AK,AT,Xl,Xo]at hHa
 rw[hHa]
 have hfa7:AN Ha (n+7):=λi hi=>hfa i (by omega)
 refine(Pw hfa7 h.rd).mono ?_
 rintro o H1 n1 ⟨rfl,rfl,rfl⟩
 simp only[eE,eN,Nat.reduceEqDiff,↓reduceIte,Nat.reduceAdd,retK,w1,AJ]
 refine⟨hfa _ (by omega),hfa _ (by omega),?_⟩
 generalize hHb:hset (hset (hset (hset Ha (n+7) _) (n+11) _) (n+5) _) (n+13) _=Hb
 have hfb:AN Hb (n+14):=by
  rw[<-hHb]
  exact(((hfa.hset (m:=n+14) (by omega) (by omega)).hset (Xb _) (by omega)).hset (Xb _) (by omega)).hset (Xb _) (by omega)
 have kb:∀i,i<n+5->hget Hb i=hget Ha i:=λi hi=>by
  rw[<-hHb,AA _ _ _ _ (by omega),AA _ _ _ _ (by omega),AA _ _ _ _ (by omega),AA _ _ _ _ (by omega)]
 have kn:∀i,i<n->hget Hb i=hget H i:=λi hi=>(kb i (by omega)).trans (gk i hi)
 have hG:GwC k x letters n (n+5) (n+1) (n+13) (n+11) nc tc Hb:=by
  refine⟨(kb n (by omega)).trans ga0,?_,(kb (n+1) (by omega)).trans ga1,?_⟩
  ·rw[<-hHb,AA _ _ _ _ (by omega),AC]
  ·rw[<-hHb,AC]
 have hid:hget Hb (n+11)=some (.arr 1 ((begC x letters).map eI)):=by
  rw[<-hHb,AA _ _ _ _ (by omega),AA _ _ _ _ (by omega),AC]
 refine(t_gw h n (n+5) (n+1) (n+13) (n+11) nc tc hne x.cs.length (begC x letters) T N Hb (n+14) tl Jx hN hfb hG (hP.low hf kn) hid (Vk h)).mono ?_
 rintro o H' n' ⟨q1,q2,tl',q3,q4,q5⟩
 have hk:∀i,i<n->i≠nc->i≠tc->(∀e,tl≠ .own i e)->hget H' i=hget H i:=λi a1 a2 a3 a4=>(q4 i (by omega) (by omega) a2 a3 a4).trans (kn i a1)
 have htn:tkN n tl tl':=q3.imp (λz=>z) λ⟨j,e,hj⟩=>⟨j,e,by omega⟩
 cases hg:B5 (AP k) x letters x.cs.length (begC x letters)with
 |none=>
  rw[hg]at q5
  obtain rfl:o= .ret (.bool false):=q5
  simp only[eE,eN,↓reduceIte,retK]
  exact⟨q1,by omega,tl',htn,hk,rfl⟩
 |some t=>
  rw[hg]at q5
  obtain⟨rfl,q6,-⟩:=q5
  simp only[eE,eN,↓reduceIte,retK]
  exact⟨q1,by omega,tl',htn,hk,rfl,q6⟩
end Go.AM
