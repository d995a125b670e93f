/-
  The program's reader of a proof: premises and complaints · The program's reader of a tree · The program's Check of proof.
  Conditions: none beyond those of its parts.
-/
import Derived.Test.YtncahiacfdihpaaGreatDoorB13
import Derived.Test.YtncahiacfdihpaaGreatDoorB9

set_option maxRecDepth 20000
set_option linter.all false
namespace Go.AM
open Go.Proofs Go.Lib
abbrev BJ(k:Knd)(x:Lma)(letters:List Int)(w:AVal):List AVal:=AL k++(Ae x++[eIs letters,w])
def GD(x:Lma)(letters:List Int)(c:Int):AVal:=match G7 x c with
 |none=>.tup [.sl .nil [],.bool false]
 |some p=>.tup [eIs (p.ls.map (at0 letters)),.bool true]
theorem Kb(x:Lma)(letters:List Int)(c:Int)(n:Nat):(GD x letters c).under n:=by
 unfold GD
 split
 ·exact⟨⟨trivial,trivial⟩,trivial,trivial⟩
 ·exact⟨Aa n _,trivial,trivial⟩
structure VPm where
 i:Nat
 H:AB
 n:Nat
structure VPl where
 j:Nat
 tk:Tok
 H:AB
 n:Nat
structure IPm(H0:AB)(n0:Nat)(x:Lma)(c:Int)(v:VPm):Prop where
 hi:v.i<=x.ps.length
 fr:AN v.H v.n
 hn:n0<=v.n
 kp:BR H0 v.H
 he:G7 x c=(x.ps.drop v.i).find? λp=>decide (p.c=c)
structure IPl(H0:AB)(n0:Nat)(p:Prm)(letters:List Int)(v:VPl):Prop where
 hj:v.j<=p.ls.length
 fr:AN v.H v.n
 hn:n0<=v.n
 kp:BR H0 v.H
 tok:tkG 1 n0 v.H v.tk
 es:v.tk.esz=1\/(p.ls.take v.j).map (at0 letters)=[]
theorem Mv{H0 H:AB}{n0 e:Nat}{tk:Tok}(hf:AN H0 n0)(h:tkG e n0 H tk)(hk:BR H0 H):BR H0 (AW H tk):=λid ob h0=>by
 rw[Ai h (.inl (hf.lt h0))];exact hk id ob h0
theorem t_prem{H:AB}{n rp:Nat}{k:Knd}{x:Lma}{letters:List Int}{w:AVal}(c:Int)(hf:AN H n)(hq:hget H rp=some (.box (BJ k x letters w)))(hps:few x.ps)(hpl:∀p∈x.ps,few p.ls/\∀c∈p.ls,0<=c/\c<(letters.length:Int)):
  AI Tryz.prog 81 [.ptr rp 0,.int .i64 c] H n (QRet H (GD x letters c)):=by
 have hpsl:x.ps.length<1000000000:=hps
 have hq0:=hq
 simp only[BJ,AL,AG,AO,Ae,Vu,Vw]at hq
 refine a81 (AE AH.tnil (AF ?_))
 simp only[eE,eN,reduceCtorEq,Nat.reduceEqDiff,↓reduceIte,Nat.reduceAdd,Nat.reduceLeDiff,V0,c81,hq]
 refine AU (λv:VPm=>⟨[(0,true,.ptr rp 0),(1,true,.int .i64 c),(4,true,.sl .nil []),(14,true,.sl (.none 2) (x.ps.map encM)),(15,true,.int .i64 x.ps.length),(16,true,.int .i64 v.i)],v.H,v.n⟩) (IPm H n x c) (λv=>x.ps.length-v.i)
  ⟨0,H,n⟩ rfl ⟨Vi _,hf,V9 _,BR.refl _,rfl⟩ ?_
 rintro⟨i,H1,n1⟩ ⟨hi,hf1,hn1,hk1,he⟩
 simp only at hi hf1 hn1 hk1 he
 by_cases hlt:i<x.ps.length
 case neg=>
  obtain rfl:i=x.ps.length:=by omega
  rw[Wx]at he
  simp only[eE,eC,eN,reduceCtorEq,Nat.reduceEqDiff,↓reduceIte,lt_F hlt]
  unfold GD
  rw[he]
  exact⟨Wk.refl _,hk1⟩
 have hg:=V5 hlt
 have e:=AJ (k:=i) (by omega)
 obtain⟨hpf,hpi⟩:=hpl _ (Vn hlt)
 rw[VO hlt]at he
 generalize x.ps[i]=p at hg hpf hpi he
 have hk2:∀{ob:AObj} {j:Nat},n1<=j->BR H (hset H1 j ob):=λhj=>hk1.new hf (by omega)
 by_cases hc:p.c=c
 case neg=>
  rw[List.find?_cons_of_neg (by simpa using hc)]at he
  simp only[eE,eC,eN,reduceCtorEq,Nat.reduceEqDiff,↓reduceIte,Nat.reduceAdd,Nat.reduceLeDiff,Int.reduceEq,V1,V2,V4,V0,V6,lt_T hlt,hg,fr1 hf1,AK,Vd hc,e]
  exact .mk ⟨i+1,hset H1 (n1+2) (.box [.int .i64 p.c,eIs p.ls]),n1+4⟩ rfl ⟨hlt,hf1.hset (m:=n1+4) (by omega) (by omega),by simp only[];omega,hk2 (by omega),he⟩ (by simp only[];omega)
 rw[List.find?_cons_of_pos (by simpa using hc)]at he
 have hpl':p.ls.length<1000000000:=hpf
 simp only[eE,eC,eN,reduceCtorEq,Nat.reduceEqDiff,↓reduceIte,Nat.reduceAdd,Nat.reduceLeDiff,V1,V2,V4,V0,V6,lt_T hlt,hg,fr1 hf1,AK,V3 hc]
 refine AU (λv:VPl=>⟨[(0,true,.ptr rp 0),(4,true,.sl v.tk (((p.ls.take v.j).map (at0 letters)).map eI)),(25,true,eIs p.ls),(26,true,.int .i64 p.ls.length),(27,true,.int .i64 v.j)],v.H,v.n⟩) (IPl H n p letters) (λv=>p.ls.length-v.j)
  ⟨0,.nil,hset H1 (n1+2) (.box [.int .i64 p.c,eIs p.ls]),n1+4⟩ rfl ⟨Vi _,hf1.hset (m:=n1+4) (by omega) (by omega),by simp only[];omega,hk2 (by omega),.inl rfl,.inr rfl⟩ ?_
 rintro⟨j,tk,H2,n2⟩ ⟨hj,hf2,hn2,hk2',htk,hes⟩
 simp only at hj hf2 hn2 hk2' htk hes
 by_cases hlj:j<p.ls.length
 case neg=>
  obtain rfl:j=p.ls.length:=by omega
  rw[VQ]at hes
  simp only[eE,eC,eN,reduceCtorEq,Nat.reduceEqDiff,↓reduceIte,lt_F hlj]
  rw[VQ]
  unfold GD
  rw[he]
  exact⟨Wk.tup (.cons (Wk.sl (hes.imp id λq=>by rw[q];rfl)) (.cons (Wk.refl _) .nil)),hk2'⟩
 have hg:=V5 hlj
 have e:=AJ (k:=j) (by omega)
 have hci:=hpi _ (Vn hlj)
 have htake:p.ls.take (j+1)=p.ls.take j++[p.ls[j]]:=by rw[VX,hg];rfl
 generalize p.ls[j]=y at hg hci htake
 have hgx:=Cy hci.1 hci.2
 have hX:((p.ls.take j).map (at0 letters)).length<=j:=by simp;omega
 have q1:Bh H2 1 tk=True:=V3 htk.app
 have q2:(((p.ls.take j).map (at0 letters)).length<=35184372088831)=True:=V3 (by omega)
 have q3:Al (((p.ls.take j).map (at0 letters)).length+1) 8=True:=V3 (AX (by omega) (by decide))
 have hrp:=hk2' _ _ hq
 generalize hXd:(p.ls.take j).map (at0 letters)=X at hX q2 q3 hes
 simp only[eE,eC,eN,reduceCtorEq,Nat.reduceEqDiff,↓reduceIte,Nat.reduceAdd,Nat.reduceLeDiff,Nat.reduceMul,Nat.reduceLT,Int.reduceEq,V1,V2,V4,V0,V6,lt_T hlj,hg,hrp,V3 hci.1,V3 hci.2,hgx,q1,q2,q3,fr1 hf2,e]
 refine .mk ⟨j+1,.own (n2+9) 1,hset (AW H2 tk) (n2+9) .tok,n2+11⟩ ?_ ⟨hlj,(Ak htk hf2).hset (m:=n2+11) (by omega) (by omega),by simp only[];omega,BR.new hf (by omega) (Mv hf htk hk2'),.inr (.inr ⟨n2+9,rfl,by omega,AC ..⟩),.inl rfl⟩ (by simp only[];omega)
 simp only[htake,Vl,Vs,VP,hXd]
theorem q_prem{H:AB}{n rp:Nat}{k:Knd}{x:Lma}{letters:List Int}{w:AVal}(c:Int)(hq:hget H rp=some (.box (BJ k x letters w)))(hps:few x.ps)(hpl:∀p∈x.ps,few p.ls/\∀c∈p.ls,0<=c/\c<(letters.length:Int)):
  AZ Tryz.prog 81 [.ptr rp 0,.int .i64 c] H n (GD x letters c):=
 AZ.of l81 (Kb x letters c n) λhf=>t_prem c hf hq hps hpl
structure RdC(k:Knd)(x:Lma)(letters:List Int):Prop where
 ck:Bf k=0
 fd:FewD k.d
 fx:FewL x
 ox:OKL x
 ll:letters.length=x.ls.length
structure ClC(k:Knd)(x:Lma)(cells:List Int):Prop where
 len:cells.length=x.cs.length
 sy:∀s∈cells,0<=s->okSy k s
def RdAt(H:AB)(rp:Nat)(k:Knd)(x:Lma)(letters:List Int):Prop:=∃w,hget H rp=some (.box (BJ k x letters w))
theorem Mw{k:Knd}(h:Bf k=0):∀y∈k.d.syms,0<=y.v/\y.v<=99:=by
 have h1:HL k=true:=by
  unfold Bf at h
  split at h
  ·assumption
  ·cases h
 obtain⟨x,cells,-,h3,-,h4⟩:=IH (Lb h1)
 have h5:k.d=x:=by rw[h4];rfl
 rw[<-h5]at h3
 have h6:=(SA.1 h3).1.form
 unfold CF at h6
 simp only[V7,Vj,Vf]at h6
 intro y hy
 exact h6.1.1.1 y hy
theorem Q3{k:Knd}{x:Lma}{letters:List Int}(h:RdC k x letters):∀p∈x.ps,few p.ls/\∀c∈p.ls,0<=c/\c<(letters.length:Int):=by
 intro p hp
 refine⟨h.fx.p p hp,λc hc=>?_⟩
 have:=Vj.1 (Gt (h.ox.ps p hp).1) c hc
 simp only[V7,Vf]at this
 rw[h.ll];exact this
theorem Ob{x:Lma}(h:OKL x){p:Prm}(hp:p∈x.ps):0<=p.c/\p.c<(x.cs.length:Int):=by
 have:=Vj.1 (Gt h.pc) p.c (W2.2 ⟨p,hp,rfl⟩)
 simpa only[V7,Vf]using this
theorem IQ{ps:List Prm}(h:A1 (ps.map (·.c))=true){p:Prm}(hp:p∈ps):ps.find? (λq=>decide (q.c=p.c))=some p:=by
 induction ps with
 |nil=>cases hp
 |cons q ps ih=>
  rw[Vs,A1,V7]at h
  rcases Vz.1 hp with rfl|hp
  ·rw[List.find?_cons_of_pos (by simp)]
  ·grind
theorem Oc{x:Lma}(h:OKL x){p:Prm}(hp:p∈x.ps):G7 x p.c=some p:=by
 have:=h.pc
 unfold difI at this
 rw[V7]at this
 exact IQ this.2 hp
theorem EH{α:Type}[DecidableEq α]:∀{l:List α},A1 l=true->l.Nodup
 |[],_=>Xy
 |x::r,h=>by
  rw[A1,V7]at h
  refine WQ.2 ⟨λhx=>?_,EH h.2⟩
  have h1:=h.1
  simp only[WF,List.any_eq_false,Vf]at h1
  exact h1 x hx rfl
theorem Th{l:List Int}{n:Nat}(h:difI l n=true):l.length<=n:=by
 have h1:=Gt h
 unfold difI at h
 rw[V7]at h
 have:=F8 (b:=symI n) (EH h.2) λc hc=>by
  have:=Vj.1 h1 c hc
  simp only[V7,Vf]at this
  exact F5.2 this
 unfold symI at this
 simpa using this
theorem cl_ok{k:Knd}{x:Lma}{letters cells:List Int}(h:RdC k x letters)(hc:ClC k x cells){q:Cnd}(hq:q∈x.qs):ClOK k q letters cells:=by
 have h1:=cnd_ok (h.ox.qs q hq)
 have hf:=h.fx.q q hq
 have hcs:=h.ox.cs.2.2.2
 refine⟨by rcases h1.kind with h|h|h|h|h<;>omega,?_,hf.1,λc hcc=>?_,hf.2,λc hcc=>?_,hc.sy,Mw h.ck⟩
 ·have:=Th h1.cs
  rcases h1.kind with h|h|h|h|h<;>omega
 ·have:=Vj.1 (Gt h1.cs) c hcc
  simp only[V7,Vf]at this
  rw[hc.len];exact this
 ·have:=Vj.1 (Gt h1.ls) c hcc
  simp only[V7,Vf]at this
  rw[h.ll];exact this
theorem Q4{vals:List Int}{x:Lma}{letters cells:List Int}{i:Int}(h:i<0):Bp vals x letters cells i=false:=by unfold Bp;rw[Vk h]
theorem Q5{vals:List Int}{x:Lma}{letters cells:List Int}{a:Nat}(h:x.qs.length+x.ps.length<=a):Bp vals x letters cells (a:Int)=false:=by simp_all [Bp,KI,V2]
theorem comp_q{vals:List Int}{x:Lma}{letters cells:List Int}{a:Nat}{q:Cnd}(h:x.qs[a]?=some q):Bp vals x letters cells (a:Int)=IA vals q letters cells:=by
 unfold Bp KI
 have:=(VV.1 h).1
 rw[Vb (by omega),V2,W0 (by simpa using this),V6,h];rfl
theorem comp_p{vals:List Int}{x:Lma}{letters cells:List Int}{b:Nat}{p:Prm}(h:x.ps[b]?=some p):Bp vals x letters cells ((x.qs.length+b:Nat):Int)=QI p letters cells:=by
 unfold Bp KI
 rw[Vb (by omega),V2,W4 (by simp),V0,Nat.add_sub_cancel_left,V6,h];rfl
def HO(k:Knd):List AVal->AB->Prop×AVal:=λa H=>match a with
 |[K,Q,.sl t L,av]=>(dKn.ok K/\dKn.dec K=k/\dQ.ok Q/\dIs.ok (.sl t L)/\RdI H av (rdL H av)/\ClOK k (dQ.dec Q) (L.map toI) (rdL H av),.bool (IA (AR k) (dQ.dec Q) (L.map toI) (rdL H av)))
 |_=>(False,.tup [])
theorem Ti(k:Knd):∀args H n,(HO k args H).1->AZ Tryz.prog 41 args H n (HO k args H).2:=by
 intro args H m hh
 unfold HO at hh⊢
 split at hh
 ·obtain⟨h1,h2,h3,h4,h5,h6⟩:=hh
  have w1:=dKn.wk _ h1
  rw[h2]at w1
  exact(p41 k _ _ _ h6).view trivial (.cons (.wk w1) (.cons (.wk (dQ.wk _ h3)) (.cons (.wk (dIs.wk _ h4)) (.cons (OY h5) .nil)))) m
 ·exact hh.elim
def GE(k:Knd)(x:Lma)(letters:List Int):List AVal->AB->Prop×AVal:=λa H=>match a with
 |[.ptr rp 0,.int .i64 c]=>(RdAt H rp k x letters,GD x letters c)
 |_=>(False,.tup [])
theorem rowPmq{k:Knd}{x:Lma}{letters:List Int}(h:RdC k x letters):∀args H n,(GE k x letters args H).1->AZ Tryz.prog 81 args H n (GE k x letters args H).2:=by
 intro args H m hh
 unfold GE at hh⊢
 split at hh
 ·obtain⟨w,hw⟩:=hh
  exact q_prem _ hw h.fx.ps (Q3 h)
 ·exact hh.elim
def Tcp(k:Knd)(x:Lma)(letters:List Int):Tab:=tadd 41 (HO k) (tadd 81 (GE k x letters) (tadd 36 B8 tnil))
theorem Sj{k:Knd}{x:Lma}{letters:List Int}(h:RdC k x letters):AH Tryz.prog (Tcp k x letters):=((AH.tnil.add OZ).add (rowPmq h)).add (Ti k)
theorem Tcp_c(k:Knd)(x:Lma)(letters:List Int)(a:List AVal)(H:AB):Tcp k x letters 41 a H=HO k a H:=rfl
theorem Q6(k:Knd)(x:Lma)(letters:List Int)(a:List AVal)(H:AB):Tcp k x letters 81 a H=GE k x letters a H:=rfl
theorem Q7(k:Knd)(x:Lma)(letters:List Int)(a:List AVal)(H:AB):Tcp k x letters 36 a H=B8 a H:=rfl
theorem t_comp{H:AB}{n rp:Nat}{k:Knd}{x:Lma}{letters cells:List Int}{av:AVal}(at':Int)(h:RdC k x letters)(hc:ClC k x cells)(hr:RdAt H rp k x letters)(hv:RdI H av cells):
  AI Tryz.prog 50 [.ptr rp 0,.int .i64 at',av] H n (QRet H (.bool (Bp (AR k) x letters cells at'))):=by
 have hr0:=hr
 obtain⟨w,hq⟩:=hr
 simp only[BJ,AL,AG,AO,Ae,Vu,Vw]at hq
 have hnq:x.qs.length<1000000000:=h.fx.qs
 have hnp:x.ps.length<1000000000:=h.fx.ps
 have hw1:IntKind.wrap .i64 ((x.qs.length:Int)+(x.ps.length:Int))=((x.qs.length+x.ps.length:Nat):Int):=by rw[Aq (by omega) (by omega)];omega
 have u1:dKn.ok (.agg (AL k))=True:=EF k
 have u2:dKn.dec (.agg (AL k))=k:=Ct k
 simp only[AL,AG,AO,Vu,Vw]at u1 u2
 have hls:dIs.ok (eIs letters):=(BD letters).mpr trivial
 refine a50 (AE (Sj h) (AF ?_))
 by_cases h0:at'<0
 ·rw[Q4 h0]
  simp only[eE,eC,eN,reduceCtorEq,Nat.reduceEqDiff,↓reduceIte,Nat.reduceAdd,Nat.reduceLeDiff,V8,V0,c50,hq,V3 h0]
  exact BR.refl _
 obtain⟨a,rfl⟩:=X7 (Int.not_lt.1 h0)
 by_cases h1:x.qs.length+x.ps.length<=a
 ·rw[Q5 h1]
  have h1':((x.qs.length+x.ps.length:Nat):Int)<=(a:Int):=by omega
  simp only[eE,eC,eN,reduceCtorEq,Nat.reduceEqDiff,↓reduceIte,Nat.reduceAdd,Nat.reduceLeDiff,V0,c50,hq,Vd h0,hw1,V3 h1']
  exact BR.refl _
 have h1':¬((x.qs.length+x.ps.length:Nat):Int)<=(a:Int):=by omega
 by_cases h2:a<x.qs.length
 ·have hg:=V5 h2
  have hcl:=cl_ok h hc (Vn h2)
  generalize x.qs[a]=q at hg hcl
  have hql:dQ.ok (.agg [.int .i64 q.k,eIs q.cs,eIs q.ls,.int .i64 q.n])=True:=dQ_ok q
  have hqd:dQ.dec (.agg [.int .i64 q.k,eIs q.cs,eIs q.ls,.int .i64 q.n])=q:=TF q
  rw[comp_q hg]
  simp only[eE,eC,eN,reduceCtorEq,Nat.reduceEqDiff,↓reduceIte,Nat.reduceAdd,Nat.reduceLeDiff,V1,V2,V4,V0,V6,c50,hq,Vd h0,hw1,Vd h1',lt_T h2,hg,Tcp_c,HO,u1,u2,A0,hql,hqd,KY hv,V3 hv,V3 hcl,V3 hls]
  exact BR.refl _
 obtain⟨b,rfl⟩:∃b,a=x.qs.length+b:=⟨a-x.qs.length,by omega⟩
 have hb:b<x.ps.length:=by omega
 have hg:=V5 hb
 have hmem:=Vn hb
 generalize x.ps[b]=p at hg hmem
 rw[comp_p hg]
 have hw2:IntKind.wrap .i64 (((x.qs.length+b:Nat):Int)-(x.qs.length:Int))=(b:Int):=by rw[Aq (by omega) (by omega)];omega
 have hpv:GD x letters p.c= .tup [eIs (p.ls.map (at0 letters)),.bool true]:=by unfold GD;rw[Oc h.ox hmem]
 have hpc:=Ob h.ox hmem
 rw[<-hc.len]at hpc
 have hgc:=Cy hpc.1 hpc.2
 have hfl:few (p.ls.map (at0 letters)):=by show(p.ls.map _).length<_;rw[V0];exact h.fx.p p hmem
 have hrd:RdI H (eIs (p.ls.map (at0 letters))) (p.ls.map (at0 letters)):=.inl ⟨_,rfl,.inl rfl⟩
 have hd:QI p letters cells=(decide (0<=at0 cells p.c)&& !(p.ls.map (at0 letters)).contains (at0 cells p.c)):=rfl
 rw[hd]
 generalize p.ls.map (at0 letters)=L at hpv hfl hrd
 generalize at0 cells p.c=s at hgc
 have hin:p.c.toNat<cells.length:=by omega
 have r1:=KY hrd
 rcases hv with⟨t,rfl,ht⟩|⟨id,cap,rest,rfl,ha,hcap⟩
 ·have ht':(t.esz=1)=True:=V3 (ht.resolve_right λe=>by rw[e]at hin;simp at hin)
  by_cases hs:0<=s
  ·simp only[eE,eC,eN,reduceCtorEq,Nat.reduceEqDiff,↓reduceIte,Nat.reduceAdd,Nat.reduceLeDiff,Nat.reduceLT,V1,V2,V4,V0,V6,Va,Vc,c50,hq,Vd h0,hw1,Vd h1',lt_F h2,lt_T hb,hg,hw2,Q6,Q7,GE,B8,V3 hr0,hpv,V3 hpc.1,V3 hpc.2,hgc,ht',V3 hs,r1,V3 hrd,V3 hfl]
   exact BR.refl _
  ·simp only[eE,eC,eN,reduceCtorEq,Nat.reduceEqDiff,↓reduceIte,Nat.reduceAdd,Nat.reduceLeDiff,Nat.reduceLT,V1,V2,V4,V0,V6,Va,Vc,c50,hq,Vd h0,hw1,Vd h1',lt_F h2,lt_T hb,hg,hw2,Q6,Q7,GE,B8,V3 hr0,hpv,V3 hpc.1,V3 hpc.2,hgc,ht',Vd hs,r1,V3 hrd,V3 hfl]
   exact BR.refl _
 ·have hga:(cells++rest)[p.c.toNat]?=some s:=by rw[W0 hin];exact hgc
  have hla:(p.c.toNat<(cells++rest).length)=True:=V3 (by simp;omega)
  by_cases hs:0<=s
  ·simp only[eE,eC,eN,reduceCtorEq,Nat.reduceEqDiff,↓reduceIte,Nat.reduceAdd,Nat.reduceLeDiff,Nat.reduceLT,V1,V2,V4,V0,V6,Va,Vc,c50,hq,Vd h0,hw1,Vd h1',lt_F h2,lt_T hb,hg,hw2,Q6,Q7,GE,B8,V3 hr0,hpv,V3 hpc.1,V3 hpc.2,ha,hga,hla,V3 hs,r1,V3 hrd,V3 hfl]
   exact BR.refl _
  ·simp only[eE,eC,eN,reduceCtorEq,Nat.reduceEqDiff,↓reduceIte,Nat.reduceAdd,Nat.reduceLeDiff,Nat.reduceLT,V1,V2,V4,V0,V6,Va,Vc,c50,hq,Vd h0,hw1,Vd h1',lt_F h2,lt_T hb,hg,hw2,Q6,Q7,GE,B8,V3 hr0,hpv,V3 hpc.1,V3 hpc.2,ha,hga,hla,Vd hs,r1,V3 hrd,V3 hfl]
   exact BR.refl _
theorem q_comp{H:AB}{n rp:Nat}{k:Knd}{x:Lma}{letters cells:List Int}{av:AVal}(at':Int)(h:RdC k x letters)(hc:ClC k x cells)(hr:RdAt H rp k x letters)(hv:RdI H av cells):
  AZ Tryz.prog 50 [.ptr rp 0,.int .i64 at',av] H n (.bool (Bp (AR k) x letters cells at')):=
 AZ.of l50 trivial λ_=>t_comp at' h hc hr hv
end Go.AM
namespace Go.AM
open Go.Proofs Go.Lib
abbrev encC(c:Cas):AVal:=.agg [.int .i64 c.k,.int .i64 c.a]
abbrev eCs(l:List Cas):AVal:=.sl (.none 2) (l.map encC)
def Bw(rp n:Nat)(H H':AB):Prop:=∀i,i<n->i≠rp->hget H' i=hget H i
theorem Bw.refl{rp n:Nat}(H:AB):Bw rp n H H:=λ_ _ _=>rfl
theorem Bw.trans{rp n n':Nat}{H H' H'':AB}(h:Bw rp n H H')(k:Bw rp n' H' H'')(hn:n<=n'):Bw rp n H H'':=λi hi hr=>(k i (by omega) hr).trans (h i hi hr)
theorem Bw.new{rp n j:Nat}{H H':AB}{ob:AObj}(h:Bw rp n H H')(hj:n<=j):Bw rp n H (hset H' j ob):=λi hi hr=>by
 rw[AA _ _ _ _ (by omega)];exact h i hi hr
theorem Bw.set{rp n:Nat}{H H':AB}{ob:AObj}(h:Bw rp n H H'):Bw rp n H (hset H' rp ob):=λi hi hr=>by
 rw[AA _ _ _ _ (Ne.symm hr)];exact h i hi hr
def Tj(rp:Nat)(k:Knd)(x:Lma)(letters:List Int)(H:AB)(n:Nat)(r:Option (List Cas)):AOut->AB->Nat->Prop:=λo H' n'=>
 AN H' n'/\n<=n'/\Bw rp n H H'/\match r with
  |some l=>o= .ret (.bool true)/\hget H' rp=some (.box (BJ k x letters (eCs l)))
  |none=>o= .ret (.bool false)
def JH(k:Knd)(x:Lma)(letters:List Int):List AVal->AB->Prop×AVal:=λa H=>match a with
 |[.ptr rp 0,.int .i64 c,av]=>(RdAt H rp k x letters/\RdI H av (rdL H av)/\ClC k x (rdL H av),.bool (Bp (AR k) x letters (rdL H av) c))
 |_=>(False,.tup [])
theorem rowCmq{k:Knd}{x:Lma}{letters:List Int}(h:RdC k x letters):∀args H n,(JH k x letters args H).1->AZ Tryz.prog 50 args H n (JH k x letters args H).2:=by
 intro args H m hh
 unfold JH at hh⊢
 split at hh
 ·exact q_comp _ h hh.2.2 hh.1 hh.2.1
 ·exact hh.elim
def Ttr(k:Knd)(x:Lma)(letters:List Int):Tab:=tadd 50 (JH k x letters) (Tcp k x letters)
theorem Sk{k:Knd}{x:Lma}{letters:List Int}(h:RdC k x letters):AH Tryz.prog (Ttr k x letters):=(Sj h).add (rowCmq h)
theorem Tk(k:Knd)(x:Lma)(letters:List Int)(a:List AVal)(H:AB):Ttr k x letters 50 a H=JH k x letters a H:=rfl
theorem Ttr_p(k:Knd)(x:Lma)(letters:List Int)(a:List AVal)(H:AB):Ttr k x letters 81 a H=GE k x letters a H:=rfl
theorem Tl(k:Knd)(x:Lma)(letters:List Int)(a:List AVal)(H:AB):Ttr k x letters 36 a H=B8 a H:=rfl
def conB(x:Lma)(letters:List Int)(c s:Int):Bool:=match G7 x c with
 |none=>true
 |some p=>(p.ls.map (at0 letters)).contains s
theorem Od(m:Nat)(x:Lma)(letters:List Int)(c:Int):Mb m x letters c=(symI m).filter (conB x letters c):=by
 unfold Mb conB
 cases G7 x c with
 |none=>exact(X9.2 λ_ _=>rfl).symm
 |some p=>rfl
theorem Oe{F:Int->List Cas->Option (List Cas)}(hF:∀s l r,F s l=some r->r.length<=l.length):∀(ss:List Int) (l r:List Cas),seqT F ss l=some r->r.length<=l.length
 |[],l,r,h=>by rw[seqT]at h;cases h;exact V9 _
 |s::ss,l,r,h=>by
  rw[seqT]at h
  obtain⟨l1,h1,h2⟩:=Option.bind_eq_some_iff.1 h
  exact W1 (Oe hF ss l1 r h2) (hF s l l1 h1)
theorem Lh{vals:List Int}{x:Lma}{letters:List Int}:∀(f:Nat) (cells:List Int) (l r:List Cas),BC vals x letters f cells l=some r->r.length<=l.length
 |_,_,[],r,h=>by rw[BC]at h;cases h
 |0,cells,n::l,r,h=>by
  rw[BC]at h
  split at h
  ·split at h
   ·cases h;simp
   ·cases h
  ·split at h<;>cases h
 |f+1,cells,n::l,r,h=>by
  rw[BC]at h
  split at h
  ·split at h
   ·cases h;simp
   ·cases h
  ·split at h
   ·have:=Oe (λs l r=>Lh f (cells.set n.a.toNat s) l r) _ _ _ h
    simp;omega
   ·cases h
theorem Of{k:Knd}{x:Lma}{letters:List Int}(h:RdC k x letters)(c:Int):∃L ok t,GD x letters c= .tup [.sl t (L.map eI),.bool ok]/\(t.esz=1\/L=[])/\few L/\∀s,conB x letters c s=(!ok||L.contains s):=by
 unfold GD conB
 cases hp:G7 x c with
 |none=>exact⟨[],false,.nil,rfl,.inr rfl,(by show(0:Nat)<_;decide),λs=>rfl⟩
 |some p=>
  refine⟨p.ls.map (at0 letters),true,.none 1,rfl,.inl rfl,?_,λs=>rfl⟩
  show(p.ls.map _).length<_
  rw[V0]
  exact h.fx.p p (List.mem_of_find?_eq_some hp)
theorem con_f{ok b:Bool}(h:false=(!ok||b)):ok=true/\b=false:=by cases ok<;>cases b<;>simp at h⊢
theorem con_t{ok b:Bool}(h:true=(!ok||b)):ok=false\/ok=true/\b=true:=by cases ok<;>cases b<;>simp at h⊢
theorem Q8{m i:Nat}(h:i<m):(symI m).drop i=(i:Int)::(symI m).drop (i+1):=by
 unfold symI
 rw[<-List.map_drop,<-List.map_drop,VO (by simpa using h)]
 simp
structure VTr where
 i:Nat
 l:List Cas
 H:AB
 n:Nat
structure ITr(rp:Nat)(k:Knd)(x:Lma)(letters:List Int)(F:Int->List Cas->Option (List Cas))(p:Int->Bool)(R:Option (List Cas))(H0:AB)(n0:Nat)(v:VTr):Prop where
 hi:v.i<=k.d.syms.length
 fr:AN v.H v.n
 hn:n0<=v.n
 kp:Bw rp n0 H0 v.H
 hr:hget v.H rp=some (.box (BJ k x letters (eCs v.l)))
 he:R=seqT F (((symI k.d.syms.length).drop v.i).filter p) v.l
 hl:v.l.length<1000000000
theorem Og{k:Knd}{x:Lma}{letters:List Int}(h:RdC k x letters)(rp:Nat)(f:Nat)(cells:List Int)
  (ih:∀(cells':List Int) (l:List Cas) (H:AB) (n id cap:Nat) (rest:List Int),AN H n->hget H rp=some (.box (BJ k x letters (eCs l)))->hget H id=some (.arr 1 ((cells'++rest).map eI))->cells'.length<=cap->ClC k x cells'->negs cells'+1=negs cells->l.length<1000000000->
   AI Tryz.prog 46 [.ptr rp 0,.ref id 1 0 cells'.length cap] H n (Tj rp k x letters H n (BC (AR k) x letters f cells' l)))
  (l:List Cas) (H:AB) (n id cap:Nat) (rest:List Int) (hf:AN H n) (hrp:hget H rp=some (.box (BJ k x letters (eCs l)))) (hidq:hget H id=some (.arr 1 ((cells++rest).map eI))) (hcap:cells.length<=cap) (hC:ClC k x cells) (hl:l.length<1000000000):
  AI Tryz.prog 46 [.ptr rp 0,.ref id 1 0 cells.length cap] H n (Tj rp k x letters H n (BC (AR k) x letters (f+1) cells l)):=by
 have hq:=hrp
 simp only[BJ,AL,AG,AO,Ae,Vu,Vw]at hq
 refine a46 (AE (Sk h) (AF ?_))
 cases l with
 |nil=>
  simp only[eE,eC,eN,reduceCtorEq,Nat.reduceEqDiff,↓reduceIte,Nat.reduceAdd,c0,c46,hq]
  exact⟨hf,V9 _,Bw.refl _,by rw[BC]⟩
 |cons c l=>
 have g1:(((l.length+1:Nat):Int)=0)=False:=cS0
 have g2:(n+6=rp)=False:=Vd (by have:=hf.lt hrp;omega)
 have g3:(rp=n+6)=False:=Vd (by have:=hf.lt hrp;omega)
 have g4:((1:Int)<=((l.length+1:Nat):Int))=True:=V3 (by omega)
 have hck:BC (AR k) x letters (f+1) cells (c::l)=if c.k=IB then(if Bp (AR k) x letters cells c.a then some l else none)
  else if c.k=KJ/\0<=c.a/\c.a<cells.length/\at0 cells c.a<0 then seqT (λs l=>BC (AR k) x letters f (cells.set c.a.toNat s) l) (Mb (AR k).length x letters c.a) l else none:=by rw[BC]
 rw[hck]
 clear hck
 have g5:((0:Int)<((l.length+1:Nat):Int))=True:=V3 (by omega)
 have htl:List.take l.length (l.map encC)=l.map encC:=VZ (by simp)
 have hrpn:=hf.lt hrp
 have hidn:=hf.lt hidq
 have hne:rp≠id:=λe=>by rw[e,hidq]at hrp;cases hrp
 obtain⟨H2,hH2⟩:∃H2,hset (hset H (n+6) (.box [.int .i64 c.k,.int .i64 c.a])) rp (.box (BJ k x letters (eCs l)))=H2:=⟨_,rfl⟩
 have hf2:AN H2 (n+8):=by rw[<-hH2];exact(hf.hset (m:=n+8) (by omega) (by omega)).hset (V9 _) (by omega)
 have hrp2:hget H2 rp=some (.box (BJ k x letters (eCs l))):=by rw[<-hH2,AC]
 have hid2:hget H2 id=some (.arr 1 ((cells++rest).map eI)):=by rw[<-hH2,AA _ _ _ _ hne,AA _ _ _ _ (by omega)];exact hidq
 have hnb2:hget H2 (n+6)=some (.box [.int .i64 c.k,.int .i64 c.a]):=by rw[<-hH2,AA _ _ _ _ (by omega),AC]
 have hkb2:Bw rp n H H2:=by rw[<-hH2];exact((Bw.refl H).new (by omega)).set
 have hRd2:RdAt H2 rp k x letters:=⟨_,hrp2⟩
 have hRI2:RdI H2 (.ref id 1 0 cells.length cap) cells:=.inr ⟨id,cap,rest,rfl,hid2,hcap⟩
 have hrd:=KY hRI2
 simp only[BJ,AL,AG,AO,Ae,Vu,Vw]at hH2
 by_cases hk2:c.k=2
 ·have hz:c.k=IB:=hk2
  rw[Vk hz]
  simp only[eE,eC,eN,reduceCtorEq,Nat.reduceEqDiff,↓reduceIte,Nat.reduceAdd,Nat.reduceLeDiff,Int.reduceLE,V1,Wb,Wr,W3,V2,V0,Va,c46,hq,g1,g2,g4,g5,htl,fr1 hf,AK,hH2,hnb2,V3 hk2,Tk,JH,hrd,V3 hRI2,V3 hRd2,V3 hC]
  refine⟨hf2,by omega,hkb2,?_⟩
  cases hcm:Bp (AR k) x letters cells c.a with
  |true=>exact⟨rfl,hrp2⟩
  |false=>rfl
 have hk2':¬c.k=IB:=hk2
 rw[Vb hk2']
 by_cases hk1:c.k=1
 case neg=>
  have hk1':¬(c.k=KJ/\0<=c.a/\c.a<cells.length/\at0 cells c.a<0):=λq=>hk1 q.1
  rw[Vb hk1']
  simp only[eE,eC,eN,reduceCtorEq,Nat.reduceEqDiff,↓reduceIte,Nat.reduceAdd,Nat.reduceLeDiff,Int.reduceLE,V1,Wb,Wr,W3,V2,V0,Va,c46,hq,g1,g2,g4,g5,htl,fr1 hf,AK,hH2,hnb2,Vd hk2,Vd hk1]
  exact⟨hf2,by omega,hkb2,rfl⟩
 by_cases ha0:c.a<0
 ·rw[Vb (by omega)]
  simp only[eE,eC,eN,reduceCtorEq,Nat.reduceEqDiff,↓reduceIte,Nat.reduceAdd,Nat.reduceLeDiff,Int.reduceLE,V8,V1,Wb,Wr,W3,V2,V0,Va,c46,hq,g1,g2,g4,g5,htl,fr1 hf,AK,hH2,hnb2,Vd hk2,V3 hk1,V3 ha0]
  exact⟨hf2,by omega,hkb2,rfl⟩
 by_cases hal:(cells.length:Int)<=c.a
 ·rw[Vb (by omega)]
  simp only[eE,eC,eN,reduceCtorEq,Nat.reduceEqDiff,↓reduceIte,Nat.reduceAdd,Nat.reduceLeDiff,Int.reduceLE,V8,V1,Wb,Wr,W3,V2,V0,Va,c46,hq,g1,g2,g4,g5,htl,fr1 hf,AK,hH2,hnb2,Vd hk2,V3 hk1,Vd ha0,V3 hal]
  exact⟨hf2,by omega,hkb2,rfl⟩
 obtain⟨a,ha⟩:=X7 (Int.not_lt.1 ha0)
 have hal':a<cells.length:=by omega
 have hgc:cells[a]?=some (at0 cells c.a):=by have:=Cy (l:=cells) (i:=c.a) (by omega) (by omega);rwa[show c.a.toNat=a by omega]at this
 have hga:(cells++rest)[a]?=some (at0 cells c.a):=by rw[W0 hal'];exact hgc
 have hla:(a<(cells++rest).length)=True:=V3 (by simp;omega)
 have hta:c.a.toNat=a:=by omega
 rw[hta]
 generalize hs:at0 cells c.a=s at hgc hga
 have b0:(0<=c.a)=True:=V3 (by omega)
 have b1:(c.a<(cells.length:Int))=True:=V3 (by omega)
 by_cases hs0:0<=s
 ·rw[Vb (by omega)]
  simp only[eE,eC,eN,reduceCtorEq,Nat.reduceEqDiff,↓reduceIte,Nat.reduceAdd,Nat.reduceLeDiff,Int.reduceLE,V1,Wb,Wr,W3,V2,V0,V6,Va,c46,hq,g1,g2,g4,g5,htl,fr1 hf,AK,hH2,hnb2,Vd hk2,V3 hk1,Vd ha0,Vd hal,hid2,hta,hga,hla,b0,b1,V3 hs0]
  exact⟨hf2,by omega,hkb2,rfl⟩
 rw[Vk ⟨hk1,by omega,by omega,by omega⟩]
 obtain⟨L,ok,t,hpv,hLt,hLf,hcon⟩:=Of h c.a
 have hq2:=hrp2
 simp only[BJ,AL,AG,AO,Ae,Vu,Vw]at hq2
 have hvl:(AR k).length=k.d.syms.length:=by unfold AR;rw[V0]
 have hsy:=C0 h.ck
 rw[Od,hvl]
 simp only[eE,eC,eN,reduceCtorEq,Nat.reduceEqDiff,↓reduceIte,Nat.reduceAdd,Nat.reduceLeDiff,Nat.reduceLT,Int.reduceLE,V1,Wb,Wr,W3,V2,V0,V6,Va,Vc,c46,hq,g1,g2,g4,g5,htl,fr1 hf,AK,hH2,hnb2,hq2,Vd hk2,V3 hk1,Vd ha0,Vd hal,hid2,hta,hga,hla,b0,b1,Vd hs0,Ttr_p,GE,V3 hRd2,hpv]
 refine AU (λv:VTr=>⟨[(0,true,.ptr rp 0),(1,true,.ref id 1 0 cells.length cap),(5,true,.ptr (n+6) 0),(6,true,.sl t (L.map eI)),(7,true,.bool ok),(72,true,.int .i64 k.d.syms.length),(73,true,.int .i64 v.i)],v.H,v.n⟩)
  (ITr rp k x letters (λs l=>BC (AR k) x letters f (cells.set a s) l) (conB x letters c.a) (seqT (λs l=>BC (AR k) x letters f (cells.set a s) l) ((symI k.d.syms.length).filter (conB x letters c.a)) l) H2 (n+8)) (λv=>k.d.syms.length-v.i)
  ⟨0,l,H2,n+8⟩ rfl ⟨Vi _,hf2,V9 _,Bw.refl _,hrp2,rfl,by simp only[Vq]at hl;simp only[];omega⟩ ?_
 rintro⟨i,l1,H1,n1⟩ ⟨hi,hf1,hn1,hk,hr1,he,hl1⟩
 simp only at hi hf1 hn1 hk hr1 he hl1
 rw[he]
 by_cases hlt:i<k.d.syms.length
 case neg=>
  obtain rfl:i=k.d.syms.length:=by omega
  rw[WY (by unfold symI;simp)]
  simp only[eE,eC,eN,reduceCtorEq,Nat.reduceEqDiff,↓reduceIte,lt_F hlt]
  exact⟨hf1,by omega,hkb2.trans hk (by omega),rfl,hr1⟩
 have e:=AJ (k:=i) (by omega)
 have hd:=Q8 hlt
 have hci:=hcon (i:Int)
 have hid1:hget H1 id=some (.arr 1 ((cells++rest).map eI)):=(hk id (by omega) (Ne.symm hne)).trans hid2
 have hnb1:hget H1 (n+6)=some (.box [.int .i64 c.k,.int .i64 c.a]):=(hk (n+6) (by omega) (by omega)).trans hnb2
 have hRI1:RdI H1 (.ref id 1 0 cells.length cap) cells:=.inr ⟨id,cap,rest,rfl,hid1,hcap⟩
 have hRL:RdI H1 (.sl t (L.map eI)) L:=.inl ⟨t,rfl,hLt⟩
 have r1:=KY hRL
 by_cases hcb:conB x letters c.a (i:Int)=true
 case neg=>
  have hcb':conB x letters c.a (i:Int)=false:=by simpa using hcb
  rw[hd,List.filter_cons_of_neg hcb]
  rw[hcb']at hci
  have h2:=con_f hci
  obtain⟨rfl,h2⟩:=h2
  simp only[eE,eC,eN,reduceCtorEq,Nat.reduceEqDiff,↓reduceIte,Int.reduceEq,Ve,lt_T hlt,Tl,B8,r1,V3 hRL,V3 hLf,h2,Ve,e]
  exact .mk ⟨i+1,l1,H1,n1⟩ rfl ⟨hlt,hf1,hn1,hk,hr1,rfl,hl1⟩ (by simp only[];omega)
 rw[hd,List.filter_cons_of_pos hcb,seqT]
 rw[hcb]at hci
 have h2:=con_t hci
 have hcf:few cells:=by show cells.length<_;have:=h.ox.cs.2.2.2;rw[hC.len];omega
 rcases h2 with rfl|⟨rfl,h2⟩
 case' inl=>simp only[eE,eC,eN,reduceCtorEq,Nat.reduceEqDiff,↓reduceIte,lt_T hlt,Tl,B8,r1,V3 hRL,V3 hLf]
 case' inr=>simp only[eE,eC,eN,reduceCtorEq,Nat.reduceEqDiff,↓reduceIte,V8,lt_T hlt,Tl,B8,r1,V3 hRL,V3 hLf,h2,V8]
 all_goals
  refine(ON hRI1 hcf).mono ?_
  rintro o H3 n3 (⟨hz,-⟩|⟨-,rfl,rest3,rfl,rfl⟩)
  ·rw[hz]at hal';simp at hal'
  have y1:(n1=n+4)=False:=Vd (by omega)
  have hla3:(a<(cells++rest3).length)=True:=V3 (by simp;omega)
  simp only[eE,eC,eN,reduceCtorEq,Nat.reduceEqDiff,↓reduceIte,Nat.reduceAdd,V0,V6,retK,hnb1,y1,b0,b1,hta,hla3,AK]
  have eset:((cells++rest3).map eI).set a (.int .i64 (i:Int))=((cells.set a (i:Int))++rest3).map eI:=by
   rw[<-Xf _ _ hal',List.map_set]
  have hlen:(cells.set a (i:Int)).length=cells.length:=WI
  have hrpn1:=hf1.lt hr1
  have hC':ClC k x (cells.set a (i:Int)):=⟨by rw[hlen];exact hC.len,λs hs h0=>by
   rcases X4 hs with q|q
   ·exact hC.sy s q h0
   ·rw[q];exact⟨by omega,by omega⟩⟩
  have hng:=Me hgc (by omega) (show(0:Int)<=(i:Int)by omega)
  rw[eset]
  have hcall:=ih (cells.set a (i:Int)) l1 (hset H1 (n1+2) (.arr 1 (((cells.set a (i:Int))++rest3).map eI))) (n1+4) (n1+2) (cells.length+rest3.length) rest3 (hf1.hset (by omega) (by omega)) (by rw[AA _ _ _ _ (by omega)];exact hr1) (AC ..) (by rw[hlen];omega) hC' hng hl1
  rw[hlen]at hcall
  refine hcall.mono ?_
  rintro o H4 n4 ⟨hf4,hn4,hk4,hres⟩
  have hk4':Bw rp (n+8) H2 H4:=(hk.new (by omega)).trans hk4 (by omega)
  cases htr:BC (AR k) x letters f (cells.set a (i:Int)) l1 with
  |none=>
   rw[htr]at hres
   obtain rfl:o= .ret (.bool false):=hres
   simp only[eE,eC,eN,reduceCtorEq,Nat.reduceEqDiff,↓reduceIte,Ve,retK,Ve]
   exact⟨hf4,by omega,hkb2.trans hk4' (by omega),rfl⟩
  |some l2=>
   rw[htr]at hres
   obtain⟨rfl,hr4⟩:=hres
   have hl2:=Lh _ _ _ _ htr
   simp only[eE,eC,eN,reduceCtorEq,Nat.reduceEqDiff,↓reduceIte,Int.reduceEq,V8,retK,V8,e]
   exact .mk ⟨i+1,l2,H4,n4⟩ rfl ⟨hlt,hf4,by simp only[];omega,hk4',hr4,rfl,by simp only[];omega⟩ (by simp only[];omega)
theorem Oh{cells:List Int}{a:Nat}{t:Int}(h:negs cells=0)(ha:cells[a]?=some t):0<=t:=by
 apply Classical.byContradiction
 intro q
 have h1:t∈cells.filter λs=>decide (s<0):=WJ.2 ⟨Wl ha,by simp;omega⟩
 unfold negs at h
 rw[VR h]at h1
 cases h1
theorem Oi{vals:List Int}{x:Lma}{letters:List Int}{cells:List Int}(h:negs cells=0)(l:List Cas):BC vals x letters 0 cells l=BC vals x letters 1 cells l:=by
 cases l with
 |nil=>rw[BC,BC]
 |cons c l=>
  rw[BC,BC]
  have hno:¬(c.k=KJ/\0<=c.a/\c.a<cells.length/\at0 cells c.a<0):=λq=>by
   have:=Oh h (Cy q.2.1 q.2.2.1)
   omega
  rw[Vb hno,Vb hno]
theorem Sl{k:Knd}{x:Lma}{letters:List Int}(h:RdC k x letters)(rp:Nat):∀(f:Nat) (cells:List Int) (l:List Cas) (H:AB) (n id cap:Nat) (rest:List Int),AN H n->hget H rp=some (.box (BJ k x letters (eCs l)))->hget H id=some (.arr 1 ((cells++rest).map eI))->cells.length<=cap->ClC k x cells->negs cells<=f->l.length<1000000000->
  AI Tryz.prog 46 [.ptr rp 0,.ref id 1 0 cells.length cap] H n (Tj rp k x letters H n (BC (AR k) x letters f cells l))
 |0,cells,l,H,n,id,cap,rest,hf,hrp,hidq,hcap,hC,hneg,hl=>by
  rw[Oi (by omega)]
  exact Og h rp 0 cells (λcells' l H n id cap rest _ _ _ _ _ hn _=>by omega) l H n id cap rest hf hrp hidq hcap hC hl
 |f+1,cells,l,H,n,id,cap,rest,hf,hrp,hidq,hcap,hC,hneg,hl=>
  Og h rp f cells (λcells' l H n id cap rest a1 a2 a3 a4 a5 hn a6=>Sl h rp f cells' l H n id cap rest a1 a2 a3 a4 a5 (by omega) a6) l H n id cap rest hf hrp hidq hcap hC hl
end Go.AM
namespace Go.AM
open Go.Proofs Go.Lib
def BQ(k:Knd)(x:Lma):Int:=if Bf k≠0 then Bf k else chk x
def Tsv:Tab:=tadd 39 (s1 dX FewL λx=>eI (chk x)) Tlt
theorem Tsv_ok:AH Tryz.prog Tsv:=Si.add (q1 λx h=>p39 x h)
theorem Tsv_c(a:List AVal)(H:AB):Tsv 32 a H=s1 dKn (λk=>FewD k.d) (λk=>.int .i64 (Bf k)) a H:=rfl
theorem Tsv_m(a:List AVal)(H:AB):Tsv 39 a H=s1 dX FewL (λx=>eI (chk x)) a H:=rfl
theorem p45(k:Knd)(x:Lma)(hk:FewD k.d)(hx:FewL x):Pur Tryz.prog 45 [Bq k,encL x] (eI (BQ k x)):=by
 have u1:dKn.ok (.agg (AL k))=True:=EF k
 have u2:dKn.dec (.agg (AL k))=k:=Ct k
 simp only[AL,AG,AO,Vu,Vw]at u1 u2
 have v1:dX.ok (.agg (Ae x))=True:=Ns x
 have v2:dX.dec (.agg (Ae x))=x:=IF x
 simp only[Ae]at v1 v2
 refine .mk ⟨Aj 0 k,Bb 0 x,trivial⟩ trivial (a45 (AE Tsv_ok (AF ?_)))
 unfold BQ
 by_cases h:Bf k=0
 ·simp only[eE,eC,eN,reduceCtorEq,Nat.reduceEqDiff,↓reduceIte,Nat.reduceAdd,V8,c45,AL,AG,AO,Tsv_c,Tsv_m,s1,u1,u2,v1,v2,V3 hk,V3 hx,V3 h]
 ·simp only[eE,eC,eN,reduceCtorEq,Nat.reduceEqDiff,↓reduceIte,Nat.reduceAdd,Ve,c45,AL,AG,AO,Tsv_c,s1,u1,u2,V3 hk,Vd h]
theorem i04:((0:Int)<4)=True:=V3 (by decide)
abbrev eTr(t:List (List Cas)):AVal:=.sl (.none 1) (t.map eCs)
abbrev EC(t:List (List Cas)):AVal:=.agg [eTr t]
theorem Oj(n:Nat)(l:List Cas):(eCs l).under n:=⟨trivial,Ap (f:=encC) (λc=>⟨trivial,trivial,trivial⟩) _⟩
theorem CX(n:Nat)(t:List (List Cas)):(EC t).under n:=⟨⟨trivial,Ap (Oj n) _⟩,trivial⟩
abbrev eCk:List (Nat×Bool×AVal):=[(3,true,.ptr 0 0),(4,true,.ptr 1 0),(5,true,.ptr 2 0),(6,true,.ptr 3 0),(7,true,.ptr 4 0),(8,true,.ptr 5 0),(25,true,clC 8 7)]
noncomputable abbrev lpCk (l':Nat) (st:LoopState) (pend:Option Code):AObj:=.lp ⟨l',st,pend,75,eCk, #[26],Ht,Hu⟩
def Sm(k:Knd)(x:Lma)(trees:List (List Cas))(D:List (List Int)):Prop:=∀(i:Nat) l,D[i]?=some l->∃t,trees[i]?=some t/\BC (AR k) x l x.cs.length (begC x l) t=some []
structure CkJ(k:Knd)(x:Lma)(trees:List (List Cas))(l':Nat)(F:Nat->Prop)(D:List (List Int))(H:AB)(m:Nat):Prop where
 fr:AN H m
 lm:11<=m
 nF:∀i,F i->i=7\/i=8\/11<=i
 h0:hget H 0=some (.box (AL k))
 h1:hget H 1=some (.box (Ae x))
 h2:hget H 2=some (.box [eTr trees])
 h3:hget H 3=some (.box [.bool false])
 h4:hget H 4=some (.box [.int .i64 0])
 h5:hget H 5=some (.box [.int .i64 D.length])
 hL:hget H 10=some (lpCk l' .ready none)
 ok:Sm k x trees D
def CkS(k:Knd)(x:Lma)(trees:List (List Cas))(l':Nat)(H:AB)(m:Nat):Prop:=
 hget H 3=some (.box [.bool false])/\hget H 4=some (.box [.int .i64 0])/\hget H 10=some (lpCk l' .done (some .ret))/\BI (AR k) x trees=false
theorem Tm{k:Knd}{x:Lma}{trees:List (List Cas)}{l':Nat}(hR:∀letters∈chs (AR k).length x.ls.length,RdC k x letters)(htr':few trees)(ht:∀t∈trees,few t):Gen (chs (AR k).length x.ls.length) l' (CkJ k x trees l') (CkS k x trees l') where
 fr:=λF D H m h=>h.fr
 frame:=by
  rintro F F' D H H' m m' ⟨fr,lm,nF,h0,h1,h2,h3,h4,h5,hL,ok⟩ hF hH hf hm
  have n1:∀i,i<11->i≠7->i≠8->hget H' i=hget H i:=λi a b c=>hH i λq=>by
   rcases hF i q with q|q
   ·have:=nF i q;omega
   ·omega
  exact⟨hf,by omega,λi h=>(hF i h).elim (nF i) (λq=>by omega),by rw[n1 0 (by decide) (by decide) (by decide)];exact h0,by rw[n1 1 (by decide) (by decide) (by decide)];exact h1,by rw[n1 2 (by decide) (by decide) (by decide)];exact h2,
   by rw[n1 3 (by decide) (by decide) (by decide)];exact h3,by rw[n1 4 (by decide) (by decide) (by decide)];exact h4,by rw[n1 5 (by decide) (by decide) (by decide)];exact h5,by rw[n1 10 (by decide) (by decide) (by decide)];exact hL,ok⟩
 yld:=by
  rintro F D letters H m R ⟨fr,lm,nF,h0,h1,h2,h3,h4,h5,hL,ok⟩ hF hA hRt hRf
  refine y18_0 hL rfl (AE AH.tnil (AF ?_))
  simp only[eE,eN,Nat.reduceEqDiff,↓reduceIte,Pv,renv,WS,WW,Wg,Xa]
  refine⟨_,hL,rfl,AE AH.tnil (AF ?_)⟩
  have hf':AN (hset H 10 (lpCk l' .busy none)) m:=fr.hset (V9 _) (by omega)
  generalize hH1:hset H 10 (lpCk l' .busy none)=H1 at hf'⊢
  have k1:∀i,i≠10->hget H1 i=hget H i:=λi hi=>by rw[<-hH1,AA _ _ _ _ hi.symm]
  have hL1:hget H1 10=some (lpCk l' .busy none):=by rw[<-hH1,AC]
  have a0:=(k1 0 (by decide)).trans h0
  have a1:=(k1 1 (by decide)).trans h1
  have a2:=(k1 2 (by decide)).trans h2
  have a3:=(k1 3 (by decide)).trans h3
  have a4:=(k1 4 (by decide)).trans h4
  have a5:=(k1 5 (by decide)).trans h5
  clear hH1
  have hmem:letters∈chs (AR k).length x.ls.length:=by
   obtain⟨t,ht⟩:=hA
   rw[<-ht];simp
  have hrd:=hR _ hmem
  simp only[AL,AG,AO,Vu,Vw]at a0
  by_cases hl:D.length=trees.length
  ·have hl':((D.length:Int)=(trees.length:Int))=True:=V3 (by omega)
   have hl2:decide ((D.length:Int)=(trees.length:Int))=true:=by simp;omega
   simp only[eE,eC,eN,Nat.reduceEqDiff,↓reduceIte,V0,MP,a5,a2,hl',a3,a4]
   refine⟨⟨l',.busy,none,75,eCk, #[26],Ht,Hu⟩,by rw[AA _ _ _ _ (by decide),AA _ _ _ _ (by decide)];exact hL1,hRf _ _ ⟨?_,?_,AC ..,?_⟩⟩
   ·simp_all [AA,decide,AC]
   ·rw[AA _ _ _ _ (by decide),AC]
   ·unfold BI
    obtain⟨t,hA⟩:=hA
    have hlen:(chs (AR k).length x.ls.length).length≠trees.length:=by
     rw[<-hA];simp;omega
    rw[VN hlen,Xo]
  have hl':((D.length:Int)=(trees.length:Int))=False:=Vd (by omega)
  have hl2:decide ((D.length:Int)=(trees.length:Int))=false:=by simp;omega
  have hDl:D.length<trees.length:=by
   have:D.length<=trees.length:=by
    apply Classical.byContradiction
    intro q
    obtain⟨t,h1,-⟩:=ok trees.length D[trees.length] (V5 (by omega))
    rw[X2 (by omega)]at h1;cases h1
   omega
  have hgt:=V5 hDl
  have htf:=ht _ (Vn hDl)
  generalize trees[D.length]=tr at hgt htf
  have hX:=hrd.ox
  have hxc:=hX.c
  have hxl:=hX.l
  have hx4:=hX.cs.2.2
  rw[<-hrd.ll]at hxl
  have hgl:=Cy hxl.1 hxl.2
  have z:∀j,j<11->(m=j)=False:=λj hj=>Vd (by omega)
  have z':∀j,j<11->(j=m)=False:=λj hj=>Vd (by omega)
  have z0:=z 0 (by decide)
  have z1:=z 1 (by decide)
  have z2:=z 2 (by decide)
  have z3:=z 3 (by decide)
  have z4:=z 4 (by decide)
  have z5:=z 5 (by decide)
  have z10:=z 10 (by decide)
  have w1:((x.cs.length:Int)<=4)=True:=V3 (by omega)
  have w2:(0<=x.c)=True:=V3 hxc.1
  have w3:(x.c<(x.cs.length:Int))=True:=V3 hxc.2
  have w4:(x.c.toNat<4)=True:=V3 (by omega)
  have w5:(0<=x.l)=True:=V3 hxl.1
  have w6:(x.l<(letters.length:Int))=True:=V3 hxl.2
  have w7:(x.l.toNat<letters.length)=True:=V3 (by omega)
  simp only[Ae]at a1
  simp only[eE,eC,eN,reduceCtorEq,Nat.reduceEqDiff,↓reduceIte,Nat.reduceAdd,Nat.reduceLeDiff,Nat.reduceMul,Nat.reduceLT,xE,V1,Wb,W3,V2,V4,V0,V6,MP,a5,a2,hl',a0,a1,fr1 hf',fr0 hf',bsmS,bsmF,z0,z1,z2,z5,w1,w2,w3,w4,w5,w6,hgl,hgt,lt_T hDl,Nat.sub_zero,c4n,i04,AK]
  have hbeg:([.int .i64 (-1),.int .i64 (-1),.int .i64 (-1),.int .i64 (-1)]:List AVal).set x.c.toNat (eI (at0 letters x.l))=((begC x letters)++List.replicate (4-x.cs.length) (-1)).map eI:=by
   unfold begC
   rw[<-Xf _ _ (by rw[Wz];omega),List.replicate_append_replicate,show x.cs.length+(4-x.cs.length)=4 by omega,List.map_set]
   rfl
  rw[hbeg]
  generalize hHa:hset H1 m (AObj.arr 1 _)=Ha
  have hfa:AN Ha (m+15):=by rw[<-hHa];exact hf'.hset (by omega) (by omega)
  have hbl:=I2 x letters
  have hC:ClC k x (begC x letters):=by
   refine⟨hbl,λs hs h0=>?_⟩
   have hb:=IC hX hmem
   unfold begC at hs
   rcases X4 hs with q|q
   ·rw[List.mem_replicate]at q;omega
   ·grind [AR,List.length_map]
  have hcall:=Sl hrd (m+15) x.cs.length (begC x letters) tr (hset Ha (m+15) (.box (BJ k x letters (eCs tr)))) (m+17) m 4 (List.replicate (4-x.cs.length) (-1)) (hfa.hset (by omega) (by omega)) (AC ..) (by rw[AA _ _ _ _ (by omega),<-hHa,AC]) (by rw[hbl];omega) hC SQ htf
  rw[hbl]at hcall
  refine hcall.mono ?_
  rintro o H4 n4 ⟨hf4,hn4,hk4,hres⟩
  have hkeep:∀i,i<m->hget H4 i=hget H1 i:=λi hi=>by
   rw[hk4 i (by omega) (by omega),AA _ _ _ _ (by omega),<-hHa,AA _ _ _ _ (by omega)]
  have b3:=(hkeep 3 (by omega)).trans a3
  have b4:=(hkeep 4 (by omega)).trans a4
  have b5:=(hkeep 5 (by omega)).trans a5
  have b10:=(hkeep 10 (by omega)).trans hL1
  have hwrong:∀q,BC (AR k) x letters x.cs.length (begC x letters) tr=q->q≠some []->BI (AR k) x trees=false:=λq hq hne=>by
   unfold BI
   rw[Bool.and_eq_false_iff]
   by_cases hlen:(chs (AR k).length x.ls.length).length=trees.length
   ·right
    rw[WG]
    obtain⟨t,hA⟩:=hA
    refine⟨(letters,tr),?_,by rw[hq];simpa using hne⟩
    rw[List.mem_iff_getElem?]
    refine⟨D.length,?_⟩
    rw[X5]
    refine⟨?_,hgt⟩
    rw[<-hA];simp
   ·exact .inl (VN hlen)
  have stop:BI (AR k) x trees=false->S0 10 R AExit.ret ⟨[],hset (hset H4 3 (.box [.bool false])) 4 (.box [.int .i64 0]),n4⟩:=λhw=>by
   refine⟨⟨l',.busy,none,75,eCk, #[26],Ht,Hu⟩,by rw[AA _ _ _ _ (by decide),AA _ _ _ _ (by decide)];exact b10,hRf _ _ ⟨?_,?_,AC ..,hw⟩⟩
   ·simp_all [AA,decide,AC]
   ·rw[AA _ _ _ _ (by decide),AC]
  cases htr:BC (AR k) x letters x.cs.length (begC x letters) tr with
  |none=>
   rw[htr]at hres
   obtain rfl:o= .ret (.bool false):=hres
   simp only[eE,eC,eN,reduceCtorEq,Nat.reduceEqDiff,↓reduceIte,Nat.reduceAdd,V8,Ve,retK,b3,b4,Ve]
   exact stop (hwrong _ htr (by simp))
  |some l2=>
   rw[htr]at hres
   obtain⟨rfl,hr4⟩:=hres
   simp only[BJ,AL,AG,AO,Ae,Vu,Vw]at hr4
   cases l2 with
   |cons c2 l2=>
    have g2:((0:Int)<((l2.length+1:Nat):Int))=True:=cS1
    simp only[eE,eC,eN,Nat.reduceEqDiff,↓reduceIte,Nat.reduceAdd,V8,V0,retK,b3,b4,hr4,V8,g2]
    exact stop (hwrong _ htr (by simp))
   |nil=>
    have e:=AJ (k:=D.length) (by have:trees.length<1000000000:=htr';omega)
    simp only[eE,eC,eN,Nat.reduceEqDiff,↓reduceIte,Nat.reduceAdd,Int.reduceEq,V8,c0,i00,retK,b5,hr4,V8,i00,e]
    have hF':∀i,F i->i≠5/\i≠10:=λi hi=>by have:=nF i hi;omega
    refine⟨⟨l',.busy,none,75,eCk, #[26],Ht,Hu⟩,by rw[AA _ _ _ _ (by decide)];exact b10,hRt _ _ ⟨(hf4.hset (m:=n4) (V9 _) (by omega)).hset (m:=n4) (V9 _) (by omega),by simp only[];omega,nF,?_,?_,?_,?_,?_,?_,AC ..,?_⟩ (λi hi=>?_) (by simp only[];omega)⟩
    ·rw[AA _ _ _ _ (by decide),AA _ _ _ _ (by decide),hkeep 0 (by omega),k1 0 (by decide)];exact h0
    ·rw[AA _ _ _ _ (by decide),AA _ _ _ _ (by decide),hkeep 1 (by omega),k1 1 (by decide)];exact h1
    ·rw[AA _ _ _ _ (by decide),AA _ _ _ _ (by decide),hkeep 2 (by omega)];exact a2
    ·rw[AA _ _ _ _ (by decide),AA _ _ _ _ (by decide)];exact b3
    ·rw[AA _ _ _ _ (by decide),AA _ _ _ _ (by decide)];exact b4
    ·rw[AA _ _ _ _ (by decide),AC,Vm];rfl
    ·intro i l hl
     by_cases q:i<D.length
     ·rw[W0 q]at hl
      exact ok i l hl
     ·grind
    ·have:=hF i hi
     rw[AA _ _ _ _ (λq=>(hF' i hi).2 q.symm),AA _ _ _ _ (λq=>(hF' i hi).1 q.symm),hkeep i (by omega),k1 i (hF' i hi).2]
theorem Ok{k:Knd}{x:Lma}{trees:List (List Cas)}(h:Sm k x trees (chs (AR k).length x.ls.length)):BI (AR k) x trees=decide ((chs (AR k).length x.ls.length).length=trees.length):=by
 unfold BI
 rw[Bool.and_eq_left_iff_imp]
 intro hl
 rw[Vj]
 rintro⟨l,t⟩ hm
 obtain⟨i,hi⟩:=List.mem_iff_getElem?.1 hm
 rw[X5]at hi
 obtain⟨t',h1,h2⟩:=h i l hi.1
 rw[hi.2]at h1;cases h1
 exact VJ h2
def Ay(k:Knd)(x:Lma)(trees:List (List Cas)):AVal:=if BQ k x≠0 then .tup [.bool false,.int .i64 (BQ k x)]else .tup [.bool (BI (AR k) x trees),.int .i64 0]
theorem Lk{k:Knd}{x:Lma}(hk:FewD k.d)(hx:FewL x)(h:BQ k x=0){letters:List Int}(hl:letters∈chs (AR k).length x.ls.length):RdC k x letters:=by
 unfold BQ at h
 by_cases hc:Bf k=0
 ·rw[Vb (by simpa using hc)]at h
  have ho:HH x=true:=by
   unfold chk at h
   split at h
   ·assumption
   ·cases h
  exact⟨hc,hk,hx,(LN x).1 ho,(QH hl).1⟩
 ·rw[Vk hc]at h;exact absurd h hc
def rowVd:List AVal->AB->Prop×AVal:=s2 dKn dX (λk x=>FewD k.d/\FewL x) λk x=>eI (BQ k x)
def Tsc:Tab:=tadd 45 rowVd tnil
theorem Sn:AH Tryz.prog Tsc:=AH.tnil.add (q2 λk x h=>p45 k x h.1 h.2)
theorem Q9(a:List AVal)(H:AB):Tsc 45 a H=s2 dKn dX (λk x=>FewD k.d/\FewL x) (λk x=>eI (BQ k x)) a H:=rfl
theorem p18(k:Knd)(x:Lma)(trees:List (List Cas))(hk:FewD k.d)(hx:FewL x)(htr:few trees)(ht:∀t∈trees,few t):Pur Tryz.prog 18 [Bq k,encL x,EC trees] (Ay k x trees):=by
 have u1:dKn.ok (.agg (AL k))=True:=EF k
 have u2:dKn.dec (.agg (AL k))=k:=Ct k
 simp only[AL,AG,AO,Vu,Vw]at u1 u2
 have v1:dX.ok (.agg (Ae x))=True:=Ns x
 have v2:dX.dec (.agg (Ae x))=x:=IF x
 simp only[Ae]at v1 v2
 refine .mk ⟨Aj 0 k,Bb 0 x,CX 0 trees,trivial⟩ ?_ (a18 (AE Sn (AF ?_)))
 ·unfold Ay
  split<;>exact⟨trivial,trivial,trivial⟩
 unfold Ay
 by_cases hv:BQ k x=0
 case neg=>simp only[eE,eC,eN,eX,reduceCtorEq,Nat.reduceEqDiff,↓reduceIte,Nat.reduceAdd,Nat.reduceLeDiff,Nat.reduceLT,Nat.reduceMod,Nat.reduceSub,Nat.reduceDiv,Ve,CN,c18,AL,AG,AO,Q9,s2,u1,u2,v1,v2,V3 hk,V3 hx,Vd hv];exact Wk.refl _
 have hvl:(AR k).length=k.d.syms.length:=by unfold AR;rw[V0]
 simp only[eE,eC,eN,reduceCtorEq,Nat.reduceEqDiff,↓reduceIte,Nat.reduceAdd,Nat.reduceLeDiff,V8,V0,c18,AL,AG,AO,Q9,s2,u1,u2,v1,v2,V3 hk,V3 hx,V3 hv,AK]
 rw[hv]
 have hck:Bf k=0:=by simp_all [BQ]<;>omega
 have hsy:=C0 hck
 generalize hHa:hset (hset _ 4 _) 5 (AObj.box _)=Ha
 have fa:AN Ha 7:=by
  rw[<-hHa]
  repeat' (first|exact AN.nil.hset (m:=7) (Vi _) (by decide)|refine AN.hset ?_ (V9 _) (by decide))
 have f0:hget Ha 0=some (.box (AL k)):=by rw[<-hHa];rfl
 have f1:hget Ha 1=some (.box (Ae x)):=by rw[<-hHa];rfl
 have f2:hget Ha 2=some (.box [eTr trees]):=by rw[<-hHa];rfl
 have f3:hget Ha 3=some (.box [.bool false]):=by rw[<-hHa];rfl
 have f4:hget Ha 4=some (.box [.int .i64 0]):=by rw[<-hHa];rfl
 have f5:hget Ha 5=some (.box [.int .i64 0]):=by rw[<-hHa];rfl
 clear hHa
 have hls:x.ls.length<=1000:=by
  have ho:HH x=true:=by
   unfold BQ at hv
   rw[Vb (by simpa using hck)]at hv
   unfold chk at hv
   split at hv
   ·assumption
   ·cases hv
  have:=((LN x).1 ho).ls.2.2.2
  omega
 refine(EQ (M:=k.d.syms.length) (n:=x.ls.length) fa).mono ?_
 rintro o H1 n1 ⟨rfl,rfl,rfl⟩
 simp only[eE,eN,Nat.reduceEqDiff,↓reduceIte,Nat.reduceAdd,retK,ES]
 intro l'
 generalize hHb:hset (hset (hset Ha 7 _) _ _) _ (AObj.lp _)=Hb
 have kb:∀i,i<7->hget Hb i=hget Ha i:=λi hi=>by
  rw[<-hHb,AA _ _ _ _ (by omega),AA _ _ _ _ (by omega),AA _ _ _ _ (by omega)]
 have e8:hget Hb 8=some (.box [.int .i64 x.ls.length]):=by rw[<-hHb,AA _ _ _ _ (by decide)];exact AC ..
 have e7:hget Hb 7=some (.box [.int .i64 (AR k).length]):=by rw[<-hHb,AA _ _ _ _ (by decide),AA _ _ _ _ (by decide),hvl];exact AC ..
 have hJ:CkJ k x trees l' (λi=>i=7\/i=8) [] Hb 11:=by
  refine⟨?_,V9 _,λi h=>by omega,(kb 0 (by decide)).trans f0,(kb 1 (by decide)).trans f1,(kb 2 (by decide)).trans f2,(kb 3 (by decide)).trans f3,(kb 4 (by decide)).trans f4,(kb 5 (by decide)).trans f5,by rw[<-hHb];exact AC ..,λi l h=>by simp at h⟩
  rw[<-hHb]
  exact((fa.hset (m:=11) (by decide) (by decide)).hset (V9 _) (by decide)).hset (V9 _) (by decide)
 have hgen:=Tm (k:=k) (x:=x) (trees:=trees) (l':=l') (λletters hl=>Lk hk hx hv hl) htr ht
 have hM:(AR k).length<=1000:=by omega
 refine(Ka hgen hM hls hJ (λi h=>by omega) (.inr rfl) (.inl rfl) e8 e7).mono ?_
 rintro o H' m' ⟨rfl,⟨F',-,hF',hj⟩|⟨s3,s4,sL,hw⟩⟩
 ·obtain⟨fr,lm,nF,h0,h1,h2,h3,h4,h5,hL,ok⟩:=hj
  rw[Ok ok]
  generalize (chs (AR k).length x.ls.length).length=cl at h5
  simp only[eE,eN,reduceCtorEq,Nat.reduceEqDiff,↓reduceIte,CN,V0,ER,hL,h2,h3,h4,h5]
  rw[show decide ((cl:Int)=(trees.length:Int))=decide (cl=trees.length)from decide_eq_decide.2 (by omega)]
  exact Wk.refl _
 ·simp only[eE,eN,reduceCtorEq,Nat.reduceEqDiff,↓reduceIte,CN,ER,sL,s3,s4,hw]
  exact Wk.refl _
end Go.AM
namespace Go.AM
open Go.Proofs Go.Lib
end Go.AM
namespace Go.AM
open Go.Proofs Go.Lib
end Go.AM
namespace Go.AM
open Go.Proofs Go.Lib
structure HoC(k:Knd)(x:Lma)(letters:List Int)(d1 d2 d3 d4 d5 rp id cap:Nat)(H:AB):Prop where
 h1:hget H d1=some (.box (Ae x))
 h2:hget H d2=some (.box [.ptr rp 0])
 h3:hget H d3=some (.box [.ref id 1 0 x.cs.length cap])
 h4:hget H d4=some (.box [.fn (.func 49) [] [.ptr d1 0,.ptr d2 0,.ptr d3 0,.ptr d4 0,.ptr d5 0]])
 h5:hget H d5=some (.box (AL k))
 hr:RdAt H rp k x letters
theorem HoC.keep{k:Knd}{x:Lma}{letters:List Int}{d1 d2 d3 d4 d5 rp id cap n:Nat}{H H':AB}(h:HoC k x letters d1 d2 d3 d4 d5 rp id cap H)(hidq:∃L,hget H id=some (.arr 1 L))(hf:AN H n)(hk:Bw id n H H'):HoC k x letters d1 d2 d3 d4 d5 rp id cap H':=by
 obtain⟨L,hidq⟩:=hidq
 have key:∀c cs,hget H c=some (.box cs)->hget H' c=some (.box cs):=λc cs hc=>by
  rw[hk c (hf.lt hc) (λe=>by rw[e,hidq]at hc;cases hc)];exact hc
 obtain⟨h1,h2,h3,h4,h5,w,hr⟩:=h
 exact⟨key _ _ h1,key _ _ h2,key _ _ h3,key _ _ h4,key _ _ h5,w,key _ _ hr⟩
def HoP(id n:Nat)(arr:List AVal)(H:AB)(b:Bool):AOut->AB->Nat->Prop:=λo H' n'=>
 AN H' n'/\n<=n'/\Bw id n H H'/\o= .ret (.bool b)/\(b=false->hget H' id=some (.arr 1 arr))/\∃L,hget H' id=some (.arr 1 L)
theorem JI{vals:List Int}{x:Lma}{letters cells:List Int}:Ma vals x letters cells=true↔∀i:Nat,i<x.qs.length+x.ps.length->Bp vals x letters cells (i:Int)=false:=by
 unfold Ma
 rw[Vj]
 have hl:(KI vals x letters cells).length=x.qs.length+x.ps.length:=by unfold KI;simp
 constructor
 ·intro h i hi
  unfold Bp
  rw[Vb (by omega),V2,V5 (by omega),V1]
  have:=h _ (Vn (l:=KI vals x letters cells) (n:=i) (by omega))
  simpa using this
 ·intro h b hb
  obtain⟨i,hi,rfl⟩:=VI.1 hb
  have:=h i (by omega)
  unfold Bp at this
  rw[Vb (by omega),V2,V5 hi,V1]at this
  rw[this];rfl
def HoG(k:Knd)(x:Lma)(letters:List Int)(d1 d2 d3 d4 d5 rp id cap j:Nat):Prop:=∀(i:Nat) (cells:List Int) (H:AB) (n:Nat) (rest:List Int),i+j=x.cs.length->AN H n->HoC k x letters d1 d2 d3 d4 d5 rp id cap H->hget H id=some (.arr 1 ((cells++rest).map eI))->ClC k x cells->(∀(a:Nat),i<=a->a<x.cs.length->(a:Int)≠x.c->cells[a]?=some (-1))->
  AI Tryz.prog 49 [.int .i64 i,.ptr d1 0,.ptr d2 0,.ptr d3 0,.ptr d4 0,.ptr d5 0] H n (HoP id n ((cells++rest).map eI) H (tryP (AR k) x letters j i cells))
structure VHo where
 s:Nat
 cur:Int
 H:AB
 n:Nat
structure IHo(k:Knd)(x:Lma)(letters cells rest:List Int)(id i j m n0:Nat)(H0:AB)(v:VHo):Prop where
 hs:v.s<=m
 fr:AN v.H v.n
 hn:n0<=v.n
 kp:Bw id n0 H0 v.H
 ho:hget v.H id=some (.arr 1 ((cells.set i v.cur++rest).map eI))
 no:∀b:Nat,b<v.s->tryP (AR k) x letters j (i+1) (cells.set i (b:Int))=false
theorem Ll{k:Knd}{x:Lma}{letters:List Int}(h:RdC k x letters)(d1 d2 d3 d4 d5 rp id cap:Nat)(hcap:x.cs.length<=cap)(j:Nat)(ih:∀j',j=j'+1->HoG k x letters d1 d2 d3 d4 d5 rp id cap j'):HoG k x letters d1 d2 d3 d4 d5 rp id cap j:=by
 intro i cells H n rest hij hf hH hidq hC hneg
 have hnq:x.qs.length<1000000000:=h.fx.qs
 have hnp:x.ps.length<1000000000:=h.fx.ps
 have hw1:IntKind.wrap .i64 ((x.qs.length:Int)+(x.ps.length:Int))=((x.qs.length+x.ps.length:Nat):Int):=by rw[Aq (by omega) (by omega)];omega
 have hRI:RdI H (.ref id 1 0 x.cs.length cap) cells:=.inr ⟨id,cap,rest,by rw[hC.len],hidq,by rw[hC.len];exact hcap⟩
 have hrd:=KY hRI
 have hH0:=hH
 obtain⟨h1,h2,h3,h4,h5,hr⟩:=hH0
 simp only[Ae]at h1
 simp only[AL,AG,AO,Vu,Vw]at h5
 refine a49 (AE (Sk h) (AF ?_))
 simp only[eE,eN,reduceCtorEq,Nat.reduceEqDiff,↓reduceIte,Nat.reduceAdd,Nat.reduceLeDiff,V0,c49,h1,hw1]
 refine AU (λa:Nat=>⟨[(0,true,.int .i64 i),(1,true,.ptr d1 0),(2,true,.ptr d2 0),(3,true,.ptr d3 0),(4,true,.ptr d4 0),(5,true,.ptr d5 0),(16,true,.int .i64 ((x.qs.length+x.ps.length:Nat):Int)),(17,true,.int .i64 a)],H,n⟩)
  (λa=>a<=x.qs.length+x.ps.length/\∀b,b<a->Bp (AR k) x letters cells (b:Int)=false) (λa=>x.qs.length+x.ps.length-a) 0 rfl ⟨Vi _,λb hb=>by omega⟩ ?_
 rintro a ⟨ha,hall⟩
 by_cases hlt:a<x.qs.length+x.ps.length
 ·have e:=AJ (k:=a) (by omega)
  cases hcm:Bp (AR k) x letters cells (a:Int)with
  |true=>
   have hno:tryP (AR k) x letters j i cells=false:=by
    unfold tryP
    rw[Vb]
    rw[JI]
    intro q
    rw[q a hlt]at hcm;cases hcm
   rw[hno]
   simp only[eE,eC,eN,reduceCtorEq,Nat.reduceEqDiff,↓reduceIte,lt_T hlt,h2,h3,Tk,JH,hrd,V3 hRI,V3 hr,V3 hC,hcm]
   exact⟨hf,V9 _,Bw.refl _,rfl,λ_=>hidq,_,hidq⟩
  |false=>
   simp only[eE,eC,eN,reduceCtorEq,Nat.reduceEqDiff,↓reduceIte,Int.reduceEq,lt_T hlt,h2,h3,Tk,JH,hrd,V3 hRI,V3 hr,V3 hC,hcm,e]
   refine .mk (a+1) rfl ⟨hlt,λb hb=>?_⟩ (by omega)
   by_cases q:b<a
   ·exact hall b q
   ·obtain rfl:b=a:=by omega
    exact hcm
 obtain rfl:a=x.qs.length+x.ps.length:=by omega
 have hok:=JI.2 hall
 cases j with
 |zero=>
  have hne:((i:Int)=(x.cs.length:Int))=True:=V3 (by omega)
  have hde:decide ((i:Int)=(x.cs.length:Int))=true:=VJ (by omega)
  rw[tryP,Vk hok]
  simp only[eE,eC,eN,reduceCtorEq,Nat.reduceEqDiff,↓reduceIte,lt_F hlt,h3,hne]
  exact⟨hf,V9 _,Bw.refl _,rfl,(λq=>by cases q),_,hidq⟩
 |succ j=>
 have ih:=ih j rfl
 rw[tryP,Vk hok]
 have hne:((i:Int)=(x.cs.length:Int))=False:=Vd (by omega)
 have e1:=AJ (k:=i) (by have:=h.ox.cs.2.2.2;omega)
 by_cases hic:(i:Int)=x.c
 ·rw[Vk hic]
  simp only[eE,eC,eN,reduceCtorEq,Nat.reduceEqDiff,↓reduceIte,Nat.reduceAdd,Nat.reduceLeDiff,Int.reduceEq,lt_F hlt,h1,h3,h4,hne,V3 hic,e1]
  refine(ih (i+1) cells H n rest (by omega) hf hH hidq hC λa ha h1 h2=>hneg a (by omega) h1 h2).mono ?_
  rintro o H' n' ⟨q1,q2,q3,rfl,q5,q6⟩
  simp only[eE,eN,↓reduceIte,retK]
  exact⟨q1,q2,q3,rfl,q5,q6⟩
 rw[Vb hic]
 have hsy:=C0 h.ck
 have hvl:(AR k).length=k.d.syms.length:=by unfold AR;rw[V0]
 have hgi:=hneg i (V9 _) (by omega) hic
 have hil:i<cells.length:=(VV.1 hgi).1
 have hse:cells.set i (-1)=cells:=by
  refine List.ext_getElem? λa=>?_
  rw[List.getElem?_set]
  split
  ·rename_i q;subst q;exact hgi.symm
  ·rfl
 have hidn:=hf.lt hidq
 simp only[eE,eC,eN,reduceCtorEq,Nat.reduceEqDiff,↓reduceIte,Nat.reduceAdd,Nat.reduceLeDiff,V0,lt_F hlt,h1,h3,h5,hne,Vd hic]
 refine AU (λv:VHo=>⟨[(0,true,.int .i64 i),(3,true,.ptr d3 0),(4,true,.ptr d4 0),(40,true,.int .i64 k.d.syms.length),(41,true,.int .i64 v.s)],v.H,v.n⟩) (IHo k x letters cells rest id i j k.d.syms.length n H) (λv=>k.d.syms.length-v.s)
  ⟨0,-1,H,n⟩ rfl ⟨Vi _,hf,V9 _,Bw.refl _,by simp only[hse];exact hidq,λb hb=>by simp only[]at hb;omega⟩ ?_
 rintro⟨s,cur,H1,n1⟩ ⟨hs,hf1,hn1,hk1,ho1,hno1⟩
 simp only at hs hf1 hn1 hk1 ho1 hno1
 have hH1:=hH.keep ⟨_,hidq⟩ hf hk1
 have hl1:(i<(cells.set i cur++rest).length)=True:=V3 (by simp;omega)
 have g1:((i:Int)<(x.cs.length:Int))=True:=V3 (by omega)
 have est:∀z:Int,((cells.set i cur++rest).map eI).set i (.int .i64 z)=((cells.set i z++rest).map eI):=λz=>by
  rw[show(.int .i64 z:AVal)=eI z from rfl,<-List.map_set,Xf _ _ (by rw[WI];exact hil),List.set_set]
 obtain⟨e1',e2',e3',e4',e5',er'⟩:=hH1
 by_cases hls:s<k.d.syms.length
 case neg=>
  obtain rfl:s=k.d.syms.length:=by omega
  have hany:((symI (AR k).length).any λs=>tryP (AR k) x letters j (i+1) (cells.set i s))=false:=by
   rw[List.any_eq_false]
   intro z hz
   obtain⟨z0,z1⟩:=F5.1 hz
   obtain⟨b,rfl⟩:=X7 z0
   rw[hno1 b (by omega)];decide
  rw[hany]
  have est1:=est (-1)
  rw[hse]at est1
  simp only[eE,eC,eN,reduceCtorEq,Nat.reduceEqDiff,↓reduceIte,V2,V4,V0,V6,lt_F hls,e3',ho1,hl1,g1,est1]
  exact⟨hf1.hset (V9 _) (by omega),hn1,hk1.set,rfl,λ_=>AC ..,_,AC ..⟩
 have e:=AJ (k:=s) (by omega)
 have y4:(id=d4)=False:=Vd λq=>by rw[q,e4']at ho1;cases ho1
 simp only[eE,eC,eN,reduceCtorEq,Nat.reduceEqDiff,↓reduceIte,Int.reduceEq,V2,V4,V0,V6,lt_T hls,e3',e4',ho1,hl1,g1,est (s:Int),e1,y4]
 generalize hH2:AM.hset H1 id (AObj.arr 1 ((cells.set i (s:Int)++rest).map eI))=H2
 have ho2:hget H2 id=some (.arr 1 ((cells.set i (s:Int)++rest).map eI)):=by rw[<-hH2,AC]
 have hf2:AN H2 n1:=by rw[<-hH2];exact hf1.hset (V9 _) (by omega)
 have hk2:Bw id n H H2:=by rw[<-hH2];exact hk1.set
 have hC2:ClC k x (cells.set i (s:Int)):=⟨by rw[WI];exact hC.len,λz hz h0=>by
  rcases X4 hz with q|q
  ·exact hC.sy z q h0
  ·rw[q];exact⟨by omega,by omega⟩⟩
 refine(ih (i+1) (cells.set i (s:Int)) H2 n1 rest (by omega) hf2 (hH.keep ⟨_,hidq⟩ hf hk2) ho2 hC2 λa ha h1 h2=>?_).mono ?_
 ·grind
 rintro o H3 n3 ⟨q1,q2,q3,rfl,q5,q6⟩
 have hk3:Bw id n H H3:=hk2.trans q3 hn1
 cases hb:tryP (AR k) x letters j (i+1) (cells.set i (s:Int))with
 |true=>
  have hany:((symI (AR k).length).any λs=>tryP (AR k) x letters j (i+1) (cells.set i s))=true:=
   Xk.2 ⟨(s:Int),F5.2 ⟨by omega,by rw[hvl];omega⟩,hb⟩
  rw[hany]
  simp only[eE,eC,eN,reduceCtorEq,Nat.reduceEqDiff,↓reduceIte,retK]
  exact⟨q1,by omega,hk3,rfl,(λq=>by cases q),q6⟩
 |false=>
  rw[hb]at q5
  simp only[eE,eC,eN,reduceCtorEq,Nat.reduceEqDiff,↓reduceIte,Int.reduceEq,retK,e]
  refine .mk ⟨s+1,(s:Int),H3,n3⟩ rfl ⟨hls,q1,by simp only[];omega,hk3,q5 rfl,λb hb'=>?_⟩ (by simp only[];omega)
  by_cases q:b<s
  ·exact hno1 b q
  ·have hb'':b<s+1:=hb'
   obtain rfl:b=s:=by omega
   exact hb
theorem t_holds{k:Knd}{x:Lma}{letters:List Int}(h:RdC k x letters)(d1 d2 d3 d4 d5 rp id cap:Nat)(hcap:x.cs.length<=cap):∀j,HoG k x letters d1 d2 d3 d4 d5 rp id cap j
 |0=>Ll h d1 d2 d3 d4 d5 rp id cap hcap 0 λj' hj=>by omega
 |j+1=>Ll h d1 d2 d3 d4 d5 rp id cap hcap (j+1) λj' hj=>by
  obtain rfl:j'=j:=by omega
  exact t_holds h d1 d2 d3 d4 d5 rp id cap hcap j'
end Go.AM
namespace Go.AM
open Go.Proofs Go.Lib
abbrev eTe:List (Nat×Bool×AVal):=[(2,true,.ptr 0 0),(3,true,.ptr 1 0),(4,true,.ptr 2 0),(5,true,.ptr 3 0),(23,true,clC 5 4)]
noncomputable abbrev lpTe (l':Nat) (st:LoopState) (pend:Option Code):AObj:=.lp ⟨l',st,pend,47,eTe, #[24],J4,J5⟩
structure TeJ(k:Knd)(x:Lma)(l':Nat)(F:Nat->Prop)(D:List (List Int))(H:AB)(m:Nat):Prop where
 fr:AN H m
 lm:8<=m
 nF:∀i,F i->i=4\/i=5\/8<=i
 h0:hget H 0=some (.box (AL k))
 h1:hget H 1=some (.box (Ae x))
 h2:hget H 2=some (.box [.bool false])
 h3:hget H 3=some (.box [.int .i64 0])
 hL:hget H 7=some (lpTe l' .ready none)
 ok:∀l∈D,tryP (AR k) x l x.cs.length 0 (begC x l)=false
def TeS(k:Knd)(x:Lma)(l':Nat)(H:AB)(m:Nat):Prop:=
 hget H 2=some (.box [.bool false])/\hget H 3=some (.box [.int .i64 0])/\hget H 7=some (lpTe l' .done (some .ret))/\KK (AR k) x=false
theorem Tn{k:Knd}{x:Lma}{l':Nat}(hR:∀letters∈chs (AR k).length x.ls.length,RdC k x letters):Gen (chs (AR k).length x.ls.length) l' (TeJ k x l') (TeS k x l') where
 fr:=λF D H m h=>h.fr
 frame:=by
  rintro F F' D H H' m m' ⟨fr,lm,nF,h0,h1,h2,h3,hL,ok⟩ hF hH hf hm
  have n1:∀i,i<8->i≠4->i≠5->hget H' i=hget H i:=λi a b c=>hH i λq=>by
   rcases hF i q with q|q
   ·have:=nF i q;omega
   ·omega
  exact⟨hf,by omega,λi h=>(hF i h).elim (nF i) (λq=>by omega),by rw[n1 0 (by decide) (by decide) (by decide)];exact h0,by rw[n1 1 (by decide) (by decide) (by decide)];exact h1,by rw[n1 2 (by decide) (by decide) (by decide)];exact h2,
   by rw[n1 3 (by decide) (by decide) (by decide)];exact h3,by rw[n1 7 (by decide) (by decide) (by decide)];exact hL,ok⟩
 yld:=by
  rintro F D letters H m R ⟨fr,lm,nF,h0,h1,h2,h3,hL,ok⟩ hF hA hRt hRf
  refine y20_0 hL rfl (AE AH.tnil (AF ?_))
  simp only[eE,eN,Nat.reduceEqDiff,↓reduceIte,Px,renv,WS,WW,Wg,Xa]
  refine⟨_,hL,rfl,AE AH.tnil (AF ?_)⟩
  have hf':AN (hset H 7 (lpTe l' .busy none)) m:=fr.hset (V9 _) (by omega)
  generalize hH1:hset H 7 (lpTe l' .busy none)=H1 at hf'⊢
  have k1:∀i,i≠7->hget H1 i=hget H i:=λi hi=>by rw[<-hH1,AA _ _ _ _ hi.symm]
  have hL1:hget H1 7=some (lpTe l' .busy none):=by rw[<-hH1,AC]
  have a0:=(k1 0 (by decide)).trans h0
  have a1:=(k1 1 (by decide)).trans h1
  have a2:=(k1 2 (by decide)).trans h2
  have a3:=(k1 3 (by decide)).trans h3
  clear hH1
  have hmem:letters∈chs (AR k).length x.ls.length:=by
   obtain⟨t,ht⟩:=hA
   rw[<-ht];simp
  have hrd:=hR _ hmem
  have b0:=a0
  have b1:=a1
  simp only[AL,AG,AO,Vu,Vw]at b0
  simp only[Ae]at b1
  have hX:=hrd.ox
  have hxc:=hX.c
  have hxl:=hX.l
  have hx4:=hX.cs.2.2
  rw[<-hrd.ll]at hxl
  have hgl:=Cy hxl.1 hxl.2
  have z:∀j c,j<8->(m+c=j)=False:=λj c hj=>Vd (by omega)
  have z':∀j c,j<8->(j=m+c)=False:=λj c hj=>Vd (by omega)
  have z0:=λc=>z 0 c (by decide)
  have z1:=λc=>z 1 c (by decide)
  have z2:=λc=>z 2 c (by decide)
  have z3:=λc=>z 3 c (by decide)
  have z7:=λc=>z 7 c (by decide)
  have y0:=λc=>z' 0 c (by decide)
  have y1:=λc=>z' 1 c (by decide)
  have w1:((x.cs.length:Int)<=4)=True:=V3 (by omega)
  have w2:(0<=x.c)=True:=V3 hxc.1
  have w3:(x.c<(x.cs.length:Int))=True:=V3 hxc.2
  have w4:(x.c.toNat<4)=True:=V3 (by omega)
  have w5:(0<=x.l)=True:=V3 hxl.1
  have w6:(x.l<(letters.length:Int))=True:=V3 hxl.2
  have w7:(x.l.toNat<letters.length)=True:=V3 (by omega)
  have mm:∀a b:Nat,(m+a=m+b)=(a=b):=λa b=>propext ⟨λh=>by omega,λh=>by omega⟩
  simp only[eE,eC,eN,Nat.reduceEqDiff,↓reduceIte,Nat.reduceAdd,Nat.reduceLeDiff,Nat.reduceMul,Nat.reduceLT,xE,V1,Wb,W3,V2,V4,V0,V6,Pw,b0,b1,fr1 hf',bsmS,bsmF,z1,mm,w1,w2,w3,w4,w5,w6,hgl,Nat.sub_zero,c4n,i04,AK]
  have hbeg:([.int .i64 (-1),.int .i64 (-1),.int .i64 (-1),.int .i64 (-1)]:List AVal).set x.c.toNat (eI (at0 letters x.l))=((begC x letters)++List.replicate (4-x.cs.length) (-1)).map eI:=by
   unfold begC
   rw[<-Xf _ _ (by rw[Wz];omega),List.replicate_append_replicate,show x.cs.length+(4-x.cs.length)=4 by omega,List.map_set]
   rfl
  rw[hbeg]
  generalize hHa:hset _ (m+14) _=Ha
  have hfa:AN Ha (m+15):=by
   rw[<-hHa]
   refine AN.hset ?_ (V9 _) (by omega)
   refine AN.hset ?_ (V9 _) (by omega)
   refine AN.hset ?_ (V9 _) (by omega)
   refine AN.hset ?_ (V9 _) (by omega)
   refine AN.hset ?_ (V9 _) (by omega)
   exact hf'.hset (m:=m+15) (by omega) (by omega)
  have ka:∀i,i<m->hget Ha i=hget H1 i:=λi hi=>by
   rw[<-hHa]
   rw[AA _ _ _ _ (by omega),AA _ _ _ _ (by omega),AA _ _ _ _ (by omega),AA _ _ _ _ (by omega),AA _ _ _ _ (by omega),AA _ _ _ _ (by omega)]
  have hbl:=I2 x letters
  have hidq:hget Ha (m+7)=some (.arr 1 (((begC x letters)++List.replicate (4-x.cs.length) (-1)).map eI)):=by
   rw[<-hHa,AA _ _ _ _ (by omega),AC]
  have hHC:HoC k x letters 1 (m+5) (m+12) (m+14) 0 (m+4) (m+7) 4 Ha:=by
   refine⟨(ka 1 (by omega)).trans a1,?_,?_,?_,(ka 0 (by omega)).trans a0,.sl .nil [],?_⟩
   ·grind [AA,AC]
   ·grind [AA,AC]
   ·rw[<-hHa,AC]
   ·rw[<-hHa,AA _ _ _ _ (by omega),AA _ _ _ _ (by omega),AA _ _ _ _ (by omega),AA _ _ _ _ (by omega),AA _ _ _ _ (by omega),AC]
    rfl
  have hC:ClC k x (begC x letters):=by
   refine⟨hbl,λs hs h0=>?_⟩
   have hb:=IC hX hmem
   unfold begC at hs
   rcases X4 hs with q|q
   ·rw[List.mem_replicate]at q;omega
   ·grind [AR,List.length_map]
  have hcall:=t_holds hrd 1 (m+5) (m+12) (m+14) 0 (m+4) (m+7) 4 (by omega) x.cs.length 0 (begC x letters) Ha (m+15) (List.replicate (4-x.cs.length) (-1)) (by omega) hfa hHC hidq hC (λa _ h1 h2=>by
   unfold begC
   rw[List.getElem?_set,Vb (by omega),List.getElem?_replicate,Vk h1])
  rw[c0]at hcall
  refine hcall.mono ?_
  rintro o H4 n4 ⟨hf4,hn4,hk4,rfl,-,-⟩
  have hkeep:∀i,i<m->hget H4 i=hget H1 i:=λi hi=>by
   rw[hk4 i (by omega) (by omega),ka i hi]
  have c2':=(hkeep 2 (by omega)).trans a2
  have c3':=(hkeep 3 (by omega)).trans a3
  have c7':=(hkeep 7 (by omega)).trans hL1
  cases htr:tryP (AR k) x letters x.cs.length 0 (begC x letters)with
  |true=>
   simp only[eE,eC,eN,Nat.reduceEqDiff,↓reduceIte,retK,c2',c3']
   refine⟨⟨l',.busy,none,47,eTe, #[24],J4,J5⟩,by rw[AA _ _ _ _ (by decide),AA _ _ _ _ (by decide)];exact c7',hRf _ _ ⟨?_,?_,AC ..,?_⟩⟩
   ·simp_all [AA,AC]
   ·rw[AA _ _ _ _ (by decide),AC]
   ·grind [KK,List.all_eq_false]
  |false=>
   simp only[eE,eC,eN,Nat.reduceEqDiff,↓reduceIte,retK]
   have hF':∀i,F i->i≠7:=λi hi=>by have:=nF i hi;omega
   refine⟨⟨l',.busy,none,47,eTe, #[24],J4,J5⟩,c7',hRt _ _ ⟨hf4.hset (m:=n4) (V9 _) (by omega),by simp only[];omega,nF,?_,?_,?_,?_,AC ..,λl hl=>?_⟩ (λi hi=>?_) (by simp only[];omega)⟩
   ·rw[AA _ _ _ _ (by decide),hkeep 0 (by omega)];exact a0
   ·rw[AA _ _ _ _ (by decide),hkeep 1 (by omega)];exact a1
   ·rw[AA _ _ _ _ (by decide)];exact c2'
   ·rw[AA _ _ _ _ (by decide)];exact c3'
   ·grind
   ·have:=hF i hi
    rw[AA _ _ _ _ (λq=>hF' i hi q.symm),hkeep i (by omega),k1 i (hF' i hi)]
def Kd(k:Knd)(x:Lma):AVal:=if BQ k x≠0 then .tup [.bool false,.int .i64 (BQ k x)]else .tup [.bool (KK (AR k) x),.int .i64 0]
theorem p20(k:Knd)(x:Lma)(hk:FewD k.d)(hx:FewL x):Pur Tryz.prog 20 [Bq k,encL x] (Kd k x):=by
 have u1:dKn.ok (.agg (AL k))=True:=EF k
 have u2:dKn.dec (.agg (AL k))=k:=Ct k
 simp only[AL,AG,AO,Vu,Vw]at u1 u2
 have v1:dX.ok (.agg (Ae x))=True:=Ns x
 have v2:dX.dec (.agg (Ae x))=x:=IF x
 simp only[Ae]at v1 v2
 refine .mk ⟨Aj 0 k,Bb 0 x,trivial⟩ ?_ (a20 (AE Sn (AF ?_)))
 ·unfold Kd
  split<;>exact⟨trivial,trivial,trivial⟩
 unfold Kd
 by_cases hv:BQ k x=0
 case neg=>
  simp only[eE,eC,eN,eX,reduceCtorEq,Nat.reduceEqDiff,↓reduceIte,Nat.reduceAdd,Nat.reduceLeDiff,Nat.reduceLT,Nat.reduceMod,Nat.reduceSub,Nat.reduceDiv,Ve,CN,c20,AL,AG,AO,Q9,s2,u1,u2,v1,v2,V3 hk,V3 hx,Vd hv]
  exact Wk.refl _
 have hvl:(AR k).length=k.d.syms.length:=by unfold AR;rw[V0]
 simp only[eE,eC,eN,reduceCtorEq,Nat.reduceEqDiff,↓reduceIte,Nat.reduceAdd,Nat.reduceLeDiff,V8,V0,c20,AL,AG,AO,Q9,s2,u1,u2,v1,v2,V3 hk,V3 hx,V3 hv,AK]
 rw[hv]
 have hck:Bf k=0:=by simp_all [BQ]<;>omega
 have hsy:=C0 hck
 generalize hHa:hset _ 3 (AObj.box _)=Ha
 have fa:AN Ha 4:=by
  rw[<-hHa]
  repeat' (first|exact AN.nil.hset (m:=4) (Vi _) (by decide)|refine AN.hset ?_ (V9 _) (by decide))
 have f0:hget Ha 0=some (.box (AL k)):=by rw[<-hHa];rfl
 have f1:hget Ha 1=some (.box (Ae x)):=by rw[<-hHa];rfl
 have f2:hget Ha 2=some (.box [.bool false]):=by rw[<-hHa];rfl
 have f3:hget Ha 3=some (.box [.int .i64 0]):=by rw[<-hHa];rfl
 clear hHa
 have hls:x.ls.length<=1000:=by
  have ho:HH x=true:=by
   unfold BQ at hv
   rw[Vb (by simpa using hck)]at hv
   unfold chk at hv
   split at hv
   ·assumption
   ·cases hv
  have:=((LN x).1 ho).ls.2.2.2
  omega
 refine(EQ (M:=k.d.syms.length) (n:=x.ls.length) fa).mono ?_
 rintro o H1 n1 ⟨rfl,rfl,rfl⟩
 simp only[eE,eN,Nat.reduceEqDiff,↓reduceIte,Nat.reduceAdd,retK,ES]
 intro l'
 generalize hHb:hset (hset (hset Ha 4 _) _ _) _ (AObj.lp _)=Hb
 have kb:∀i,i<4->hget Hb i=hget Ha i:=λi hi=>by
  rw[<-hHb,AA _ _ _ _ (by omega),AA _ _ _ _ (by omega),AA _ _ _ _ (by omega)]
 have e5:hget Hb 5=some (.box [.int .i64 x.ls.length]):=by rw[<-hHb,AA _ _ _ _ (by decide)];exact AC ..
 have e4:hget Hb 4=some (.box [.int .i64 (AR k).length]):=by rw[<-hHb,AA _ _ _ _ (by decide),AA _ _ _ _ (by decide),hvl];exact AC ..
 have hJ:TeJ k x l' (λi=>i=4\/i=5) [] Hb 8:=by
  refine⟨?_,V9 _,λi h=>by omega,(kb 0 (by decide)).trans f0,(kb 1 (by decide)).trans f1,(kb 2 (by decide)).trans f2,(kb 3 (by decide)).trans f3,by rw[<-hHb];exact AC ..,λl h=>by cases h⟩
  rw[<-hHb]
  exact((fa.hset (m:=8) (by decide) (by decide)).hset (V9 _) (by decide)).hset (V9 _) (by decide)
 have hgen:=Tn (k:=k) (x:=x) (l':=l') (λletters hl=>Lk hk hx hv hl)
 have hM:(AR k).length<=1000:=by omega
 refine(Ka hgen hM hls hJ (λi h=>by omega) (.inr rfl) (.inl rfl) e5 e4).mono ?_
 rintro o H' m' ⟨rfl,⟨F',-,hF',hj⟩|⟨s2',s3',sL,hw⟩⟩
 ·obtain⟨fr,lm,nF,h0,h1,h2,h3,hL,ok⟩:=hj
  have hsp:KK (AR k) x=true:=by
   unfold KK
   rw[Vj]
   intro l hl
   rw[ok l hl];rfl
  rw[hsp]
  simp only[eE,eN,reduceCtorEq,Nat.reduceEqDiff,↓reduceIte,CN,ER,hL,h2,h3]
  exact Wk.refl _
 ·simp only[eE,eN,reduceCtorEq,Nat.reduceEqDiff,↓reduceIte,CN,ER,sL,s2',s3',hw]
  exact Wk.refl _
end Go.AM
