/-
  The program's reader of a proof: premises and complaints · The program's reader of a tree · The program's Check of proof.
  Conditions: none beyond those of its parts.
-/
import Derived.Test.YtncahiacfdihpaaGreatDoorB13
import Derived.Test.YtncahiacfdihpaaGreatDoorB9

set_option maxRecDepth 20000
set_option linter.all false
namespace Go.AM
open Go.Proofs Go.Lib
abbrev BJ(k:Knd)(x:Lma)(letters:List Int)(w:AVal):List AVal:=AL k++(Ah x++[eIs letters,w])
def GM(x:Lma)(letters:List Int)(c:Int):AVal:=match HD x c with
 |none=>.tup [.sl .nil [],.bool false]
 |some p=>.tup [eIs (p.ls.map (at0 letters)),.bool true]
theorem KW(x:Lma)(letters:List Int)(c:Int)(n:Nat):(GM x letters c).under n:=by
 unfold GM
 split
 ·exact⟨⟨trivial,trivial⟩,trivial,trivial⟩
 ·exact⟨AZ n _,trivial,trivial⟩
structure VPm where
 i:Nat
 H:AB
 n:Nat
structure VPl where
 j:Nat
 tk:Tok
 H:AB
 n:Nat
structure IPm(H0:AB)(n0:Nat)(x:Lma)(c:Int)(v:VPm):Prop where
 hi:v.i<=x.ps.length
 fr:AN v.H v.n
 hn:n0<=v.n
 kp:BV H0 v.H
 he:HD x c=(x.ps.drop v.i).find? λp=>decide (p.c=c)
structure IPl(H0:AB)(n0:Nat)(p:Prm)(letters:List Int)(v:VPl):Prop where
 hj:v.j<=p.ls.length
 fr:AN v.H v.n
 hn:n0<=v.n
 kp:BV H0 v.H
 tok:tkG 1 n0 v.H v.tk
 es:v.tk.esz=1\/(p.ls.take v.j).map (at0 letters)=[]
theorem My{H0 H:AB}{n0 e:Nat}{tk:Tok}(hf:AN H0 n0)(h:tkG e n0 H tk)(hk:BV H0 H):BV H0 (AV H tk):=λid ob h0=>by
 rw[Af h (.inl (hf.lt h0))];exact hk id ob h0
theorem t_prem{H:AB}{n rp:Nat}{k:Knd}{x:Lma}{letters:List Int}{w:AVal}(c:Int)(hf:AN H n)(hq:hget H rp=some (.box (BJ k x letters w)))(hps:few x.ps)(hpl:∀p∈x.ps,few p.ls/\∀c∈p.ls,0<=c/\c<(letters.length:Int)):
  AK Tryz.prog 81 [.ptr rp 0,.int .i64 c] H n (QRet H (GM x letters c)):=by
 have hpsl:x.ps.length<1000000000:=hps
 have hq0:=hq
 simp only[BJ,AL,AG,AO,Ah,Vv,Vy]at hq
 refine a81 (AE AH.tnil (AF ?_))
 simp only[eE,eN,reduceCtorEq,Nat.reduceEqDiff,↓reduceIte,Nat.reduceAdd,Nat.reduceLeDiff,V0,c81,hq]
 refine AU (λv:VPm=>⟨[(0,true,.ptr rp 0),(1,true,.int .i64 c),(4,true,.sl .nil []),(14,true,.sl (.none 2) (x.ps.map encM)),(15,true,.int .i64 x.ps.length),(16,true,.int .i64 v.i)],v.H,v.n⟩) (IPm H n x c) (λv=>x.ps.length-v.i)
  ⟨0,H,n⟩ rfl ⟨Vi _,hf,Va _,BV.refl _,rfl⟩ ?_
 rintro⟨i,H1,n1⟩ ⟨hi,hf1,hn1,hk1,he⟩
 simp only at hi hf1 hn1 hk1 he
 by_cases hlt:i<x.ps.length
 case neg=>
  obtain rfl:i=x.ps.length:=by omega
  rw[WG]at he
  simp only[eE,eC,eN,reduceCtorEq,Nat.reduceEqDiff,↓reduceIte,lt_F hlt]
  unfold GM
  rw[he]
  exact⟨Wk.refl _,hk1⟩
 have hg:=V5 hlt
 have e:=AJ (k:=i) (by omega)
 obtain⟨hpf,hpi⟩:=hpl _ (Vm hlt)
 rw[VS hlt]at he
 generalize x.ps[i]=p at hg hpf hpi he
 have hk2:∀{ob:AObj} {j:Nat},n1<=j->BV H (hset H1 j ob):=λhj=>hk1.new hf (by omega)
 by_cases hc:p.c=c
 case neg=>
  rw[List.find?_cons_of_neg (by simpa using hc)]at he
  simp only[eE,eC,eN,reduceCtorEq,Nat.reduceEqDiff,↓reduceIte,Nat.reduceAdd,Nat.reduceLeDiff,Int.reduceEq,V1,V2,V4,V0,V6,lt_T hlt,hg,fr1 hf1,AI,Ve hc,e]
  exact .mk ⟨i+1,hset H1 (n1+2) (.box [.int .i64 p.c,eIs p.ls]),n1+4⟩ rfl ⟨hlt,hf1.hset (m:=n1+4) (by omega) (by omega),by simp only[];omega,hk2 (by omega),he⟩ (by simp only[];omega)
 rw[List.find?_cons_of_pos (by simpa using hc)]at he
 have hpl':p.ls.length<1000000000:=hpf
 simp only[eE,eC,eN,reduceCtorEq,Nat.reduceEqDiff,↓reduceIte,Nat.reduceAdd,Nat.reduceLeDiff,V1,V2,V4,V0,V6,lt_T hlt,hg,fr1 hf1,AI,V3 hc]
 refine AU (λv:VPl=>⟨[(0,true,.ptr rp 0),(4,true,.sl v.tk (((p.ls.take v.j).map (at0 letters)).map eI)),(25,true,eIs p.ls),(26,true,.int .i64 p.ls.length),(27,true,.int .i64 v.j)],v.H,v.n⟩) (IPl H n p letters) (λv=>p.ls.length-v.j)
  ⟨0,.nil,hset H1 (n1+2) (.box [.int .i64 p.c,eIs p.ls]),n1+4⟩ rfl ⟨Vi _,hf1.hset (m:=n1+4) (by omega) (by omega),by simp only[];omega,hk2 (by omega),.inl rfl,.inr rfl⟩ ?_
 rintro⟨j,tk,H2,n2⟩ ⟨hj,hf2,hn2,hk2',htk,hes⟩
 simp only at hj hf2 hn2 hk2' htk hes
 by_cases hlj:j<p.ls.length
 case neg=>
  obtain rfl:j=p.ls.length:=by omega
  rw[VT]at hes
  simp only[eE,eC,eN,reduceCtorEq,Nat.reduceEqDiff,↓reduceIte,lt_F hlj]
  rw[VT]
  unfold GM
  rw[he]
  exact⟨Wk.tup (.cons (Wk.sl (hes.imp id λq=>by rw[q];rfl)) (.cons (Wk.refl _) .nil)),hk2'⟩
 have hg:=V5 hlj
 have e:=AJ (k:=j) (by omega)
 have hci:=hpi _ (Vm hlj)
 have htake:p.ls.take (j+1)=p.ls.take j++[p.ls[j]]:=by rw[W2,hg];rfl
 generalize p.ls[j]=y at hg hci htake
 have hgx:=Bd hci.1 hci.2
 have hX:((p.ls.take j).map (at0 letters)).length<=j:=by simp;omega
 have q1:Bg H2 1 tk=True:=V3 htk.app
 have q2:(((p.ls.take j).map (at0 letters)).length<=35184372088831)=True:=V3 (by omega)
 have q3:Al (((p.ls.take j).map (at0 letters)).length+1) 8=True:=V3 (AX (by omega) (by decide))
 have hrp:=hk2' _ _ hq
 generalize hXd:(p.ls.take j).map (at0 letters)=X at hX q2 q3 hes
 simp only[eE,eC,eN,reduceCtorEq,Nat.reduceEqDiff,↓reduceIte,Nat.reduceAdd,Nat.reduceLeDiff,Nat.reduceMul,Nat.reduceLT,Int.reduceEq,V1,V2,V4,V0,V6,lt_T hlj,hg,hrp,V3 hci.1,V3 hci.2,hgx,q1,q2,q3,fr1 hf2,e]
 refine .mk ⟨j+1,.own (n2+9) 1,hset (AV H2 tk) (n2+9) .tok,n2+11⟩ ?_ ⟨hlj,(Ag htk hf2).hset (m:=n2+11) (by omega) (by omega),by simp only[];omega,BV.new hf (by omega) (My hf htk hk2'),.inr (.inr ⟨n2+9,rfl,by omega,AC ..⟩),.inl rfl⟩ (by simp only[];omega)
 simp only[htake,Vl,Vs,VP,hXd]
theorem q_prem{H:AB}{n rp:Nat}{k:Knd}{x:Lma}{letters:List Int}{w:AVal}(c:Int)(hq:hget H rp=some (.box (BJ k x letters w)))(hps:few x.ps)(hpl:∀p∈x.ps,few p.ls/\∀c∈p.ls,0<=c/\c<(letters.length:Int)):
  Ab Tryz.prog 81 [.ptr rp 0,.int .i64 c] H n (GM x letters c):=
 Ab.of l81 (KW x letters c n) λhf=>t_prem c hf hq hps hpl
structure RdC(k:Knd)(x:Lma)(letters:List Int):Prop where
 ck:BU k=0
 fd:FewD k.d
 fx:FewL x
 ox:OKL x
 ll:letters.length=x.ls.length
structure ClC(k:Knd)(x:Lma)(cells:List Int):Prop where
 len:cells.length=x.cs.length
 sy:∀s∈cells,0<=s->okSy k s
def RdAt(H:AB)(rp:Nat)(k:Knd)(x:Lma)(letters:List Int):Prop:=∃w,hget H rp=some (.box (BJ k x letters w))
theorem Mz{k:Knd}(h:BU k=0):∀y∈k.d.syms,0<=y.v/\y.v<=99:=by
 have h1:HQ k=true:=by
  unfold BU at h
  split at h
  ·assumption
  ·cases h
 obtain⟨x,cells,-,h3,-,h4⟩:=II (LY h1)
 have h5:k.d=x:=by rw[h4];rfl
 rw[<-h5]at h3
 have h6:=(SD.1 h3).1.form
 unfold CJ at h6
 simp only[V7,Vj,Vd]at h6
 intro y hy
 exact h6.1.1.1 y hy
theorem Q8{k:Knd}{x:Lma}{letters:List Int}(h:RdC k x letters):∀p∈x.ps,few p.ls/\∀c∈p.ls,0<=c/\c<(letters.length:Int):=by
 intro p hp
 refine⟨h.fx.p p hp,λc hc=>?_⟩
 have:=Vj.1 (Ek (h.ox.ps p hp).1) c hc
 simp only[V7,Vd]at this
 rw[h.ll];exact this
theorem Og{x:Lma}(h:OKL x){p:Prm}(hp:p∈x.ps):0<=p.c/\p.c<(x.cs.length:Int):=by
 have:=Vj.1 (Ek h.pc) p.c (VZ.2 ⟨p,hp,rfl⟩)
 simpa only[V7,Vd]using this
theorem IR{ps:List Prm}(h:At (ps.map (·.c))=true){p:Prm}(hp:p∈ps):ps.find? (λq=>decide (q.c=p.c))=some p:=by
 induction ps with
 |nil=>cases hp
 |cons q ps ih=>
  rw[Vs,At,V7]at h
  rcases VN.1 hp with rfl|hp
  ·rw[List.find?_cons_of_pos (by simp)]
  ·grind
theorem Oh{x:Lma}(h:OKL x){p:Prm}(hp:p∈x.ps):HD x p.c=some p:=by
 have:=h.pc
 unfold difI at this
 rw[V7]at this
 exact IR this.2 hp
theorem EP{α:Type}[DecidableEq α]:∀{l:List α},At l=true->l.Nodup
 |[],_=>XI
 |x::r,h=>by
  rw[At,V7]at h
  refine WY.2 ⟨λhx=>?_,EP h.2⟩
  have h1:=h.1
  simp only[Wv,List.any_eq_false,Vd]at h1
  exact h1 x hx rfl
theorem Tk{l:List Int}{n:Nat}(h:difI l n=true):l.length<=n:=by
 have h1:=Ek h
 unfold difI at h
 rw[V7]at h
 have:=GH (b:=symI n) (EP h.2) λc hc=>by
  have:=Vj.1 h1 c hc
  simp only[V7,Vd]at this
  exact EG.2 this
 unfold symI at this
 simpa using this
theorem cl_ok{k:Knd}{x:Lma}{letters cells:List Int}(h:RdC k x letters)(hc:ClC k x cells){q:Cnd}(hq:q∈x.qs):ClOK k q letters cells:=by
 have h1:=S7 (h.ox.qs q hq)
 have hf:=h.fx.q q hq
 have hcs:=h.ox.cs.2.2.2
 refine⟨by rcases h1.kind with h|h|h|h|h<;>omega,?_,hf.1,λc hcc=>?_,hf.2,λc hcc=>?_,hc.sy,Mz h.ck⟩
 ·have:=Tk h1.cs
  rcases h1.kind with h|h|h|h|h<;>omega
 ·have:=Vj.1 (Ek h1.cs) c hcc
  simp only[V7,Vd]at this
  rw[hc.len];exact this
 ·have:=Vj.1 (Ek h1.ls) c hcc
  simp only[V7,Vd]at this
  rw[h.ll];exact this
theorem Q9{vals:List Int}{x:Lma}{letters cells:List Int}{i:Int}(h:i<0):Bq vals x letters cells i=false:=by unfold Bq;rw[Vk h]
theorem RA{vals:List Int}{x:Lma}{letters cells:List Int}{a:Nat}(h:x.qs.length+x.ps.length<=a):Bq vals x letters cells (a:Int)=false:=by simp_all [Bq,F7,V2]
theorem comp_q{vals:List Int}{x:Lma}{letters cells:List Int}{a:Nat}{q:Cnd}(h:x.qs[a]?=some q):Bq vals x letters cells (a:Int)=ID vals q letters cells:=by
 unfold Bq F7
 have:=(W4.1 h).1
 rw[Vc (by omega),V2,W5 (by simpa using this),V6,h];rfl
theorem comp_p{vals:List Int}{x:Lma}{letters cells:List Int}{b:Nat}{p:Prm}(h:x.ps[b]?=some p):Bq vals x letters cells ((x.qs.length+b:Nat):Int)=IE p letters cells:=by
 unfold Bq F7
 rw[Vc (by omega),V2,W7 (by simp),V0,Nat.add_sub_cancel_left,V6,h];rfl
def HU(k:Knd):List AVal->AB->Prop×AVal:=λa H=>match a with
 |[K,Q,.sl t L,av]=>(dKn.ok K/\dKn.dec K=k/\dQ.ok Q/\dIs.ok (.sl t L)/\RdI H av (rdL H av)/\ClOK k (dQ.dec Q) (L.map toI) (rdL H av),.bool (ID (AR k) (dQ.dec Q) (L.map toI) (rdL H av)))
 |_=>(False,.tup [])
theorem Tl(k:Knd):∀args H n,(HU k args H).1->Ab Tryz.prog 41 args H n (HU k args H).2:=by
 intro args H m hh
 unfold HU at hh⊢
 split at hh
 ·obtain⟨h1,h2,h3,h4,h5,h6⟩:=hh
  have w1:=dKn.wk _ h1
  rw[h2]at w1
  exact(p41 k _ _ _ h6).view trivial (.cons (.wk w1) (.cons (.wk (dQ.wk _ h3)) (.cons (.wk (dIs.wk _ h4)) (.cons (Od h5) .nil)))) m
 ·exact hh.elim
def GN(k:Knd)(x:Lma)(letters:List Int):List AVal->AB->Prop×AVal:=λa H=>match a with
 |[.ptr rp 0,.int .i64 c]=>(RdAt H rp k x letters,GM x letters c)
 |_=>(False,.tup [])
theorem rowPmq{k:Knd}{x:Lma}{letters:List Int}(h:RdC k x letters):∀args H n,(GN k x letters args H).1->Ab Tryz.prog 81 args H n (GN k x letters args H).2:=by
 intro args H m hh
 unfold GN at hh⊢
 split at hh
 ·obtain⟨w,hw⟩:=hh
  exact q_prem _ hw h.fx.ps (Q8 h)
 ·exact hh.elim
def Tcp(k:Knd)(x:Lma)(letters:List Int):Tab:=tadd 41 (HU k) (tadd 81 (GN k x letters) (tadd 36 CA tnil))
theorem Sn{k:Knd}{x:Lma}{letters:List Int}(h:RdC k x letters):AH Tryz.prog (Tcp k x letters):=((AH.tnil.add Oe).add (rowPmq h)).add (Tl k)
theorem Tcp_c(k:Knd)(x:Lma)(letters:List Int)(a:List AVal)(H:AB):Tcp k x letters 41 a H=HU k a H:=rfl
theorem RB(k:Knd)(x:Lma)(letters:List Int)(a:List AVal)(H:AB):Tcp k x letters 81 a H=GN k x letters a H:=rfl
theorem RD(k:Knd)(x:Lma)(letters:List Int)(a:List AVal)(H:AB):Tcp k x letters 36 a H=CA a H:=rfl
theorem t_comp{H:AB}{n rp:Nat}{k:Knd}{x:Lma}{letters cells:List Int}{av:AVal}(at':Int)(h:RdC k x letters)(hc:ClC k x cells)(hr:RdAt H rp k x letters)(hv:RdI H av cells):
  AK Tryz.prog 50 [.ptr rp 0,.int .i64 at',av] H n (QRet H (.bool (Bq (AR k) x letters cells at'))):=by
 have hr0:=hr
 obtain⟨w,hq⟩:=hr
 simp only[BJ,AL,AG,AO,Ah,Vv,Vy]at hq
 have hnq:x.qs.length<1000000000:=h.fx.qs
 have hnp:x.ps.length<1000000000:=h.fx.ps
 have hw1:IntKind.wrap .i64 ((x.qs.length:Int)+(x.ps.length:Int))=((x.qs.length+x.ps.length:Nat):Int):=by rw[Aw (by omega) (by omega)];omega
 have u1:dKn.ok (.agg (AL k))=True:=Ep k
 have u2:dKn.dec (.agg (AL k))=k:=DE k
 simp only[AL,AG,AO,Vv,Vy]at u1 u2
 have hls:dIs.ok (eIs letters):=(BD letters).mpr trivial
 refine a50 (AE (Sn h) (AF ?_))
 by_cases h0:at'<0
 ·rw[Q9 h0]
  simp only[eE,eC,eN,reduceCtorEq,Nat.reduceEqDiff,↓reduceIte,Nat.reduceAdd,Nat.reduceLeDiff,V8,V0,c50,hq,V3 h0]
  exact BV.refl _
 obtain⟨a,rfl⟩:=Xf (Int.not_lt.1 h0)
 by_cases h1:x.qs.length+x.ps.length<=a
 ·rw[RA h1]
  have h1':((x.qs.length+x.ps.length:Nat):Int)<=(a:Int):=by omega
  simp only[eE,eC,eN,reduceCtorEq,Nat.reduceEqDiff,↓reduceIte,Nat.reduceAdd,Nat.reduceLeDiff,V0,c50,hq,Ve h0,hw1,V3 h1']
  exact BV.refl _
 have h1':¬((x.qs.length+x.ps.length:Nat):Int)<=(a:Int):=by omega
 by_cases h2:a<x.qs.length
 ·have hg:=V5 h2
  have hcl:=cl_ok h hc (Vm h2)
  generalize x.qs[a]=q at hg hcl
  have hql:dQ.ok (.agg [.int .i64 q.k,eIs q.cs,eIs q.ls,.int .i64 q.n])=True:=SV q
  have hqd:dQ.dec (.agg [.int .i64 q.k,eIs q.cs,eIs q.ls,.int .i64 q.n])=q:=Mj q
  rw[comp_q hg]
  simp only[eE,eC,eN,reduceCtorEq,Nat.reduceEqDiff,↓reduceIte,Nat.reduceAdd,Nat.reduceLeDiff,V1,V2,V4,V0,V6,c50,hq,Ve h0,hw1,Ve h1',lt_T h2,hg,Tcp_c,HU,u1,u2,Ak,hql,hqd,KS hv,V3 hv,V3 hcl,V3 hls]
  exact BV.refl _
 obtain⟨b,rfl⟩:∃b,a=x.qs.length+b:=⟨a-x.qs.length,by omega⟩
 have hb:b<x.ps.length:=by omega
 have hg:=V5 hb
 have hmem:=Vm hb
 generalize x.ps[b]=p at hg hmem
 rw[comp_p hg]
 have hw2:IntKind.wrap .i64 (((x.qs.length+b:Nat):Int)-(x.qs.length:Int))=(b:Int):=by rw[Aw (by omega) (by omega)];omega
 have hpv:GM x letters p.c= .tup [eIs (p.ls.map (at0 letters)),.bool true]:=by unfold GM;rw[Oh h.ox hmem]
 have hpc:=Og h.ox hmem
 rw[<-hc.len]at hpc
 have hgc:=Bd hpc.1 hpc.2
 have hfl:few (p.ls.map (at0 letters)):=by show(p.ls.map _).length<_;rw[V0];exact h.fx.p p hmem
 have hrd:RdI H (eIs (p.ls.map (at0 letters))) (p.ls.map (at0 letters)):=.inl ⟨_,rfl,.inl rfl⟩
 have hd:IE p letters cells=(decide (0<=at0 cells p.c)&& !(p.ls.map (at0 letters)).contains (at0 cells p.c)):=rfl
 rw[hd]
 generalize p.ls.map (at0 letters)=L at hpv hfl hrd
 generalize at0 cells p.c=s at hgc
 have hin:p.c.toNat<cells.length:=by omega
 have r1:=KS hrd
 rcases hv with⟨t,rfl,ht⟩|⟨id,cap,rest,rfl,ha,hcap⟩
 ·have ht':(t.esz=1)=True:=V3 (ht.resolve_right λe=>by rw[e]at hin;simp at hin)
  by_cases hs:0<=s
  ·simp only[eE,eC,eN,reduceCtorEq,Nat.reduceEqDiff,↓reduceIte,Nat.reduceAdd,Nat.reduceLeDiff,Nat.reduceLT,V1,V2,V4,V0,V6,V9,Vb,c50,hq,Ve h0,hw1,Ve h1',lt_F h2,lt_T hb,hg,hw2,RB,RD,GN,CA,V3 hr0,hpv,V3 hpc.1,V3 hpc.2,hgc,ht',V3 hs,r1,V3 hrd,V3 hfl]
   exact BV.refl _
  ·simp only[eE,eC,eN,reduceCtorEq,Nat.reduceEqDiff,↓reduceIte,Nat.reduceAdd,Nat.reduceLeDiff,Nat.reduceLT,V1,V2,V4,V0,V6,V9,Vb,c50,hq,Ve h0,hw1,Ve h1',lt_F h2,lt_T hb,hg,hw2,RB,RD,GN,CA,V3 hr0,hpv,V3 hpc.1,V3 hpc.2,hgc,ht',Ve hs,r1,V3 hrd,V3 hfl]
   exact BV.refl _
 ·have hga:(cells++rest)[p.c.toNat]?=some s:=by rw[W5 hin];exact hgc
  have hla:(p.c.toNat<(cells++rest).length)=True:=V3 (by simp;omega)
  by_cases hs:0<=s
  ·simp only[eE,eC,eN,reduceCtorEq,Nat.reduceEqDiff,↓reduceIte,Nat.reduceAdd,Nat.reduceLeDiff,Nat.reduceLT,V1,V2,V4,V0,V6,V9,Vb,c50,hq,Ve h0,hw1,Ve h1',lt_F h2,lt_T hb,hg,hw2,RB,RD,GN,CA,V3 hr0,hpv,V3 hpc.1,V3 hpc.2,ha,hga,hla,V3 hs,r1,V3 hrd,V3 hfl]
   exact BV.refl _
  ·simp only[eE,eC,eN,reduceCtorEq,Nat.reduceEqDiff,↓reduceIte,Nat.reduceAdd,Nat.reduceLeDiff,Nat.reduceLT,V1,V2,V4,V0,V6,V9,Vb,c50,hq,Ve h0,hw1,Ve h1',lt_F h2,lt_T hb,hg,hw2,RB,RD,GN,CA,V3 hr0,hpv,V3 hpc.1,V3 hpc.2,ha,hga,hla,Ve hs,r1,V3 hrd,V3 hfl]
   exact BV.refl _
theorem q_comp{H:AB}{n rp:Nat}{k:Knd}{x:Lma}{letters cells:List Int}{av:AVal}(at':Int)(h:RdC k x letters)(hc:ClC k x cells)(hr:RdAt H rp k x letters)(hv:RdI H av cells):
  Ab Tryz.prog 50 [.ptr rp 0,.int .i64 at',av] H n (.bool (Bq (AR k) x letters cells at')):=
 Ab.of l50 trivial λ_=>t_comp at' h hc hr hv
end Go.AM
namespace Go.AM
open Go.Proofs Go.Lib
abbrev encC(c:Cas):AVal:=.agg [.int .i64 c.k,.int .i64 c.a]
abbrev eCs(l:List Cas):AVal:=.sl (.none 2) (l.map encC)
def Bx(rp n:Nat)(H H':AB):Prop:=∀i,i<n->i≠rp->hget H' i=hget H i
theorem Bx.refl{rp n:Nat}(H:AB):Bx rp n H H:=λ_ _ _=>rfl
theorem Bx.trans{rp n n':Nat}{H H' H'':AB}(h:Bx rp n H H')(k:Bx rp n' H' H'')(hn:n<=n'):Bx rp n H H'':=λi hi hr=>(k i (by omega) hr).trans (h i hi hr)
theorem Bx.new{rp n j:Nat}{H H':AB}{ob:AObj}(h:Bx rp n H H')(hj:n<=j):Bx rp n H (hset H' j ob):=λi hi hr=>by
 rw[AA _ _ _ _ (by omega)];exact h i hi hr
theorem Bx.set{rp n:Nat}{H H':AB}{ob:AObj}(h:Bx rp n H H'):Bx rp n H (hset H' rp ob):=λi hi hr=>by
 rw[AA _ _ _ _ (Ne.symm hr)];exact h i hi hr
def Tm(rp:Nat)(k:Knd)(x:Lma)(letters:List Int)(H:AB)(n:Nat)(r:Option (List Cas)):AOut->AB->Nat->Prop:=λo H' n'=>
 AN H' n'/\n<=n'/\Bx rp n H H'/\match r with
  |some l=>o= .ret (.bool true)/\hget H' rp=some (.box (BJ k x letters (eCs l)))
  |none=>o= .ret (.bool false)
def JK(k:Knd)(x:Lma)(letters:List Int):List AVal->AB->Prop×AVal:=λa H=>match a with
 |[.ptr rp 0,.int .i64 c,av]=>(RdAt H rp k x letters/\RdI H av (rdL H av)/\ClC k x (rdL H av),.bool (Bq (AR k) x letters (rdL H av) c))
 |_=>(False,.tup [])
theorem rowCmq{k:Knd}{x:Lma}{letters:List Int}(h:RdC k x letters):∀args H n,(JK k x letters args H).1->Ab Tryz.prog 50 args H n (JK k x letters args H).2:=by
 intro args H m hh
 unfold JK at hh⊢
 split at hh
 ·exact q_comp _ h hh.2.2 hh.1 hh.2.1
 ·exact hh.elim
def Ttr(k:Knd)(x:Lma)(letters:List Int):Tab:=tadd 50 (JK k x letters) (Tcp k x letters)
theorem So{k:Knd}{x:Lma}{letters:List Int}(h:RdC k x letters):AH Tryz.prog (Ttr k x letters):=(Sn h).add (rowCmq h)
theorem Tn(k:Knd)(x:Lma)(letters:List Int)(a:List AVal)(H:AB):Ttr k x letters 50 a H=JK k x letters a H:=rfl
theorem Ttr_p(k:Knd)(x:Lma)(letters:List Int)(a:List AVal)(H:AB):Ttr k x letters 81 a H=GN k x letters a H:=rfl
theorem To(k:Knd)(x:Lma)(letters:List Int)(a:List AVal)(H:AB):Ttr k x letters 36 a H=CA a H:=rfl
def conB(x:Lma)(letters:List Int)(c s:Int):Bool:=match HD x c with
 |none=>true
 |some p=>(p.ls.map (at0 letters)).contains s
theorem Oi(m:Nat)(x:Lma)(letters:List Int)(c:Int):Mc m x letters c=(symI m).filter (conB x letters c):=by
 unfold Mc conB
 cases HD x c with
 |none=>exact(Xg.2 λ_ _=>rfl).symm
 |some p=>rfl
theorem Oj{F:Int->List Cas->Option (List Cas)}(hF:∀s l r,F s l=some r->r.length<=l.length):∀(ss:List Int) (l r:List Cas),seqT F ss l=some r->r.length<=l.length
 |[],l,r,h=>by rw[seqT]at h;cases h;exact Va _
 |s::ss,l,r,h=>by
  rw[seqT]at h
  obtain⟨l1,h1,h2⟩:=Option.bind_eq_some_iff.1 h
  exact W6 (Oj hF ss l1 r h2) (hF s l l1 h1)
theorem Le{vals:List Int}{x:Lma}{letters:List Int}:∀(f:Nat) (cells:List Int) (l r:List Cas),CI vals x letters f cells l=some r->r.length<=l.length
 |_,_,[],r,h=>by rw[CI]at h;cases h
 |0,cells,n::l,r,h=>by
  rw[CI]at h
  split at h
  ·split at h
   ·cases h;simp
   ·cases h
  ·split at h<;>cases h
 |f+1,cells,n::l,r,h=>by
  rw[CI]at h
  split at h
  ·split at h
   ·cases h;simp
   ·cases h
  ·split at h
   ·have:=Oj (λs l r=>Le f (cells.set n.a.toNat s) l r) _ _ _ h
    simp;omega
   ·cases h
theorem Ok{k:Knd}{x:Lma}{letters:List Int}(h:RdC k x letters)(c:Int):∃L ok t,GM x letters c= .tup [.sl t (L.map eI),.bool ok]/\(t.esz=1\/L=[])/\few L/\∀s,conB x letters c s=(!ok||L.contains s):=by
 unfold GM conB
 cases hp:HD x c with
 |none=>exact⟨[],false,.nil,rfl,.inr rfl,(by show(0:Nat)<_;decide),λs=>rfl⟩
 |some p=>
  refine⟨p.ls.map (at0 letters),true,.none 1,rfl,.inl rfl,?_,λs=>rfl⟩
  show(p.ls.map _).length<_
  rw[V0]
  exact h.fx.p p (List.mem_of_find?_eq_some hp)
theorem con_f{ok b:Bool}(h:false=(!ok||b)):ok=true/\b=false:=by cases ok<;>cases b<;>simp at h⊢
theorem con_t{ok b:Bool}(h:true=(!ok||b)):ok=false\/ok=true/\b=true:=by cases ok<;>cases b<;>simp at h⊢
theorem RE{m i:Nat}(h:i<m):(symI m).drop i=(i:Int)::(symI m).drop (i+1):=by
 unfold symI
 rw[<-List.map_drop,<-List.map_drop,VS (by simpa using h)]
 simp
structure VTr where
 i:Nat
 l:List Cas
 H:AB
 n:Nat
structure ITr(rp:Nat)(k:Knd)(x:Lma)(letters:List Int)(F:Int->List Cas->Option (List Cas))(p:Int->Bool)(R:Option (List Cas))(H0:AB)(n0:Nat)(v:VTr):Prop where
 hi:v.i<=k.d.syms.length
 fr:AN v.H v.n
 hn:n0<=v.n
 kp:Bx rp n0 H0 v.H
 hr:hget v.H rp=some (.box (BJ k x letters (eCs v.l)))
 he:R=seqT F (((symI k.d.syms.length).drop v.i).filter p) v.l
 hl:v.l.length<1000000000
theorem Ol{k:Knd}{x:Lma}{letters:List Int}(h:RdC k x letters)(rp:Nat)(f:Nat)(cells:List Int)
  (ih:∀(cells':List Int) (l:List Cas) (H:AB) (n id cap:Nat) (rest:List Int),AN H n->hget H rp=some (.box (BJ k x letters (eCs l)))->hget H id=some (.arr 1 ((cells'++rest).map eI))->cells'.length<=cap->ClC k x cells'->negs cells'+1=negs cells->l.length<1000000000->
   AK Tryz.prog 46 [.ptr rp 0,.ref id 1 0 cells'.length cap] H n (Tm rp k x letters H n (CI (AR k) x letters f cells' l)))
  (l:List Cas) (H:AB) (n id cap:Nat) (rest:List Int) (hf:AN H n) (hrp:hget H rp=some (.box (BJ k x letters (eCs l)))) (hidq:hget H id=some (.arr 1 ((cells++rest).map eI))) (hcap:cells.length<=cap) (hC:ClC k x cells) (hl:l.length<1000000000):
  AK Tryz.prog 46 [.ptr rp 0,.ref id 1 0 cells.length cap] H n (Tm rp k x letters H n (CI (AR k) x letters (f+1) cells l)):=by
 have hq:=hrp
 simp only[BJ,AL,AG,AO,Ah,Vv,Vy]at hq
 refine a46 (AE (So h) (AF ?_))
 cases l with
 |nil=>
  simp only[eE,eC,eN,reduceCtorEq,Nat.reduceEqDiff,↓reduceIte,Nat.reduceAdd,c0,c46,hq]
  exact⟨hf,Va _,Bx.refl _,by rw[CI]⟩
 |cons c l=>
 have g1:(((l.length+1:Nat):Int)=0)=False:=cS0
 have g2:(n+6=rp)=False:=Ve (by have:=hf.lt hrp;omega)
 have g3:(rp=n+6)=False:=Ve (by have:=hf.lt hrp;omega)
 have g4:((1:Int)<=((l.length+1:Nat):Int))=True:=V3 (by omega)
 have hck:CI (AR k) x letters (f+1) cells (c::l)=if c.k=Ma then(if Bq (AR k) x letters cells c.a then some l else none)
  else if c.k=Mb/\0<=c.a/\c.a<cells.length/\at0 cells c.a<0 then seqT (λs l=>CI (AR k) x letters f (cells.set c.a.toNat s) l) (Mc (AR k).length x letters c.a) l else none:=by rw[CI]
 rw[hck]
 clear hck
 have g5:((0:Int)<((l.length+1:Nat):Int))=True:=V3 (by omega)
 have htl:List.take l.length (l.map encC)=l.map encC:=Wa (by simp)
 have hrpn:=hf.lt hrp
 have hidn:=hf.lt hidq
 have hne:rp≠id:=λe=>by rw[e,hidq]at hrp;cases hrp
 obtain⟨H2,hH2⟩:∃H2,hset (hset H (n+6) (.box [.int .i64 c.k,.int .i64 c.a])) rp (.box (BJ k x letters (eCs l)))=H2:=⟨_,rfl⟩
 have hf2:AN H2 (n+8):=by rw[<-hH2];exact(hf.hset (m:=n+8) (by omega) (by omega)).hset (Va _) (by omega)
 have hrp2:hget H2 rp=some (.box (BJ k x letters (eCs l))):=by rw[<-hH2,AC]
 have hid2:hget H2 id=some (.arr 1 ((cells++rest).map eI)):=by rw[<-hH2,AA _ _ _ _ hne,AA _ _ _ _ (by omega)];exact hidq
 have hnb2:hget H2 (n+6)=some (.box [.int .i64 c.k,.int .i64 c.a]):=by rw[<-hH2,AA _ _ _ _ (by omega),AC]
 have hkb2:Bx rp n H H2:=by rw[<-hH2];exact((Bx.refl H).new (by omega)).set
 have hRd2:RdAt H2 rp k x letters:=⟨_,hrp2⟩
 have hRI2:RdI H2 (.ref id 1 0 cells.length cap) cells:=.inr ⟨id,cap,rest,rfl,hid2,hcap⟩
 have hrd:=KS hRI2
 simp only[BJ,AL,AG,AO,Ah,Vv,Vy]at hH2
 by_cases hk2:c.k=2
 ·have hz:c.k=Ma:=hk2
  rw[Vk hz]
  simp only[eE,eC,eN,reduceCtorEq,Nat.reduceEqDiff,↓reduceIte,Nat.reduceAdd,Nat.reduceLeDiff,Int.reduceLE,V1,Wi,Wy,W9,V2,V0,V9,c46,hq,g1,g2,g4,g5,htl,fr1 hf,AI,hH2,hnb2,V3 hk2,Tn,JK,hrd,V3 hRI2,V3 hRd2,V3 hC]
  refine⟨hf2,by omega,hkb2,?_⟩
  cases hcm:Bq (AR k) x letters cells c.a with
  |true=>exact⟨rfl,hrp2⟩
  |false=>rfl
 have hk2':¬c.k=Ma:=hk2
 rw[Vc hk2']
 by_cases hk1:c.k=1
 case neg=>
  have hk1':¬(c.k=Mb/\0<=c.a/\c.a<cells.length/\at0 cells c.a<0):=λq=>hk1 q.1
  rw[Vc hk1']
  simp only[eE,eC,eN,reduceCtorEq,Nat.reduceEqDiff,↓reduceIte,Nat.reduceAdd,Nat.reduceLeDiff,Int.reduceLE,V1,Wi,Wy,W9,V2,V0,V9,c46,hq,g1,g2,g4,g5,htl,fr1 hf,AI,hH2,hnb2,Ve hk2,Ve hk1]
  exact⟨hf2,by omega,hkb2,rfl⟩
 by_cases ha0:c.a<0
 ·rw[Vc (by omega)]
  simp only[eE,eC,eN,reduceCtorEq,Nat.reduceEqDiff,↓reduceIte,Nat.reduceAdd,Nat.reduceLeDiff,Int.reduceLE,V8,V1,Wi,Wy,W9,V2,V0,V9,c46,hq,g1,g2,g4,g5,htl,fr1 hf,AI,hH2,hnb2,Ve hk2,V3 hk1,V3 ha0]
  exact⟨hf2,by omega,hkb2,rfl⟩
 by_cases hal:(cells.length:Int)<=c.a
 ·rw[Vc (by omega)]
  simp only[eE,eC,eN,reduceCtorEq,Nat.reduceEqDiff,↓reduceIte,Nat.reduceAdd,Nat.reduceLeDiff,Int.reduceLE,V8,V1,Wi,Wy,W9,V2,V0,V9,c46,hq,g1,g2,g4,g5,htl,fr1 hf,AI,hH2,hnb2,Ve hk2,V3 hk1,Ve ha0,V3 hal]
  exact⟨hf2,by omega,hkb2,rfl⟩
 obtain⟨a,ha⟩:=Xf (Int.not_lt.1 ha0)
 have hal':a<cells.length:=by omega
 have hgc:cells[a]?=some (at0 cells c.a):=by have:=Bd (l:=cells) (i:=c.a) (by omega) (by omega);rwa[show c.a.toNat=a by omega]at this
 have hga:(cells++rest)[a]?=some (at0 cells c.a):=by rw[W5 hal'];exact hgc
 have hla:(a<(cells++rest).length)=True:=V3 (by simp;omega)
 have hta:c.a.toNat=a:=by omega
 rw[hta]
 generalize hs:at0 cells c.a=s at hgc hga
 have b0:(0<=c.a)=True:=V3 (by omega)
 have b1:(c.a<(cells.length:Int))=True:=V3 (by omega)
 by_cases hs0:0<=s
 ·rw[Vc (by omega)]
  simp only[eE,eC,eN,reduceCtorEq,Nat.reduceEqDiff,↓reduceIte,Nat.reduceAdd,Nat.reduceLeDiff,Int.reduceLE,V1,Wi,Wy,W9,V2,V0,V6,V9,c46,hq,g1,g2,g4,g5,htl,fr1 hf,AI,hH2,hnb2,Ve hk2,V3 hk1,Ve ha0,Ve hal,hid2,hta,hga,hla,b0,b1,V3 hs0]
  exact⟨hf2,by omega,hkb2,rfl⟩
 rw[Vk ⟨hk1,by omega,by omega,by omega⟩]
 obtain⟨L,ok,t,hpv,hLt,hLf,hcon⟩:=Ok h c.a
 have hq2:=hrp2
 simp only[BJ,AL,AG,AO,Ah,Vv,Vy]at hq2
 have hvl:(AR k).length=k.d.syms.length:=by unfold AR;rw[V0]
 have hsy:=C0 h.ck
 rw[Oi,hvl]
 simp only[eE,eC,eN,reduceCtorEq,Nat.reduceEqDiff,↓reduceIte,Nat.reduceAdd,Nat.reduceLeDiff,Nat.reduceLT,Int.reduceLE,V1,Wi,Wy,W9,V2,V0,V6,V9,Vb,c46,hq,g1,g2,g4,g5,htl,fr1 hf,AI,hH2,hnb2,hq2,Ve hk2,V3 hk1,Ve ha0,Ve hal,hid2,hta,hga,hla,b0,b1,Ve hs0,Ttr_p,GN,V3 hRd2,hpv]
 refine AU (λv:VTr=>⟨[(0,true,.ptr rp 0),(1,true,.ref id 1 0 cells.length cap),(5,true,.ptr (n+6) 0),(6,true,.sl t (L.map eI)),(7,true,.bool ok),(72,true,.int .i64 k.d.syms.length),(73,true,.int .i64 v.i)],v.H,v.n⟩)
  (ITr rp k x letters (λs l=>CI (AR k) x letters f (cells.set a s) l) (conB x letters c.a) (seqT (λs l=>CI (AR k) x letters f (cells.set a s) l) ((symI k.d.syms.length).filter (conB x letters c.a)) l) H2 (n+8)) (λv=>k.d.syms.length-v.i)
  ⟨0,l,H2,n+8⟩ rfl ⟨Vi _,hf2,Va _,Bx.refl _,hrp2,rfl,by simp only[Vp]at hl;simp only[];omega⟩ ?_
 rintro⟨i,l1,H1,n1⟩ ⟨hi,hf1,hn1,hk,hr1,he,hl1⟩
 simp only at hi hf1 hn1 hk hr1 he hl1
 rw[he]
 by_cases hlt:i<k.d.syms.length
 case neg=>
  obtain rfl:i=k.d.syms.length:=by omega
  rw[X5 (by unfold symI;simp)]
  simp only[eE,eC,eN,reduceCtorEq,Nat.reduceEqDiff,↓reduceIte,lt_F hlt]
  exact⟨hf1,by omega,hkb2.trans hk (by omega),rfl,hr1⟩
 have e:=AJ (k:=i) (by omega)
 have hd:=RE hlt
 have hci:=hcon (i:Int)
 have hid1:hget H1 id=some (.arr 1 ((cells++rest).map eI)):=(hk id (by omega) (Ne.symm hne)).trans hid2
 have hnb1:hget H1 (n+6)=some (.box [.int .i64 c.k,.int .i64 c.a]):=(hk (n+6) (by omega) (by omega)).trans hnb2
 have hRI1:RdI H1 (.ref id 1 0 cells.length cap) cells:=.inr ⟨id,cap,rest,rfl,hid1,hcap⟩
 have hRL:RdI H1 (.sl t (L.map eI)) L:=.inl ⟨t,rfl,hLt⟩
 have r1:=KS hRL
 by_cases hcb:conB x letters c.a (i:Int)=true
 case neg=>
  have hcb':conB x letters c.a (i:Int)=false:=by simpa using hcb
  rw[hd,List.filter_cons_of_neg hcb]
  rw[hcb']at hci
  have h2:=con_f hci
  obtain⟨rfl,h2⟩:=h2
  simp only[eE,eC,eN,reduceCtorEq,Nat.reduceEqDiff,↓reduceIte,Int.reduceEq,Vf,lt_T hlt,To,CA,r1,V3 hRL,V3 hLf,h2,Vf,e]
  exact .mk ⟨i+1,l1,H1,n1⟩ rfl ⟨hlt,hf1,hn1,hk,hr1,rfl,hl1⟩ (by simp only[];omega)
 rw[hd,List.filter_cons_of_pos hcb,seqT]
 rw[hcb]at hci
 have h2:=con_t hci
 have hcf:few cells:=by show cells.length<_;have:=h.ox.cs.2.2.2;rw[hC.len];omega
 rcases h2 with rfl|⟨rfl,h2⟩
 case' inl=>simp only[eE,eC,eN,reduceCtorEq,Nat.reduceEqDiff,↓reduceIte,lt_T hlt,To,CA,r1,V3 hRL,V3 hLf]
 case' inr=>simp only[eE,eC,eN,reduceCtorEq,Nat.reduceEqDiff,↓reduceIte,V8,lt_T hlt,To,CA,r1,V3 hRL,V3 hLf,h2,V8]
 all_goals
  refine(OT hRI1 hcf).mono ?_
  rintro o H3 n3 (⟨hz,-⟩|⟨-,rfl,rest3,rfl,rfl⟩)
  ·rw[hz]at hal';simp at hal'
  have y1:(n1=n+4)=False:=Ve (by omega)
  have hla3:(a<(cells++rest3).length)=True:=V3 (by simp;omega)
  simp only[eE,eC,eN,reduceCtorEq,Nat.reduceEqDiff,↓reduceIte,Nat.reduceAdd,V0,V6,retK,hnb1,y1,b0,b1,hta,hla3,AI]
  have eset:((cells++rest3).map eI).set a (.int .i64 (i:Int))=((cells.set a (i:Int))++rest3).map eI:=by
   rw[<-Xz _ _ hal',List.map_set]
  have hlen:(cells.set a (i:Int)).length=cells.length:=WX
  have hrpn1:=hf1.lt hr1
  have hC':ClC k x (cells.set a (i:Int)):=⟨by rw[hlen];exact hC.len,λs hs h0=>by
   rcases Xc hs with q|q
   ·exact hC.sy s q h0
   ·rw[q];exact⟨by omega,by omega⟩⟩
  have hng:=Md hgc (by omega) (show(0:Int)<=(i:Int)by omega)
  rw[eset]
  have hcall:=ih (cells.set a (i:Int)) l1 (hset H1 (n1+2) (.arr 1 (((cells.set a (i:Int))++rest3).map eI))) (n1+4) (n1+2) (cells.length+rest3.length) rest3 (hf1.hset (by omega) (by omega)) (by rw[AA _ _ _ _ (by omega)];exact hr1) (AC ..) (by rw[hlen];omega) hC' hng hl1
  rw[hlen]at hcall
  refine hcall.mono ?_
  rintro o H4 n4 ⟨hf4,hn4,hk4,hres⟩
  have hk4':Bx rp (n+8) H2 H4:=(hk.new (by omega)).trans hk4 (by omega)
  cases htr:CI (AR k) x letters f (cells.set a (i:Int)) l1 with
  |none=>
   rw[htr]at hres
   obtain rfl:o= .ret (.bool false):=hres
   simp only[eE,eC,eN,reduceCtorEq,Nat.reduceEqDiff,↓reduceIte,Vf,retK,Vf]
   exact⟨hf4,by omega,hkb2.trans hk4' (by omega),rfl⟩
  |some l2=>
   rw[htr]at hres
   obtain⟨rfl,hr4⟩:=hres
   have hl2:=Le _ _ _ _ htr
   simp only[eE,eC,eN,reduceCtorEq,Nat.reduceEqDiff,↓reduceIte,Int.reduceEq,V8,retK,V8,e]
   exact .mk ⟨i+1,l2,H4,n4⟩ rfl ⟨hlt,hf4,by simp only[];omega,hk4',hr4,rfl,by simp only[];omega⟩ (by simp only[];omega)
theorem Om{cells:List Int}{a:Nat}{t:Int}(h:negs cells=0)(ha:cells[a]?=some t):0<=t:=by
 apply Classical.byContradiction
 intro q
 have h1:t∈cells.filter λs=>decide (s<0):=WO.2 ⟨Wr ha,by simp;omega⟩
 unfold negs at h
 rw[VV h]at h1
 cases h1
theorem On{vals:List Int}{x:Lma}{letters:List Int}{cells:List Int}(h:negs cells=0)(l:List Cas):CI vals x letters 0 cells l=CI vals x letters 1 cells l:=by
 cases l with
 |nil=>rw[CI,CI]
 |cons c l=>
  rw[CI,CI]
  have hno:¬(c.k=Mb/\0<=c.a/\c.a<cells.length/\at0 cells c.a<0):=λq=>by
   have:=Om h (Bd q.2.1 q.2.2.1)
   omega
  rw[Vc hno,Vc hno]
theorem Sp{k:Knd}{x:Lma}{letters:List Int}(h:RdC k x letters)(rp:Nat):∀(f:Nat) (cells:List Int) (l:List Cas) (H:AB) (n id cap:Nat) (rest:List Int),AN H n->hget H rp=some (.box (BJ k x letters (eCs l)))->hget H id=some (.arr 1 ((cells++rest).map eI))->cells.length<=cap->ClC k x cells->negs cells<=f->l.length<1000000000->
  AK Tryz.prog 46 [.ptr rp 0,.ref id 1 0 cells.length cap] H n (Tm rp k x letters H n (CI (AR k) x letters f cells l))
 |0,cells,l,H,n,id,cap,rest,hf,hrp,hidq,hcap,hC,hneg,hl=>by
  rw[On (by omega)]
  exact Ol h rp 0 cells (λcells' l H n id cap rest _ _ _ _ _ hn _=>by omega) l H n id cap rest hf hrp hidq hcap hC hl
 |f+1,cells,l,H,n,id,cap,rest,hf,hrp,hidq,hcap,hC,hneg,hl=>
  Ol h rp f cells (λcells' l H n id cap rest a1 a2 a3 a4 a5 hn a6=>Sp h rp f cells' l H n id cap rest a1 a2 a3 a4 a5 (by omega) a6) l H n id cap rest hf hrp hidq hcap hC hl
end Go.AM
namespace Go.AM
open Go.Proofs Go.Lib
def BK(k:Knd)(x:Lma):Int:=if BU k≠0 then BU k else chk x
def Tsv:Tab:=tadd 39 (s1 dX FewL λx=>eI (chk x)) Tlt
theorem Tsv_ok:AH Tryz.prog Tsv:=Sm.add (q1 λx h=>p39 x h)
theorem Tsv_c(a:List AVal)(H:AB):Tsv 32 a H=s1 dKn (λk=>FewD k.d) (λk=>.int .i64 (BU k)) a H:=rfl
theorem Tsv_m(a:List AVal)(H:AB):Tsv 39 a H=s1 dX FewL (λx=>eI (chk x)) a H:=rfl
theorem p45(k:Knd)(x:Lma)(hk:FewD k.d)(hx:FewL x):Pur Tryz.prog 45 [Br k,encL x] (eI (BK k x)):=by
 have u1:dKn.ok (.agg (AL k))=True:=Ep k
 have u2:dKn.dec (.agg (AL k))=k:=DE k
 simp only[AL,AG,AO,Vv,Vy]at u1 u2
 have v1:dX.ok (.agg (Ah x))=True:=LU x
 have v2:dX.dec (.agg (Ah x))=x:=HF x
 simp only[Ah]at v1 v2
 refine .mk ⟨Am 0 k,BS 0 x,trivial⟩ trivial (a45 (AE Tsv_ok (AF ?_)))
 unfold BK
 by_cases h:BU k=0
 ·simp only[eE,eC,eN,reduceCtorEq,Nat.reduceEqDiff,↓reduceIte,Nat.reduceAdd,V8,c45,AL,AG,AO,Tsv_c,Tsv_m,s1,u1,u2,v1,v2,V3 hk,V3 hx,V3 h]
 ·simp only[eE,eC,eN,reduceCtorEq,Nat.reduceEqDiff,↓reduceIte,Nat.reduceAdd,Vf,c45,AL,AG,AO,Tsv_c,s1,u1,u2,V3 hk,Ve h]
theorem i04:((0:Int)<4)=True:=V3 (by decide)
abbrev eTr(t:List (List Cas)):AVal:=.sl (.none 1) (t.map eCs)
abbrev encPf(t:List (List Cas)):AVal:=.agg [eTr t]
theorem Oo(n:Nat)(l:List Cas):(eCs l).under n:=⟨trivial,Aq (f:=encC) (λc=>⟨trivial,trivial,trivial⟩) _⟩
theorem KX(n:Nat)(t:List (List Cas)):(encPf t).under n:=⟨⟨trivial,Aq (Oo n) _⟩,trivial⟩
abbrev eCk:List (Nat×Bool×AVal):=[(3,true,.ptr 0 0),(4,true,.ptr 1 0),(5,true,.ptr 2 0),(6,true,.ptr 3 0),(7,true,.ptr 4 0),(8,true,.ptr 5 0),(25,true,clC 8 7)]
noncomputable abbrev lpCk (l':Nat) (st:LoopState) (pend:Option Code):AObj:=.lp ⟨l',st,pend,75,eCk, #[26],Hw,Hx⟩
def Sq(k:Knd)(x:Lma)(trees:List (List Cas))(D:List (List Int)):Prop:=∀(i:Nat) l,D[i]?=some l->∃t,trees[i]?=some t/\CI (AR k) x l x.cs.length (begC x l) t=some []
structure CkJ(k:Knd)(x:Lma)(trees:List (List Cas))(l':Nat)(F:Nat->Prop)(D:List (List Int))(H:AB)(m:Nat):Prop where
 fr:AN H m
 lm:11<=m
 nF:∀i,F i->i=7\/i=8\/11<=i
 h0:hget H 0=some (.box (AL k))
 h1:hget H 1=some (.box (Ah x))
 h2:hget H 2=some (.box [eTr trees])
 h3:hget H 3=some (.box [.bool false])
 h4:hget H 4=some (.box [.int .i64 0])
 h5:hget H 5=some (.box [.int .i64 D.length])
 hL:hget H 10=some (lpCk l' .ready none)
 ok:Sq k x trees D
def CkS(k:Knd)(x:Lma)(trees:List (List Cas))(l':Nat)(H:AB)(m:Nat):Prop:=
 hget H 3=some (.box [.bool false])/\hget H 4=some (.box [.int .i64 0])/\hget H 10=some (lpCk l' .done (some .ret))/\Fp (AR k) x trees=false
theorem Tp{k:Knd}{x:Lma}{trees:List (List Cas)}{l':Nat}(hR:∀letters∈chs (AR k).length x.ls.length,RdC k x letters)(htr':few trees)(ht:∀t∈trees,few t):Gen (chs (AR k).length x.ls.length) l' (CkJ k x trees l') (CkS k x trees l') where
 fr:=λF D H m h=>h.fr
 frame:=by
  rintro F F' D H H' m m' ⟨fr,lm,nF,h0,h1,h2,h3,h4,h5,hL,ok⟩ hF hH hf hm
  have n1:∀i,i<11->i≠7->i≠8->hget H' i=hget H i:=λi a b c=>hH i λq=>by
   rcases hF i q with q|q
   ·have:=nF i q;omega
   ·omega
  exact⟨hf,by omega,λi h=>(hF i h).elim (nF i) (λq=>by omega),by rw[n1 0 (by decide) (by decide) (by decide)];exact h0,by rw[n1 1 (by decide) (by decide) (by decide)];exact h1,by rw[n1 2 (by decide) (by decide) (by decide)];exact h2,
   by rw[n1 3 (by decide) (by decide) (by decide)];exact h3,by rw[n1 4 (by decide) (by decide) (by decide)];exact h4,by rw[n1 5 (by decide) (by decide) (by decide)];exact h5,by rw[n1 10 (by decide) (by decide) (by decide)];exact hL,ok⟩
 yld:=by
  rintro F D letters H m R ⟨fr,lm,nF,h0,h1,h2,h3,h4,h5,hL,ok⟩ hF hA hRt hRf
  refine y18_0 hL rfl (AE AH.tnil (AF ?_))
  simp only[eE,eN,Nat.reduceEqDiff,↓reduceIte,Px,renv,X0,X4,Wo,Xh]
  refine⟨_,hL,rfl,AE AH.tnil (AF ?_)⟩
  have hf':AN (hset H 10 (lpCk l' .busy none)) m:=fr.hset (Va _) (by omega)
  generalize hH1:hset H 10 (lpCk l' .busy none)=H1 at hf'⊢
  have k1:∀i,i≠10->hget H1 i=hget H i:=λi hi=>by rw[<-hH1,AA _ _ _ _ hi.symm]
  have hL1:hget H1 10=some (lpCk l' .busy none):=by rw[<-hH1,AC]
  have a0:=(k1 0 (by decide)).trans h0
  have a1:=(k1 1 (by decide)).trans h1
  have a2:=(k1 2 (by decide)).trans h2
  have a3:=(k1 3 (by decide)).trans h3
  have a4:=(k1 4 (by decide)).trans h4
  have a5:=(k1 5 (by decide)).trans h5
  clear hH1
  have hmem:letters∈chs (AR k).length x.ls.length:=by
   obtain⟨t,ht⟩:=hA
   rw[<-ht];simp
  have hrd:=hR _ hmem
  simp only[AL,AG,AO,Vv,Vy]at a0
  by_cases hl:D.length=trees.length
  ·have hl':((D.length:Int)=(trees.length:Int))=True:=V3 (by omega)
   have hl2:decide ((D.length:Int)=(trees.length:Int))=true:=by simp;omega
   simp only[eE,eC,eN,Nat.reduceEqDiff,↓reduceIte,V0,ML,a5,a2,hl',a3,a4]
   refine⟨⟨l',.busy,none,75,eCk, #[26],Hw,Hx⟩,by rw[AA _ _ _ _ (by decide),AA _ _ _ _ (by decide)];exact hL1,hRf _ _ ⟨?_,?_,AC ..,?_⟩⟩
   ·simp_all [AA,decide,AC]
   ·rw[AA _ _ _ _ (by decide),AC]
   ·unfold Fp
    obtain⟨t,hA⟩:=hA
    have hlen:(chs (AR k).length x.ls.length).length≠trees.length:=by
     rw[<-hA];simp;omega
    rw[VW hlen,X3]
  have hl':((D.length:Int)=(trees.length:Int))=False:=Ve (by omega)
  have hl2:decide ((D.length:Int)=(trees.length:Int))=false:=by simp;omega
  have hDl:D.length<trees.length:=by
   have:D.length<=trees.length:=by
    apply Classical.byContradiction
    intro q
    obtain⟨t,h1,-⟩:=ok trees.length D[trees.length] (V5 (by omega))
    rw[Xa (by omega)]at h1;cases h1
   omega
  have hgt:=V5 hDl
  have htf:=ht _ (Vm hDl)
  generalize trees[D.length]=tr at hgt htf
  have hX:=hrd.ox
  have hxc:=hX.c
  have hxl:=hX.l
  have hx4:=hX.cs.2.2
  rw[<-hrd.ll]at hxl
  have hgl:=Bd hxl.1 hxl.2
  have z:∀j,j<11->(m=j)=False:=λj hj=>Ve (by omega)
  have z':∀j,j<11->(j=m)=False:=λj hj=>Ve (by omega)
  have z0:=z 0 (by decide)
  have z1:=z 1 (by decide)
  have z2:=z 2 (by decide)
  have z3:=z 3 (by decide)
  have z4:=z 4 (by decide)
  have z5:=z 5 (by decide)
  have z10:=z 10 (by decide)
  have w1:((x.cs.length:Int)<=4)=True:=V3 (by omega)
  have w2:(0<=x.c)=True:=V3 hxc.1
  have w3:(x.c<(x.cs.length:Int))=True:=V3 hxc.2
  have w4:(x.c.toNat<4)=True:=V3 (by omega)
  have w5:(0<=x.l)=True:=V3 hxl.1
  have w6:(x.l<(letters.length:Int))=True:=V3 hxl.2
  have w7:(x.l.toNat<letters.length)=True:=V3 (by omega)
  simp only[Ah]at a1
  simp only[eE,eC,eN,reduceCtorEq,Nat.reduceEqDiff,↓reduceIte,Nat.reduceAdd,Nat.reduceLeDiff,Nat.reduceMul,Nat.reduceLT,xE,V1,Wi,W9,V2,V4,V0,V6,ML,a5,a2,hl',a0,a1,fr1 hf',fr0 hf',bsmS,bsmF,z0,z1,z2,z5,w1,w2,w3,w4,w5,w6,hgl,hgt,lt_T hDl,Nat.sub_zero,c4n,i04,AI]
  have hbeg:([.int .i64 (-1),.int .i64 (-1),.int .i64 (-1),.int .i64 (-1)]:List AVal).set x.c.toNat (eI (at0 letters x.l))=((begC x letters)++List.replicate (4-x.cs.length) (-1)).map eI:=by
   unfold begC
   rw[<-Xz _ _ (by rw[Wx];omega),List.replicate_append_replicate,show x.cs.length+(4-x.cs.length)=4 by omega,List.map_set]
   rfl
  rw[hbeg]
  generalize hHa:hset H1 m (AObj.arr 1 _)=Ha
  have hfa:AN Ha (m+15):=by rw[<-hHa];exact hf'.hset (by omega) (by omega)
  have hbl:=FA x letters
  have hC:ClC k x (begC x letters):=by
   refine⟨hbl,λs hs h0=>?_⟩
   have hb:=EI hX hmem
   unfold begC at hs
   rcases Xc hs with q|q
   ·rw[List.mem_replicate]at q;omega
   ·grind [AR,List.length_map]
  have hcall:=Sp hrd (m+15) x.cs.length (begC x letters) tr (hset Ha (m+15) (.box (BJ k x letters (eCs tr)))) (m+17) m 4 (List.replicate (4-x.cs.length) (-1)) (hfa.hset (by omega) (by omega)) (AC ..) (by rw[AA _ _ _ _ (by omega),<-hHa,AC]) (by rw[hbl];omega) hC ST htf
  rw[hbl]at hcall
  refine hcall.mono ?_
  rintro o H4 n4 ⟨hf4,hn4,hk4,hres⟩
  have hkeep:∀i,i<m->hget H4 i=hget H1 i:=λi hi=>by
   rw[hk4 i (by omega) (by omega),AA _ _ _ _ (by omega),<-hHa,AA _ _ _ _ (by omega)]
  have b3:=(hkeep 3 (by omega)).trans a3
  have b4:=(hkeep 4 (by omega)).trans a4
  have b5:=(hkeep 5 (by omega)).trans a5
  have b10:=(hkeep 10 (by omega)).trans hL1
  have hwrong:∀q,CI (AR k) x letters x.cs.length (begC x letters) tr=q->q≠some []->Fp (AR k) x trees=false:=λq hq hne=>by
   unfold Fp
   rw[Bool.and_eq_false_iff]
   by_cases hlen:(chs (AR k).length x.ls.length).length=trees.length
   ·right
    rw[WM]
    obtain⟨t,hA⟩:=hA
    refine⟨(letters,tr),?_,by rw[hq];simpa using hne⟩
    rw[List.mem_iff_getElem?]
    refine⟨D.length,?_⟩
    rw[List.getElem?_zip_eq_some]
    refine⟨?_,hgt⟩
    rw[<-hA];simp
   ·exact .inl (VW hlen)
  have stop:Fp (AR k) x trees=false->S4 10 R AExit.ret ⟨[],hset (hset H4 3 (.box [.bool false])) 4 (.box [.int .i64 0]),n4⟩:=λhw=>by
   refine⟨⟨l',.busy,none,75,eCk, #[26],Hw,Hx⟩,by rw[AA _ _ _ _ (by decide),AA _ _ _ _ (by decide)];exact b10,hRf _ _ ⟨?_,?_,AC ..,hw⟩⟩
   ·simp_all [AA,decide,AC]
   ·rw[AA _ _ _ _ (by decide),AC]
  cases htr:CI (AR k) x letters x.cs.length (begC x letters) tr with
  |none=>
   rw[htr]at hres
   obtain rfl:o= .ret (.bool false):=hres
   simp only[eE,eC,eN,reduceCtorEq,Nat.reduceEqDiff,↓reduceIte,Nat.reduceAdd,V8,Vf,retK,b3,b4,Vf]
   exact stop (hwrong _ htr (by simp))
  |some l2=>
   rw[htr]at hres
   obtain⟨rfl,hr4⟩:=hres
   simp only[BJ,AL,AG,AO,Ah,Vv,Vy]at hr4
   cases l2 with
   |cons c2 l2=>
    have g2:((0:Int)<((l2.length+1:Nat):Int))=True:=cS1
    simp only[eE,eC,eN,Nat.reduceEqDiff,↓reduceIte,Nat.reduceAdd,V8,V0,retK,b3,b4,hr4,V8,g2]
    exact stop (hwrong _ htr (by simp))
   |nil=>
    have e:=AJ (k:=D.length) (by have:trees.length<1000000000:=htr';omega)
    simp only[eE,eC,eN,Nat.reduceEqDiff,↓reduceIte,Nat.reduceAdd,Int.reduceEq,V8,c0,i00,retK,b5,hr4,V8,i00,e]
    have hF':∀i,F i->i≠5/\i≠10:=λi hi=>by have:=nF i hi;omega
    refine⟨⟨l',.busy,none,75,eCk, #[26],Hw,Hx⟩,by rw[AA _ _ _ _ (by decide)];exact b10,hRt _ _ ⟨(hf4.hset (m:=n4) (Va _) (by omega)).hset (m:=n4) (Va _) (by omega),by simp only[];omega,nF,?_,?_,?_,?_,?_,?_,AC ..,?_⟩ (λi hi=>?_) (by simp only[];omega)⟩
    ·rw[AA _ _ _ _ (by decide),AA _ _ _ _ (by decide),hkeep 0 (by omega),k1 0 (by decide)];exact h0
    ·rw[AA _ _ _ _ (by decide),AA _ _ _ _ (by decide),hkeep 1 (by omega),k1 1 (by decide)];exact h1
    ·rw[AA _ _ _ _ (by decide),AA _ _ _ _ (by decide),hkeep 2 (by omega)];exact a2
    ·rw[AA _ _ _ _ (by decide),AA _ _ _ _ (by decide)];exact b3
    ·rw[AA _ _ _ _ (by decide),AA _ _ _ _ (by decide)];exact b4
    ·rw[AA _ _ _ _ (by decide),AC,Vn];rfl
    ·intro i l hl
     by_cases q:i<D.length
     ·rw[W5 q]at hl
      exact ok i l hl
     ·grind
    ·have:=hF i hi
     rw[AA _ _ _ _ (λq=>(hF' i hi).2 q.symm),AA _ _ _ _ (λq=>(hF' i hi).1 q.symm),hkeep i (by omega),k1 i (hF' i hi).2]
theorem Oq{k:Knd}{x:Lma}{trees:List (List Cas)}(h:Sq k x trees (chs (AR k).length x.ls.length)):Fp (AR k) x trees=decide ((chs (AR k).length x.ls.length).length=trees.length):=by
 unfold Fp
 rw[Bool.and_eq_left_iff_imp]
 intro hl
 rw[Vj]
 rintro⟨l,t⟩ hm
 obtain⟨i,hi⟩:=List.mem_iff_getElem?.1 hm
 rw[List.getElem?_zip_eq_some]at hi
 obtain⟨t',h1,h2⟩:=h i l hi.1
 rw[hi.2]at h1;cases h1
 exact W1 h2
def IS(k:Knd)(x:Lma)(trees:List (List Cas)):AVal:=if BK k x≠0 then .tup [.bool false,.int .i64 (BK k x)]else .tup [.bool (Fp (AR k) x trees),.int .i64 0]
theorem Lf{k:Knd}{x:Lma}(hk:FewD k.d)(hx:FewL x)(h:BK k x=0){letters:List Int}(hl:letters∈chs (AR k).length x.ls.length):RdC k x letters:=by
 unfold BK at h
 by_cases hc:BU k=0
 ·rw[Vc (by simpa using hc)]at h
  have ho:Dw x=true:=by
   unfold chk at h
   split at h
   ·assumption
   ·cases h
  exact⟨hc,hk,hx,(Ix x).1 ho,(QK hl).1⟩
 ·rw[Vk hc]at h;exact absurd h hc
def rowVd:List AVal->AB->Prop×AVal:=s2 dKn dX (λk x=>FewD k.d/\FewL x) λk x=>eI (BK k x)
def Tsc:Tab:=tadd 45 rowVd tnil
theorem Sr:AH Tryz.prog Tsc:=AH.tnil.add (q2 λk x h=>p45 k x h.1 h.2)
theorem RF(a:List AVal)(H:AB):Tsc 45 a H=s2 dKn dX (λk x=>FewD k.d/\FewL x) (λk x=>eI (BK k x)) a H:=rfl
theorem p18(k:Knd)(x:Lma)(trees:List (List Cas))(hk:FewD k.d)(hx:FewL x)(htr:few trees)(ht:∀t∈trees,few t):Pur Tryz.prog 18 [Br k,encL x,encPf trees] (IS k x trees):=by
 have u1:dKn.ok (.agg (AL k))=True:=Ep k
 have u2:dKn.dec (.agg (AL k))=k:=DE k
 simp only[AL,AG,AO,Vv,Vy]at u1 u2
 have v1:dX.ok (.agg (Ah x))=True:=LU x
 have v2:dX.dec (.agg (Ah x))=x:=HF x
 simp only[Ah]at v1 v2
 refine .mk ⟨Am 0 k,BS 0 x,KX 0 trees,trivial⟩ ?_ (a18 (AE Sr (AF ?_)))
 ·unfold IS
  split<;>exact⟨trivial,trivial,trivial⟩
 unfold IS
 by_cases hv:BK k x=0
 case neg=>simp only[eE,eC,eN,eX,reduceCtorEq,Nat.reduceEqDiff,↓reduceIte,Nat.reduceAdd,Nat.reduceLeDiff,Nat.reduceLT,Nat.reduceMod,Nat.reduceSub,Nat.reduceDiv,Vf,Cg,c18,AL,AG,AO,RF,s2,u1,u2,v1,v2,V3 hk,V3 hx,Ve hv];exact Wk.refl _
 have hvl:(AR k).length=k.d.syms.length:=by unfold AR;rw[V0]
 simp only[eE,eC,eN,reduceCtorEq,Nat.reduceEqDiff,↓reduceIte,Nat.reduceAdd,Nat.reduceLeDiff,V8,V0,c18,AL,AG,AO,RF,s2,u1,u2,v1,v2,V3 hk,V3 hx,V3 hv,AI]
 rw[hv]
 have hck:BU k=0:=by simp_all [BK]<;>omega
 have hsy:=C0 hck
 generalize hHa:hset (hset _ 4 _) 5 (AObj.box _)=Ha
 have fa:AN Ha 7:=by
  rw[<-hHa]
  repeat' (first|exact AN.nil.hset (m:=7) (Vi _) (by decide)|refine AN.hset ?_ (Va _) (by decide))
 have f0:hget Ha 0=some (.box (AL k)):=by rw[<-hHa];rfl
 have f1:hget Ha 1=some (.box (Ah x)):=by rw[<-hHa];rfl
 have f2:hget Ha 2=some (.box [eTr trees]):=by rw[<-hHa];rfl
 have f3:hget Ha 3=some (.box [.bool false]):=by rw[<-hHa];rfl
 have f4:hget Ha 4=some (.box [.int .i64 0]):=by rw[<-hHa];rfl
 have f5:hget Ha 5=some (.box [.int .i64 0]):=by rw[<-hHa];rfl
 clear hHa
 have hls:x.ls.length<=1000:=by
  have ho:Dw x=true:=by
   unfold BK at hv
   rw[Vc (by simpa using hck)]at hv
   unfold chk at hv
   split at hv
   ·assumption
   ·cases hv
  have:=((Ix x).1 ho).ls.2.2.2
  omega
 refine(EZ (M:=k.d.syms.length) (n:=x.ls.length) fa).mono ?_
 rintro o H1 n1 ⟨rfl,rfl,rfl⟩
 simp only[eE,eN,Nat.reduceEqDiff,↓reduceIte,Nat.reduceAdd,retK,Eb]
 intro l'
 generalize hHb:hset (hset (hset Ha 7 _) _ _) _ (AObj.lp _)=Hb
 have kb:∀i,i<7->hget Hb i=hget Ha i:=λi hi=>by
  rw[<-hHb,AA _ _ _ _ (by omega),AA _ _ _ _ (by omega),AA _ _ _ _ (by omega)]
 have e8:hget Hb 8=some (.box [.int .i64 x.ls.length]):=by rw[<-hHb,AA _ _ _ _ (by decide)];exact AC ..
 have e7:hget Hb 7=some (.box [.int .i64 (AR k).length]):=by rw[<-hHb,AA _ _ _ _ (by decide),AA _ _ _ _ (by decide),hvl];exact AC ..
 have hJ:CkJ k x trees l' (λi=>i=7\/i=8) [] Hb 11:=by
  refine⟨?_,Va _,λi h=>by omega,(kb 0 (by decide)).trans f0,(kb 1 (by decide)).trans f1,(kb 2 (by decide)).trans f2,(kb 3 (by decide)).trans f3,(kb 4 (by decide)).trans f4,(kb 5 (by decide)).trans f5,by rw[<-hHb];exact AC ..,λi l h=>by simp at h⟩
  rw[<-hHb]
  exact((fa.hset (m:=11) (by decide) (by decide)).hset (Va _) (by decide)).hset (Va _) (by decide)
 have hgen:=Tp (k:=k) (x:=x) (trees:=trees) (l':=l') (λletters hl=>Lf hk hx hv hl) htr ht
 have hM:(AR k).length<=1000:=by omega
 refine(KV hgen hM hls hJ (λi h=>by omega) (.inr rfl) (.inl rfl) e8 e7).mono ?_
 rintro o H' m' ⟨rfl,⟨F',-,hF',hj⟩|⟨s3,s4,sL,hw⟩⟩
 ·obtain⟨fr,lm,nF,h0,h1,h2,h3,h4,h5,hL,ok⟩:=hj
  rw[Oq ok]
  generalize (chs (AR k).length x.ls.length).length=cl at h5
  simp only[eE,eN,reduceCtorEq,Nat.reduceEqDiff,↓reduceIte,Cg,V0,Ea,hL,h2,h3,h4,h5]
  rw[show decide ((cl:Int)=(trees.length:Int))=decide (cl=trees.length)from decide_eq_decide.2 (by omega)]
  exact Wk.refl _
 ·simp only[eE,eN,reduceCtorEq,Nat.reduceEqDiff,↓reduceIte,Cg,Ea,sL,s3,s4,hw]
  exact Wk.refl _
end Go.AM
namespace Go.AM
open Go.Proofs Go.Lib
end Go.AM
namespace Go.AM
open Go.Proofs Go.Lib
end Go.AM
namespace Go.AM
open Go.Proofs Go.Lib
structure HoC(k:Knd)(x:Lma)(letters:List Int)(d1 d2 d3 d4 d5 rp id cap:Nat)(H:AB):Prop where
 h1:hget H d1=some (.box (Ah x))
 h2:hget H d2=some (.box [.ptr rp 0])
 h3:hget H d3=some (.box [.ref id 1 0 x.cs.length cap])
 h4:hget H d4=some (.box [.fn (.func 49) [] [.ptr d1 0,.ptr d2 0,.ptr d3 0,.ptr d4 0,.ptr d5 0]])
 h5:hget H d5=some (.box (AL k))
 hr:RdAt H rp k x letters
theorem HoC.keep{k:Knd}{x:Lma}{letters:List Int}{d1 d2 d3 d4 d5 rp id cap n:Nat}{H H':AB}(h:HoC k x letters d1 d2 d3 d4 d5 rp id cap H)(hidq:∃L,hget H id=some (.arr 1 L))(hf:AN H n)(hk:Bx id n H H'):HoC k x letters d1 d2 d3 d4 d5 rp id cap H':=by
 obtain⟨L,hidq⟩:=hidq
 have key:∀c cs,hget H c=some (.box cs)->hget H' c=some (.box cs):=λc cs hc=>by
  rw[hk c (hf.lt hc) (λe=>by rw[e,hidq]at hc;cases hc)];exact hc
 obtain⟨h1,h2,h3,h4,h5,w,hr⟩:=h
 exact⟨key _ _ h1,key _ _ h2,key _ _ h3,key _ _ h4,key _ _ h5,w,key _ _ hr⟩
def HoP(id n:Nat)(arr:List AVal)(H:AB)(b:Bool):AOut->AB->Nat->Prop:=λo H' n'=>
 AN H' n'/\n<=n'/\Bx id n H H'/\o= .ret (.bool b)/\(b=false->hget H' id=some (.arr 1 arr))/\∃L,hget H' id=some (.arr 1 L)
theorem JL{vals:List Int}{x:Lma}{letters cells:List Int}:D6 vals x letters cells=true↔∀i:Nat,i<x.qs.length+x.ps.length->Bq vals x letters cells (i:Int)=false:=by
 unfold D6
 rw[Vj]
 have hl:(F7 vals x letters cells).length=x.qs.length+x.ps.length:=by unfold F7;simp
 constructor
 ·intro h i hi
  unfold Bq
  rw[Vc (by omega),V2,V5 (by omega),V1]
  have:=h _ (Vm (l:=F7 vals x letters cells) (n:=i) (by omega))
  simpa using this
 ·intro h b hb
  obtain⟨i,hi,rfl⟩:=Vt.1 hb
  have:=h i (by omega)
  unfold Bq at this
  rw[Vc (by omega),V2,V5 hi,V1]at this
  rw[this];rfl
def HoG(k:Knd)(x:Lma)(letters:List Int)(d1 d2 d3 d4 d5 rp id cap j:Nat):Prop:=∀(i:Nat) (cells:List Int) (H:AB) (n:Nat) (rest:List Int),i+j=x.cs.length->AN H n->HoC k x letters d1 d2 d3 d4 d5 rp id cap H->hget H id=some (.arr 1 ((cells++rest).map eI))->ClC k x cells->(∀(a:Nat),i<=a->a<x.cs.length->(a:Int)≠x.c->cells[a]?=some (-1))->
  AK Tryz.prog 49 [.int .i64 i,.ptr d1 0,.ptr d2 0,.ptr d3 0,.ptr d4 0,.ptr d5 0] H n (HoP id n ((cells++rest).map eI) H (tryP (AR k) x letters j i cells))
structure VHo where
 s:Nat
 cur:Int
 H:AB
 n:Nat
structure IHo(k:Knd)(x:Lma)(letters cells rest:List Int)(id i j m n0:Nat)(H0:AB)(v:VHo):Prop where
 hs:v.s<=m
 fr:AN v.H v.n
 hn:n0<=v.n
 kp:Bx id n0 H0 v.H
 ho:hget v.H id=some (.arr 1 ((cells.set i v.cur++rest).map eI))
 no:∀b:Nat,b<v.s->tryP (AR k) x letters j (i+1) (cells.set i (b:Int))=false
theorem Lg{k:Knd}{x:Lma}{letters:List Int}(h:RdC k x letters)(d1 d2 d3 d4 d5 rp id cap:Nat)(hcap:x.cs.length<=cap)(j:Nat)(ih:∀j',j=j'+1->HoG k x letters d1 d2 d3 d4 d5 rp id cap j'):HoG k x letters d1 d2 d3 d4 d5 rp id cap j:=by
 intro i cells H n rest hij hf hH hidq hC hneg
 have hnq:x.qs.length<1000000000:=h.fx.qs
 have hnp:x.ps.length<1000000000:=h.fx.ps
 have hw1:IntKind.wrap .i64 ((x.qs.length:Int)+(x.ps.length:Int))=((x.qs.length+x.ps.length:Nat):Int):=by rw[Aw (by omega) (by omega)];omega
 have hRI:RdI H (.ref id 1 0 x.cs.length cap) cells:=.inr ⟨id,cap,rest,by rw[hC.len],hidq,by rw[hC.len];exact hcap⟩
 have hrd:=KS hRI
 have hH0:=hH
 obtain⟨h1,h2,h3,h4,h5,hr⟩:=hH0
 simp only[Ah]at h1
 simp only[AL,AG,AO,Vv,Vy]at h5
 refine a49 (AE (So h) (AF ?_))
 simp only[eE,eN,reduceCtorEq,Nat.reduceEqDiff,↓reduceIte,Nat.reduceAdd,Nat.reduceLeDiff,V0,c49,h1,hw1]
 refine AU (λa:Nat=>⟨[(0,true,.int .i64 i),(1,true,.ptr d1 0),(2,true,.ptr d2 0),(3,true,.ptr d3 0),(4,true,.ptr d4 0),(5,true,.ptr d5 0),(16,true,.int .i64 ((x.qs.length+x.ps.length:Nat):Int)),(17,true,.int .i64 a)],H,n⟩)
  (λa=>a<=x.qs.length+x.ps.length/\∀b,b<a->Bq (AR k) x letters cells (b:Int)=false) (λa=>x.qs.length+x.ps.length-a) 0 rfl ⟨Vi _,λb hb=>by omega⟩ ?_
 rintro a ⟨ha,hall⟩
 by_cases hlt:a<x.qs.length+x.ps.length
 ·have e:=AJ (k:=a) (by omega)
  cases hcm:Bq (AR k) x letters cells (a:Int)with
  |true=>
   have hno:tryP (AR k) x letters j i cells=false:=by
    unfold tryP
    rw[Vc]
    rw[JL]
    intro q
    rw[q a hlt]at hcm;cases hcm
   rw[hno]
   simp only[eE,eC,eN,reduceCtorEq,Nat.reduceEqDiff,↓reduceIte,lt_T hlt,h2,h3,Tn,JK,hrd,V3 hRI,V3 hr,V3 hC,hcm]
   exact⟨hf,Va _,Bx.refl _,rfl,λ_=>hidq,_,hidq⟩
  |false=>
   simp only[eE,eC,eN,reduceCtorEq,Nat.reduceEqDiff,↓reduceIte,Int.reduceEq,lt_T hlt,h2,h3,Tn,JK,hrd,V3 hRI,V3 hr,V3 hC,hcm,e]
   refine .mk (a+1) rfl ⟨hlt,λb hb=>?_⟩ (by omega)
   by_cases q:b<a
   ·exact hall b q
   ·obtain rfl:b=a:=by omega
    exact hcm
 obtain rfl:a=x.qs.length+x.ps.length:=by omega
 have hok:=JL.2 hall
 cases j with
 |zero=>
  have hne:((i:Int)=(x.cs.length:Int))=True:=V3 (by omega)
  have hde:decide ((i:Int)=(x.cs.length:Int))=true:=W1 (by omega)
  rw[tryP,Vk hok]
  simp only[eE,eC,eN,reduceCtorEq,Nat.reduceEqDiff,↓reduceIte,lt_F hlt,h3,hne]
  exact⟨hf,Va _,Bx.refl _,rfl,(λq=>by cases q),_,hidq⟩
 |succ j=>
 have ih:=ih j rfl
 rw[tryP,Vk hok]
 have hne:((i:Int)=(x.cs.length:Int))=False:=Ve (by omega)
 have e1:=AJ (k:=i) (by have:=h.ox.cs.2.2.2;omega)
 by_cases hic:(i:Int)=x.c
 ·rw[Vk hic]
  simp only[eE,eC,eN,reduceCtorEq,Nat.reduceEqDiff,↓reduceIte,Nat.reduceAdd,Nat.reduceLeDiff,Int.reduceEq,lt_F hlt,h1,h3,h4,hne,V3 hic,e1]
  refine(ih (i+1) cells H n rest (by omega) hf hH hidq hC λa ha h1 h2=>hneg a (by omega) h1 h2).mono ?_
  rintro o H' n' ⟨q1,q2,q3,rfl,q5,q6⟩
  simp only[eE,eN,↓reduceIte,retK]
  exact⟨q1,q2,q3,rfl,q5,q6⟩
 rw[Vc hic]
 have hsy:=C0 h.ck
 have hvl:(AR k).length=k.d.syms.length:=by unfold AR;rw[V0]
 have hgi:=hneg i (Va _) (by omega) hic
 have hil:i<cells.length:=(W4.1 hgi).1
 have hse:cells.set i (-1)=cells:=by
  refine Xr λa=>?_
  rw[WA]
  split
  ·rename_i q;subst q;exact hgi.symm
  ·rfl
 have hidn:=hf.lt hidq
 simp only[eE,eC,eN,reduceCtorEq,Nat.reduceEqDiff,↓reduceIte,Nat.reduceAdd,Nat.reduceLeDiff,V0,lt_F hlt,h1,h3,h5,hne,Ve hic]
 refine AU (λv:VHo=>⟨[(0,true,.int .i64 i),(3,true,.ptr d3 0),(4,true,.ptr d4 0),(40,true,.int .i64 k.d.syms.length),(41,true,.int .i64 v.s)],v.H,v.n⟩) (IHo k x letters cells rest id i j k.d.syms.length n H) (λv=>k.d.syms.length-v.s)
  ⟨0,-1,H,n⟩ rfl ⟨Vi _,hf,Va _,Bx.refl _,by simp only[hse];exact hidq,λb hb=>by simp only[]at hb;omega⟩ ?_
 rintro⟨s,cur,H1,n1⟩ ⟨hs,hf1,hn1,hk1,ho1,hno1⟩
 simp only at hs hf1 hn1 hk1 ho1 hno1
 have hH1:=hH.keep ⟨_,hidq⟩ hf hk1
 have hl1:(i<(cells.set i cur++rest).length)=True:=V3 (by simp;omega)
 have g1:((i:Int)<(x.cs.length:Int))=True:=V3 (by omega)
 have est:∀z:Int,((cells.set i cur++rest).map eI).set i (.int .i64 z)=((cells.set i z++rest).map eI):=λz=>by
  rw[show(.int .i64 z:AVal)=eI z from rfl,<-List.map_set,Xz _ _ (by rw[WX];exact hil),List.set_set]
 obtain⟨e1',e2',e3',e4',e5',er'⟩:=hH1
 by_cases hls:s<k.d.syms.length
 case neg=>
  obtain rfl:s=k.d.syms.length:=by omega
  have hany:((symI (AR k).length).any λs=>tryP (AR k) x letters j (i+1) (cells.set i s))=false:=by
   rw[List.any_eq_false]
   intro z hz
   obtain⟨z0,z1⟩:=EG.1 hz
   obtain⟨b,rfl⟩:=Xf z0
   rw[hno1 b (by omega)];decide
  rw[hany]
  have est1:=est (-1)
  rw[hse]at est1
  simp only[eE,eC,eN,reduceCtorEq,Nat.reduceEqDiff,↓reduceIte,V2,V4,V0,V6,lt_F hls,e3',ho1,hl1,g1,est1]
  exact⟨hf1.hset (Va _) (by omega),hn1,hk1.set,rfl,λ_=>AC ..,_,AC ..⟩
 have e:=AJ (k:=s) (by omega)
 have y4:(id=d4)=False:=Ve λq=>by rw[q,e4']at ho1;cases ho1
 simp only[eE,eC,eN,reduceCtorEq,Nat.reduceEqDiff,↓reduceIte,Int.reduceEq,V2,V4,V0,V6,lt_T hls,e3',e4',ho1,hl1,g1,est (s:Int),e1,y4]
 generalize hH2:AM.hset H1 id (AObj.arr 1 ((cells.set i (s:Int)++rest).map eI))=H2
 have ho2:hget H2 id=some (.arr 1 ((cells.set i (s:Int)++rest).map eI)):=by rw[<-hH2,AC]
 have hf2:AN H2 n1:=by rw[<-hH2];exact hf1.hset (Va _) (by omega)
 have hk2:Bx id n H H2:=by rw[<-hH2];exact hk1.set
 have hC2:ClC k x (cells.set i (s:Int)):=⟨by rw[WX];exact hC.len,λz hz h0=>by
  rcases Xc hz with q|q
  ·exact hC.sy z q h0
  ·rw[q];exact⟨by omega,by omega⟩⟩
 refine(ih (i+1) (cells.set i (s:Int)) H2 n1 rest (by omega) hf2 (hH.keep ⟨_,hidq⟩ hf hk2) ho2 hC2 λa ha h1 h2=>?_).mono ?_
 ·grind
 rintro o H3 n3 ⟨q1,q2,q3,rfl,q5,q6⟩
 have hk3:Bx id n H H3:=hk2.trans q3 hn1
 cases hb:tryP (AR k) x letters j (i+1) (cells.set i (s:Int))with
 |true=>
  have hany:((symI (AR k).length).any λs=>tryP (AR k) x letters j (i+1) (cells.set i s))=true:=
   X7.2 ⟨(s:Int),EG.2 ⟨by omega,by rw[hvl];omega⟩,hb⟩
  rw[hany]
  simp only[eE,eC,eN,reduceCtorEq,Nat.reduceEqDiff,↓reduceIte,retK]
  exact⟨q1,by omega,hk3,rfl,(λq=>by cases q),q6⟩
 |false=>
  rw[hb]at q5
  simp only[eE,eC,eN,reduceCtorEq,Nat.reduceEqDiff,↓reduceIte,Int.reduceEq,retK,e]
  refine .mk ⟨s+1,(s:Int),H3,n3⟩ rfl ⟨hls,q1,by simp only[];omega,hk3,q5 rfl,λb hb'=>?_⟩ (by simp only[];omega)
  by_cases q:b<s
  ·exact hno1 b q
  ·have hb'':b<s+1:=hb'
   obtain rfl:b=s:=by omega
   exact hb
theorem t_holds{k:Knd}{x:Lma}{letters:List Int}(h:RdC k x letters)(d1 d2 d3 d4 d5 rp id cap:Nat)(hcap:x.cs.length<=cap):∀j,HoG k x letters d1 d2 d3 d4 d5 rp id cap j
 |0=>Lg h d1 d2 d3 d4 d5 rp id cap hcap 0 λj' hj=>by omega
 |j+1=>Lg h d1 d2 d3 d4 d5 rp id cap hcap (j+1) λj' hj=>by
  obtain rfl:j'=j:=by omega
  exact t_holds h d1 d2 d3 d4 d5 rp id cap hcap j'
end Go.AM
namespace Go.AM
open Go.Proofs Go.Lib
abbrev eTe:List (Nat×Bool×AVal):=[(2,true,.ptr 0 0),(3,true,.ptr 1 0),(4,true,.ptr 2 0),(5,true,.ptr 3 0),(23,true,clC 5 4)]
noncomputable abbrev lpTe (l':Nat) (st:LoopState) (pend:Option Code):AObj:=.lp ⟨l',st,pend,47,eTe, #[24],J1,J2⟩
structure TeJ(k:Knd)(x:Lma)(l':Nat)(F:Nat->Prop)(D:List (List Int))(H:AB)(m:Nat):Prop where
 fr:AN H m
 lm:8<=m
 nF:∀i,F i->i=4\/i=5\/8<=i
 h0:hget H 0=some (.box (AL k))
 h1:hget H 1=some (.box (Ah x))
 h2:hget H 2=some (.box [.bool false])
 h3:hget H 3=some (.box [.int .i64 0])
 hL:hget H 7=some (lpTe l' .ready none)
 ok:∀l∈D,tryP (AR k) x l x.cs.length 0 (begC x l)=false
def TeS(k:Knd)(x:Lma)(l':Nat)(H:AB)(m:Nat):Prop:=
 hget H 2=some (.box [.bool false])/\hget H 3=some (.box [.int .i64 0])/\hget H 7=some (lpTe l' .done (some .ret))/\Da (AR k) x=false
theorem Tq{k:Knd}{x:Lma}{l':Nat}(hR:∀letters∈chs (AR k).length x.ls.length,RdC k x letters):Gen (chs (AR k).length x.ls.length) l' (TeJ k x l') (TeS k x l') where
 fr:=λF D H m h=>h.fr
 frame:=by
  rintro F F' D H H' m m' ⟨fr,lm,nF,h0,h1,h2,h3,hL,ok⟩ hF hH hf hm
  have n1:∀i,i<8->i≠4->i≠5->hget H' i=hget H i:=λi a b c=>hH i λq=>by
   rcases hF i q with q|q
   ·have:=nF i q;omega
   ·omega
  exact⟨hf,by omega,λi h=>(hF i h).elim (nF i) (λq=>by omega),by rw[n1 0 (by decide) (by decide) (by decide)];exact h0,by rw[n1 1 (by decide) (by decide) (by decide)];exact h1,by rw[n1 2 (by decide) (by decide) (by decide)];exact h2,
   by rw[n1 3 (by decide) (by decide) (by decide)];exact h3,by rw[n1 7 (by decide) (by decide) (by decide)];exact hL,ok⟩
 yld:=by
  rintro F D letters H m R ⟨fr,lm,nF,h0,h1,h2,h3,hL,ok⟩ hF hA hRt hRf
  refine y20_0 hL rfl (AE AH.tnil (AF ?_))
  simp only[eE,eN,Nat.reduceEqDiff,↓reduceIte,Pz,renv,X0,X4,Wo,Xh]
  refine⟨_,hL,rfl,AE AH.tnil (AF ?_)⟩
  have hf':AN (hset H 7 (lpTe l' .busy none)) m:=fr.hset (Va _) (by omega)
  generalize hH1:hset H 7 (lpTe l' .busy none)=H1 at hf'⊢
  have k1:∀i,i≠7->hget H1 i=hget H i:=λi hi=>by rw[<-hH1,AA _ _ _ _ hi.symm]
  have hL1:hget H1 7=some (lpTe l' .busy none):=by rw[<-hH1,AC]
  have a0:=(k1 0 (by decide)).trans h0
  have a1:=(k1 1 (by decide)).trans h1
  have a2:=(k1 2 (by decide)).trans h2
  have a3:=(k1 3 (by decide)).trans h3
  clear hH1
  have hmem:letters∈chs (AR k).length x.ls.length:=by
   obtain⟨t,ht⟩:=hA
   rw[<-ht];simp
  have hrd:=hR _ hmem
  have b0:=a0
  have b1:=a1
  simp only[AL,AG,AO,Vv,Vy]at b0
  simp only[Ah]at b1
  have hX:=hrd.ox
  have hxc:=hX.c
  have hxl:=hX.l
  have hx4:=hX.cs.2.2
  rw[<-hrd.ll]at hxl
  have hgl:=Bd hxl.1 hxl.2
  have z:∀j c,j<8->(m+c=j)=False:=λj c hj=>Ve (by omega)
  have z':∀j c,j<8->(j=m+c)=False:=λj c hj=>Ve (by omega)
  have z0:=λc=>z 0 c (by decide)
  have z1:=λc=>z 1 c (by decide)
  have z2:=λc=>z 2 c (by decide)
  have z3:=λc=>z 3 c (by decide)
  have z7:=λc=>z 7 c (by decide)
  have y0:=λc=>z' 0 c (by decide)
  have y1:=λc=>z' 1 c (by decide)
  have w1:((x.cs.length:Int)<=4)=True:=V3 (by omega)
  have w2:(0<=x.c)=True:=V3 hxc.1
  have w3:(x.c<(x.cs.length:Int))=True:=V3 hxc.2
  have w4:(x.c.toNat<4)=True:=V3 (by omega)
  have w5:(0<=x.l)=True:=V3 hxl.1
  have w6:(x.l<(letters.length:Int))=True:=V3 hxl.2
  have w7:(x.l.toNat<letters.length)=True:=V3 (by omega)
  have mm:∀a b:Nat,(m+a=m+b)=(a=b):=λa b=>propext ⟨λh=>by omega,λh=>by omega⟩
  simp only[eE,eC,eN,Nat.reduceEqDiff,↓reduceIte,Nat.reduceAdd,Nat.reduceLeDiff,Nat.reduceMul,Nat.reduceLT,xE,V1,Wi,W9,V2,V4,V0,V6,Py,b0,b1,fr1 hf',bsmS,bsmF,z1,mm,w1,w2,w3,w4,w5,w6,hgl,Nat.sub_zero,c4n,i04,AI]
  have hbeg:([.int .i64 (-1),.int .i64 (-1),.int .i64 (-1),.int .i64 (-1)]:List AVal).set x.c.toNat (eI (at0 letters x.l))=((begC x letters)++List.replicate (4-x.cs.length) (-1)).map eI:=by
   unfold begC
   rw[<-Xz _ _ (by rw[Wx];omega),List.replicate_append_replicate,show x.cs.length+(4-x.cs.length)=4 by omega,List.map_set]
   rfl
  rw[hbeg]
  generalize hHa:hset _ (m+14) _=Ha
  have hfa:AN Ha (m+15):=by
   rw[<-hHa]
   refine AN.hset ?_ (Va _) (by omega)
   refine AN.hset ?_ (Va _) (by omega)
   refine AN.hset ?_ (Va _) (by omega)
   refine AN.hset ?_ (Va _) (by omega)
   refine AN.hset ?_ (Va _) (by omega)
   exact hf'.hset (m:=m+15) (by omega) (by omega)
  have ka:∀i,i<m->hget Ha i=hget H1 i:=λi hi=>by
   rw[<-hHa]
   rw[AA _ _ _ _ (by omega),AA _ _ _ _ (by omega),AA _ _ _ _ (by omega),AA _ _ _ _ (by omega),AA _ _ _ _ (by omega),AA _ _ _ _ (by omega)]
  have hbl:=FA x letters
  have hidq:hget Ha (m+7)=some (.arr 1 (((begC x letters)++List.replicate (4-x.cs.length) (-1)).map eI)):=by
   rw[<-hHa,AA _ _ _ _ (by omega),AC]
  have hHC:HoC k x letters 1 (m+5) (m+12) (m+14) 0 (m+4) (m+7) 4 Ha:=by
   refine⟨(ka 1 (by omega)).trans a1,?_,?_,?_,(ka 0 (by omega)).trans a0,.sl .nil [],?_⟩
   ·grind [AA,AC]
   ·grind [AA,AC]
   ·rw[<-hHa,AC]
   ·rw[<-hHa,AA _ _ _ _ (by omega),AA _ _ _ _ (by omega),AA _ _ _ _ (by omega),AA _ _ _ _ (by omega),AA _ _ _ _ (by omega),AC]
    rfl
  have hC:ClC k x (begC x letters):=by
   refine⟨hbl,λs hs h0=>?_⟩
   have hb:=EI hX hmem
   unfold begC at hs
   rcases Xc hs with q|q
   ·rw[List.mem_replicate]at q;omega
   ·grind [AR,List.length_map]
  have hcall:=t_holds hrd 1 (m+5) (m+12) (m+14) 0 (m+4) (m+7) 4 (by omega) x.cs.length 0 (begC x letters) Ha (m+15) (List.replicate (4-x.cs.length) (-1)) (by omega) hfa hHC hidq hC (λa _ h1 h2=>by
   unfold begC
   rw[WA,Vc (by omega),List.getElem?_replicate,Vk h1])
  rw[c0]at hcall
  refine hcall.mono ?_
  rintro o H4 n4 ⟨hf4,hn4,hk4,rfl,-,-⟩
  have hkeep:∀i,i<m->hget H4 i=hget H1 i:=λi hi=>by
   rw[hk4 i (by omega) (by omega),ka i hi]
  have c2':=(hkeep 2 (by omega)).trans a2
  have c3':=(hkeep 3 (by omega)).trans a3
  have c7':=(hkeep 7 (by omega)).trans hL1
  cases htr:tryP (AR k) x letters x.cs.length 0 (begC x letters)with
  |true=>
   simp only[eE,eC,eN,Nat.reduceEqDiff,↓reduceIte,retK,c2',c3']
   refine⟨⟨l',.busy,none,47,eTe, #[24],J1,J2⟩,by rw[AA _ _ _ _ (by decide),AA _ _ _ _ (by decide)];exact c7',hRf _ _ ⟨?_,?_,AC ..,?_⟩⟩
   ·simp_all [AA,AC]
   ·rw[AA _ _ _ _ (by decide),AC]
   ·grind [Da,List.all_eq_false]
  |false=>
   simp only[eE,eC,eN,Nat.reduceEqDiff,↓reduceIte,retK]
   have hF':∀i,F i->i≠7:=λi hi=>by have:=nF i hi;omega
   refine⟨⟨l',.busy,none,47,eTe, #[24],J1,J2⟩,c7',hRt _ _ ⟨hf4.hset (m:=n4) (Va _) (by omega),by simp only[];omega,nF,?_,?_,?_,?_,AC ..,λl hl=>?_⟩ (λi hi=>?_) (by simp only[];omega)⟩
   ·rw[AA _ _ _ _ (by decide),hkeep 0 (by omega)];exact a0
   ·rw[AA _ _ _ _ (by decide),hkeep 1 (by omega)];exact a1
   ·rw[AA _ _ _ _ (by decide)];exact c2'
   ·rw[AA _ _ _ _ (by decide)];exact c3'
   ·grind
   ·have:=hF i hi
    rw[AA _ _ _ _ (λq=>hF' i hi q.symm),hkeep i (by omega),k1 i (hF' i hi)]
def CG(k:Knd)(x:Lma):AVal:=if BK k x≠0 then .tup [.bool false,.int .i64 (BK k x)]else .tup [.bool (Da (AR k) x),.int .i64 0]
theorem p20(k:Knd)(x:Lma)(hk:FewD k.d)(hx:FewL x):Pur Tryz.prog 20 [Br k,encL x] (CG k x):=by
 have u1:dKn.ok (.agg (AL k))=True:=Ep k
 have u2:dKn.dec (.agg (AL k))=k:=DE k
 simp only[AL,AG,AO,Vv,Vy]at u1 u2
 have v1:dX.ok (.agg (Ah x))=True:=LU x
 have v2:dX.dec (.agg (Ah x))=x:=HF x
 simp only[Ah]at v1 v2
 refine .mk ⟨Am 0 k,BS 0 x,trivial⟩ ?_ (a20 (AE Sr (AF ?_)))
 ·unfold CG
  split<;>exact⟨trivial,trivial,trivial⟩
 unfold CG
 by_cases hv:BK k x=0
 case neg=>
  simp only[eE,eC,eN,eX,reduceCtorEq,Nat.reduceEqDiff,↓reduceIte,Nat.reduceAdd,Nat.reduceLeDiff,Nat.reduceLT,Nat.reduceMod,Nat.reduceSub,Nat.reduceDiv,Vf,Cg,c20,AL,AG,AO,RF,s2,u1,u2,v1,v2,V3 hk,V3 hx,Ve hv]
  exact Wk.refl _
 have hvl:(AR k).length=k.d.syms.length:=by unfold AR;rw[V0]
 simp only[eE,eC,eN,reduceCtorEq,Nat.reduceEqDiff,↓reduceIte,Nat.reduceAdd,Nat.reduceLeDiff,V8,V0,c20,AL,AG,AO,RF,s2,u1,u2,v1,v2,V3 hk,V3 hx,V3 hv,AI]
 rw[hv]
 have hck:BU k=0:=by simp_all [BK]<;>omega
 have hsy:=C0 hck
 generalize hHa:hset _ 3 (AObj.box _)=Ha
 have fa:AN Ha 4:=by
  rw[<-hHa]
  repeat' (first|exact AN.nil.hset (m:=4) (Vi _) (by decide)|refine AN.hset ?_ (Va _) (by decide))
 have f0:hget Ha 0=some (.box (AL k)):=by rw[<-hHa];rfl
 have f1:hget Ha 1=some (.box (Ah x)):=by rw[<-hHa];rfl
 have f2:hget Ha 2=some (.box [.bool false]):=by rw[<-hHa];rfl
 have f3:hget Ha 3=some (.box [.int .i64 0]):=by rw[<-hHa];rfl
 clear hHa
 have hls:x.ls.length<=1000:=by
  have ho:Dw x=true:=by
   unfold BK at hv
   rw[Vc (by simpa using hck)]at hv
   unfold chk at hv
   split at hv
   ·assumption
   ·cases hv
  have:=((Ix x).1 ho).ls.2.2.2
  omega
 refine(EZ (M:=k.d.syms.length) (n:=x.ls.length) fa).mono ?_
 rintro o H1 n1 ⟨rfl,rfl,rfl⟩
 simp only[eE,eN,Nat.reduceEqDiff,↓reduceIte,Nat.reduceAdd,retK,Eb]
 intro l'
 generalize hHb:hset (hset (hset Ha 4 _) _ _) _ (AObj.lp _)=Hb
 have kb:∀i,i<4->hget Hb i=hget Ha i:=λi hi=>by
  rw[<-hHb,AA _ _ _ _ (by omega),AA _ _ _ _ (by omega),AA _ _ _ _ (by omega)]
 have e5:hget Hb 5=some (.box [.int .i64 x.ls.length]):=by rw[<-hHb,AA _ _ _ _ (by decide)];exact AC ..
 have e4:hget Hb 4=some (.box [.int .i64 (AR k).length]):=by rw[<-hHb,AA _ _ _ _ (by decide),AA _ _ _ _ (by decide),hvl];exact AC ..
 have hJ:TeJ k x l' (λi=>i=4\/i=5) [] Hb 8:=by
  refine⟨?_,Va _,λi h=>by omega,(kb 0 (by decide)).trans f0,(kb 1 (by decide)).trans f1,(kb 2 (by decide)).trans f2,(kb 3 (by decide)).trans f3,by rw[<-hHb];exact AC ..,λl h=>by cases h⟩
  rw[<-hHb]
  exact((fa.hset (m:=8) (by decide) (by decide)).hset (Va _) (by decide)).hset (Va _) (by decide)
 have hgen:=Tq (k:=k) (x:=x) (l':=l') (λletters hl=>Lf hk hx hv hl)
 have hM:(AR k).length<=1000:=by omega
 refine(KV hgen hM hls hJ (λi h=>by omega) (.inr rfl) (.inl rfl) e5 e4).mono ?_
 rintro o H' m' ⟨rfl,⟨F',-,hF',hj⟩|⟨s2',s3',sL,hw⟩⟩
 ·obtain⟨fr,lm,nF,h0,h1,h2,h3,hL,ok⟩:=hj
  have hsp:Da (AR k) x=true:=by
   unfold Da
   rw[Vj]
   intro l hl
   rw[ok l hl];rfl
  rw[hsp]
  simp only[eE,eN,reduceCtorEq,Nat.reduceEqDiff,↓reduceIte,Cg,Ea,hL,h2,h3]
  exact Wk.refl _
 ·simp only[eE,eN,reduceCtorEq,Nat.reduceEqDiff,↓reduceIte,Cg,Ea,sL,s2',s3',hw]
  exact Wk.refl _
end Go.AM
