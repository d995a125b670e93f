/-
  The reference of prove: trees · The reference of prove: the first counterexample · The references of sound and prove: le.
  Conditions: none beyond those of its parts.
-/
import Derived.Test.YtepckdbdfhpggaaGreatB15

set_option maxRecDepth 20000
set_option linter.all false
namespace Go.AM
open Go.Proofs Go.Lib
def treeV:Option (List Cas)->AVal
 |none=>.tup [.sl .nil [],.bool false]
 |some t=>.tup [eCs t,.bool true]
def rowTe (k:Knd) (x:Lma) (letters:List Int) (F:List Int->Option (List Cas)) (ok:List Int->Prop):List AVal->AB->Prop×AVal:=λa _=>match a with
 |[K,X,a1,a2]=>(dKn.ok K/\dKn.dec K=k/\dX.ok X/\dX.dec X=x/\a1=eIs letters/\dIs.ok a2/\ok (dIs.dec a2),treeV (F (dIs.dec a2)))
 |_=>(False,.tup [])
def OC (k:Knd) (x:Lma) (letters:List Int):List AVal->AB->Prop×AVal:=λa _=>match a with
 |[K,X,a1,a2]=>(dKn.ok K/\dKn.dec K=k/\dX.ok X/\dX.dec X=x/\a1=eIs letters/\dIs.ok a2/\ClP k x (dIs.dec a2),eI (Dz (AP k) x letters (dIs.dec a2)))
 |_=>(False,.tup [])
theorem rowCoq {k:Knd} {x:Lma} {letters:List Int} (hp:PrC k x letters):∀args H n,(OC k x letters args H).1->Aa Tryz.prog 53 args H n (OC k x letters args H).2:=by
 intro args H n hh
 unfold OC at hh⊢
 split at hh
 ·obtain⟨h1,h2,h3,h4,rfl,h5,h6⟩:=hh
  have w1:=dKn.wk _ h1
  rw[h2]at w1
  have w2:=dX.wk _ h3
  rw[h4]at w2
  refine AO.args ((p53 k x letters _ hp h6).quiet H n) ?_
  rintro g vs ⟨v1,r1,rfl,k1,v2,r2,rfl,k2,v3,r3,rfl,k3,v4,r4,rfl,k4,k5⟩
  exact⟨v1,_,rfl,w1 _ _ k1,v2,_,rfl,w2 _ _ k2,v3,_,rfl,k3,v4,_,rfl,dIs.wk _ h5 _ _ k4,k5⟩
 ·exact hh.elim
section
variable (k:Knd) (x:Lma) (letters:List Int) (F:List Int->Option (List Cas)) (ok:List Int->Prop) (a:List AVal) (H:AB)
end
structure VTe where
 i:Nat
 acc:List Cas
 tk:Tok
 H:AB
 n:Nat
structure ITe (k:Knd) (x:Lma) (G:Int->Option (List Cas)) (p:Int->Bool) (R:Option (List Cas)) (f:Nat) (v:VTe):Prop where
 hi:v.i<=k.d.syms.length
 hn:4<=v.n
 fr:AN v.H v.n
 h0:hget v.H 0=some (.box (AD k))
 h1:hget v.H 1=some (.box (AQ x))
 tok:tkG 2 2 v.H v.tk
 es:v.tk.esz=2
 le:v.acc.length<=v.i*D0 f
 he:R=(catT G (((symI k.d.syms.length).drop v.i).filter p)).map λt=>v.acc++t
end Go.AM
namespace Go.AM
open Go.Proofs Go.Lib
section
variable (k:Knd) (x:Lma) (letters:List Int) (j:Nat) (at':Int) (F:List Int->Option (List Int)) (ok:List Int->Prop) (a:List AVal) (H:AB)
end
structure FlC (k:Knd) (x:Lma) (cells:List Int):Prop where
 len:cells.length=x.cs.length
 sy:∀s∈cells,okSy k s
theorem FlC.cl {k:Knd} {x:Lma} {cells:List Int} (h:FlC k x cells):ClP k x cells:=⟨⟨h.len,λs hs _=>h.sy s hs⟩,λs hs=>by have:=(h.sy s hs).1;omega⟩
theorem Vt {vals:List Int} {x:Lma} {letters cells:List Int}:decide (Dz vals x letters cells<0)=A1 vals x letters cells:=by
 unfold Dz
 cases hf:C9 vals x letters cells with
 |none=>rw[Cs.1 hf];rfl
 |some c=>
  cases hh:A1 vals x letters cells with
  |true=>rw[Cs.2 hh]at hf;cases hf
  |false=>exact Xr (by simp only[];omega)
end Go.AM
namespace Go.AM
open Go.Proofs Go.Lib
structure RfK (k:Knd):Prop where
 kn:FewKn k
 rg:k.d.regs.length<999999000
end Go.AM
namespace Go.AM
open Go.Proofs Go.Lib
end Go.AM
namespace Go.AM
open Go.Proofs Go.Lib
section
variable (k:Knd) (x:Lma) (a:List AVal) (H:AB)
end
structure VRp where
 j:Nat
 ts:List (List Cas)
 tk:Tok
 H:AB
 n:Nat
structure IRp (k:Knd) (x:Lma) (A:List (List Int)) (F:List Int->Option (List Cas)) (v:VRp):Prop where
 hj:v.j<=A.length
 fr:AN v.H v.n
 hn:5<=v.n
 h0:hget v.H 0=some (.box (AD k))
 h1:hget v.H 1=some (.box (AQ x))
 h2:hget v.H 2=some (.box [.sl .nil []])
 h4:hget v.H 4=some (.box [.sl v.tk (v.ts.map eCs)])
 tok:tkG 1 5 v.H v.tk
 es:v.tk.esz=1\/v.ts=[]
 he:allT F A=(allT F (A.drop v.j)).map λt=>v.ts++t
 ln:v.ts.length=v.j
 le:Bk v.ts<=v.j*70000
end Go.AM
namespace Go.AM
open Go.Proofs Go.Lib
section
variable (k:Knd) (x:Lma) (a:List AVal) (H:AB)
end
theorem p41 (a b:List Int) (ha:few a):Pur Tryz.prog 41 [eIs a,eIs b] (.bool (decide (a=b))):=by
 refine .mk ⟨⟨trivial,CP 0 a⟩,⟨trivial,CP 0 b⟩,trivial⟩ trivial (a41 (AF AH.tnil (AG ?_)))
 have hal:a.length<1000000000:=ha
 by_cases hl:a.length=b.length
 case neg=>
  simp only[eE,eC,eN,reduceCtorEq,Nat.reduceEqDiff,↓reduceIte,Nat.reduceAdd,Xe,X0,c41,FZ hl,Xe]
  exact(Xr λe=>hl (by rw[e])).symm
 simp only[eE,eC,eN,reduceCtorEq,Nat.reduceEqDiff,↓reduceIte,Nat.reduceAdd,X7,X0,c41,Fa hl]
 refine AU (λi:Nat=>⟨[(0,true,eIs a),(1,true,eIs b),(5,true,.int .i64 i)],hnil,0⟩) (λi=>i<=a.length/\∀j,j<i->a[j]?=b[j]?) (λi=>a.length-i) 0 rfl ⟨Xg _,λj h=>by omega⟩ ?_
 rintro i ⟨hi,hall⟩
 by_cases hlt:i<a.length
 case neg=>
  simp only[eE,eC,eN,reduceCtorEq,Nat.reduceEqDiff,↓reduceIte,X0,lt_F hlt]
  exact(Xv (Cl hl λj hj=>hall j (by omega))).symm
 have hltb:i<b.length:=by omega
 have hga:=X5 hlt
 have hgb:=X5 hltb
 have e:=AI (k:=i) (by omega)
 by_cases hs:a[i]=b[i]
 ·simp only[eE,eC,eN,reduceCtorEq,Nat.reduceEqDiff,↓reduceIte,Int.reduceEq,X7,X2,X3,X4,X0,X6,lt_T hlt,lt_T hltb,hga,hgb,hs,e]
  refine .mk (i+1) rfl ⟨hlt,λj h=>?_⟩ (by omega)
  by_cases q:j=i
  ·subst q;rw[hga,hgb,hs]
  ·exact hall j (by omega)
 ·simp only[eE,eC,eN,reduceCtorEq,Nat.reduceEqDiff,↓reduceIte,Xe,X2,X3,X4,X0,X6,lt_T hlt,lt_T hltb,hga,hgb,hs]
  exact(Xr λq=>hs (by simp [q])).symm
def Tzx:Tab:=tadd 41 (s2 dIs dIs (λa _=>few a) λa b=>.bool (decide (a=b))) tnil
theorem Tzx_ok:AH Tryz.prog Tzx:=AH.tnil.add (q2 p41)
theorem Tzx_e (a:List AVal) (H:AB):Tzx 41 a H=s2 dIs dIs (λa _=>few a) (λa b=>.bool (decide (a=b))) a H:=rfl
theorem p17 (a b:List Int) (ha:few a):Pur Tryz.prog 17 [eIs a,eIs b] (.bool (decide (a=b))):=by
 refine .mk ⟨AR 0 a,AR 0 b,trivial⟩ trivial (a17 (AF Tzx_ok (AG ?_)))
 simp only[eE,eN,reduceCtorEq,Nat.reduceEqDiff,↓reduceIte,Nat.reduceAdd,c17,Tzx_e,s2,Ap,Ak,X1 ha]
def Tzh (k:Knd) (x:Lma) (letters:List Int):Tab:=tadd 47 (s1 dX FewL λx=>eI (chk x)) (tadd 52 (s3 dKn dIs dI (λ_ l _=>few l) λk l n=>.bool (okSs k l n)) (tadd 53 (OC k x letters) tnil))
theorem Tzh_ok {k:Knd} {x:Lma} {letters:List Int} (h:PrC k x letters):AH Tryz.prog (Tzh k x letters):=((AH.tnil.add (rowCoq h)).add (q3 λk l n h=>p52 k l n h)).add (q1 λx h=>p47 x h)
section
variable (k:Knd) (x:Lma) (letters:List Int) (a:List AVal) (H:AB)
theorem Tzh_z:Tzh k x letters 47 a H=s1 dX FewL (λx=>eI (chk x)) a H:=rfl
theorem Tzh_s:Tzh k x letters 52 a H=s3 dKn dIs dI (λ_ l _=>few l) (λk l n=>.bool (okSs k l n)) a H:=rfl
theorem Tzh_c:Tzh k x letters 53 a H=OC k x letters a H:=rfl
end
theorem Uj {k:Knd} {l:List Int} {n:Nat} (h1:∀s∈l,okSy k s) (h2:l.length=n):okSs k l (n:Int)=true:=by
 unfold okSs
 rw[X9,Xd,Xj]
 exact⟨λs hs=>by rw[X9,Xd,Xd];exact h1 s hs,by rw[h2]⟩
theorem p25 (k:Knd) (x:Lma) (letters cells:List Int) (h:PrC k x letters) (hc:FlC k x cells):Pur Tryz.prog 25 [A3 k,encL x,eIs letters,eIs cells] (.bool (A1 (AP k) x letters cells)):=by
 have u1:dKn.ok (.agg (AD k))=True:=Bq k
 have u2:dKn.dec (.agg (AD k))=k:=BH k
 simp only[AD,AE,AK,Xl,Xm]at u1 u2
 have v1:dX.ok (.agg (AQ x))=True:=Fk x
 have v2:dX.dec (.agg (AQ x))=x:=DB x
 simp only[AQ]at v1 v2
 refine .mk ⟨AX 0 k,Ac 0 x,AR 0 _,AR 0 _,trivial⟩ trivial (a25 (AF (Tzh_ok h) (AG ?_)))
 have hchk:chk x=0:=by unfold chk;rw[Xh ((Jp x).2 h.ox)]
 have hx4:=h.ox.cs.2.2.2
 have hl3:=h.ox.ls.2.2.2
 have hcl:=hc.len
 have hll:=h.rd.ll
 have f1:few cells:=by show cells.length<_;omega
 have f2:few letters:=by show letters.length<_;omega
 have o1:=Uj hc.sy hcl
 have o2:=Uj (k:=k) (l:=letters) (λs hs=>(EX h.lt).2.2 s hs) hll
 have hlt:=Vt (vals:=AP k) (x:=x) (letters:=letters) (cells:=cells)
 simp only[eE,eC,eN,reduceCtorEq,Nat.reduceEqDiff,↓reduceIte,Nat.reduceAdd,Nat.reduceLeDiff,X0,c25,AD,AE,AK,Tzh_z,Tzh_s,Tzh_c,s1,s3,OC,u1,u2,v1,v2,X1 h.fx,hchk,Ap,Ak,Bv,A8,X1 f1,X1 f2,o1,o2,X1 hc.cl,Zt,hlt]
end Go.AM
namespace Go.AM
open Go.Proofs Go.Lib
structure DnC (p:Prm) (letters cells:List Int):Prop where
 c:0<=p.c/\p.c<(cells.length:Int)
 ls:few p.ls/\∀c∈p.ls,0<=c/\c<(letters.length:Int)
end Go.AM
namespace Go.AM
open Go.Proofs Go.Lib
section
variable (k:Knd) (x:Lma) (letters:List Int) (F:List Int->List Cas->List Cas×Bool) (ok:List Int->List Cas->Prop) (a:List AVal) (H:AB)
end
structure VRe where
 i:Nat
 l:List Cas
 ok:Bool
end Go.AM
namespace Go.AM
open Go.Proofs Go.Lib
section
variable (k:Knd) (x:Lma) (a:List AVal) (H:AB)
end
end Go.AM
namespace Go.AM
open Go.Proofs Go.Lib
end Go.AM
namespace Go.AM
open Go.Proofs Go.Lib
def decLb:AVal->Lbr
 | .agg [a,b]=>⟨IP decX a,IP N8 b⟩
 |_=>⟨[],[]⟩
theorem KK (l:Lbr):decLb (E7 l)=l:=by
 show Lbr.mk ((l.ls.map encL).map decX) ((l.pf.map Bg).map N8)=l
 rw[B2 Dt,B2 D9]
def dLb:Dc Lbr:=dWk E7 decLb
theorem dLb_ok (l:Lbr):dLb.ok (E7 l)=True:=Ez KK l
theorem Vu (l:Lbr):dLb.dec (E7 l)=l:=KK l
section
variable (k:Knd) (l:Lbr) (a:List AVal) (H:AB)
end
end Go.AM
