/-
  The reference of prove: trees · The reference of prove: the first counterexample · The references of sound and prove: le.
  Conditions: none beyond those of its parts.
-/
import Derived.Test.YtepckdbdfhpggaaGreatB15

set_option maxRecDepth 20000
set_option linter.all false
namespace Go.AM
open Go.Proofs Go.Lib
section
variable (k:Knd) (x:Lma) (letters:List Int) (F:List Int->Option (List Cas)) (ok:List Int->Prop) (a:List AVal) (H:AB)
end
structure VTe where
 i:Nat
 acc:List Cas
 tk:Tok
 H:AB
 n:Nat
structure ITe (k:Knd) (x:Lma) (G:Int->Option (List Cas)) (p:Int->Bool) (R:Option (List Cas)) (f:Nat) (v:VTe):Prop where
 hi:v.i<=k.d.syms.length
 hn:4<=v.n
 fr:AN v.H v.n
 h0:hget v.H 0=some (.box (AE k))
 h1:hget v.H 1=some (.box (AT x))
 tok:tkG 2 2 v.H v.tk
 es:v.tk.esz=2
 le:v.acc.length<=v.i*Dz f
 he:R=(catT G (((symI k.d.syms.length).drop v.i).filter p)).map λt=>v.acc++t
end Go.AM
namespace Go.AM
open Go.Proofs Go.Lib
section
variable (k:Knd) (x:Lma) (letters:List Int) (j:Nat) (at':Int) (F:List Int->Option (List Int)) (ok:List Int->Prop) (a:List AVal) (H:AB)
end
structure FlC (k:Knd) (x:Lma) (cells:List Int):Prop where
 len:cells.length=x.cs.length
 sy:∀s∈cells,okSy k s
end Go.AM
namespace Go.AM
open Go.Proofs Go.Lib
structure RfK (k:Knd):Prop where
 kn:FewKn k
 rg:k.d.regs.length<999999000
end Go.AM
namespace Go.AM
open Go.Proofs Go.Lib
end Go.AM
namespace Go.AM
open Go.Proofs Go.Lib
section
variable (k:Knd) (x:Lma) (a:List AVal) (H:AB)
end
structure VRp where
 j:Nat
 ts:List (List Cas)
 tk:Tok
 H:AB
 n:Nat
structure IRp (k:Knd) (x:Lma) (A:List (List Int)) (F:List Int->Option (List Cas)) (v:VRp):Prop where
 hj:v.j<=A.length
 fr:AN v.H v.n
 hn:5<=v.n
 h0:hget v.H 0=some (.box (AE k))
 h1:hget v.H 1=some (.box (AT x))
 h2:hget v.H 2=some (.box [.sl .nil []])
 h4:hget v.H 4=some (.box [.sl v.tk (v.ts.map eCs)])
 tok:tkG 1 5 v.H v.tk
 es:v.tk.esz=1\/v.ts=[]
 he:allT F A=(allT F (A.drop v.j)).map λt=>v.ts++t
 ln:v.ts.length=v.j
 le:BM v.ts<=v.j*70000
end Go.AM
namespace Go.AM
open Go.Proofs Go.Lib
section
variable (k:Knd) (x:Lma) (a:List AVal) (H:AB)
end
theorem p41 (a b:List Int) (ha:few a):Pur Tryz.prog 41 [eIs a,eIs b] (.bool (decide (a=b))):=by
 refine .mk ⟨⟨trivial,Ck 0 a⟩,⟨trivial,Ck 0 b⟩,trivial⟩ trivial (a41 (AF AH.tnil (AG ?_)))
 have hal:a.length<1000000000:=ha
 by_cases hl:a.length=b.length
 case neg=>
  simp only[eE,eC,eN,reduceCtorEq,Nat.reduceEqDiff,↓reduceIte,Nat.reduceAdd,Xe,X0,c41,FU hl,Xe]
  exact(Xr λe=>hl (by rw[e])).symm
 simp only[eE,eC,eN,reduceCtorEq,Nat.reduceEqDiff,↓reduceIte,Nat.reduceAdd,X7,X0,c41,FV hl]
 refine AU (λi:Nat=>⟨[(0,true,eIs a),(1,true,eIs b),(5,true,.int .i64 i)],hnil,0⟩) (λi=>i<=a.length/\∀j,j<i->a[j]?=b[j]?) (λi=>a.length-i) 0 rfl ⟨Xh _,λj h=>by omega⟩ ?_
 rintro i ⟨hi,hall⟩
 by_cases hlt:i<a.length
 case neg=>
  simp only[eE,eC,eN,reduceCtorEq,Nat.reduceEqDiff,↓reduceIte,X0,lt_F hlt]
  exact(Xz (Cl hl λj hj=>hall j (by omega))).symm
 have hltb:i<b.length:=by omega
 have hga:=X5 hlt
 have hgb:=X5 hltb
 have e:=AL (k:=i) (by omega)
 by_cases hs:a[i]=b[i]
 ·simp only[eE,eC,eN,reduceCtorEq,Nat.reduceEqDiff,↓reduceIte,Int.reduceEq,X7,X2,X3,X4,X0,X6,lt_T hlt,lt_T hltb,hga,hgb,hs,e]
  refine .mk (i+1) rfl ⟨hlt,λj h=>?_⟩ (by omega)
  by_cases q:j=i
  ·subst q;rw[hga,hgb,hs]
  ·exact hall j (by omega)
 ·simp only[eE,eC,eN,reduceCtorEq,Nat.reduceEqDiff,↓reduceIte,Xe,X2,X3,X4,X0,X6,lt_T hlt,lt_T hltb,hga,hgb,hs]
  exact(Xr λq=>hs (by simp [q])).symm
def Tzx:Tab:=tadd 41 (s2 dIs dIs (λa _=>few a) λa b=>.bool (decide (a=b))) tnil
theorem Tzx_ok:AH Tryz.prog Tzx:=AH.tnil.add (q2 p41)
theorem Tzx_e (a:List AVal) (H:AB):Tzx 41 a H=s2 dIs dIs (λa _=>few a) (λa b=>.bool (decide (a=b))) a H:=rfl
theorem p17 (a b:List Int) (ha:few a):Pur Tryz.prog 17 [eIs a,eIs b] (.bool (decide (a=b))):=by
 refine .mk ⟨AW 0 a,AW 0 b,trivial⟩ trivial (a17 (AF Tzx_ok (AG ?_)))
 simp only[eE,eN,reduceCtorEq,Nat.reduceEqDiff,↓reduceIte,Nat.reduceAdd,c17,Tzx_e,s2,Ax,At,X1 ha]
section
variable (k:Knd) (x:Lma) (letters:List Int) (a:List AVal) (H:AB)
end
end Go.AM
namespace Go.AM
open Go.Proofs Go.Lib
structure DnC (p:Prm) (letters cells:List Int):Prop where
 c:0<=p.c/\p.c<(cells.length:Int)
 ls:few p.ls/\∀c∈p.ls,0<=c/\c<(letters.length:Int)
end Go.AM
namespace Go.AM
open Go.Proofs Go.Lib
section
variable (k:Knd) (x:Lma) (letters:List Int) (F:List Int->List Cas->List Cas×Bool) (ok:List Int->List Cas->Prop) (a:List AVal) (H:AB)
end
structure VRe where
 i:Nat
 l:List Cas
 ok:Bool
end Go.AM
namespace Go.AM
open Go.Proofs Go.Lib
section
variable (k:Knd) (x:Lma) (a:List AVal) (H:AB)
end
end Go.AM
namespace Go.AM
open Go.Proofs Go.Lib
end Go.AM
namespace Go.AM
open Go.Proofs Go.Lib
def decLb:AVal->Lbr
 | .agg [a,b]=>⟨IL decX a,IL N8 b⟩
 |_=>⟨[],[]⟩
theorem KK (l:Lbr):decLb (C0 l)=l:=by
 show Lbr.mk ((l.ls.map encL).map decX) ((l.pf.map BY).map N8)=l
 rw[Bz Dr,Bz D7]
def dLb:Dc Lbr:=dWk C0 decLb
theorem P5 (l:Lbr):dLb.ok (C0 l)=True:=Et KK l
theorem Ld (l:Lbr):dLb.dec (C0 l)=l:=KK l
section
variable (k:Knd) (l:Lbr) (a:List AVal) (H:AB)
end
end Go.AM
