/-
  The examples of kinds.
  Conditions: none beyond those of its parts.
-/
import Derived.Test.YtbngedlokkndkaaGreatDoorB21
import Derived.Test.YtbngedlokkndkaaGreatDoorB13

set_option maxRecDepth 20000
set_option linter.all false
namespace Go.AM
open Go.Lib Go.Proofs Go.Proofs.Tryz
mutual
def Yj:zk->Nat
 | .int _=>11
 | .text s=>11+s.length
 | .list l=>11+szVs l
def szVs:List zk->Nat
 |[]=>0
 |v::l=>Yj v+szVs l
end
mutual
def RA:zk->Bool
 | .int n=>decide (-9223372036854775808<=n)&&decide (n<9223372036854775808)
 | .text s=>decide (s.length<2000000)
 | .list l=>decide (l.length<100000)&&fewVBs l
def fewVBs:List zk->Bool
 |[]=>true
 |v::l=>RA v&&fewVBs l
end
mutual
theorem RB:∀v,RA v=true->FewV v
 | .int n,h=>by
  simp only[RA,oo,oC]at h;exact .int h.1 h.2
 | .text s,h=>.text (pg h)
 | .list l,h=>by
  simp only[RA,oo,oC]at h;exact .list h.1 (fewVBs_ok l h.2)
theorem fewVBs_ok:∀l,fewVBs l=true->∀x∈l,FewV x
 |[],_,x,hx=>by cases hx
 |v::l,h,x,hx=>by
  simp only[fewVBs,oo]at h;rcases ph.1 hx with hx|hx
  ·rw[hx];exact RB v h.1
  ·exact fewVBs_ok l h.2 x hx
end
theorem RD:∀l:List zk,(∀x∈l,(B7 x).length<=Yj x)->(tC l).length<=szVs l
 |[],_=>od _
 |v::l,h=>by
  rw[tC,szVs,ou];exact Nat.add_le_add (h v (po ..)) (RD l λx hx=>h x (pE _ hx))
def UZ{v:zk}(hv:FewV v):(B7 v).length<=Yj v:=by
 induction hv with
 | @int n h1 h2=>rw[B7,Yj,oI];have:=Ce (Lo h1 h2);omega
 | @text s h=>rw[B7,Yj,oI,ou];have:=Ce (u:=s.length) zo;omega
 | @list l h hx ih=>rw[B7,Yj,oI,ou];have:=Ce (u:=l.length) zo;have:=RD l ih;omega
def Ua{k:uV}(h1:C1 k.d=true)(h2:RA (F5 k.d)=true)(h3:decide (Cy (F5 k.d)<=16)=true)(h4:decide (Yj (F5 k.d)<3900000000)=true):DgOK k:=by
 have hv:=RB _ h2;unfold C1 FW Fy at h1;simp only[oo,oC,oM]at h1;obtain⟨⟨⟨⟨⟨⟨a1,a2⟩,a3⟩,a4⟩,a5⟩,a6⟩,a7⟩:=h1;exact⟨⟨by show _<_;omega,by show _<_;omega,by show _<_;omega,λr hr=>⟨by show _<_;have:=(a6 r hr).1;omega,λl hl=>by show _<_;have:=(a6 r hr).2 l hl;omega⟩,by show _<_;omega,by show _<_;omega,λr hr=>⟨by show _<_;have:=a7 r hr;omega,by show _<_;have:=a7 r hr;omega⟩⟩,⟨hv,pg h3⟩,by have:=UZ hv;have:=pg h4;omega⟩
def dg1:DgOK NV:=Ua zd zd zd zd
def dg0:DgOK DY:=Ua zd zd zd zd
def aA(s:List UInt8):Prop×Fs:=if s=nZ then(True,.sH [BM NV,.int .i64 0,.int .i64 0])else if s=na then(True,.sH [BM DY,.int .i64 0,.int .i64 170])else if s=nf then(True,.sH [BM DY,.int .i64 0,.int .i64 160])else if s=kA then(True,.sH [BM DY,.int .i64 89,.int .i64 150])else(False,.sH [])
def nh:List Fs->AB->Prop×Fs:=λa _=>match a with
 |[.str s]=>aA s
 |_=>(False,.sH [])
def qCm:∀args H n,(nh args H).1->Ad prog 17 args H n (nh args H).2:=by
 intro args H n hh;unfold nh aA at hh⊢;split at hh
 ·rename_i s;by_cases h1:s=nZ
  ·subst h1;rw[oE rfl];exact rm1.quiet H n
  rw[og h1]at hh⊢;by_cases h2:s=na
  ·subst h2;rw[oE rfl];exact rm2.quiet H n
  rw[og h2]at hh⊢;by_cases h3:s=nf
  ·subst h3;rw[oE rfl];exact rm3.quiet H n
  rw[og h3]at hh⊢;by_cases h4:s=kA
  ·subst h4;rw[oE rfl];exact rm4.quiet H n
  rw[og h4]at hh;exact hh.elim
 ·exact hh.elim
def cmR_1:aA nZ=(True,.sH [BM NV,.int .i64 0,.int .i64 0]):=by unfold aA;rw[oE rfl]
def cmR_2:aA na=(True,.sH [BM DY,.int .i64 0,.int .i64 170]):=by unfold aA;rw[og zd,oE rfl]
def cmR_3:aA nf=(True,.sH [BM DY,.int .i64 0,.int .i64 160]):=by unfold aA;rw[og zd,og zd,oE rfl]
def cmR_4:aA kA=(True,.sH [BM DY,.int .i64 89,.int .i64 150]):=by unfold aA;rw[og zd,og zd,og zd,oE rfl]
def p18(a b c:List UInt8)(h:a.length+b.length+c.length<1000):A6 prog 18 [.str a,.str b,.str c] (.str (Z8 a b c)):=by
 refine .mk ⟨zt,zt,zt,zt⟩ zt (c18.a (AE AG.sE (AF ?_)));simp only[eE,eN,seval,c18];simp only[ou,oI,pd]
 and_intros<;>first|omega|rfl
def nj:List Fs->AB->Prop×Fs:=λa _=>match a with
 |[.str a,.str b,.str c]=>(a.length+b.length+c.length<1000,.str (Z8 a b c))
 |_=>(False,.sH [])
def qEx:∀args H n,(nj args H).1->Ad prog 18 args H n (nj args H).2:=by
 intro args H n hh;unfold nj at hh⊢;split at hh
 ·exact(p18 _ _ _ hh).quiet H n
 ·exact hh.elim
def fb:Dc (List (List Int)):=d9 Bm (Wf LN)
abbrev lsL:Fs:=.sl (.exact 1) [.sl (.exact 1) [.int .i64 0,.int .i64 1],.sl (.exact 1) [.int .i64 2,.int .i64 3]]
def kH:fb.ok (Bm [[0,1],[2,3]])=True:=o7 (show Wk _ (Bm [[0,1],[2,3]])from Wk.refl _)
theorem cQ:fb.dec (Bm [[0,1],[2,3]])=[[0,1],[2,3]]:=rfl
def kI:fb.ok lsL=True:=o7 (show Wk lsL (Bm [[0,1],[2,3]])from Wk.slx (.inl rfl) (.cons (Wk.sl (.inl rfl)) (.cons (Wk.sl (.inl rfl)) .nil)))
theorem cR:fb.dec lsL=[[0,1],[2,3]]:=rfl
theorem Pe:∀l:List UInt8,ED (List.replicate l.length 0) (l.map eB) (l.map eB)
 |[]=>trivial
 |b::l=>⟨rfl,Pe l⟩
theorem Pf:∀l:List UInt8,tN (l.map eB) (l.map eB)=true
 |[]=>rfl
 |b::l=>by rw[oL,tN,Pf l,Bool.and_true];simp [HQ]
noncomputable def Pg:Bk:=AJ 18 nj (AJ 17 nh (AJ 15 (s1 dD zy A9) (AJ 8 (s1 DO (λk=>zy k.d/\DgOK k) B1) (AJ 9 (s1 DO (λk=>Gm k.d/\uy k/\DgOK k) B1) (AJ 10 (s1 DO (λk=>zy k.d) λk=>.int .i64 (Cq k)) (AJ 12 (s2 DO DO (λ_ b=>uL b) λa b=>.bool (decide (a=b))) (AJ 19 (s2 fb fb (λa _=>sR a/\∀x∈a,wide x) λa b=>.bool (decide (a=b))) sE)))))))
def cS:AG prog Pg:=(((((((AG.sE.add (q2 λa b h=>p19 a b h.1 h.2)).add (q2 λa b h=>p12 a b h)).add (q1 λk h=>p10 k h)).add (q1 λk h=>p9 k h.1 h.2.1 h.2.2)).add (q1 λk h=>p8 k h.1 h.2)).add (q1 λd h=>aZ d h)).add qCm).add qEx
section
variable (a:List Fs) (H:AB)
theorem kJ:Pg 18 a H=nj a H:=rfl
theorem kK:Pg 17 a H=nh a H:=rfl
theorem kM:Pg 15 a H=s1 dD zy A9 a H:=rfl
theorem kN:Pg 8 a H=s1 DO (λk=>zy k.d/\DgOK k) B1 a H:=rfl
theorem kO:Pg 9 a H=s1 DO (λk=>Gm k.d/\uy k/\DgOK k) B1 a H:=rfl
theorem kP:Pg 10 a H=s1 DO (λk=>zy k.d) (λk=>.int .i64 (Cq k)) a H:=rfl
theorem kQ:Pg 12 a H=s2 DO DO (λ_ b=>uL b) (λa b=>.bool (decide (a=b))) a H:=rfl
theorem kR:Pg 19 a H=s2 fb fb (λa _=>sR a/\∀x∈a,wide x) (λa b=>.bool (decide (a=b))) a H:=rfl
end
abbrev zD:Fs:=.agg [.str [],.int .i64 0,.int .i64 0,.int .i64 0,.int .i64 0,.sl .nil [],.sl .nil [],.sl .nil [],.sl .nil [],.sl .nil []]
abbrev zK:Fs:=.agg [.str [],.int .i64 0,.int .i64 0,.int .i64 0,.int .i64 0,.sl .nil [],.sl .nil [],.sl .nil [],.sl .nil [],.sl .nil [],.int .i64 0,.int .i64 0,.int .i64 0,.sl .nil [],.sl .nil [],.sl .nil [],.sl .nil []]
def zD_ok:dD.ok zD=True:=o7 (show Wk zD (Ba G6)from Wk.agg (.cons (Wk.refl _) (.cons (Wk.refl _) (.cons (Wk.refl _) (.cons (Wk.refl _) (.cons (Wk.refl _) (.cons (Wk.sl (.inr rfl)) (.cons (Wk.sl (.inr rfl)) (.cons (Wk.sl (.inr rfl)) (.cons (Wk.sl (.inr rfl)) (.cons (Wk.sl (.inr rfl)) .nil)))))))))))
theorem kS:dD.dec zD=G6:=rfl
def zK_ok:DO.ok zK=True:=o7 (show Wk zK (BM DY)from Wk.agg (.cons (Wk.refl _) (.cons (Wk.refl _) (.cons (Wk.refl _) (.cons (Wk.refl _) (.cons (Wk.refl _) (.cons (Wk.sl (.inr rfl)) (.cons (Wk.sl (.inr rfl)) (.cons (Wk.sl (.inr rfl)) (.cons (Wk.sl (.inr rfl)) (.cons (Wk.sl (.inr rfl)) (.cons (Wk.refl _) (.cons (Wk.refl _) (.cons (Wk.refl _) (.cons (Wk.sl (.inr rfl)) (.cons (Wk.sl (.inr rfl)) (.cons (Wk.sl (.inr rfl)) (.cons (Wk.sl (.inr rfl)) .nil))))))))))))))))))
theorem kT:DO.dec zK=DY:=rfl
def WA:B1 NV= .sH [Vh (CJ JQ (B7 (F5 NV.d))),.int .i64 0]:=by unfold B1;rw[og (by rw[ck1];decide)]
def WB:B1 DY= .sH [KI,.int .i64 180]:=by unfold B1;rw[oE (by rw[ck0];decide)]
def p6:A6 prog 6 [] (.bool true):=by
 refine .mk zt trivial (a6 (AE cS (AF ?_)));have u1:DO.ok (.agg (Ab NV))=True:=FY NV;have u2:DO.dec (.agg (Ab NV))=NV:=Dq NV;have hb1:Gm NV.d:=⟨MS _ zd,zd⟩;have hd0:zy G6:=MS _ zd;have hk1:uL NV:=⟨hb1.1,zd,zd,zd,zd,zd⟩;have e1:Z8 [49] [114,111,119,115] [59]=nZ:=rfl;have e2:Z8 [48] [114,111,119,115] [59]=na:=rfl;have e3:Z8 [49] [108,105,110,101,115] [59]=nf:=rfl;have e4:Z8 [49] [114,111,119,115] []=kA:=rfl;simp only[Ab,AK,AL,pp,oW]at u1 u2;have l8:NV.ls.length=8:=rfl;have l4:NV.g.cells.length=4:=rfl;have lx:NV.ls[1]?=some [[0,1],[2,3]]:=rfl;have e5:kA.length=90:=rfl;have n8:((8:Nat):Int)=8:=rfl;have n4:((4:Nat):Int)=4:=rfl;have n90:((90:Nat):Int)=90:=rfl;have hkr:uy NV:=Xj hk1;simp only[eZ,seval,o9,eY,c6,kJ,kK,kM,kN,kO,kP,kQ,kR,nj,nh,e1,e2,e3,e4,e5,n8,n4,n90,cmR_1,cmR_2,cmR_3,cmR_4,s1,s2,zD_ok,kS,zK_ok,kT,u1,u2,bv0,WB,WA,KI,o7 dg0,o7 dg1,o7 hd0,o7 hb1,o7 hb1.1,o7 hkr,ck1,ck0,l8,l4,lx,HY,kH,cQ,kI,cR,AH];have hw:89=IntKind.i64.wrap (90-1):=zd
 have ht:List.take 32 ((CJ JQ (B7 (F5 NV.d))).map eB)=(CJ JQ (B7 (F5 NV.d))).map eB:=oY (by rw[o6,HY];exact od _);have hc:=Pe (CJ JQ (B7 (F5 NV.d)));rw[HY]at hc;rw[ht];refine⟨λ_=>hc,λ_=>⟨zd,λx hx=>?_⟩,λ_=>L9,hw,Pf _⟩;rcases ph.1 hx with rfl|hx
 ·decide
 ·rw[pV.1 hx];decide
end Go.AM
