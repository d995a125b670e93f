/-
  Declarations compared · Declarations compared: regions, rules, all of it · Grids: a list copied, a grid made, a grid che.
  Conditions: none beyond those of its parts.
-/
import Derived.Test.YtepckdbdfhpggaaGreatB8
import Derived.Test.YtepckdbdfhpggaaGreatB6
import Derived.Test.YtepckdbdfhpggaaGreatB5

set_option maxRecDepth 20000
set_option linter.all false
set_option maxHeartbeats 1000000
namespace Go.AM
open Go.Proofs Go.Lib
theorem Dp {a b:Bs}:scmp .neq a b= !decide (a=b):=rfl
theorem FF {a b:Bs}:scmp .eql a b=decide (a=b):=rfl
theorem Ww {a b:DSym}:a=b↔a.nm=b.nm/\a.v=b.v:=by cases a;cases b;simp only[DSym.mk.injEq]
theorem Wx {a b:DClu}:a=b↔a.nm=b.nm/\a.on=b.on/\a.fam=b.fam/\a.ty=b.ty/\a.lo=b.lo/\a.hi=b.hi:=by cases a;cases b;simp only[DClu.mk.injEq]
theorem Wy {a b:DReg}:a=b↔a.nm=b.nm/\a.ls=b.ls:=by cases a;cases b;simp only[DReg.mk.injEq]
theorem Uw (s t:DSym):ceqs [.str s.nm,.int .i64 s.v] [.str t.nm,.int .i64 t.v]=decide (s=t):=by
 rw[Y8,Xf,Ww];simp [ceqs,ceq]
theorem Ux (s t:DClu):ceqs [.str s.nm,.str s.on,.int .i64 s.fam,.int .i64 s.ty,.int .i64 s.lo,.int .i64 s.hi] [.str t.nm,.str t.on,.int .i64 t.fam,.int .i64 t.ty,.int .i64 t.lo,.int .i64 t.hi]=decide (s=t):=by
 rw[Y8,Xf,Wx];simp [ceqs,ceq]
theorem Cn {p:Prop} [Decidable p] (h:p):decide p=true:=Xz h
theorem B2 {p:Prop} [Decidable p] (h:¬p):decide p=false:=Xr h
theorem p121 (a b:List Int) (hb:wide b):Pur Tryz.prog 121 [eIs a,eIs b] (.bool (decide (a=b))):=by
 refine .mk ⟨AW 0 a,AW 0 b,trivial⟩ trivial (a121 (AF AH.tnil (AG ?_)))
 by_cases hl:a.length=b.length
 case neg=>
  simp only[eE,eC,eN,reduceCtorEq,Nat.reduceEqDiff,↓reduceIte,Nat.reduceAdd,Xe,X0,c121,FU hl,Xe]
  exact(Xr λe=>hl (by rw[e])).symm
 simp only[eE,eC,eN,reduceCtorEq,Nat.reduceEqDiff,↓reduceIte,Nat.reduceAdd,X7,X0,c121,FV hl]
 refine AU (λi:Nat=>⟨[(0,true,eIs a),(1,true,eIs b),(12,true,.int .i64 a.length),(13,true,.int .i64 i)],hnil,0⟩) (λi=>i<=a.length/\∀j,j<i->a[j]?=b[j]?) (λi=>a.length-i) 0 rfl ⟨Xh _,λj hj=>by omega⟩ ?_
 rintro i ⟨hi,hall⟩
 by_cases hlt:i<a.length
 case neg=>
  simp only[eE,eC,eN,reduceCtorEq,Nat.reduceEqDiff,↓reduceIte,lt_F hlt]
  exact(Xz (Cl hl λj hj=>hall j (by omega))).symm
 have hltb:i<b.length:=by omega
 have hga:=X5 hlt
 have hgb:=X5 hltb
 have e:=AL (k:=i) (by have:b.length<1125899906842624:=hb;omega)
 by_cases hs:a[i]=b[i]
 ·simp only[eE,eC,eN,reduceCtorEq,Nat.reduceEqDiff,↓reduceIte,Int.reduceEq,X7,X2,X3,X4,X0,X6,lt_T hlt,lt_T hltb,hga,hgb,e,Cn hs]
  refine .mk (i+1) rfl ⟨hlt,λj h=>?_⟩ (by omega)
  by_cases q:j=i
  ·subst q;rw[hga,hgb,hs]
  ·exact hall j (by omega)
 ·simp only[eE,eC,eN,reduceCtorEq,Nat.reduceEqDiff,↓reduceIte,Xe,X2,X3,X4,X0,X6,lt_T hlt,lt_T hltb,hga,hgb,B2 hs]
  exact(Xr λq=>hs (by simp [q])).symm
theorem p170 (a b:List Bs) (hb:wide b):Pur Tryz.prog 170 [eSs a,eSs b] (.bool (decide (a=b))):=by
 refine .mk ⟨DO 0 a,DO 0 b,trivial⟩ trivial (a170 (AF AH.tnil (AG ?_)))
 by_cases hl:a.length=b.length
 case neg=>
  simp only[eE,eC,eN,reduceCtorEq,Nat.reduceEqDiff,↓reduceIte,Nat.reduceAdd,Xe,X0,c170,FU hl,Xe]
  exact(Xr λe=>hl (by rw[e])).symm
 simp only[eE,eC,eN,reduceCtorEq,Nat.reduceEqDiff,↓reduceIte,Nat.reduceAdd,X7,X0,c170,FV hl]
 refine AU (λi:Nat=>⟨[(0,true,eSs a),(1,true,eSs b),(12,true,.int .i64 a.length),(13,true,.int .i64 i)],hnil,0⟩) (λi=>i<=a.length/\∀j,j<i->a[j]?=b[j]?) (λi=>a.length-i) 0 rfl ⟨Xh _,λj hj=>by omega⟩ ?_
 rintro i ⟨hi,hall⟩
 by_cases hlt:i<a.length
 case neg=>
  simp only[eE,eC,eN,reduceCtorEq,Nat.reduceEqDiff,↓reduceIte,lt_F hlt]
  exact(Xz (Cl hl λj hj=>hall j (by omega))).symm
 have hltb:i<b.length:=by omega
 have hga:=X5 hlt
 have hgb:=X5 hltb
 have e:=AL (k:=i) (by have:b.length<1125899906842624:=hb;omega)
 by_cases hs:a[i]=b[i]
 ·simp only[eE,eC,eN,reduceCtorEq,Nat.reduceEqDiff,↓reduceIte,Int.reduceEq,X7,X2,X3,X4,X0,X6,lt_T hlt,lt_T hltb,hga,hgb,e,Dp,Cn hs]
  refine .mk (i+1) rfl ⟨hlt,λj h=>?_⟩ (by omega)
  by_cases q:j=i
  ·subst q;rw[hga,hgb,hs]
  ·exact hall j (by omega)
 ·simp only[eE,eC,eN,reduceCtorEq,Nat.reduceEqDiff,↓reduceIte,Xe,X2,X3,X4,X0,X6,lt_T hlt,lt_T hltb,hga,hgb,Dp,B2 hs]
  exact(Xr λq=>hs (by simp [q])).symm
theorem p171 (a b:List DSym) (hb:few b):Pur Tryz.prog 171 [eSys a,eSys b] (.bool (decide (a=b))):=by
 refine .mk ⟨Ec 0 a,Ec 0 b,trivial⟩ trivial (a171 (AF AH.tnil (AG ?_)))
 by_cases hl:a.length=b.length
 case neg=>
  simp only[eE,eC,eN,reduceCtorEq,Nat.reduceEqDiff,↓reduceIte,Nat.reduceAdd,Xe,X0,c171,FU hl,Xe]
  exact(Xr λe=>hl (by rw[e])).symm
 simp only[eE,eC,eN,reduceCtorEq,Nat.reduceEqDiff,↓reduceIte,Nat.reduceAdd,X7,X0,c171,FV hl]
 refine AU (λi:Nat=>⟨[(0,true,eSys a),(1,true,eSys b),(12,true,.int .i64 a.length),(13,true,.int .i64 i)],hnil,0⟩) (λi=>i<=a.length/\∀j,j<i->a[j]?=b[j]?) (λi=>a.length-i) 0 rfl ⟨Xh _,λj hj=>by omega⟩ ?_
 rintro i ⟨hi,hall⟩
 by_cases hlt:i<a.length
 case neg=>
  simp only[eE,eC,eN,reduceCtorEq,Nat.reduceEqDiff,↓reduceIte,lt_F hlt]
  exact(Xz (Cl hl λj hj=>hall j (by omega))).symm
 have hltb:i<b.length:=by omega
 have hga:=X5 hlt
 have hgb:=X5 hltb
 have e:=AL (k:=i) (by have:b.length<1000000000:=hb;omega)
 by_cases hs:a[i]=b[i]
 ·simp only[eE,eC,eN,reduceCtorEq,Nat.reduceEqDiff,↓reduceIte,Nat.reduceAdd,Int.reduceEq,X7,X2,X3,X4,X0,X6,lt_T hlt,lt_T hltb,hga,hgb,e,Uw,cfit,Cn hs]
  refine .mk (i+1) rfl ⟨hlt,λj h=>?_⟩ (by omega)
  by_cases q:j=i
  ·subst q;rw[hga,hgb,hs]
  ·exact hall j (by omega)
 ·simp only[eE,eC,eN,reduceCtorEq,Nat.reduceEqDiff,↓reduceIte,Nat.reduceAdd,Xe,X2,X3,X4,X0,X6,lt_T hlt,lt_T hltb,hga,hgb,Uw,cfit,B2 hs]
  exact(Xr λq=>hs (by simp [q])).symm
theorem p173 (a b:List DClu) (hb:few b):Pur Tryz.prog 173 [eCls a,eCls b] (.bool (decide (a=b))):=by
 refine .mk ⟨Ed 0 a,Ed 0 b,trivial⟩ trivial (a173 (AF AH.tnil (AG ?_)))
 by_cases hl:a.length=b.length
 case neg=>
  simp only[eE,eC,eN,reduceCtorEq,Nat.reduceEqDiff,↓reduceIte,Nat.reduceAdd,Xe,X0,c173,FU hl,Xe]
  exact(Xr λe=>hl (by rw[e])).symm
 simp only[eE,eC,eN,reduceCtorEq,Nat.reduceEqDiff,↓reduceIte,Nat.reduceAdd,X7,X0,c173,FV hl]
 refine AU (λi:Nat=>⟨[(0,true,eCls a),(1,true,eCls b),(12,true,.int .i64 a.length),(13,true,.int .i64 i)],hnil,0⟩) (λi=>i<=a.length/\∀j,j<i->a[j]?=b[j]?) (λi=>a.length-i) 0 rfl ⟨Xh _,λj hj=>by omega⟩ ?_
 rintro i ⟨hi,hall⟩
 by_cases hlt:i<a.length
 case neg=>
  simp only[eE,eC,eN,reduceCtorEq,Nat.reduceEqDiff,↓reduceIte,lt_F hlt]
  exact(Xz (Cl hl λj hj=>hall j (by omega))).symm
 have hltb:i<b.length:=by omega
 have hga:=X5 hlt
 have hgb:=X5 hltb
 have e:=AL (k:=i) (by have:b.length<1000000000:=hb;omega)
 by_cases hs:a[i]=b[i]
 ·simp only[eE,eC,eN,reduceCtorEq,Nat.reduceEqDiff,↓reduceIte,Nat.reduceAdd,Int.reduceEq,X7,X2,X3,X4,X0,X6,lt_T hlt,lt_T hltb,hga,hgb,e,Ux,cfit,Cn hs]
  refine .mk (i+1) rfl ⟨hlt,λj h=>?_⟩ (by omega)
  by_cases q:j=i
  ·subst q;rw[hga,hgb,hs]
  ·exact hall j (by omega)
 ·simp only[eE,eC,eN,reduceCtorEq,Nat.reduceEqDiff,↓reduceIte,Nat.reduceAdd,Xe,X2,X3,X4,X0,X6,lt_T hlt,lt_T hltb,hga,hgb,Ux,cfit,B2 hs]
  exact(Xr λq=>hs (by simp [q])).symm
end Go.AM
namespace Go.AM
open Go.Proofs Go.Lib
def s2f {α β:Type} (cl:Nat) (A:Dc α) (B:Dc β) (c:α->β->Prop) (f:α->β->AVal):List AVal->AB->Prop×AVal:=λa _=>match a with
 |[x,y,.fn (.func k) [] []]=>(k=cl/\A.ok x/\B.ok y/\c (A.dec x) (B.dec y),f (A.dec x) (B.dec y))
 |_=>(False,.tup [])
theorem q2f {α β:Type} {cl:Nat} {A:Dc α} {B:Dc β} {c:α->β->Prop} {f:α->β->AVal} {fid:FuncId} (h:∀x y,c x y->Pur Tryz.prog fid [A.enc x,B.enc y,.fn (.func cl) [] []] (f x y)):∀args H n,(s2f cl A B c f args H).1->Aa Tryz.prog fid args H n (s2f cl A B c f args H).2:=by
 intro args H n hh
 unfold s2f at hh⊢
 split at hh
 ·obtain⟨rfl,h1,h2,h3⟩:=hh
  refine AO.args ((h _ _ h3).quiet H n) ?_
  rintro g vs ⟨v,r,rfl,k1,w,r',rfl,k2,k3⟩
  exact⟨v,_,rfl,A.wk _ h1 _ _ k1,w,_,rfl,B.wk _ h2 _ _ k2,k3⟩
 ·exact hh.elim
theorem Fa (x:List (List Int)):dLl.ok (eLl x)=True:=Hi DQ (.inl rfl)
theorem Dq (x:List (List Int)):dLl.dec (eLl x)=x:=FE DQ
theorem Wz (x:List DSym):dSys.ok (eSys x)=True:=Hi FY (.inl rfl)
theorem Tq (x:List DSym):dSys.dec (eSys x)=x:=FE FY
theorem W0 (x:List DReg):dRgs.ok (eRgs x)=True:=Hi EQ (.inl rfl)
theorem Tr (x:List DReg):dRgs.dec (eRgs x)=x:=FE EQ
theorem W1 (x:List DClu):dCls.ok (eCls x)=True:=Hi FZ (.inl rfl)
theorem Ts (x:List DClu):dCls.dec (eCls x)=x:=FE FZ
theorem W2 (x:List DRul):dRus.ok (eRus x)=True:=Hi ER (.inl rfl)
theorem Tt (x:List DRul):dRus.dec (eRus x)=x:=FE ER
abbrev CK (l:List (List Int)):Prop:=few l/\∀x∈l,wide x
abbrev K7 (r:DReg):Prop:=CK r.ls
abbrev MU (r:DRul):Prop:=wide r.ns/\wide r.os
structure FewD (d:Dcl):Prop where
 ho:few d.holes
 sy:few d.syms
 rg:few d.regs
 rgs:∀r∈d.regs,K7 r
 cl:few d.clus
 ru:few d.ruls
 rus:∀r∈d.ruls,MU r
theorem W3 {a b:DRul}:a=b↔(((((a.ns=b.ns/\a.os=b.os)/\a.nm=b.nm)/\a.on=b.on)/\a.byN=b.byN)/\a.kind=b.kind/\a.fam=b.fam/\a.set=b.set/\a.oth=b.oth/\a.op=b.op/\a.n=b.n/\a.clue=b.clue):=by
 cases a;cases b;simp only[DRul.mk.injEq]
 constructor
 ·rintro⟨a,b,c,d,e,f,g,h,i,j,k,l⟩;exact⟨⟨⟨⟨⟨e,f⟩,a⟩,b⟩,k⟩,c,d,g,h,i,j,l⟩
 ·rintro⟨⟨⟨⟨⟨e,f⟩,a⟩,b⟩,k⟩,c,d,g,h,i,j,l⟩;exact⟨a,b,c,d,e,f,g,h,i,j,k,l⟩
theorem ceq_7 (a b c d e f g a' b' c' d' e' f' g':Int):ceqs [.int .i64 a,.int .i64 b,.int .i64 c,.int .i64 d,.int .i64 e,.int .i64 f,.int .i64 g] [.int .i64 a',.int .i64 b',.int .i64 c',.int .i64 d',.int .i64 e',.int .i64 f',.int .i64 g']=decide (a=a'/\b=b'/\c=c'/\d=d'/\e=e'/\f=f'/\g=g'):=by
 rw[Y8,Xf];simp [ceqs,ceq]
theorem W4 {a b:Dcl}:a=b↔((((((((((a.nm=b.nm/\a.ver=b.ver)/\a.sh=b.sh)/\a.w=b.w)/\a.h=b.h)/\a.holes=b.holes)/\a.syms=b.syms)/\a.regs=b.regs)/\a.clus=b.clus)/\a.ruls=b.ruls)):=by
 cases a;cases b;simp only[Dcl.mk.injEq]
 constructor
 ·rintro⟨a,b,c,d,e,f,g,h,i,j⟩;exact⟨⟨⟨⟨⟨⟨⟨⟨⟨a,b⟩,c⟩,d⟩,e⟩,f⟩,g⟩,h⟩,i⟩,j⟩
 ·rintro⟨⟨⟨⟨⟨⟨⟨⟨⟨a,b⟩,c⟩,d⟩,e⟩,f⟩,g⟩,h⟩,i⟩,j⟩;exact⟨a,b,c,d,e,f,g,h,i,j⟩
def Tci:Tab:=tadd 121 (s2 dIs dIs (λ_ b=>wide b) λa b=>.bool (decide (a=b))) tnil
theorem Tci_ok:AH Tryz.prog Tci:=AH.tnil.add (q2 p121)
theorem Tci_e (a:List AVal) (H:AB):Tci 121 a H=(s2 dIs dIs (λ_ b=>wide b) λa b=>.bool (decide (a=b))) a H:=rfl
theorem p168 (a b:List (List Int)) (hb:few b) (hx:∀x∈b,wide x):Pur Tryz.prog 168 [eLl a,eLl b,.fn (.func 121) [] []] (.bool (decide (a=b))):=by
 refine .mk ⟨Az 0 a,Az 0 b,by simp [AVal.under,unders],trivial⟩ trivial (a168 (AF Tci_ok (AG ?_)))
 by_cases hl:a.length=b.length
 case neg=>
  simp only[eE,eC,eN,reduceCtorEq,Nat.reduceEqDiff,↓reduceIte,Nat.reduceAdd,Xe,X0,c168,FU hl,Xe]
  exact(Xr λe=>hl (by rw[e])).symm
 simp only[eE,eC,eN,reduceCtorEq,Nat.reduceEqDiff,↓reduceIte,Nat.reduceAdd,X7,X0,c168,FV hl]
 refine AU (λi:Nat=>⟨[(1,true,eLl b),(2,true,.fn (.func 121) [] []),(15,true,eLl a),(16,true,.int .i64 a.length),(17,true,.int .i64 i)],hnil,0⟩) (λi=>i<=a.length/\∀j,j<i->a[j]?=b[j]?) (λi=>a.length-i) 0 rfl ⟨Xh _,λj hj=>by omega⟩ ?_
 rintro i ⟨hi,hall⟩
 by_cases hlt:i<a.length
 case neg=>
  simp only[eE,eC,eN,Nat.reduceEqDiff,↓reduceIte,lt_F hlt]
  exact(Xz (Cl hl λj hj=>hall j (by omega))).symm
 have hltb:i<b.length:=by omega
 have hga:=X5 hlt
 have hgb:=X5 hltb
 have e:=AL (k:=i) (by have:b.length<1000000000:=hb;omega)
 have hf:=hx _ (Xk hltb)
 by_cases hs:a[i]=b[i]
 ·simp only[eE,eC,eN,Nat.reduceEqDiff,↓reduceIte,Int.reduceEq,X7,X2,X3,X4,X0,X6,lt_T hlt,lt_T hltb,hga,hgb,e,Tci_e,s2,Ax,At,X1 hf,Cn hs]
  refine lpN.drop (i+1) rfl rfl rfl rfl AN.nil (λ_ _ h=>by cases h) ⟨Az 0 b,by simp [AVal.under,unders],Az 0 a,trivial,trivial,trivial⟩ ⟨hlt,λj h=>?_⟩ (by omega)
  by_cases q:j=i
  ·subst q;rw[hga,hgb,hs]
  ·exact hall j (by omega)
 ·simp only[eE,eC,eN,Nat.reduceEqDiff,↓reduceIte,Xe,X2,X3,X4,X0,X6,lt_T hlt,lt_T hltb,hga,hgb,Tci_e,s2,Ax,At,X1 hf,B2 hs]
  exact(Xr λq=>hs (by simp [q])).symm
def Tcl:Tab:=tadd 168 (s2f 121 dLl dLl (λ_ b=>CK b) λa b=>.bool (decide (a=b))) tnil
theorem Uy:AH Tryz.prog Tcl:=AH.tnil.add (q2f λa b h=>p168 a b h.1 h.2)
theorem Tcl_e (a:List AVal) (H:AB):Tcl 168 a H=(s2f 121 dLl dLl (λ_ b=>CK b) λa b=>.bool (decide (a=b))) a H:=rfl
theorem p167 (a b:DReg) (hb:K7 b):Pur Tryz.prog 167 [GT a,GT b] (.bool (decide (a=b))):=by
 refine .mk ⟨Dn 0 a,Dn 0 b,trivial⟩ trivial (a167 (AF Uy (AG ?_)))
 simp only[eE,eC,eN,reduceCtorEq,Nat.reduceEqDiff,↓reduceIte,Nat.reduceAdd,Nat.reduceLeDiff,c167,FF,Tcl_e,s2f,Fa,Dq,X1 hb]
 rw[Y8]
 simp only[X8,Xf,Wy]
def Tcr:Tab:=tadd 167 (s2 dRg dRg (λ_ b=>K7 b) λa b=>.bool (decide (a=b))) tnil
theorem Tcr_ok:AH Tryz.prog Tcr:=AH.tnil.add (q2 p167)
theorem Tcr_e (a:List AVal) (H:AB):Tcr 167 a H=(s2 dRg dRg (λ_ b=>K7 b) λa b=>.bool (decide (a=b))) a H:=rfl
theorem p172 (a b:List DReg) (hb:few b) (hx:∀x∈b,K7 x):Pur Tryz.prog 172 [eRgs a,eRgs b,.fn (.func 167) [] []] (.bool (decide (a=b))):=by
 refine .mk ⟨Cq 0 a,Cq 0 b,by simp [AVal.under,unders],trivial⟩ trivial (a172 (AF Tcr_ok (AG ?_)))
 by_cases hl:a.length=b.length
 case neg=>
  simp only[eE,eC,eN,reduceCtorEq,Nat.reduceEqDiff,↓reduceIte,Nat.reduceAdd,Xe,X0,c172,FU hl,Xe]
  exact(Xr λe=>hl (by rw[e])).symm
 simp only[eE,eC,eN,reduceCtorEq,Nat.reduceEqDiff,↓reduceIte,Nat.reduceAdd,X7,X0,c172,FV hl]
 refine AU (λi:Nat=>⟨[(1,true,eRgs b),(2,true,.fn (.func 167) [] []),(15,true,eRgs a),(16,true,.int .i64 a.length),(17,true,.int .i64 i)],hnil,0⟩) (λi=>i<=a.length/\∀j,j<i->a[j]?=b[j]?) (λi=>a.length-i) 0 rfl ⟨Xh _,λj hj=>by omega⟩ ?_
 rintro i ⟨hi,hall⟩
 by_cases hlt:i<a.length
 case neg=>
  simp only[eE,eC,eN,Nat.reduceEqDiff,↓reduceIte,lt_F hlt]
  exact(Xz (Cl hl λj hj=>hall j (by omega))).symm
 have hltb:i<b.length:=by omega
 have hga:=X5 hlt
 have hgb:=X5 hltb
 have e:=AL (k:=i) (by have:b.length<1000000000:=hb;omega)
 have hf:=hx _ (Xk hltb)
 by_cases hs:a[i]=b[i]
 ·simp only[eE,eC,eN,Nat.reduceEqDiff,↓reduceIte,Nat.reduceAdd,Int.reduceEq,X7,X2,X3,X4,X0,X6,lt_T hlt,lt_T hltb,hga,hgb,e,Tcr_e,s2,NZ,Ju,X1 hf,Cn hs]
  refine lpN.drop (i+1) rfl rfl rfl rfl AN.nil (λ_ _ h=>by cases h) ⟨Cq 0 b,by simp [AVal.under,unders],Cq 0 a,trivial,trivial,trivial⟩ ⟨hlt,λj h=>?_⟩ (by omega)
  by_cases q:j=i
  ·subst q;rw[hga,hgb,hs]
  ·exact hall j (by omega)
 ·simp only[eE,eC,eN,Nat.reduceEqDiff,↓reduceIte,Nat.reduceAdd,Xe,X2,X3,X4,X0,X6,lt_T hlt,lt_T hltb,hga,hgb,Tcr_e,s2,NZ,Ju,X1 hf,B2 hs]
  exact(Xr λq=>hs (by simp [q])).symm
def Tcs:Tab:=tadd 170 (s2 dSs dSs (λ_ b=>wide b) λa b=>.bool (decide (a=b))) tnil
theorem Tcs_ok:AH Tryz.prog Tcs:=AH.tnil.add (q2 p170)
theorem Tcs_e (a:List AVal) (H:AB):Tcs 170 a H=(s2 dSs dSs (λ_ b=>wide b) λa b=>.bool (decide (a=b))) a H:=rfl
theorem p169 (a b:DRul) (hb:MU b):Pur Tryz.prog 169 [Bl a,Bl b] (.bool (decide (a=b))):=by
 refine .mk ⟨CJ 0 a,CJ 0 b,trivial⟩ trivial (a169 (AF Tcs_ok (AG ?_)))
 have h1:=hb.1
 have h2:=hb.2
 simp only[eE,eC,eN,reduceCtorEq,Nat.reduceEqDiff,↓reduceIte,Nat.reduceAdd,Nat.reduceLeDiff,c169,FF,Tcs_e,s2,dSs_ok,Ws,X1 h1,X1 h2,ceq_7,cfit]
 rw[Y8]
 simp only[X8,Xf,W3]
def Tcu:Tab:=tadd 169 (s2 dRu dRu (λ_ b=>MU b) λa b=>.bool (decide (a=b))) tnil
theorem Tcu_ok:AH Tryz.prog Tcu:=AH.tnil.add (q2 p169)
theorem Tcu_e (a:List AVal) (H:AB):Tcu 169 a H=(s2 dRu dRu (λ_ b=>MU b) λa b=>.bool (decide (a=b))) a H:=rfl
theorem p174 (a b:List DRul) (hb:few b) (hx:∀x∈b,MU x):Pur Tryz.prog 174 [eRus a,eRus b,.fn (.func 169) [] []] (.bool (decide (a=b))):=by
 refine .mk ⟨Cr 0 a,Cr 0 b,by simp [AVal.under,unders],trivial⟩ trivial (a174 (AF Tcu_ok (AG ?_)))
 by_cases hl:a.length=b.length
 case neg=>
  simp only[eE,eC,eN,reduceCtorEq,Nat.reduceEqDiff,↓reduceIte,Nat.reduceAdd,Xe,X0,c174,FU hl,Xe]
  exact(Xr λe=>hl (by rw[e])).symm
 simp only[eE,eC,eN,reduceCtorEq,Nat.reduceEqDiff,↓reduceIte,Nat.reduceAdd,X7,X0,c174,FV hl]
 refine AU (λi:Nat=>⟨[(1,true,eRus b),(2,true,.fn (.func 169) [] []),(15,true,eRus a),(16,true,.int .i64 a.length),(17,true,.int .i64 i)],hnil,0⟩) (λi=>i<=a.length/\∀j,j<i->a[j]?=b[j]?) (λi=>a.length-i) 0 rfl ⟨Xh _,λj hj=>by omega⟩ ?_
 rintro i ⟨hi,hall⟩
 by_cases hlt:i<a.length
 case neg=>
  simp only[eE,eC,eN,Nat.reduceEqDiff,↓reduceIte,lt_F hlt]
  exact(Xz (Cl hl λj hj=>hall j (by omega))).symm
 have hltb:i<b.length:=by omega
 have hga:=X5 hlt
 have hgb:=X5 hltb
 have e:=AL (k:=i) (by have:b.length<1000000000:=hb;omega)
 have hf:=hx _ (Xk hltb)
 by_cases hs:a[i]=b[i]
 ·simp only[eE,eC,eN,Nat.reduceEqDiff,↓reduceIte,Nat.reduceAdd,Int.reduceEq,X7,X2,X3,X4,X0,X6,lt_T hlt,lt_T hltb,hga,hgb,e,Tcu_e,s2,GH,ES,X1 hf,Cn hs]
  refine lpN.drop (i+1) rfl rfl rfl rfl AN.nil (λ_ _ h=>by cases h) ⟨Cr 0 b,by simp [AVal.under,unders],Cr 0 a,trivial,trivial,trivial⟩ ⟨hlt,λj h=>?_⟩ (by omega)
  by_cases q:j=i
  ·subst q;rw[hga,hgb,hs]
  ·exact hall j (by omega)
 ·simp only[eE,eC,eN,Nat.reduceEqDiff,↓reduceIte,Nat.reduceAdd,Xe,X2,X3,X4,X0,X6,lt_T hlt,lt_T hltb,hga,hgb,Tcu_e,s2,GH,ES,X1 hf,B2 hs]
  exact(Xr λq=>hs (by simp [q])).symm
def Tsa:Tab:=tadd 121 (s2 dIs dIs (λ_ b=>wide b) λa b=>.bool (decide (a=b))) (tadd 171 (s2 dSys dSys (λ_ b=>few b) λa b=>.bool (decide (a=b))) (tadd 172 (s2f 167 dRgs dRgs (λ_ b=>few b/\∀x∈b,K7 x) λa b=>.bool (decide (a=b))) (tadd 173 (s2 dCls dCls (λ_ b=>few b) λa b=>.bool (decide (a=b))) (tadd 174 (s2f 169 dRus dRus (λ_ b=>few b/\∀x∈b,MU x) λa b=>.bool (decide (a=b))) tnil))))
theorem Tsa_ok:AH Tryz.prog Tsa:=((((AH.tnil.add (q2f λa b h=>p174 a b h.1 h.2)).add (q2 p173)).add (q2f λa b h=>p172 a b h.1 h.2)).add (q2 p171)).add (q2 p121)
theorem Tsa_i (a:List AVal) (H:AB):Tsa 121 a H=s2 dIs dIs (λ_ b=>wide b) (λa b=>.bool (decide (a=b))) a H:=rfl
theorem Tsa_s (a:List AVal) (H:AB):Tsa 171 a H=s2 dSys dSys (λ_ b=>few b) (λa b=>.bool (decide (a=b))) a H:=rfl
theorem Tsa_r (a:List AVal) (H:AB):Tsa 172 a H=s2f 167 dRgs dRgs (λ_ b=>few b/\∀x∈b,K7 x) (λa b=>.bool (decide (a=b))) a H:=rfl
theorem Tsa_c (a:List AVal) (H:AB):Tsa 173 a H=s2 dCls dCls (λ_ b=>few b) (λa b=>.bool (decide (a=b))) a H:=rfl
theorem Tsa_u (a:List AVal) (H:AB):Tsa 174 a H=s2f 169 dRus dRus (λ_ b=>few b/\∀x∈b,MU x) (λa b=>.bool (decide (a=b))) a H:=rfl
theorem p122 (a b:Dcl) (hb:FewD b):Pur Tryz.prog 122 [encD a,encD b] (.bool (decide (a=b))):=by
 refine .mk ⟨BT 0 a,BT 0 b,trivial⟩ trivial (a122 (AF Tsa_ok (AG ?_)))
 simp only[eE,eC,eN,reduceCtorEq,Nat.reduceEqDiff,↓reduceIte,Nat.reduceAdd,Nat.reduceLeDiff,c122,FF,Tsa_i,Tsa_s,Tsa_r,Tsa_c,Tsa_u,s2,s2f,Ax,At,Wz,Tq,W0,Tr,W1,Ts,W2,Tt,X1 (Jo hb.ho),X1 hb.sy,X1 hb.rg,X1 hb.rgs,X1 hb.cl,X1 hb.ru,X1 hb.rus]
 rw[Y8]
 simp only[X8,Xf,W4]
end Go.AM
namespace Go.AM
open Go.Proofs Go.Lib
abbrev AD (sh w h:Int) (holes cells:List Int):List AVal:=[.int .i64 sh,.int .i64 w,.int .i64 h,eIs holes,eIs cells]
abbrev encG (sh w h:Int) (holes cells:List Int):AVal:=.agg (AD sh w h holes cells)
theorem Bp (n:Nat) (sh w h:Int) (holes cells:List Int):(encG sh w h holes cells).under n:=⟨trivial,trivial,trivial,AW n _,AW n _,trivial⟩
def CL (sh w h:Int) (holes:List Int):AVal:=match Aj sh w h holes with
 |some cells=>.tup [encG sh w h holes cells,.int .i64 0]
 |none=>.tup [encG 0 0 0 [] [],.int .i64 130]
theorem MV (sh w h:Int) (holes:List Int):(CL sh w h holes).under 0:=by
 unfold CL
 split<;>exact⟨Bp 0 ..,trivial,trivial⟩
theorem wk_G {sh w h:Int} {holes cells:List Int} {a b:AVal} {e:Int} (h1:Wk a (eIs holes)) (h2:Wk b (eIs cells)):Wk (.tup [.agg [.int .i64 sh,.int .i64 w,.int .i64 h,a,b],.int .i64 e]) (.tup [encG sh w h holes cells,.int .i64 e]):=
 Wk.tup (.cons (Wk.agg (.cons (Wk.refl _) (.cons (Wk.refl _) (.cons (Wk.refl _) (.cons h1 (.cons h2 .nil)))))) (.cons (Wk.refl _) .nil))
theorem p39 (l:List Int) (hl:few l):Pur Tryz.prog 39 [eIs l] (eIs l):=by
 refine .mk ⟨AW 0 l,trivial⟩ (AW 0 l) (a39 (AF AH.tnil (AG ?_)))
 have a1:(l.length<=35184372088832)=True:=X1 (by have:l.length<1000000000:=hl;omega)
 have a2:Ap l.length 8=True:=X1 (AX (by have:l.length<1000000000:=hl;omega) (by decide))
 cases l with
 |nil=>
  simp only[eE,eC,eN,reduceCtorEq,↓reduceIte,c39]
  refine⟨?_,?_⟩
  ·simp only[eE,eC,eN,reduceCtorEq,Nat.reduceEqDiff,↓reduceIte,Nat.reduceLT,Ap,Zf,Xh]
   exact Wk.sl (.inl rfl)
  ·simp only[eE,eC,eN,reduceCtorEq,↓reduceIte,Xe]
   exact Wk.sl (.inr rfl)
 |cons x r=>
  rw[Xn]at a1 a2
  simp only[eE,eC,eN,reduceCtorEq,Nat.reduceEqDiff,↓reduceIte,Nat.reduceLeDiff,Nat.reduceMul,Nat.reduceLT,X0,c39,eIs,a1,a2]
  exact Wk.sl (.inl rfl)
def Tmk:Tab:=tadd 39 (s1 dIs few λl=>eIs l) (tadd 231 (s2 dIs dI (λl _=>few l/\List.Pairwise (λx y=>x<y) l) λl x=>.tup [.int .i64 (lowB l x),.bool (l.contains x)]) tnil)
theorem Tmk_ok:AH Tryz.prog Tmk:=(AH.tnil.add (q2 λl x h=>p231 l x h.1 h.2)).add (q1 p39)
theorem Tmk_c (a:List AVal) (H:AB):Tmk 39 a H=s1 dIs few (λl=>eIs l) a H:=rfl
theorem Tmk_b (a:List AVal) (H:AB):Tmk 231 a H=s2 dIs dI (λl _=>few l/\List.Pairwise (λx y=>x<y) l) (λl x=>.tup [.int .i64 (lowB l x),.bool (l.contains x)]) a H:=rfl
def posL (holes:List Int) (k:Nat):List Int:=((List.range k).map λ(i:Nat)=>(i:Int)).filter λp=>!holes.contains p
theorem Rd (holes:List Int) (k:Nat):posL holes (k+1)=if holes.contains (k:Int)then posL holes k else posL holes k++[(k:Int)]:=by
 unfold posL
 rw[Z6,Xj,Yz]
 cases h:holes.contains (k:Int)<;>simp only[Xt,XZ,Yn,List.filter_nil,h,X7,Xe,Yv,XO,Xq,Xu]
theorem W5 (holes:List Int) (k:Nat):(posL holes k).length<=k:=by
 have:=Yh (λp=>!holes.contains p) ((List.range k).map λ(i:Nat)=>(i:Int))
 simpa [posL]using this
structure VM where
 k:Nat
 tk:Tok
 H:AB
 n:Nat
structure IM (sh w h:Int) (holes:List Int) (m:Nat) (v:VM):Prop where
 hk:v.k<=m
 hn:2<=v.n
 fr:AN v.H v.n
 h0:hget v.H 0=some (.box [.int .i64 sh,.int .i64 w,.int .i64 h,eIs holes,.sl v.tk ((posL holes v.k).map eI)])
 tok:tkG 1 1 v.H v.tk
 es:v.tk.esz=1\/posL holes v.k=[]
theorem p163 (sh w h:Int) (holes:List Int) (hl:few holes):Pur Tryz.prog 163 [.int .i64 sh,.int .i64 w,.int .i64 h,eIs holes] (CL sh w h holes):=by
 refine .mk ⟨trivial,trivial,trivial,AW 0 _,trivial⟩ (MV sh w h holes) (a163 (AF Tmk_ok (AG ?_)))
 have hE:∀b,(b=true↔¬((sh=1\/sh=2)/\1<=w/\w<=16/\1<=h/\h<=16/\(holes.length:Int)<w*h))->(!decide (sh=1)&& !decide (sh=2)||decide (w<1)||decide (16<w)||decide (h<1)||decide (16<h)||decide (IntKind.wrap .i64 (w*h)<=(holes.length:Int)))=b:=by
  intro b hb
  rw[Y8,hb]
  simp only[Xp,X8,Yb,Xf,Ym]
  by_cases hwh:1<=w/\w<=16/\1<=h/\h<=16
  ·have:=wh_le hwh.1 hwh.2.1 hwh.2.2.1 hwh.2.2.2
   rw[Ay (by omega) (by omega)]
   omega
  ·omega
 by_cases hc:(sh=1\/sh=2)/\1<=w/\w<=16/\1<=h/\h<=16/\(holes.length:Int)<w*h
 case neg=>
  have hn:CL sh w h holes= .tup [encG 0 0 0 [] [],.int .i64 130]:=by
   unfold CL Aj
   rw[Xc λq=>hc ⟨q.1,q.2.1,q.2.2.1,q.2.2.2.1,q.2.2.2.2.1,q.2.2.2.2.2.1⟩]
  have hb:=hE true (by simp [hc])
  rw[hn]
  simp only[eE,eC,eN,reduceCtorEq,Nat.reduceEqDiff,↓reduceIte,Nat.reduceAdd,Bc,X0,c163,hb]
  exact wk_G (Wk.sl (.inr rfl)) (Wk.sl (.inr rfl))
 have hb:=hE false (by simp [hc])
 obtain⟨hsh,hw1,hw2,hh1,hh2,hln⟩:=hc
 obtain⟨p1,p2⟩:=wh_le hw1 hw2 hh1 hh2
 have hwh:IntKind.wrap .i64 (w*h)=w*h:=Ay (by omega) (by omega)
 have hG:Aj sh w h holes=if(DE (-1) holes&&holes.all λp=>decide (p<w*h))=true then some (posL holes (w*h).toNat)else none:=by
  unfold Aj
  by_cases q:(DE (-1) holes&&holes.all λp=>decide (p<w*h))=true
  ·rw[Xg q]
   rw[X8]at q
   rw[Xg ⟨hsh,hw1,hw2,hh1,hh2,hln,q.1,q.2⟩];rfl
  ·rw[Xc q]
   rw[X8]at q
   rw[Xc λz=>q ⟨z.2.2.2.2.2.2.1,z.2.2.2.2.2.2.2⟩]
 simp only[eE,eC,eN,reduceCtorEq,Nat.reduceEqDiff,↓reduceIte,Nat.reduceAdd,X0,c163,hb]
 refine AU (λv:Nat×Int=>⟨[(0,true,.int .i64 sh),(1,true,.int .i64 w),(2,true,.int .i64 h),(3,true,eIs holes),(8,true,.ptr 0 0),(10,true,.int .i64 v.2),(47,true,eIs holes),(48,true,.int .i64 holes.length),(49,true,.int .i64 v.1)],hset hnil 0 (.box [z0,z0,z0,zs,zs]),2⟩)
  (λv=>v.1<=holes.length/\(DE (-1) holes&&holes.all λp=>decide (p<w*h))=(DE v.2 (holes.drop v.1)&&(holes.drop v.1).all λp=>decide (p<w*h))) (λv=>holes.length-v.1) (0,-1) rfl ⟨Xh _,rfl⟩ ?_
 rintro⟨i,last⟩ ⟨hi,he⟩
 simp only at hi he
 by_cases hlt:i<holes.length
 ·have hg:=X5 hlt
  have e:=AL (k:=i) (by have:holes.length<1000000000:=hl;omega)
  rw[XM hlt,DE,Zn]at he
  by_cases hok:last<holes[i]/\holes[i]<w*h
  ·have hd:(decide (holes[i]<=last)||decide (w*h<=holes[i]))=false:=by simp;omega
   simp only[eE,eC,eN,reduceCtorEq,Nat.reduceEqDiff,↓reduceIte,Int.reduceEq,X2,X3,X4,X0,X6,lt_T hlt,hg,e,hwh,hd]
   refine .mk (i+1,holes[i]) rfl ⟨hlt,?_⟩ (by simp only[];omega)
   simp only[]
   rw[he,Xz hok.1,Xz hok.2];simp
  ·have hd:(decide (holes[i]<=last)||decide (w*h<=holes[i]))=true:=by simp;omega
   have hn:CL sh w h holes= .tup [encG 0 0 0 [] [],.int .i64 130]:=by
    unfold CL
    rw[hG,Xc]
    rw[he]
    intro q
    simp only[X8,Xf]at q
    exact hok ⟨q.1.1,q.2.1⟩
   rw[hn]
   simp only[eE,eC,eN,reduceCtorEq,Nat.reduceEqDiff,↓reduceIte,Nat.reduceAdd,Bc,X2,X3,X4,X0,X6,lt_T hlt,hg,hwh,hd]
   exact wk_G (Wk.sl (.inr rfl)) (Wk.sl (.inr rfl))
 have hi':i=holes.length:=by omega
 subst hi'
 rw[Yt]at he
 have hS:Aj sh w h holes=some (posL holes (w*h).toNat):=by rw[hG,Xg (by rw[he];rfl)]
 have hrise:=(Ge hS).2.2.2.2.2.2.2.1
 have hM:CL sh w h holes= .tup [encG sh w h holes (posL holes (w*h).toNat),.int .i64 0]:=by unfold CL;rw[hS]
 rw[hM]
 obtain⟨m,hm⟩:∃m:Nat,w*h=(m:Int):=⟨(w*h).toNat,by omega⟩
 have hmt:(w*h).toNat=m:=by omega
 have hwm:IntKind.wrap .i64 (m:Int)=m:=by rw[<-hm];exact hwh
 rw[hmt]
 simp only[eE,eC,eN,reduceCtorEq,Nat.reduceEqDiff,↓reduceIte,Nat.reduceAdd,Nat.reduceLeDiff,lt_F hlt,Tmk_c,s1,Ax,At,X1 hl,hwm,hm,AJ]
 refine AU (λv:VM=>⟨[(3,true,eIs holes),(8,true,.ptr 0 0),(74,true,.int .i64 m),(75,true,.int .i64 v.k)],v.H,v.n⟩) (IM sh w h holes m) (λv=>m-v.k)
  ⟨0,.nil,hset hnil 0 (.box [.int .i64 sh,.int .i64 w,.int .i64 h,eIs holes,.sl .nil []]),2⟩ rfl ⟨Xh _,Xb _,AN.nil.hset (m:=2) (Xh 2) (show 0<2 by decide),rfl,.inl rfl,.inr rfl⟩ ?_
 rintro⟨k,tk,H,n⟩ hI
 have hk:=hI.hk
 have hn:=hI.hn
 have hfr:=hI.fr
 have h0:=hI.h0
 have htk:=hI.tok
 have hes:=hI.es
 simp only at hk hn hfr h0 htk hes
 by_cases hlt:k<m
 ·have e:=AL (k:=k) (by omega)
  have hps:=Rd holes k
  cases hin:holes.contains (k:Int)with
  |true=>
   rw[hin,Xg rfl]at hps
   simp only[eE,eC,eN,Nat.reduceEqDiff,↓reduceIte,Nat.reduceAdd,Nat.reduceLT,Int.reduceEq,X7,X2,Xa,Xd,lt_T hlt,Tmk_b,s2,Ax,At,Cm,BW,X1 hl,X1 hrise,hin,e]
   exact .mk ⟨k+1,tk,H,n⟩ rfl ⟨hlt,hn,hfr,by simp only[hps];exact h0,htk,by simp only[hps];exact hes⟩ (by simp only[];omega)
  |false=>
   rw[hin,Xc (by decide)]at hps
   have hpl:=W5 holes k
   have q1:Bj H 1 tk=True:=X1 htk.app
   have q2:((posL holes k).length<=35184372088831)=True:=X1 (by omega)
   have q3:Ap ((posL holes k).length+1) 8=True:=X1 (AX (by omega) (by decide))
   have kx:hget (AV H tk) 0=some (.box [.int .i64 sh,.int .i64 w,.int .i64 h,eIs holes,.sl tk ((posL holes k).map eI)]):=by rw[Ad htk (.inl (by omega))];exact h0
   have y0:∀j,(n+j=0)=False:=λj=>X9 (by omega)
   simp only[eE,eC,eN,reduceCtorEq,Nat.reduceEqDiff,↓reduceIte,Nat.reduceAdd,Nat.reduceLeDiff,Nat.reduceMul,Nat.reduceLT,Int.reduceEq,Xe,X2,X0,Xa,Xd,lt_T hlt,Tmk_b,s2,Ax,At,Cm,BW,X1 hl,X1 hrise,hin,e,h0,q1,q2,q3,fr1 hfr,kx,y0]
   refine .mk ⟨k+1,.own (n+4) 1,hset (hset (AV H tk) (n+4) .tok) 0 (.box [.int .i64 sh,.int .i64 w,.int .i64 h,eIs holes,.sl (.own (n+4) 1) ((posL holes (k+1)).map eI)]),n+7⟩ ?_ ⟨hlt,by simp only[];omega,((Ag htk hfr).hset (m:=n+7) (by omega) (by omega)).hset (Xb (n+7)) (show 0<n+7 by omega),AC ..,.inr (.inr ⟨n+4,rfl,by omega,by rw[AA _ _ _ _ (by omega)];exact AC ..⟩),.inl rfl⟩ (by simp only[];omega)
   rw[hps,Xj];rfl
 obtain rfl:k=m:=by omega
 simp only[eE,eC,eN,Nat.reduceEqDiff,↓reduceIte,Nat.reduceAdd,Bc,lt_F hlt,h0]
 exact wk_G (Wk.refl _) (Wk.sl (hes.imp id λq=>by rw[q];rfl))
def Tgc:Tab:=tadd 163 (λa H=>match a with
 |[.int .i64 sh,.int .i64 w,.int .i64 h,x]=>(dIs.ok x/\few (dIs.dec x),CL sh w h (dIs.dec x))
 |_=>(False,.tup [])) (tadd 121 (s2 dIs dIs (λ_ b=>few b) λa b=>.bool (decide (a=b))) tnil)
theorem Uz:∀args H n,((λ(a:List AVal) (H:AB)=>match a with
 |[.int .i64 sh,.int .i64 w,.int .i64 h,x]=>(dIs.ok x/\few (dIs.dec x),CL sh w h (dIs.dec x))
 |_=>(False,AVal.tup [])) args H).1->Aa Tryz.prog 163 args H n ((λ(a:List AVal) (H:AB)=>match a with
 |[.int .i64 sh,.int .i64 w,.int .i64 h,x]=>(dIs.ok x/\few (dIs.dec x),CL sh w h (dIs.dec x))
 |_=>(False,AVal.tup [])) args H).2:=by
 intro args H n hh
 simp only at hh⊢
 split at hh
 ·obtain⟨h1,h2⟩:=hh
  refine AO.args ((p163 _ _ _ _ h2).quiet H n) ?_
  rintro g vs ⟨v,r,rfl,k1,w,r',rfl,k2,u,r2,rfl,k3,z,r3,rfl,k4,k5⟩
  exact⟨v,_,rfl,k1,w,_,rfl,k2,u,_,rfl,k3,z,_,rfl,dIs.wk _ h1 _ _ k4,k5⟩
 ·exact hh.elim
theorem Tgc_ok:AH Tryz.prog Tgc:=(AH.tnil.add (q2 λa b h=>p121 a b (Jo h))).add Uz
theorem W6 (sh w h:Int) (x:AVal) (H:AB):Tgc 163 [.int .i64 sh,.int .i64 w,.int .i64 h,x] H=(dIs.ok x/\few (dIs.dec x),CL sh w h (dIs.dec x)):=rfl
theorem Tgc_e (a:List AVal) (H:AB):Tgc 121 a H=s2 dIs dIs (λ_ b=>few b) (λa b=>.bool (decide (a=b))) a H:=rfl
def grOK (sh w h:Int) (holes cells:List Int):Bool:=decide (Aj sh w h holes=some cells)
theorem p232 (sh w h:Int) (holes cells:List Int) (hl:few holes) (hc:few cells):Pur Tryz.prog 232 [encG sh w h holes cells] (.int .i64 (if grOK sh w h holes cells=true then 0 else 130)):=by
 refine .mk ⟨Bp 0 ..,trivial⟩ trivial (a232 (AF Tgc_ok (AG ?_)))
 cases hG:Aj sh w h holes with
 |none=>
  have hM:CL sh w h holes= .tup [encG 0 0 0 [] [],.int .i64 130]:=by unfold CL;rw[hG]
  have hk:grOK sh w h holes cells=false:=by unfold grOK;rw[hG];simp
  rw[hk]
  simp only[eE,eC,eN,reduceCtorEq,Nat.reduceEqDiff,↓reduceIte,Nat.reduceAdd,Nat.reduceLeDiff,Nat.reduceLT,Int.reduceEq,X7,Xe,X2,Xa,Xd,c232,W6,Ax,At,X1 hl,hM,encG]
 |some cs=>
  have hM:CL sh w h holes= .tup [encG sh w h holes cs,.int .i64 0]:=by unfold CL;rw[hG]
  have hk:grOK sh w h holes cells=decide (cs=cells):=by unfold grOK;rw[hG];simp
  rw[hk]
  by_cases hq:cs=cells
  ·simp only[eE,eC,eN,reduceCtorEq,Nat.reduceEqDiff,↓reduceIte,Nat.reduceAdd,Nat.reduceLeDiff,Nat.reduceLT,X7,X2,Xa,Xd,c232,W6,Tgc_e,s2,Ax,At,X1 hl,hM,encG,X1 hc,Cn hq]
  ·simp only[eE,eC,eN,reduceCtorEq,Nat.reduceEqDiff,↓reduceIte,Nat.reduceAdd,Nat.reduceLeDiff,Nat.reduceLT,X7,Xe,X2,Xa,Xd,c232,W6,Tgc_e,s2,Ax,At,X1 hl,hM,encG,X1 hc,B2 hq]
end Go.AM
namespace Go.AM
open Go.Proofs Go.Lib
structure Grd where
 sh:Int
 w:Int
 h:Int
 holes:List Int
 cells:List Int
 deriving DecidableEq
abbrev DS (g:Grd):AVal:=encG g.sh g.w g.h g.holes g.cells
def Re:AVal->Grd
 | .agg [.int _ sh,.int _ w,.int _ h,ho,ce]=>⟨sh,w,h,GU ho,GU ce⟩
 |_=>⟨0,0,0,[],[]⟩
theorem Hn (g:Grd):Re (DS g)=g:=by simp only[Re,DQ]
def dGd:Dc Grd:=dWk DS Re
theorem K8 (x:Grd):dGd.ok (DS x)=True:=Et Hn x
theorem Ho (x:Grd):dGd.dec (DS x)=x:=Hn x
theorem Rf {sh w h:Int} {holes cells:List Int}:dGd.ok (encG sh w h holes cells)=True:=K8 ⟨sh,w,h,holes,cells⟩
theorem K9 {sh w h:Int} {holes cells:List Int}:dGd.dec (encG sh w h holes cells)=⟨sh,w,h,holes,cells⟩:=Ho ⟨sh,w,h,holes,cells⟩
abbrev chkV (g:Grd):AVal:=.int .i64 (if grOK g.sh g.w g.h g.holes g.cells=true then 0 else 130)
def Tgr:Tab:=tadd 232 (s1 dGd (λg=>few g.holes/\few g.cells) chkV) (tadd 231 (s2 dIs dI (λl _=>few l/\List.Pairwise (λx y=>x<y) l) λl x=>.tup [.int .i64 (lowB l x),.bool (l.contains x)]) tnil)
theorem Tgr_ok:AH Tryz.prog Tgr:=(AH.tnil.add (q2 λl x h=>p231 l x h.1 h.2)).add (q1 λg h=>p232 g.sh g.w g.h g.holes g.cells h.1 h.2)
theorem Tgr_c (a:List AVal) (H:AB):Tgr 232 a H=s1 dGd (λg=>few g.holes/\few g.cells) chkV a H:=rfl
theorem W7 (a:List AVal) (H:AB):Tgr 231 a H=s2 dIs dI (λl _=>few l/\List.Pairwise (λx y=>x<y) l) (λl x=>.tup [.int .i64 (lowB l x),.bool (l.contains x)]) a H:=rfl
theorem Wks.len {ws us:List AVal} (h:Wks ws us):ws.length=us.length:=by
 induction h with
 |nil=>rfl
 |cons _ _ ih=>simp [ih]
theorem Wks.app {a b c d:List AVal} (h:Wks a b) (k:Wks c d):Wks (a++c) (b++d):=by
 induction h with
 |nil=>exact k
 |cons h1 _ ih=>exact .cons h1 ih
theorem Tu {g:Ghost} {e:Nat} {f:Nat->Option Value} {l m:List AVal} (hw:Wks l m):∀o,Stab g e f o l->Stab g e f o m:=by
 induction hw with
 |nil=>exact λ_ _=>trivial
 |cons h1 _ ih=>exact λo ⟨⟨v,q1,q2,q3⟩,h'⟩=>⟨⟨v,h1 _ _ q1,q2,q3⟩,ih _ h'⟩
theorem Wk.slx {t:Tok} {e:Nat} {l m:List AVal} (h:t.esz=e\/l=[]) (hw:Wks l m):Wk (.sl t l) (.sl (.none e) m):=by
 intro g v hv
 have hv:=Wk.sl h g v hv
 rcases hv with⟨h1,rfl,-⟩|⟨-,b,o,cap,⟨sp,rfl,hsp⟩,hc,hst,-⟩
 ·have hl:=hw.len
  subst h1
  have:m=[]:=XV (by rw[<-hl];rfl)
  subst this
  exact .inl ⟨rfl,rfl,trivial⟩
 ·have hl:=hw.len
  refine .inr ⟨trivial,b,o,cap,⟨sp,by rw[hl],?_⟩,by rw[<-hl];exact hc,Tu hw _ hst,trivial⟩
  rcases hsp with q|⟨q,q2⟩
  ·exact .inl q
  ·refine .inr ⟨?_,.inr ⟨e,rfl⟩⟩
   subst q
   exact XV (by rw[<-hl];rfl)
theorem Tv {cells l:List Int} {p:Int} (hp:List.Pairwise (λx y=>x<y) cells) (hl:∀q∈l,q∈cells) (hc:p∈cells):(B8 cells l).contains (lowB cells p:Int)=l.contains p:=by
 rw[Y8,Yi,Yi]
 unfold B8
 rw[XN]
 constructor
 ·rintro⟨q,hq,e⟩
  have:=Wr hp (hl q hq) hc (by omega)
  rw[<-this];exact hq
 ·exact λh=>⟨p,h,rfl⟩
theorem LC (cells l:List Int):(B8 cells l).length=l.length:=X0 ..
def rgsV (cells:List Int) (lists:List (List Int)):AVal:=if(decide (lists.length<=64)&&lists.all (EO cells))=true then .tup [eLl (lists.map (B8 cells)),.int .i64 0]else .tup [eLl [],.int .i64 130]
theorem MW:∀{l m:List Int},l.Nodup->(∀q∈l,q∈m)->l.length<=m.length
 |[],_,_,_=>Xh _
 |a::l,m,hd,hs=>by
  obtain⟨h1,h2⟩:=YP.1 hd
  have ha:=hs a (by simp)
  have ih:=MW (m:=m.erase a) h2 λq hq=>(List.mem_erase_of_ne (λe:q=a=>by subst e;exact h1 hq)).2 (hs q (by simp [hq]))
  rw[List.length_erase_of_mem ha]at ih
  have:=List.length_pos_of_mem ha
  rw[Xn];omega
structure VRg where
 i:Nat
 E:List AVal
 tl:Tok
 H:AB
 n:Nat
structure IRg (g:Grd) (lists:List (List Int)) (v:VRg):Prop where
 hi:v.i<=lists.length
 hn:3<=v.n
 fr:AN v.H v.n
 h0:hget v.H 0=some (.box (AD g.sh g.w g.h g.holes g.cells))
 tok:tkG 1 1 v.H v.tl
 es:v.tl.esz=1\/v.E=[]
 hE:Wks v.E (((lists.take v.i).map (B8 g.cells)).map eIs)
 eq:lists.all (EO g.cells)=(lists.drop v.i).all (EO g.cells)
structure VRi where
 j:Nat
 tc:Tok
 H:AB
 n:Nat
structure IRi (g:Grd) (x:List Int) (H0:AB) (n0:Nat) (v:VRi):Prop where
 hj:v.j<=x.length
 hn:n0+2<=v.n
 fr:AN v.H v.n
 hk:∀id,id<n0->hget v.H id=hget H0 id
 hm:hget v.H n0=some (.map (ctEs (B8 g.cells (x.take v.j)) 0) v.j)
 tok:tkG 1 (n0+1) v.H v.tc
 es:v.tc.esz=1\/v.j=0
 sub:∀q∈x.take v.j,q∈g.cells
 eq:Hf g.cells [] x=Hf g.cells (x.take v.j) (x.drop v.j)
 nd:(x.take v.j).Nodup
theorem p166 (g:Grd) (lists:List (List Int)) (hG:Aj g.sh g.w g.h g.holes=some g.cells) (hh:few g.holes) (hl:CK lists):Pur Tryz.prog 166 [DS g,eLl lists] (rgsV g.cells lists):=by
 refine .mk ⟨Bp 0 ..,Az 0 _,trivial⟩ (by unfold rgsV;split<;>exact⟨Az 0 _,trivial,trivial⟩) (a166 (AF Tgr_ok (AG ?_)))
 obtain⟨hr1,hr2,hr3⟩:=BK hG
 have hfc:few g.cells:=show g.cells.length<_ by omega
 have hgo:grOK g.sh g.w g.h g.holes g.cells=true:=by unfold grOK;rw[hG];simp
 by_cases h64:64<lists.length
 ·have hv:rgsV g.cells lists= .tup [eLl [],.int .i64 130]:=by unfold rgsV;rw[Xc];simp;omega
  have l64:((64:Int)<(lists.length:Int))=True:=X1 (by omega)
  rw[hv]
  simp only[eE,eC,eN,reduceCtorEq,Nat.reduceEqDiff,↓reduceIte,Nat.reduceAdd,X7,X0,c166,Tgr_c,s1,Rf,K9,X1 hh,X1 hfc,hgo,l64]
  exact Wk.tup (.cons (Wk.sl (.inr rfl)) (.cons (Wk.refl _) .nil))
 have l64:((64:Int)<(lists.length:Int))=False:=X9 (by omega)
 simp only[eE,eC,eN,reduceCtorEq,Nat.reduceEqDiff,↓reduceIte,Nat.reduceAdd,X7,X0,c166,Tgr_c,s1,Rf,K9,X1 hh,X1 hfc,hgo,l64]
 have hbad:lists.all (EO g.cells)=false->rgsV g.cells lists= .tup [eLl [],.int .i64 130]:=λq=>by unfold rgsV;rw[q,Bool.and_false,Xc (by decide)]
 refine AU (λv:VRg=>⟨[(2,true,.ptr 0 0),(4,true,.sl v.tl v.E),(22,true,eLl lists),(23,true,.int .i64 lists.length),(24,true,.int .i64 v.i)],v.H,v.n⟩) (IRg g lists) (λv=>lists.length-v.i)
  ⟨0,[],.nil,hset hnil 0 (.box (AD g.sh g.w g.h g.holes g.cells)),3⟩ rfl ⟨Xh _,Xb _,AN.nil.hset (m:=3) (Xh 3) (show 0<3 by decide),rfl,.inl rfl,.inr rfl,.nil,rfl⟩ ?_
 rintro⟨i,E,tl,H,n⟩ hI
 have hi:=hI.hi
 have hn:=hI.hn
 have hfr:=hI.fr
 have h0:=hI.h0
 have htk:=hI.tok
 have hes:=hI.es
 have hE:=hI.hE
 have heq:=hI.eq
 simp only at hi hn hfr h0 htk hes hE heq
 by_cases hlt:i<lists.length
 case neg=>
  have hi':i=lists.length:=by omega
  subst hi'
  rw[Yt]at heq
  rw[XY]at hE
  have hv:rgsV g.cells lists= .tup [eLl (lists.map (B8 g.cells)),.int .i64 0]:=by
   unfold rgsV;rw[heq,Xg];simp;omega
  rw[hv]
  simp only[eE,eC,eN,Nat.reduceEqDiff,↓reduceIte,lt_F hlt]
  exact Wk.tup (.cons (Wk.slx hes hE) (.cons (Wk.refl _) .nil))
 have hg:=X5 hlt
 have e:=AL (k:=i) (by omega)
 have hxf:=hl.2 _ (Xk hlt)
 have hxe:=map_take (f:=B8 g.cells) hlt
 rw[XM hlt,Zn]at heq
 generalize hx:lists[i]=x at hg hxf heq hxe
 have hxl:x.length<1125899906842624:=hxf
 have hmk:hget (hset H n (.map [] 0)) 0=some (.box (AD g.sh g.w g.h g.holes g.cells)):=by rw[AA _ _ _ _ (by omega)];exact h0
 simp only[eE,eC,eN,Nat.reduceEqDiff,↓reduceIte,xE,X2,X3,X4,X0,X6,lt_T hlt,hg,fr0 hfr]
 refine AU (λv:VRi=>⟨[(2,true,.ptr 0 0),(4,true,.sl tl E),(8,true,.sl v.tc ((B8 g.cells (x.take v.j)).map eI)),(9,true,.mp n),(22,true,eLl lists),(23,true,.int .i64 lists.length),(24,true,.int .i64 i),(29,true,eIs x),(30,true,.int .i64 x.length),(31,true,.int .i64 v.j)],v.H,v.n⟩)
  (IRi g x H n) (λv=>x.length-v.j) ⟨0,.nil,hset H n (.map [] 0),n+2⟩ rfl ⟨Xh _,Xb _,(hfr.hset (m:=n+2) (by omega) (by omega)),λid hid=>AA _ _ _ _ (by omega),AC ..,.inl rfl,.inr rfl,λq hq=>by(simp at hq),rfl,by simp⟩ ?_
 rintro⟨j,tc,H1,n1⟩ hJ
 have hj:=hJ.hj
 have hn1:=hJ.hn
 have hf1:=hJ.fr
 have hk:=hJ.hk
 have hm:=hJ.hm
 have htc:=hJ.tok
 have hec:=hJ.es
 have hsub:=hJ.sub
 have hme:=hJ.eq
 have hnd:=hJ.nd
 simp only at hj hn1 hf1 hk hm htc hec hsub hme hnd
 have hj256:j<=256:=by
  have:=MW hnd hsub
  rw[Xv]at this
  omega
 have h01:hget H1 0=some (.box (AD g.sh g.w g.h g.holes g.cells)):=by rw[hk 0 (by omega)];exact h0
 by_cases hlj:j<x.length
 ·have hgj:=X5 hlj
  have ej:=AL (k:=j) (by omega)
  have htx:=map_take (f:=λp=>(lowB g.cells p:Int)) hlj
  have htk2:x.take (j+1)=x.take j++[x[j]]:=by rw[Y2,hgj];rfl
  rw[XM hlj,Hf]at hme
  have hlen:(B8 g.cells (x.take j)).length=j:=by rw[LC,Xv];omega
  generalize hp:x[j]=p at hgj htx htk2 hme
  have hno:(g.cells.contains p&& !(x.take j).contains p)=false->rgsV g.cells lists= .tup [eLl [],.int .i64 130]:=λq=>hbad (by
   rw[heq,Jr,hme,q];simp)
  cases hin:g.cells.contains p with
  |false=>
   rw[hno (by rw[hin];rfl)]
   simp only[eE,eC,eN,eX,reduceCtorEq,Nat.reduceEqDiff,↓reduceIte,Nat.reduceAdd,Nat.reduceLT,X7,Xe,X2,X3,X4,X0,X6,Xa,Xd,lt_T hlj,hgj,h01,W7,s2,Ax,At,Cm,BW,X1 hfc,X1 hr1,hin]
   exact Wk.tup (.cons (Wk.sl (.inr rfl)) (.cons (Wk.refl _) .nil))
  |true=>
   have hpm:p∈g.cells:=Yi.1 hin
   have hcm:=Tv hr1 hsub hpm
   have hmf:A4 (.int .i64 (lowB g.cells p:Int)) (ctEs (B8 g.cells (x.take j)) 0)=if(x.take j).contains p then some (.bool true)else none:=by rw[MR,hcm]
   cases hmt:(x.take j).contains p with
   |true=>
    rw[hno (by rw[hin,hmt];rfl)]
    rw[hmt,Xg rfl]at hmf
    simp only[eE,eC,eN,eX,Nat.reduceEqDiff,↓reduceIte,Nat.reduceAdd,Nat.reduceLT,X7,xE,X2,X3,X4,X0,X6,Xa,Xd,lt_T hlj,hgj,h01,W7,s2,Ax,At,Cm,BW,X1 hfc,X1 hr1,hin,hm,hmf,Rb,xE,KT.is,CC]
    exact Wk.tup (.cons (Wk.sl (.inr rfl)) (.cons (Wk.refl _) .nil))
   |false=>
    rw[hmt,Xc (by decide)]at hmf
    have hms:=ct_set (l:=B8 g.cells (x.take j)) (x:=(lowB g.cells p:Int)) (by rw[hcm];exact hmt)
    rw[hlen]at hms
    have htm:tkG 1 (n+1) (hset H1 n (.map (ctEs (B8 g.cells (x.take j)++[(lowB g.cells p:Int)]) 0) (j+1))) tc:=htc.set (.inl (by omega))
    have q1:Bj (hset H1 n (.map (ctEs (B8 g.cells (x.take j)++[(lowB g.cells p:Int)]) 0) (j+1))) 1 tc=True:=X1 htm.app
    have q2:(j<=35184372088831)=True:=X1 (by omega)
    have q3:Ap (j+1) 8=True:=X1 (AX (by omega) (by decide))
    have yn:∀k,(n=n1+k)=False:=λk=>X9 (by omega)
    simp only[eE,eC,eN,eX,reduceCtorEq,Nat.reduceEqDiff,↓reduceIte,Nat.reduceAdd,Nat.reduceLeDiff,Nat.reduceMul,Nat.reduceLT,Int.reduceEq,X7,xE,YY,Option.isSome_none,X2,X3,X4,X0,X6,Xa,Xd,lt_T hlj,hgj,h01,W7,s2,Ax,At,Cm,BW,X1 hfc,X1 hr1,hin,hm,hmf,Rb,xE,KT.is,CC,ej,hms,q1,q2,q3,hlen,yn,fr1 hf1]
    generalize hG2:hset H1 n (.map (ctEs (B8 g.cells (x.take j)++[(lowB g.cells p:Int)]) 0) (j+1))=H2 at htm
    have hf2:AN H2 n1:=by rw[<-hG2];exact hf1.hset (Xb _) (by omega)
    have hk2:∀id,id<n->hget H2 id=hget H id:=λid hid=>by rw[<-hG2,AA _ _ _ _ (by omega)];exact hk id hid
    have hm2:hget H2 n=some (.map (ctEs (B8 g.cells (x.take j)++[(lowB g.cells p:Int)]) 0) (j+1)):=by rw[<-hG2];exact AC ..
    have hct:B8 g.cells (x.take (j+1))=B8 g.cells (x.take j)++[(lowB g.cells p:Int)]:=htx
    refine .mk ⟨j+1,.own (n1+3) 1,hset (AV H2 tc) (n1+3) .tok,n1+5⟩ ?_ ⟨hlj,by simp only[];omega,(Ag htm hf2).hset (m:=n1+5) (by omega) (by omega),λid hid=>?_,?_,.inr (.inr ⟨n1+3,rfl,by omega,AC ..⟩),.inl rfl,λq hq=>?_,?_,?_⟩ (by simp only[];omega)
    ·rw[hct,Xj];rfl
    ·simp only[]
     rw[AA _ _ _ _ (by omega),Ad htm (.inl (by omega))];exact hk2 id hid
    ·simp only[]
     rw[AA _ _ _ _ (by omega),Ad htm (.inl (by omega)),hct];exact hm2
    ·simp only[htk2]at hq
     rcases Y6.1 hq with q1|q1
     ·exact hsub q q1
     ·rw[Xy.1 q1];exact hpm
    ·simp only[]
     rw[htk2,hme,hin,hmt];rfl
    ·simp only[]
     rw[htk2,YH]
     refine⟨hnd,by simp,λa ha b hb e=>?_⟩
     rw[Xy]at hb
     subst hb;subst e
     rw[Yi.2 ha]at hmt;cases hmt
 have hj':j=x.length:=by omega
 subst hj'
 rw[Yt,XY]at hme
 rw[XY]at hm
 have hlx:(B8 g.cells (x.take x.length)).length=x.length:=by rw[LC,XY]
 by_cases hx0:x.length=0
 ·have hno:rgsV g.cells lists= .tup [eLl [],.int .i64 130]:=hbad (by rw[heq,Jr,hx0];simp)
  rw[hno]
  simp only[eE,eC,eN,Nat.reduceEqDiff,↓reduceIte,X0,lt_F hlj,hlx,Cn (show((x.length:Nat):Int)=0 by omega)]
  exact Wk.tup (.cons (Wk.sl (.inr rfl)) (.cons (Wk.refl _) .nil))
 have hEl:E.length<=64:=by
  have:=hE.len
  simp only[X0,Xv]at this
  omega
 have ht1:tkG 1 1 H1 tl:=by
  rcases htk with rfl|rfl|⟨id,rfl,h1,h2⟩
  ·exact .inl rfl
  ·exact .inr (.inl rfl)
  ·exact .inr (.inr ⟨id,rfl,h1,by rw[hk id (hfr.lt h2)];exact h2⟩)
 have q1:Bj H1 1 tl=True:=X1 ht1.app
 have q2:(E.length<=35184372088831)=True:=X1 (by omega)
 have q3:Ap (E.length+1) 24=True:=X1 (AX (by omega) (by decide))
 simp only[eE,eC,eN,reduceCtorEq,Nat.reduceEqDiff,↓reduceIte,Nat.reduceLeDiff,Nat.reduceMul,Nat.reduceLT,Int.reduceEq,X0,lt_F hlj,hlx,B2 (show ¬((x.length:Nat):Int)=0 by omega),e,q1,q2,q3,fr1 hf1]
 refine .mk ⟨i+1,E++[.sl tc ((B8 g.cells x).map eI)],.own (n1+3) 1,hset (AV H1 tl) (n1+3) .tok,n1+5⟩ ?_ ⟨hlt,by simp only[];omega,(Ag ht1 hf1).hset (m:=n1+5) (by omega) (by omega),?_,.inr (.inr ⟨n1+3,rfl,by omega,AC ..⟩),.inl rfl,?_,?_⟩ (by simp only[];omega)
 ·rw[XY]
 ·simp only[]
  rw[AA _ _ _ _ (by omega),Ad ht1 (.inl (by omega))];exact h01
 ·simp only[]
  rw[hxe,Xj]
  exact hE.app (.cons (Wk.sl (hec.imp id λq=>by rw[YX.1 q];rfl)) .nil)
 ·simp only[]
  have hok:EO g.cells x=true:=by rw[Jr,hme];simp [Hf];omega
  rw[heq,hok,YM]
end Go.AM
namespace Go.AM
open Go.Proofs Go.Lib
def idxP (m:Nat) (p:Nat->Bool):List Int:=((List.range m).filter p).map λ(i:Nat)=>(i:Int)
theorem Fb {m:Nat} {p:Nat->Bool} {x:Int}:x∈idxP m p↔∃i:Nat,i<m/\p i=true/\x=(i:Int):=by
 unfold idxP
 rw[XN]
 constructor
 ·rintro⟨i,hi,rfl⟩
  rw[Yo,Y4]at hi
  exact⟨i,hi.1,hi.2,rfl⟩
 ·rintro⟨i,h1,h2,rfl⟩
  exact⟨i,Yo.2 ⟨Y4.2 h1,h2⟩,rfl⟩
theorem Nb {m:Nat} {p:Nat->Bool} {i:Nat}:(i:Int)∈idxP m p↔i<m/\p i=true:=by
 rw[Fb]
 constructor
 ·rintro⟨j,h1,h2,h3⟩
  have:i=j:=by omega
  subst this;exact⟨h1,h2⟩
 ·rintro⟨h1,h2⟩;exact⟨i,h1,h2,rfl⟩
theorem Hp (m:Nat) (p:Nat->Bool):List.Pairwise (λx y=>x<y) (idxP m p):=by
 unfold idxP
 rw[List.pairwise_map]
 exact(Zx.sublist List.filter_sublist).imp λq=>by omega
theorem Fc (m:Nat) (p:Nat->Bool):idxP (m+1) p=if p m=true then idxP m p++[(m:Int)]else idxP m p:=by
 unfold idxP
 rw[Z6,Yz,Xj]
 cases h:p m<;>simp [h]
theorem Ee (m:Nat) (p:Nat->Bool):(idxP m p).length<=m:=by
 have:=Yh p (List.range m)
 simpa [idxP]using this
theorem I5 {m:Nat} {p q:Nat->Bool} (h:∀i,i<m->p i=q i):idxP m p=idxP m q:=by
 unfold idxP
 rw[Zy λi hi=>h i (Y4.1 hi)]
theorem Tw (m:Nat):idxP m (λ_=>true)=(List.range m).map λ(i:Nat)=>(i:Int):=by
 unfold idxP;rw[Zi.2 λ_ _=>rfl]
abbrev Spot:=Int×Int
def Jv (sh w p:Int):Spot:=(if sh=2 then p.tmod w-(p.tdiv w).tdiv 2 else p.tmod w,p.tdiv w)
def AQ (sh w:Int) (cells:List Int):List Spot:=cells.map (Jv sh w)
def ET (sh:Int):List Spot:=(([(1,0),(-1,0),(0,1),(0,-1),(1,-1),(-1,1)]:List Spot)).take (if sh=1 then 4 else 6)
def addP (s d:Spot):Spot:=(s.1+d.1,s.2+d.2)
def D2 (S:List Spot) (s:Spot):Option Int:=(S.findIdx? λx=>decide (x=s)).map λ(i:Nat)=>(i:Int)
def nbS (sh:Int) (S:List Spot) (s:Spot):List Int:=idxP S.length λb=>(ET sh).any λd=>decide (S[b]?=some (addP s d))
def nbsS (sh:Int) (S:List Spot):List (List Int):=S.map (nbS sh S)
def Br (S:List Spot) (f:Spot->Option Int) (n:Int):List Int:=idxP S.length λc=>decide (S[c]?.bind f=some n)
def LD:List Int:=(List.range 49).map λ(k:Nat)=>(k:Int)-16
def Bg (S:List Spot) (f:Spot->Option Int):List (List Int):=(LD.map (Br S f)).filter λl=>!l.isEmpty
def O0 (w:Int) (S:List Spot):List (List Int):=
 let a:=Br S (λs=>if s.1=s.2 then some 0 else none) 0
 let b:=Br S (λs=>if s.1+s.2=w-1 then some 0 else none) 0
 (if a.isEmpty then[]else[a])++(if b.isEmpty||decide (a=b)then[]else[b])
def famS (sh w h:Int) (S:List Spot) (f:Nat):List (List Int):=
 if f=0 then(idxP S.length λ_=>true).map λc=>[c]
 else if f=1 then Bg S λs=>some s.2
 else if f=2 then Bg S λs=>some s.1
 else if f=3 then(if sh=2 then Bg S λs=>some (s.1+s.2)else if w=h then O0 w S else[])
 else if f=4 then nbsS sh S
 else if f=5 then(List.range S.length).map λ(c:Nat)=>idxP S.length λb=>decide (b=c)||((ET sh).any λd=>decide (S[b]?=(S[c]?).map λs=>addP s d))
 else if f=6 then(List.range S.length).flatMap λ(c:Nat)=>(((nbsS sh S)[c]?.getD []).filter λb=>decide ((c:Int)<b)).map λb=>[(c:Int),b]
 else[(idxP S.length λ_=>true)]
theorem Ef {S:List Spot} (hd:S.Nodup) {s:Spot} {i:Nat}:D2 S s=some (i:Int)↔S[i]?=some s:=by
 unfold D2
 constructor
 ·intro h
  obtain⟨j,h1,h2⟩:=Y3.1 h
  have:j=i:=by omega
  subst this
  obtain⟨hl,h3,-⟩:=XK.1 h1
  rw[X5 hl,Ys h3]
 ·intro h
  obtain⟨hl,h1⟩:=Xw.1 h
  have:S.findIdx? (λx=>decide (x=s))=some i:=by
   rw[XK]
   refine⟨hl,by simp [h1],λj hj=>?_⟩
   simp only[Xf]
   intro h2
   have:=(YS.1 hd) j i (by omega) hl hj
   exact this (h2.trans h1.symm)
  rw[this];rfl
theorem LE {S:List Spot} {s:Spot} {x:Int} (h:D2 S s=some x):∃i:Nat,x=(i:Int):=by
 unfold D2 at h
 obtain⟨j,-,h2⟩:=Y3.1 h
 exact⟨j,h2.symm⟩
theorem I6 {S:List Spot} {s:Spot}:D2 S s=none↔s∉S:=by
 unfold D2
 rw[Z2,Yd]
 simp only[Ym]
 exact⟨λh hs=>h s hs rfl,λh x hx e=>h (e▸hx)⟩
def GJ (sh:Int) (S:List Spot) (s:Spot):List Int:=(ET sh).filterMap λd=>D2 S (addP s d)
theorem MX (sh:Int):(ET sh).Nodup:=by
 unfold ET;split<;>decide
theorem W8 {s a b:Spot} (h:addP s a=addP s b):a=b:=by
 unfold addP at h
 simp only[Prod.mk.injEq]at h
 exact Prod.ext (by omega) (by omega)
theorem MY (sh:Int) {S:List Spot} (hd:S.Nodup) (s:Spot):(GJ sh S s).Nodup:=by
 unfold GJ
 have h:=MX sh
 generalize ET sh=L at h
 induction L with
 |nil=>simp
 |cons d r ih=>
  obtain⟨h1,h2⟩:=YP.1 h
  rw[List.filterMap_cons]
  cases he:D2 S (addP s d)with
  |none=>exact ih h2
  |some x=>
   refine YP.2 ⟨λhm=>?_,ih h2⟩
   obtain⟨e,he1,he2⟩:=List.mem_filterMap.1 hm
   obtain⟨i,rfl⟩:=LE he
   have a:=(Ef hd).1 he
   have b:=(Ef hd).1 he2
   rw[a]at b
   have:=W8 (Option.some.inj b)
   subst this;exact h1 he1
theorem Rg {sh:Int} {S:List Spot} (hd:S.Nodup) {s:Spot} {x:Int}:x∈GJ sh S s↔x∈nbS sh S s:=by
 unfold GJ nbS
 rw[List.mem_filterMap,Fb]
 constructor
 ·rintro⟨d,hm,he⟩
  obtain⟨i,rfl⟩:=LE he
  have h:=(Ef hd).1 he
  exact⟨i,(Xw.1 h).1,YZ.2 ⟨d,hm,by simp [h]⟩,rfl⟩
 ·rintro⟨i,hi,ha,rfl⟩
  obtain⟨d,hm,he⟩:=YZ.1 ha
  exact⟨d,hm,(Ef hd).2 (Ys he)⟩
theorem Hq {l m:List Int} (hd:l.Nodup) (hm:List.Pairwise (λx y=>x<y) m) (h:∀x,x∈l↔x∈m):l.mergeSort leI=m:=by
 refine NY ?_ hm λx=>?_
 ·have h1:=FX l
  have h2:(l.mergeSort leI).Nodup:=(Z5 l leI).nodup_iff.2 hd
  rw[YS]at h1⊢
  intro i j hi hj hij
  have a:=h1 i j hi hj hij
  have b:=YS.1 h2 i j hi hj hij
  have b':¬(l.mergeSort leI)[i]=(l.mergeSort leI)[j]:=b
  omega
 ·rw[(Z5 l leI).mem_iff];exact h x
theorem O1 (sh:Int) {S:List Spot} (hd:S.Nodup) (s:Spot):(GJ sh S s).mergeSort leI=nbS sh S s:=Hq (MY sh hd s) (Hp ..) λx=>Rg hd
theorem Nc {S:List Spot} {f:Spot->Option Int} {n:Int} {c:Nat}:(c:Int)∈Br S f n↔∃s,S[c]?=some s/\f s=some n:=by
 unfold Br
 rw[Nb]
 simp only[Xf,Zu]
 constructor
 ·exact λh=>h.2
 ·rintro⟨s,h1,h2⟩;exact⟨(Xw.1 h1).1,s,h1,h2⟩
theorem MZ {S:List Spot} {f:Spot->Option Int} {n:Int}:(Br S f n).isEmpty=false↔∃s∈S,f s=some n:=by
 rw[List.isEmpty_eq_false_iff_exists_mem]
 constructor
 ·rintro⟨x,hx⟩
  obtain⟨i,-,-,rfl⟩:=Fb.1 hx
  obtain⟨s,h1,h2⟩:=Nc.1 hx
  exact⟨s,XS h1,h2⟩
 ·rintro⟨s,h1,h2⟩
  obtain⟨i,hi,h3⟩:=Xx.1 h1
  exact⟨(i:Int),Nc.2 ⟨s,by rw[X5 hi,h3],h2⟩⟩
theorem Rh:List.Pairwise (λx y=>x<y) LD:=by
 unfold LD
 rw[List.pairwise_map]
 exact Zx.imp λq=>by omega
theorem Tx {n:Int}:n∈LD↔ -16<=n/\n<=32:=by
 unfold LD
 rw[XN]
 constructor
 ·rintro⟨k,hk,rfl⟩
  have:=Y4.1 hk
  omega
 ·intro h
  exact⟨(n+16).toNat,Y4.2 (by omega),by omega⟩
theorem Ty {S:List Spot} {f:Spot->Option Int} {K:List Int} (hn:K.Nodup) (hk:∀n,n∈K↔∃s∈S,f s=some n) (hb:∀s∈S,∀n,f s=some n-> -16<=n/\n<=32):(K.mergeSort leI).map (Br S f)=Bg S f:=by
 have h:K.mergeSort leI=LD.filter λn=>!(Br S f n).isEmpty:=by
  refine Hq hn (Rh.sublist List.filter_sublist) λn=>?_
  rw[hk,Yo,Tx,Yb,MZ]
  exact⟨λq=>let ⟨s,h1,h2⟩:=q;⟨hb s h1 n h2,q⟩,λq=>q.2⟩
 rw[h,Bg,List.filter_map];rfl
theorem Tz {sh w p q:Int} (hw:1<=w) (hp:0<=p) (hq:0<=q) (h:Jv sh w p=Jv sh w q):p=q:=by
 unfold Jv at h
 simp only[Prod.mk.injEq]at h
 obtain⟨h1,h2⟩:=h
 have e1:=Int.tmod_add_mul_tdiv p w
 have e2:=Int.tmod_add_mul_tdiv q w
 rw[h2]at h1 e1
 split at h1<;>omega
theorem Hr {sh w:Int} {cells:List Int} (hw:1<=w) (hr:List.Pairwise (λx y=>x<y) cells) (h0:∀p∈cells,0<=p):(AQ sh w cells).Nodup:=by
 unfold AQ
 rw[List.Nodup,List.pairwise_map,YS]
 intro i j hi hj hij e
 have:=Tz hw (h0 _ (Xk hi)) (h0 _ (Xk hj)) e
 have:=YS.1 hr i j hi hj hij
 omega
end Go.AM
namespace Go.AM
open Go.Proofs Go.Lib
def besS (sh:Int) (a b:Spot):Bool:=(ET sh).any λd=>decide (b=addP a d)
def besR (sh:Int) (a b:Spot):Bool:=
 let dx:=b.1-a.1
 let dy:=b.2-a.2
 if sh=1 then decide (dy=0)&&(decide (dx=1)||decide (dx= -1))||decide (dx=0)&&(decide (dy=1)||decide (dy= -1))
 else decide (dx=1)&&decide (dy=0)||decide (dx= -1)&&decide (dy=0)||decide (dx=0)&&decide (dy=1)||decide (dx=0)&&decide (dy= -1)||decide (dx=1)&&decide (dy= -1)||decide (dx= -1)&&decide (dy=1)
theorem W9 (sh:Int) (a b:Spot):besR sh a b=besS sh a b:=by
 obtain⟨a1,a2⟩:=a
 obtain⟨b1,b2⟩:=b
 rw[Y8]
 unfold besR besS ET addP
 by_cases h:sh=1
 ·simp only[Xg h,List.take,List.any_cons,List.any_nil,Xp,X8,Xf,Prod.mk.injEq,Xq,or_false]
  omega
 ·simp only[Xc h,List.take,List.any_cons,List.any_nil,Xp,X8,Xf,Prod.mk.injEq,Xq,or_false]
  omega
theorem nb_bes (sh:Int) (S:List Spot) (s:Spot):nbS sh S s=idxP S.length λb=>match S[b]? with
  |some t=>besS sh s t
  |none=>false:=by
 unfold nbS
 refine I5 λi hi=>?_
 rw[X5 hi]
 unfold besS
 simp only[Option.some.injEq]
theorem T5 (sh:Int) (a:Spot):besS sh a a=false:=by
 rw[<-W9,Zp]
 intro h
 unfold besR at h
 by_cases h1:sh=1
 ·simp only[Xg h1,Xp,X8,Xf]at h;omega
 ·simp only[Xc h1,Xp,X8,Xf]at h;omega
end Go.AM
namespace Go.AM
open Go.Proofs Go.Lib
def symI (m:Nat):List Int:=(List.range m).map λ(i:Nat)=>(i:Int)
theorem B3 {m:Nat} {s:Int}:s∈symI m↔0<=s/\s<m:=by
 unfold symI
 rw[XN]
 constructor
 ·rintro⟨i,hi,rfl⟩
  have:=Y4.1 hi
  omega
 ·intro h
  exact⟨s.toNat,Y4.2 (by omega),by omega⟩
def O2 (m:Nat) (l:List Int):List Int:=(symI m).filter λs=>!l.contains s
def chsE (m:Nat):Nat->List Int->List (List Int)
 |0,l=>[l]
 |j+1,l=>(O2 m l).flatMap λs=>chsE m j (l++[s])
def chs (m n:Nat):List (List Int):=chsE m n []
def chsR (m:Nat):Nat->List (List Int)
 |0=>[[]]
 |n+1=>(chsR m n).flatMap λl=>(O2 m l).map λs=>l++[s]
theorem LG (m:Nat):∀(j:Nat) (l:List Int),chsE m (j+1) l=(chsE m j l).flatMap λl'=>(O2 m l').map λs=>l'++[s]
 |0,l=>by simp [chsE,Zo,List.map_eq_flatMap]
 |j+1,l=>by
  rw[chsE]
  conv=>rhs;rw[chsE]
  rw[List.flatMap_assoc]
  congr 1
  funext s
  exact LG m j (l++[s])
theorem Ri (m:Nat):∀n,chs m n=chsR m n
 |0=>rfl
 |n+1=>by
  unfold chs
  rw[LG,chsR,<-Ri m n];rfl
theorem Nd {m:Nat}:∀{j:Nat} {l x:List Int},x∈chsE m j l->x.length=l.length+j/\(l.Nodup->(∀s∈l,0<=s/\s<m)->x.Nodup/\∀s∈x,0<=s/\s<m)
 |0,l,x,h=>by
  simp only[chsE,Xy]at h
  subst h;exact⟨rfl,λa b=>⟨a,b⟩⟩
 |j+1,l,x,h=>by
  simp only[chsE,List.mem_flatMap]at h
  obtain⟨s,hs,hx⟩:=h
  obtain⟨h1,h2⟩:=Nd hx
  refine⟨by rw[h1,Xm];simp;omega,λhd hr=>?_⟩
  unfold O2 at hs
  rw[Yo,B3,Yb,Zg,Ym]at hs
  refine h2 ?_ ?_
  ·rw[YH]
   refine⟨hd,by simp,λa ha b hb e=>?_⟩
   rw[Xy]at hb
   subst hb;subst e;exact hs.2 ha
  ·intro t ht
   rcases Y6.1 ht with q|q
   ·exact hr t q
   ·rw[Xy]at q;subst q;exact hs.1
theorem Hs {m n:Nat} {x:List Int} (h:x∈chs m n):x.length=n/\x.Nodup/\∀s∈x,0<=s/\s<m:=by
 obtain⟨h1,h2⟩:=Nd h
 obtain⟨h3,h4⟩:=h2 ZM (by simp)
 exact⟨by simpa using h1,h3,h4⟩
def at0 (l:List Int) (i:Int):Int:=l[i.toNat]?.getD 0
def BZ (bad:Int->Int->Bool):List Int->Bool
 |[]=>false
 |a::r=>(r.any λb=>decide (0<=a)&&decide (0<=b)&&bad a b)||BZ bad r
def cOwn (ls l:List Int):Nat:=(l.filter λs=>decide (0<=s)&&ls.contains s).length
def cOth (ls l:List Int):Nat:=(l.filter λs=>decide (0<=s)&& !ls.contains s).length
def cNon (l:List Int):Nat:=(l.filter λs=>decide (s<0)).length
def absI (a:Int):Int:=max a (-a)
def BQ (vals:List Int) (k n:Int) (ls l:List Int):Bool:=
 if k=1 then BZ (λa b=>decide (a=b)) l
 else if k=2 then decide (cOwn ls l=0)&&decide (cNon l=0)
 else if k=3 then BZ (λa b=>decide (absI (at0 vals a-at0 vals b)<n)) l
 else if k=4 then BZ (λa b=>decide (at0 vals b<=at0 vals a)) l
 else if k=6 then decide (n<(cOwn ls l:Int))||decide ((l.length:Int)-n<(cOth ls l:Int))
 else false
def Fd (vals:List Int) (q:Cnd) (letters cells:List Int):Bool:=BQ vals q.k q.n (q.ls.map (at0 letters)) (q.cs.map (at0 cells))
def Fe (p:Prm) (letters cells:List Int):Bool:=decide (0<=at0 cells p.c)&& !(p.ls.map (at0 letters)).contains (at0 cells p.c)
def D4 (vals:List Int) (x:Lma) (letters cells:List Int):List Bool:=(x.qs.map λq=>Fd vals q letters cells)++x.ps.map λp=>Fe p letters cells
def A0 (vals:List Int) (x:Lma) (letters cells:List Int) (i:Int):Bool:=if i<0 then false else(D4 vals x letters cells)[i.toNat]?.getD false
def A8 (vals:List Int) (x:Lma) (letters cells:List Int):Bool:=(D4 vals x letters cells).all λb=>!b
structure ExtC (a b:List Int):Prop where
 len:a.length=b.length
 le:∀(i:Nat) s,a[i]?=some s->0<=s->b[i]?=some s
 neg:∀s∈a,-1<=s
theorem A5 {l:List Int} {i:Int} (h0:0<=i) (h:i<l.length):l[i.toNat]?=some (at0 l i):=by
 unfold at0
 rw[X5 (by omega)];rfl
inductive Ext2:List Int->List Int->Prop
 |nil:Ext2 [] []
 |cons {a b:Int} {l m:List Int}:(0<=a->b=a)->Ext2 l m->Ext2 (a::l) (b::m)
theorem Rj {a b:List Int} (h:ExtC a b):∀{cs:List Int},(∀c∈cs,0<=c/\c<a.length)->Ext2 (cs.map (at0 a)) (cs.map (at0 b))
 |[],_=>.nil
 |c::cs,hc=>by
  refine .cons (λh0=>?_) (Rj h λd hd=>hc d (by simp [hd]))
  obtain⟨h1,h2⟩:=hc c (by simp)
  have e:=h.le c.toNat _ (A5 h1 h2) h0
  rw[A5 h1 (by rw[<-h.len];exact h2)]at e
  exact Option.some.inj e
theorem Ext2.length:∀{l m:List Int},Ext2 l m->l.length=m.length
 |_,_,.nil=>rfl
 |_,_,.cons _ t=>by rw[Xn,Xn,t.length]
theorem Ext2.any {p:Int->Bool}:∀{l m:List Int},Ext2 l m->(l.any λb=>decide (0<=b)&&p b)=true->(m.any λb=>decide (0<=b)&&p b)=true
 |_,_,.nil,h=>h
 |_,_,.cons (a:=a) (b:=b) hh t,h=>by
  rw[List.any_cons,Xp]at h⊢
  rcases h with h|h
  ·left
   rw[X8,Xf]at h
   rw[hh h.1,X8,Xf];exact h
  ·exact .inr (t.any h)
theorem Eg {bad:Int->Int->Bool}:∀{l m:List Int},Ext2 l m->BZ bad l=true->BZ bad m=true
 |_,_,.nil,h=>h
 |_,_,.cons (a:=a) (b:=b) (l:=l) (m:=m) hh t,h=>by
  unfold BZ at h⊢
  rw[Xp]at h⊢
  rcases h with h|h
  ·left
   by_cases ha:0<=a
   ·rw[hh ha]
    have:=t.any (p:=λc=>bad a c) (by simpa [ha]using h)
    simpa [ha]using this
   ·simp [ha]at h
  ·exact .inr (Eg t h)
theorem Nf {ls:List Int}:∀{l m:List Int},Ext2 l m->cOwn ls l<=cOwn ls m
 |_,_,.nil=>Xb _
 |_,_,.cons (a:=a) (b:=b) hh t=>by
  have ih:=Nf (ls:=ls) t
  unfold cOwn at ih⊢
  rw[Yn,Yn]
  by_cases ha:0<=a
  ·rw[hh ha]
   split<;>(try simp only[Xn])<;>omega
  ·have h1:(decide (0<=a)&&ls.contains a)=false:=by simp [ha]
   rw[h1]
   simp only[Xq,XO]
   split<;>(try simp only[Xn])<;>omega
theorem Ng {ls:List Int}:∀{l m:List Int},Ext2 l m->cOth ls l<=cOth ls m
 |_,_,.nil=>Xb _
 |_,_,.cons (a:=a) (b:=b) hh t=>by
  have ih:=Ng (ls:=ls) t
  unfold cOth at ih⊢
  rw[Yn,Yn]
  by_cases ha:0<=a
  ·rw[hh ha]
   split<;>(try simp only[Xn])<;>omega
  ·have h1:(decide (0<=a)&& !ls.contains a)=false:=by simp [ha]
   rw[h1]
   simp only[Xq,XO]
   split<;>(try simp only[Xn])<;>omega
theorem Nh:∀{l m:List Int},Ext2 l m->cNon l=0->l=m
 |_,_,.nil,_=>rfl
 |_,_,.cons (a:=a) (b:=b) hh t,h=>by
  unfold cNon at h
  rw[Yn]at h
  by_cases ha:a<0
  ·simp [ha]at h
  ·have h1:decide (a<0)=false:=by simp [ha]
   rw[h1]at h
   rw[hh (by omega),Nh t h]
theorem O3 {vals:List Int} {k n:Int} {ls l m:List Int} (h:Ext2 l m) (hc:BQ vals k n ls l=true):BQ vals k n ls m=true:=by
 unfold BQ at hc⊢
 have hl:=h.length
 by_cases k1:k=1
 ·rw[Xg k1]at hc⊢;exact Eg h hc
 rw[Xc k1]at hc⊢
 by_cases k2:k=2
 ·rw[Xg k2]at hc⊢
  rw[X8,Xf,Xf]at hc
  rw[<-Nh h hc.2];simp [hc]
 rw[Xc k2]at hc⊢
 by_cases k3:k=3
 ·rw[Xg k3]at hc⊢;exact Eg h hc
 rw[Xc k3]at hc⊢
 by_cases k4:k=4
 ·rw[Xg k4]at hc⊢;exact Eg h hc
 rw[Xc k4]at hc⊢
 by_cases k6:k=6
 ·rw[Xg k6]at hc⊢
  rw[Xp,Xf,Xf]at hc⊢
  have h1:=Nf (ls:=ls) h
  have h2:=Ng (ls:=ls) h
  omega
 ·rw[Xc k6]at hc;cases hc
theorem Ma {p:Prm} {letters a b:List Int} (h:ExtC a b) (hc:0<=p.c/\p.c<a.length) (hd:Fe p letters a=true):Fe p letters b=true:=by
 unfold Fe at hd⊢
 rw[X8,Xf]at hd
 have e:=h.le p.c.toNat _ (A5 hc.1 hc.2) hd.1
 rw[A5 hc.1 (by rw[<-h.len];exact hc.2)]at e
 rw[Option.some.inj e,X8,Xf];exact hd
end Go.AM
namespace Go.AM
open Go.Proofs Go.Lib
structure Cas where
 k:Int
 a:Int
 deriving DecidableEq
def Eu:Int:=2
def DA:Int:=1
def DT (x:Lma) (c:Int):Option Prm:=x.ps.find? λp=>decide (p.c=c)
def Bq (m:Nat) (x:Lma) (letters:List Int) (c:Int):List Int:=match DT x c with
 |none=>symI m
 |some p=>(symI m).filter λs=>(p.ls.map (at0 letters)).contains s
def begC (x:Lma) (letters:List Int):List Int:=(List.replicate x.cs.length (-1)).set x.c.toNat (at0 letters x.l)
def seqT (f:Int->List Cas->Option (List Cas)):List Int->List Cas->Option (List Cas)
 |[],l=>some l
 |s::r,l=>(f s l).bind (seqT f r)
def A3 (vals:List Int) (x:Lma) (letters:List Int):Nat->List Int->List Cas->Option (List Cas)
 |_,_,[]=>none
 |f,cells,n::l=>
  if n.k=Eu then(if A0 vals x letters cells n.a then some l else none)
  else if n.k=DA/\0<=n.a/\n.a<cells.length/\at0 cells n.a<0 then
   match f with
   |0=>none
   |f+1=>seqT (λs l=>A3 vals x letters f (cells.set n.a.toNat s) l) (Bq vals.length x letters n.a) l
  else none
def B4 (vals:List Int) (x:Lma) (trees:List (List Cas)):Bool:=
 decide ((chs vals.length x.ls.length).length=trees.length)&&(((chs vals.length x.ls.length).zip trees).all λq=>decide (A3 vals x q.1 x.cs.length (begC x q.1) q.2=some []))
def tryP (vals:List Int) (x:Lma) (letters:List Int):Nat->Nat->List Int->Bool
 |j,i,cells=>if A8 vals x letters cells then(match j with
   |0=>true
   |j+1=>if(i:Int)=x.c then tryP vals x letters j (i+1) cells else(symI vals.length).any λs=>tryP vals x letters j (i+1) (cells.set i s))
  else false
def EU (vals:List Int) (x:Lma):Bool:=(chs vals.length x.ls.length).all λletters=>!tryP vals x letters x.cs.length 0 (begC x letters)
structure Refutes (vals:List Int) (x:Lma) (letters c:List Int):Prop where
 len:c.length=x.cs.length
 rng:∀s∈c,0<=s/\s<vals.length
 con:at0 c x.c=at0 letters x.l
 ok:A8 vals x letters c=true
theorem Fx {vals:List Int} {x:Lma} {letters a b:List Int} (hx:OKL x) (h:ExtC a b) (hl:a.length=x.cs.length) {i:Nat} (hi:(D4 vals x letters a)[i]?=some true):(D4 vals x letters b)[i]?=some true:=by
 unfold D4 at hi⊢
 rw[List.getElem?_append]at hi⊢
 simp only[X0]at hi⊢
 split at hi
 ·rename_i hlt
  rw[Xg hlt]
  rw[X6,Y3]at hi⊢
  obtain⟨q,h1,h2⟩:=hi
  refine⟨q,h1,?_⟩
  have hq:=RO (hx.qs q (XS h1))
  refine O3 (Rj h λc hc=>?_) h2
  have:=Xi.1 (Dk hq.cs) c hc
  simp only[X8,Xf]at this
  rw[hl];exact this
 ·rename_i hlt
  rw[Xc hlt]
  rw[X6,Y3]at hi⊢
  obtain⟨p,h1,h2⟩:=hi
  refine⟨p,h1,Ma h ?_ h2⟩
  have:=Xi.1 (Dk hx.pc) p.c (XN.2 ⟨p,XS h1,rfl⟩)
  simp only[X8,Xf]at this
  rw[hl];exact this
theorem O4 {vals:List Int} {x:Lma} {letters a b:List Int} (hx:OKL x) (h:ExtC a b) (hl:a.length=x.cs.length) (hb:A8 vals x letters b=true):A8 vals x letters a=true:=by
 unfold A8 at hb⊢
 rw[Xi]at hb⊢
 intro c hc
 cases c with
 |false=>rfl
 |true=>
  obtain⟨i,hi,h1⟩:=Xx.1 hc
  have h2:=Fx hx h hl (vals:=vals) (letters:=letters) (i:=i) (by rw[X5 hi,h1])
  have:=hb true (XS h2)
  cases this
theorem Rk {a b:List Int} {i:Nat} {s:Int} (h:ExtC a b) (hb:b[i]?=some s) (hs:0<=s) (ha:∀t,a[i]?=some t->t<0):ExtC (a.set i s) b:=by
 have hi:i<b.length:=(Xw.1 hb).1
 refine⟨by rw[Ye];exact h.len,λj t hj h0=>?_,λt ht=>?_⟩
 ·rw[Ya]at hj
  split at hj
  ·rename_i e
   subst e
   split at hj
   ·cases hj;exact hb
   ·cases hj
  ·exact h.le j t hj h0
 ·rcases Yq ht with q|q
  ·exact h.neg t q
  ·omega
theorem Eh (x:Lma) (letters:List Int):(begC x letters).length=x.cs.length:=by unfold begC;simp
theorem Rl {vals:List Int} {x:Lma} {letters c:List Int} (hx:OKL x) (hl0:0<=at0 letters x.l) (h:Refutes vals x letters c):ExtC (begC x letters) c:=by
 have hcl:=hx.c
 refine⟨by rw[Eh,h.len],λi s hi h0=>?_,λs hs=>?_⟩
 ·unfold begC at hi
  rw[Ya]at hi
  split at hi
  ·rename_i e
   split at hi
   ·cases hi
    have:=A5 (l:=c) (i:=x.c) hcl.1 (by rw[h.len];exact hcl.2)
    rw[<-e,this,h.con]
   ·cases hi
  ·rw[List.getElem?_replicate]at hi
   split at hi
   ·cases hi;omega
   ·cases hi
 ·unfold begC at hs
  rcases Yq hs with q|q
  ·rw[Zm]at q;omega
  ·omega
theorem Mb {vals:List Int} {x:Lma} {letters c:List Int} (hx:OKL x) (hok:A8 vals x letters c=true) {i:Int} {s:Int} (hs:at0 c i=s) (h0:0<=s) (hm:s<vals.length):s∈Bq vals.length x letters i:=by
 unfold Bq
 have hsy:s∈symI vals.length:=B3.2 ⟨h0,hm⟩
 split
 ·exact hsy
 ·rename_i p hp
  rw[Yo]
  refine⟨hsy,?_⟩
  unfold DT at hp
  have h1:=List.mem_of_find?_eq_some hp
  have h2:=List.find?_some hp
  simp only[Xf]at h2
  unfold A8 at hok
  have:=Xi.1 hok (Fe p letters c) (Y6.2 (.inr (XN.2 ⟨p,h1,rfl⟩)))
  unfold Fe at this
  rw[h2,hs]at this
  simp only[Yb,Bool.and_eq_false_iff,Ym,Bool.not_eq_false']at this
  exact this.resolve_left λq=>q h0
theorem I7 {vals:List Int} {x:Lma} {letters:List Int} (hx:OKL x):∀(f:Nat) (cells:List Int) (l r:List Cas),A3 vals x letters f cells l=some r->cells.length=x.cs.length->∀c,Refutes vals x letters c->¬ExtC cells c
 |f,cells,[],r,h,_,c,hc=>by rw[A3]at h;cases h
 |0,cells,n::l,r,h,hl,c,hc=>by
  intro he
  rw[A3]at h
  split at h
  ·split at h
   ·rename_i hk hcomp
    unfold A0 at hcomp
    split at hcomp
    ·cases hcomp
    ·have h1:(D4 vals x letters cells)[n.a.toNat]?=some true:=by
      cases q:(D4 vals x letters cells)[n.a.toNat]? with
      |none=>rw[q]at hcomp;cases hcomp
      |some b=>rw[q]at hcomp;simp only[X2]at hcomp;rw[hcomp]
     have h2:=Fx hx he hl h1
     have:=Xi.1 hc.ok true (XS h2)
     cases this
   ·cases h
  ·split at h<;>cases h
 |f+1,cells,n::l,r,h,hl,c,hc=>by
  intro he
  rw[A3]at h
  split at h
  ·split at h
   ·rename_i hk hcomp
    unfold A0 at hcomp
    split at hcomp
    ·cases hcomp
    ·have h1:(D4 vals x letters cells)[n.a.toNat]?=some true:=by
      cases q:(D4 vals x letters cells)[n.a.toNat]? with
      |none=>rw[q]at hcomp;cases hcomp
      |some b=>rw[q]at hcomp;simp only[X2]at hcomp;rw[hcomp]
     have h2:=Fx hx he hl h1
     have:=Xi.1 hc.ok true (XS h2)
     cases this
   ·cases h
  ·split at h
   ·rename_i hk hsp
    obtain⟨-,h0,h1,h2⟩:=hsp
    have hlc:n.a<c.length:=by rw[<-he.len];exact h1
    have hg:=A5 h0 hlc
    have hmem:=XS hg
    have hr:=hc.rng _ hmem
    have hcon:=Mb hx hc.ok (i:=n.a) rfl hr.1 hr.2
    have hseq:∀(ss:List Int) (l r:List Cas),seqT (λs l=>A3 vals x letters f (cells.set n.a.toNat s) l) ss l=some r->∀s∈ss,∃l1 r1,A3 vals x letters f (cells.set n.a.toNat s) l1=some r1:=by
     intro ss
     induction ss with
     |nil=>intro l r _ s hs;cases hs
     |cons t ss ih=>
      intro l r hq s hs
      rw[seqT]at hq
      obtain⟨l1,q1,q2⟩:=Zu.1 hq
      rcases XQ.1 hs with e|e
      ·subst e;exact⟨l,l1,q1⟩
      ·exact ih l1 r q2 s e
    obtain⟨l1,r1,ht⟩:=hseq _ _ _ h _ hcon
    refine I7 hx f _ l1 r1 ht (by rw[Ye];exact hl) c hc (Rk he hg hr.1 λt ht=>?_)
    have hgc:=A5 h0 h1
    rw[hgc]at ht;cases ht;exact h2
   ·cases h
theorem Cs {vals:List Int} {x:Lma} {letters:List Int} (hx:OKL x) (hl:letters∈chs vals.length x.ls.length):0<=at0 letters x.l/\at0 letters x.l<vals.length:=by
 obtain⟨h1,-,h3⟩:=Hs hl
 exact h3 _ (XS (A5 hx.l.1 (by rw[h1];exact hx.l.2)))
theorem Mc {vals:List Int} {x:Lma} {trees:List (List Cas)} (hx:OKL x) (h:B4 vals x trees=true) {letters:List Int} (hl:letters∈chs vals.length x.ls.length):∀c,¬Refutes vals x letters c:=by
 intro c hc
 unfold B4 at h
 rw[X8,Xf,Xi]at h
 obtain⟨i,hi,h1⟩:=Xx.1 hl
 have hz:(letters,trees[i]'(by omega))∈(chs vals.length x.ls.length).zip trees:=by
  rw[Xx]
  exact⟨i,by rw[List.length_zip];omega,by rw[List.getElem_zip,h1]⟩
 have:=Ys (h.2 _ hz)
 exact I7 hx _ _ _ _ this (Eh ..) c hc (Rl hx (Cs hx hl).1 hc)
end Go.AM
namespace Go.AM
open Go.Proofs Go.Lib
structure Sofar (vals:List Int) (x:Lma) (letters:List Int) (i:Nat) (cells:List Int):Prop where
 len:cells.length=x.cs.length
 con:at0 cells x.c=at0 letters x.l
 lo:∀(k:Nat) s,cells[k]?=some s->k<i\/(k:Int)=x.c->0<=s/\s<vals.length
 hi:∀(k:Nat) s,cells[k]?=some s->i<=k->(k:Int)≠x.c->s= -1
theorem LH {vals:List Int} {x:Lma} {letters:List Int} (hx:OKL x) (hl:letters∈chs vals.length x.ls.length):Sofar vals x letters 0 (begC x letters):=by
 have hb:=Cs hx hl
 have hc:=hx.c
 refine⟨Eh ..,?_,λk s hk h=>?_,λk s hk _ hne=>?_⟩
 ·unfold begC at0
  rw[Ya,Xg rfl,Xg (by rw[Yp];omega)];rfl
 ·rcases h with h|h
  ·omega
  ·unfold begC at hk
   rw[Ya,Xg (by omega)]at hk
   split at hk
   ·cases hk;exact hb
   ·cases hk
 ·unfold begC at hk
  rw[Ya,Xc (by omega),List.getElem?_replicate]at hk
  split at hk
  ·cases hk;rfl
  ·cases hk
theorem LI {vals:List Int} {x:Lma} {letters:List Int} {i:Nat} {cells:List Int} {s:Int} (h:Sofar vals x letters i cells) (hx:OKL x) (hne:(i:Int)≠x.c) (h0:0<=s) (hm:s<vals.length):Sofar vals x letters (i+1) (cells.set i s):=by
 have hc:=hx.c
 refine⟨by rw[Ye];exact h.len,?_,λk t hk hq=>?_,λk t hk hle hq=>?_⟩
 ·have:=h.con
  unfold at0 at this⊢
  rw[Ya,Xc (by omega)];exact this
 ·rw[Ya]at hk
  split at hk
  ·split at hk
   ·cases hk;exact⟨h0,hm⟩
   ·cases hk
  ·exact h.lo k t hk (by omega)
 ·rw[Ya,Xc (by omega)]at hk
  exact h.hi k t hk (by omega) hq
theorem O5 {vals:List Int} {x:Lma} {letters:List Int} {i:Nat} {cells:List Int} (h:Sofar vals x letters i cells) (he:(i:Int)=x.c):Sofar vals x letters (i+1) cells:=
 ⟨h.len,h.con,λk t hk hq=>h.lo k t hk (by omega),λk t hk hle hq=>h.hi k t hk (by omega) hq⟩
theorem Ht {vals:List Int} {x:Lma} {letters:List Int} {i:Nat} {cells:List Int} (h:Sofar vals x letters i cells):∀s∈cells,-1<=s:=by
 intro s hs
 obtain⟨k,hk,e⟩:=Xx.1 hs
 have hk':cells[k]?=some s:=by rw[X5 hk,e]
 by_cases q:k<i\/(k:Int)=x.c
 ·have:=h.lo k s hk' q;omega
 ·have:=h.hi k s hk' (by omega) (by omega);omega
theorem Jw {vals:List Int} {x:Lma} {letters:List Int} (hx:OKL x):∀(j i:Nat) (cells:List Int),i+j=x.cs.length->Sofar vals x letters i cells->(tryP vals x letters j i cells=true↔∃c,Refutes vals x letters c/\ExtC cells c)
 |0,i,cells,hij,hs=>by
  have hall:∀s∈cells,0<=s/\s<vals.length:=λs hm=>by
   obtain⟨k,hk,e⟩:=Xx.1 hm
   have:=hs.len
   exact hs.lo k s (by rw[X5 hk,e]) (by omega)
  have hfull:∀c,ExtC cells c->c=cells:=λc he=>by
   refine Zb λk=>?_
   by_cases hk:k<cells.length
   ·have h1:=X5 hk
    rw[h1]
    exact he.le k _ h1 (hall _ (Xk hk)).1
   ·rw[Yk (by have:=he.len;omega),Yk (by omega)]
  rw[tryP]
  constructor
  ·intro h
   have hb:A8 vals x letters cells=true:=by
    split at h
    ·assumption
    ·cases h
   exact⟨cells,⟨hs.len,hall,hs.con,hb⟩,rfl,λ_ _ h _=>h,Ht hs⟩
  ·rintro⟨c,hc,he⟩
   have:=hfull c he
   subst this
   rw[Xg hc.ok]
 |j+1,i,cells,hij,hs=>by
  rw[tryP]
  have hmono:∀c,Refutes vals x letters c->ExtC cells c->A8 vals x letters cells=true:=λc hc he=>O4 hx he hs.len hc.ok
  by_cases hi:(i:Int)=x.c
  ·have ih:=Jw hx j (i+1) cells (by omega) (O5 hs hi)
   constructor
   ·intro h
    by_cases hb:A8 vals x letters cells=true
    ·rw[Xg hb]at h
     simp only[Xg hi]at h;exact ih.1 h
    ·rw[Xc hb]at h;cases h
   ·rintro⟨c,hc,he⟩
    rw[Xg (hmono c hc he)]
    simp only[Xg hi]
    exact ih.2 ⟨c,hc,he⟩
  ·have hil:i<cells.length:=by have:=hs.len;omega
   have hg:cells[i]?=some (-1):=by
    have:=X5 hil
    rw[this,hs.hi i _ this (Xb _) hi]
   constructor
   ·intro h
    by_cases hb:A8 vals x letters cells=true
    ·rw[Xg hb]at h
     simp only[Xc hi]at h
     obtain⟨s,hm,h1⟩:=YZ.1 h
     have hr:=B3.1 hm
     obtain⟨c,hc,he⟩:=(Jw hx j (i+1) _ (by omega) (LI hs hx hi hr.1 hr.2)).1 h1
     refine⟨c,hc,by have:=he.len;rw[Ye]at this;exact this,λk t hk h0=>?_,Ht hs⟩
     by_cases e:i=k
     ·subst e;rw[hg]at hk;cases hk;omega
     ·exact he.le k t (by rw[Ya,Xc e];exact hk) h0
    ·rw[Xc hb]at h;cases h
   ·rintro⟨c,hc,he⟩
    rw[Xg (hmono c hc he)]
    simp only[Xc hi]
    have hic:i<c.length:=by rw[<-he.len];exact hil
    have hr:=hc.rng _ (Xk hic)
    rw[YZ]
    refine⟨c[i],B3.2 hr,(Jw hx j (i+1) _ (by omega) (LI hs hx hi hr.1 hr.2)).2 ⟨c,hc,Rk he (X5 hic) hr.1 λt ht=>?_⟩⟩
    rw[hg]at ht;cases ht;omega
theorem Rm {vals:List Int} {x:Lma} {letters:List Int} (hx:OKL x) (hl:letters∈chs vals.length x.ls.length):tryP vals x letters x.cs.length 0 (begC x letters)=true↔∃c,Refutes vals x letters c:=by
 rw[Jw hx _ _ _ (Y5 _) (LH hx hl)]
 exact⟨λ⟨c,hc,_⟩=>⟨c,hc⟩,λ⟨c,hc⟩=>⟨c,hc,Rl hx (Cs hx hl).1 hc⟩⟩
theorem Hu {vals:List Int} {x:Lma} (hx:OKL x):EU vals x=true↔∀letters∈chs vals.length x.ls.length,∀c,¬Refutes vals x letters c:=by
 unfold EU
 rw[Xi]
 constructor
 ·intro h letters hl c hc
  have h1:=h letters hl
  rw[Yb]at h1
  have:=(Rm hx hl).2 ⟨c,hc⟩
  rw[h1]at this;cases this
 ·intro h letters hl
  rw[Yb]
  cases q:tryP vals x letters x.cs.length 0 (begC x letters)with
  |false=>rfl
  |true=>
   obtain⟨c,hc⟩:=(Rm hx hl).1 q
   exact absurd hc (h letters hl c)
theorem O6 {vals:List Int} {x:Lma} {trees:List (List Cas)} (hx:OKL x) (h:B4 vals x trees=true):EU vals x=true:=
 (Hu hx).2 λletters hl c=>Mc hx h hl c
end Go.AM
namespace Go.AM
open Go.Proofs Go.Lib
theorem Ni {f:Int->List Cas->Option (List Cas)} (hf:∀s l r z,f s l=some r->f s (l++z)=some (r++z)):∀{ss:List Int} {l r:List Cas},seqT f ss l=some r->∀z,seqT f ss (l++z)=some (r++z)
 |[],l,r,h,z=>by
  rw[seqT]at h⊢
  cases h;rfl
 |s::ss,l,r,h,z=>by
  rw[seqT]at h⊢
  obtain⟨l1,h1,h2⟩:=Zu.1 h
  rw[hf s l l1 z h1]
  exact Ni hf h2 z
theorem Nj {vals:List Int} {x:Lma} {letters:List Int}:∀(f:Nat) (cells:List Int) (l r z:List Cas),A3 vals x letters f cells l=some r->A3 vals x letters f cells (l++z)=some (r++z)
 |f,cells,[],r,z,h=>by rw[A3]at h;cases h
 |0,cells,n::l,r,z,h=>by
  rw[Xl]
  rw[A3]at h⊢
  by_cases h1:n.k=Eu
  ·rw[Xg h1]at h⊢
   split at h
   ·rename_i hq;cases h;rw[Xg hq]
   ·cases h
  ·rw[Xc h1]at h⊢
   split at h<;>cases h
 |f+1,cells,n::l,r,z,h=>by
  rw[Xl]
  rw[A3]at h⊢
  by_cases h1:n.k=Eu
  ·rw[Xg h1]at h⊢
   split at h
   ·rename_i hq;cases h;rw[Xg hq]
   ·cases h
  ·rw[Xc h1]at h⊢
   by_cases h2:n.k=DA/\0<=n.a/\n.a<cells.length/\at0 cells n.a<0
   ·rw[Xg h2]at h⊢
    exact Ni (λs l r z q=>Nj f (cells.set n.a.toNat s) l r z q) h z
   ·rw[Xc h2]at h;cases h
theorem Rn {vals:List Int} {x:Lma} {letters:List Int} {f:Nat} {cells:List Int} {l:List Cas} {n:Cas} (h:A3 vals x letters f cells l=some []):A3 vals x letters f cells (l++[n])≠some []:=by
 rw[Nj f cells l [] [n] h];simp
theorem Ro {vals:List Int} {x:Lma} {letters:List Int} {f:Nat} {cells:List Int} {l:List Cas} (h:A3 vals x letters f cells l=some []):A3 vals x letters f cells l.dropLast≠some []:=by
 intro h2
 have hne:l≠[]:=λe=>by subst e;rw[A3]at h;cases h
 have:=Rn (n:=l.getLast hne) h2
 rw[List.dropLast_concat_getLast hne]at this
 exact this h
def DU (vals:List Int) (x:Lma) (letters cells:List Int):Option Nat:=(D4 vals x letters cells).findIdx? λb=>b
def GX (cells:List Int):Option Nat:=cells.findIdx? λs=>decide (s<0)
def catT (f:Int->Option (List Cas)):List Int->Option (List Cas)
 |[]=>some []
 |s::r=>match f s with
  |none=>none
  |some a=>(catT f r).map λb=>a++b
def B5 (vals:List Int) (x:Lma) (letters:List Int):Nat->List Int->Option (List Cas)
 |f,cells=>match DU vals x letters cells with
  |some c=>some [⟨Eu,c⟩]
  |none=>match GX cells with
   |none=>none
   |some i=>match f with
    |0=>none
    |f+1=>(catT (λs=>B5 vals x letters f (cells.set i s)) (Bq vals.length x letters i)).map λt=>⟨DA,i⟩::t
theorem I8 {vals:List Int} {x:Lma} {letters cells:List Int} {c:Nat} (h:DU vals x letters cells=some c):A0 vals x letters cells c=true:=by
 unfold DU at h
 obtain⟨h1,h2,-⟩:=XK.1 h
 unfold A0
 rw[Xc (by omega),X3,X5 h1]
 exact h2
theorem Ei {vals:List Int} {x:Lma} {letters cells:List Int}:DU vals x letters cells=none↔A8 vals x letters cells=true:=by
 unfold DU A8
 rw[Yd,Xi]
 exact⟨λh b hb=>by rw[h b hb];rfl,λh b hb=>by have:=h b hb;rwa[Yb]at this⟩
theorem Ff {cells:List Int} {i:Nat} (h:GX cells=some i):∃s,cells[i]?=some s/\s<0:=by
 unfold GX at h
 obtain⟨h1,h2,-⟩:=XK.1 h
 exact⟨cells[i],X5 h1,Ys h2⟩
theorem Rp {cells:List Int} (h:GX cells=none):∀s∈cells,0<=s:=by
 unfold GX at h
 rw[Yd]at h
 intro s hs
 have:=h s hs
 rw[Ym]at this
 omega
theorem O7 {vals:List Int} {x:Lma} {letters:List Int}:∀(f:Nat) (cells:List Int) (t r:List Cas),B5 vals x letters f cells=some t->A3 vals x letters f cells (t++r)=some r:=by
 intro f
 induction f with
 |zero=>
  intro cells t r h
  rw[B5]at h
  split at h
  ·rename_i c hc
   cases h
   rw[List.singleton_append,A3,Xg rfl,Xg (I8 hc)]
  ·split at h
   ·cases h
   ·cases h
 |succ f ih=>
  intro cells t r h
  rw[B5]at h
  split at h
  ·rename_i c hc
   cases h
   rw[List.singleton_append,A3,Xg rfl,Xg (I8 hc)]
  ·split at h
   ·cases h
   ·rename_i i hi
    obtain⟨t',h1,rfl⟩:=Y3.1 h
    obtain⟨s0,hs0,hneg⟩:=Ff hi
    have hil:=(Xw.1 hs0).1
    have hat:at0 cells (i:Int)<0:=by unfold at0;rw[X3,hs0];exact hneg
    rw[Xl,A3,Xc (show ¬DA=Eu by decide),Xg ⟨rfl,show(0:Int)<=i by omega,show(i:Int)<cells.length by omega,hat⟩]
    have key:∀(ss:List Int) (t':List Cas),catT (λs=>B5 vals x letters f (cells.set i s)) ss=some t'->seqT (λs l=>A3 vals x letters f (cells.set i s) l) ss (t'++r)=some r:=by
     intro ss
     induction ss with
     |nil=>intro t' hq;rw[catT]at hq;cases hq;rfl
     |cons s ss ih2=>
      intro t' hq
      rw[catT]at hq
      cases hg:B5 vals x letters f (cells.set i s)with
      |none=>rw[hg]at hq;cases hq
      |some a=>
       rw[hg]at hq
       obtain⟨b,h3,rfl⟩:=Y3.1 hq
       rw[seqT,XR,ih _ a (b++r) hg]
       exact ih2 b h3
    exact key _ _ h1
structure Some1 (vals:List Int) (x:Lma) (letters cells:List Int):Prop where
 len:cells.length=x.cs.length
 con:at0 cells x.c=at0 letters x.l
 rng:∀s∈cells,-1<=s/\s<vals.length
 let0:0<=at0 letters x.l
theorem T6 {vals:List Int} {x:Lma} {letters:List Int} (hx:OKL x) (hl:letters∈chs vals.length x.ls.length):Some1 vals x letters (begC x letters):=by
 have h:=LH hx hl
 have hb:=Cs hx hl
 refine⟨h.len,h.con,λs hs=>⟨Ht h s hs,?_⟩,hb.1⟩
 unfold begC at hs
 rcases Yq hs with q|q
 ·rw[Zm]at q;omega
 ·omega
def negs (cells:List Int):Nat:=(cells.filter λs=>decide (s<0)).length
theorem Gg:∀{cells:List Int} {i:Nat} {s t:Int},cells[i]?=some t->t<0->0<=s->negs (cells.set i s)+1=negs cells
 |[],_,_,_,h,_,_=>by cases h
 |a::l,0,s,t,h,ht,hs=>by
  cases h
  unfold negs
  rw[List.set_cons_zero,Yn,Yn,Xc (by simpa using hs),Xg (by simpa using ht)];rfl
 |a::l,i+1,s,t,h,ht,hs=>by
  have ih:=Gg (cells:=l) (i:=i) (s:=s) (t:=t) (by simpa using h) ht hs
  unfold negs at ih⊢
  rw[List.set_cons_succ,Yn,Yn]
  split<;>(try simp only[Xn])<;>omega
theorem O8 {vals:List Int} {x:Lma} {letters:List Int} {i s:Int} (h:s∈Bq vals.length x letters i):0<=s/\s<vals.length:=by
 unfold Bq at h
 split at h
 ·exact B3.1 h
 ·exact B3.1 (Yo.1 h).1
theorem Rq {vals:List Int} {x:Lma} {letters:List Int} (hx:OKL x):∀(f:Nat) (cells:List Int),B5 vals x letters f cells=none->negs cells<=f->Some1 vals x letters cells->∃c,Refutes vals x letters c:=by
 have full:∀cells,DU vals x letters cells=none->GX cells=none->Some1 vals x letters cells->∃c,Refutes vals x letters c:=λcells h1 h2 hs=>
  ⟨cells,hs.len,λs hm=>⟨Rp h2 s hm,(hs.rng s hm).2⟩,hs.con,Ei.1 h1⟩
 intro f
 induction f with
 |zero=>
  intro cells h hn hs
  rw[B5]at h
  split at h
  ·cases h
  ·rename_i hc
   cases hf:GX cells with
   |none=>exact full cells hc hf hs
   |some i=>
    obtain⟨s0,hs0,hneg⟩:=Ff hf
    have:s0∈cells.filter λs=>decide (s<0):=Yo.2 ⟨XS hs0,by simpa using hneg⟩
    have h0:cells.filter (λs=>decide (s<0))=[]:=XV (by unfold negs at hn;omega)
    rw[h0]at this;cases this
 |succ f ih=>
  intro cells h hn hs
  rw[B5]at h
  split at h
  ·cases h
  ·rename_i hc
   split at h
   ·rename_i hf;exact full cells hc hf hs
   ·rename_i i hi
    rw[Z2]at h
    obtain⟨s0,hs0,hneg⟩:=Ff hi
    have hil:=(Xw.1 hs0).1
    have key:∀ss:List Int,(∀s∈ss,0<=s/\s<(vals.length:Int))->catT (λs=>B5 vals x letters f (cells.set i s)) ss=none->∃c,Refutes vals x letters c:=by
     intro ss
     induction ss with
     |nil=>intro _ hq;rw[catT]at hq;cases hq
     |cons s ss ih2=>
      intro hr hq
      have hsr:=hr s (by simp)
      rw[catT]at hq
      cases hg:B5 vals x letters f (cells.set i s)with
      |none=>
       refine ih _ hg (by have:=Gg hs0 hneg hsr.1;omega) ⟨by rw[Ye];exact hs.len,?_,λt ht=>?_,hs.let0⟩
       ·have hcon:=hs.con
        have h0:=hs.let0
        unfold at0 at hcon⊢
        rw[Ya]
        by_cases e:i=x.c.toNat
        ·exfalso
         rw[<-e,hs0,X2]at hcon
         unfold at0 at h0
         omega
        ·rw[Xc e];exact hcon
       ·rcases Yq ht with q|q
        ·exact hs.rng t q
        ·subst q;omega
      |some a=>
       rw[hg]at hq
       exact ih2 (λt ht=>hr t (by simp [ht])) (Z2.1 hq)
    exact key _ (λs hm=>O8 hm) h
theorem Jx {x:Lma} {letters:List Int}:negs (begC x letters)<=x.cs.length:=by
 unfold negs
 have:=Yh (λs=>decide (s<0)) (begC x letters)
 rw[Eh]at this;exact this
def allT (f:List Int->Option (List Cas)):List (List Int)->Option (List (List Cas))
 |[]=>some []
 |l::r=>match f l with
  |none=>none
  |some t=>(allT f r).map λts=>t::ts
def BM (ts:List (List Cas)):Nat:=(ts.map List.length).sum
def Fg (vals:List Int) (x:Lma):Option (List (List Cas)):=allT (λletters=>B5 vals x letters x.cs.length (begC x letters)) (chs vals.length x.ls.length)
def LJ (vals:List Int) (x:Lma):Except Int (List (List Cas)):=match Fg vals x with
 |none=>.error 320
 |some ts=>if 65536<BM ts then .error 2 else .ok ts
theorem Hv {f:List Int->Option (List Cas)}:∀{ls:List (List Int)} {ts:List (List Cas)},allT f ls=some ts->ls.length=ts.length/\∀q∈ls.zip ts,f q.1=some q.2
 |[],ts,h=>by rw[allT]at h;cases h;simp
 |l::r,ts,h=>by
  rw[allT]at h
  cases hf:f l with
  |none=>rw[hf]at h;cases h
  |some t=>
   rw[hf]at h
   obtain⟨b,h1,rfl⟩:=Y3.1 h
   obtain⟨h2,h3⟩:=Hv h1
   refine⟨by simp [h2],λq hq=>?_⟩
   rw[YT,XQ]at hq
   rcases hq with rfl|hq
   ·exact hf
   ·exact h3 q hq
theorem LK {f:List Int->Option (List Cas)}:∀{ls:List (List Int)},allT f ls=none->∃l∈ls,f l=none
 |[],h=>by rw[allT]at h;cases h
 |l::r,h=>by
  rw[allT]at h
  cases hf:f l with
  |none=>exact⟨l,by simp,hf⟩
  |some t=>
   rw[hf]at h
   obtain⟨l',h1,h2⟩:=LK (Z2.1 h)
   exact⟨l',by simp [h1],h2⟩
theorem Hw {vals:List Int} {x:Lma} {ts:List (List Cas)} (h:Fg vals x=some ts):B4 vals x ts=true:=by
 obtain⟨h1,h2⟩:=Hv h
 unfold B4
 rw[X8,Xf,Xi]
 refine⟨h1,λq hq=>Xz ?_⟩
 have:=O7 _ _ _ [] (h2 q hq)
 rw[Xu]at this;exact this
theorem O9 {vals:List Int} {x:Lma} (hx:OKL x) (h:Fg vals x=none):∃letters∈chs vals.length x.ls.length,∃c,Refutes vals x letters c:=by
 obtain⟨l,hl,hg⟩:=LK h
 exact⟨l,hl,Rq hx _ _ hg Jx (T6 hx hl)⟩
theorem Md {vals:List Int} {x:Lma} (hx:OKL x):(Fg vals x).isSome=EU vals x:=by
 cases h:Fg vals x with
 |some ts=>rw[O6 hx (Hw h)];rfl
 |none=>
  obtain⟨l,hl,c,hc⟩:=O9 hx h
  cases hs:EU vals x with
  |false=>rfl
  |true=>exact absurd hc ((Hu hx).1 hs l hl c)
def asgP (m:Nat) (x:Lma) (letters:List Int):Nat->Nat->List Int->List (List Int)
 |0,_,cells=>[cells]
 |j+1,i,cells=>((symI m).filter λs=>decide ((i:Int)≠x.c)||decide (s=at0 letters x.l)).flatMap λs=>asgP m x letters j (i+1) (cells.set i s)
def cexP (vals:List Int) (x:Lma):Option (List Int×List Int):=(chs vals.length x.ls.length).findSome? λletters=>((asgP vals.length x letters x.cs.length 0 (List.replicate x.cs.length 0)).find? λc=>A8 vals x letters c).map λc=>(letters,c)
theorem Me {m:Nat} {x:Lma} {letters:List Int}:∀(j i:Nat) (cells c:List Int),i+j=x.cs.length->cells.length=x.cs.length->(∀(k:Nat) s,cells[k]?=some s->k<i->0<=s/\s<(m:Int)/\((k:Int)=x.c->s=at0 letters x.l))->
  (c∈asgP m x letters j i cells↔c.length=x.cs.length/\(∀(k:Nat) s,c[k]?=some s->0<=s/\s<(m:Int)/\((k:Int)=x.c->s=at0 letters x.l))/\∀k,k<i->c[k]?=cells[k]?)
 |0,i,cells,c,hij,hl,hr=>by
  rw[asgP,Xy]
  constructor
  ·rintro rfl
   exact⟨hl,λk s hk=>hr k s hk (by have:=(Xw.1 hk).1;omega),λ_ _=>rfl⟩
  ·rintro⟨h1,-,h3⟩
   refine Zb λk=>?_
   by_cases hk:k<i
   ·exact h3 k hk
   ·rw[Yk (by omega),Yk (by omega)]
 |j+1,i,cells,c,hij,hl,hr=>by
  rw[asgP,List.mem_flatMap]
  have step:∀s,0<=s/\s<(m:Int)->((i:Int)=x.c->s=at0 letters x.l)->∀(k:Nat) t,(cells.set i s)[k]?=some t->k<i+1->0<=t/\t<(m:Int)/\((k:Int)=x.c->t=at0 letters x.l):=by
   intro s h1 h2 k t hk hlt
   rw[Ya]at hk
   split at hk
   ·rename_i e
    split at hk
    ·cases hk;subst e;exact⟨h1.1,h1.2,h2⟩
    ·cases hk
   ·exact hr k t hk (by omega)
  constructor
  ·rintro⟨s,hs,hc⟩
   rw[Yo,B3,Xp,Xf,Xf]at hs
   obtain⟨h1,h2,h3⟩:=(Me j (i+1) _ c (by omega) (by rw[Ye];exact hl) (step s hs.1 λe=>hs.2.resolve_left λq=>q e)).1 hc
   exact⟨h1,h2,λk hk=>by rw[h3 k (by omega),Ya,Xc (by omega)]⟩
  ·rintro⟨h1,h2,h3⟩
   have hic:i<c.length:=by omega
   have hg:=X5 hic
   have hq:=h2 i _ hg
   refine⟨c[i],?_,(Me j (i+1) _ c (by omega) (by rw[Ye];exact hl) (step _ ⟨hq.1,hq.2.1⟩ hq.2.2)).2 ⟨h1,h2,λk hk=>?_⟩⟩
   ·rw[Yo,B3,Xp,Xf,Xf]
    refine⟨⟨hq.1,hq.2.1⟩,?_⟩
    by_cases e:(i:Int)=x.c
    ·exact .inr (hq.2.2 e)
    ·exact .inl e
   ·rw[Ya]
    split
    ·rename_i e;subst e
     rw[Xg (by omega),hg]
    ·exact h3 k (by omega)
theorem Mf {vals:List Int} {x:Lma} {letters c:List Int} (hx:OKL x) (hl:letters∈chs vals.length x.ls.length):Refutes vals x letters c↔c∈asgP vals.length x letters x.cs.length 0 (List.replicate x.cs.length 0)/\A8 vals x letters c=true:=by
 rw[Me _ _ _ _ (Y5 _) (by simp) (by intro k s _ h;omega)]
 have hxc:=hx.c
 constructor
 ·intro h
  have hg:=A5 (l:=c) hxc.1 (by rw[h.len];exact hxc.2)
  refine⟨⟨h.len,λk s hk=>?_,λk hk=>by omega⟩,h.ok⟩
  have:=h.rng s (XS hk)
  refine⟨this.1,this.2,λe=>?_⟩
  have e2:x.c.toNat=k:=by omega
  rw[e2,hk]at hg
  rw[Option.some.inj hg,h.con]
 ·rintro⟨⟨h1,h2,-⟩,h3⟩
  have hg:=A5 (l:=c) hxc.1 (by rw[h1];exact hxc.2)
  refine⟨h1,λs hs=>?_,(h2 _ _ hg).2.2 (by omega),h3⟩
  obtain⟨k,hk,e⟩:=Xx.1 hs
  have:=h2 k s (by rw[X5 hk,e])
  exact⟨this.1,this.2.1⟩
theorem T7 {vals:List Int} {x:Lma} {q:List Int×List Int} (hx:OKL x) (h:cexP vals x=some q):q.1∈chs vals.length x.ls.length/\Refutes vals x q.1 q.2:=by
 unfold cexP at h
 obtain⟨letters,hl,h1⟩:=List.exists_of_findSome?_eq_some h
 obtain⟨c,h2,rfl⟩:=Y3.1 h1
 exact⟨hl,(Mf hx hl).2 ⟨List.mem_of_find?_eq_some h2,List.find?_some h2⟩⟩
theorem Nk {vals:List Int} {x:Lma} (hx:OKL x):cexP vals x=none↔EU vals x=true:=by
 rw[Hu hx]
 unfold cexP
 rw[List.findSome?_eq_none_iff]
 constructor
 ·intro h letters hl c hc
  have h1:=Z2.1 (h letters hl)
  rw[List.find?_eq_none]at h1
  obtain⟨h2,h3⟩:=(Mf hx hl).1 hc
  exact h1 c h2 h3
 ·intro h letters hl
  rw[Z2,List.find?_eq_none]
  intro c hc hh
  exact h letters hl c ((Mf hx hl).2 ⟨hc,hh⟩)
end Go.AM
namespace Go.AM
open Go.Proofs Go.Lib
mutual
inductive View (H:AB):AVal->AVal->Prop
 |wk {a b:AVal}:Wk b a->View H a b
 |ref {id e off len cap:Nat} {l:List AVal}:hget H id=some (.arr e l)->off+len<=l.length->len<=cap->View H (.sl (.none e) ((l.drop off).take len)) (.ref id e off len cap)
 |ptr {id off:Nat} {cs:List AVal}:hget H id=some (.box cs)->View H (.ep (cs.drop off)) (.ptr id off)
 |agg {us bs:List AVal}:Views H us bs->View H (.agg us) (.agg bs)
 |fn {f:Fn} {us bs cs ds:List AVal}:Views H us bs->Views H cs ds->View H (.fn f us cs) (.fn f bs ds)
inductive Views (H:AB):List AVal->List AVal->Prop
 |nil:Views H [] []
 |cons {a b:AVal} {us bs:List AVal}:View H a b->Views H us bs->Views H (a::us) (b::bs)
end
mutual
def AVal.flat:AVal->Prop
 | .bool _| .int _ _| .str _| .nilp| .nilfn| .nilifc| .nilmp=>True
 | .agg cs=>flats cs
 | .tup cs=>flats cs
 |_=>False
def flats:List AVal->Prop
 |[]=>True
 |a::us=>a.flat/\flats us
end
mutual
theorem Nl {g g':Ghost}:∀(a:AVal) (v:Value),a.flat->VRel g a v->VRel g' a v
 | .bool _,_,_,h=>h
 | .int _ _,_,_,h=>h
 | .str _,_,_,h=>h
 | .nilp,_,_,h=>h
 | .nilfn,_,_,h=>h
 | .nilifc,_,_,h=>h
 | .nilmp,_,_,h=>h
 | .agg cs,_,hf,h=>by
  obtain⟨vs,rfl,h1,h2⟩:=h
  exact⟨vs,rfl,flats_rel cs _ hf h1,h2⟩
 | .tup cs,_,hf,h=>by
  obtain⟨vs,rfl,h1⟩:=h
  exact⟨vs,rfl,flats_rel cs _ hf h1⟩
 | .ptr _ _,_,hf,_=>hf.elim
 | .ep _,_,hf,_=>hf.elim
 | .gp _,_,hf,_=>hf.elim
 | .sl _ _,_,hf,_=>hf.elim
 | .ref _ _ _ _ _,_,hf,_=>hf.elim
 | .ap _ _ _ _,_,hf,_=>hf.elim
 | .fn _ _ _,_,hf,_=>hf.elim
 | .ifc _ _,_,hf,_=>hf.elim
 | .mp _,_,hf,_=>hf.elim
 | .up,_,hf,_=>hf.elim
theorem flats_rel {g g':Ghost}:∀(us:List AVal) (vs:List Value),flats us->VRels g us vs->VRels g' us vs
 |[],_,_,h=>h
 |a::us,_,hf,h=>by
  obtain⟨v,r,rfl,h1,h2⟩:=h
  exact⟨v,r,rfl,Nl a v hf.1 h1,flats_rel us r hf.2 h2⟩
end
def allσ (w:World):Nat->Nat->Option Value:=λb o=>w.cell? ⟨b,o,none⟩
section
variable {g:Ghost} {H:AB} {n:Nat} {w:World}
theorem Fh (R:Rel g H n w):JR 0 g ⟨λ_=>none,allσ w⟩:=⟨λ_ _ h=>absurd h (YD _),λb o v h=>R.σw b o v h⟩
mutual
theorem T8 (R:Rel g H n w):∀{a b:AVal} {v:Value},View H a b->a.under 0->VRel g b v->VRel ⟨λ_=>none,allσ w⟩ a v
 |a,b,v,.wk h,hu,hv=>VRel.agree (n:=0) (Fh R) a v hu (h g v hv)
 |_,_,v,.ref (id:=id) (e:=e) (off:=off) (len:=len) (cap:=cap) (l:=l) h1 h2 h3,hu,hv=>by
  obtain⟨L,k1,k2,rfl⟩:=hv
  obtain⟨L',c,ty,j1,j2,j3,j4,j5,j6⟩:=R.obj id _ h1
  rw[k1]at j1;cases j1
  have hlen:((l.drop off).take len).length=len:=by simp;omega
  have hst:=Stab.take len _ _ (Stab.drop off _ _ j6)
  rw[Y5]at hst
  refine .inr ⟨trivial,L.blk,off*e,cap,⟨none,by rw[hlen],.inl rfl⟩,by rw[hlen];exact h3,?_,trivial⟩
  have hst2:Stab g e (allσ w L.blk) (off*e) ((l.drop off).take len):=Stab.mono (Ghost.le.refl g) (λo x hx=>by
   show w.cell? ⟨L.blk,o,none⟩=some x
   rw[Af j4];exact hx) e _ _ hst
  exact Stab.agree (n:=0) (Fh R) (λo x h=>h) e _ _ hu.2 hst2
 |_,_,v,.ptr (id:=id) (off:=off) (cs:=cs) h1,hu,hv=>by
  obtain⟨L,k1,k2,rfl⟩:=hv
  obtain⟨L',c,ty,j1,j2,j3,j4,j5,j6⟩:=R.obj id _ h1
  rw[k1]at j1;cases j1
  refine⟨L.blk,off,rfl,?_⟩
  have hd:∀(cs:List AVal) (o k:Nat),PStab g (λo=>c[o]?) o cs->PStab g (λo=>c[o]?) (o+k) (cs.drop k):=by
   intro cs
   induction cs with
   |nil=>intro o k _;rw[List.drop_nil];trivial
   |cons a cs ih=>
    intro o k h
    cases k with
    |zero=>exact h
    |succ k=>rw[List.drop_succ_cons,show o+(k+1)=o+1+k by omega];exact ih (o+1) k h.2
  have h2:=hd cs 0 off j6
  rw[Y5]at h2
  have h3:PStab g (allσ w L.blk) off (cs.drop off):=PStab.mono (Ghost.le.refl g) (λo x hx=>by
   show w.cell? ⟨L.blk,o,none⟩=some x
   rw[Af j4];exact hx) _ _ h2
  exact PStab.agree (n:=0) (Fh R) (λo x h=>h) _ _ hu h3
 |_,_,v,.agg h,hu,hv=>by
  obtain⟨vs,rfl,h1,h2⟩:=hv
  exact⟨vs,rfl,views_rel R h hu h1,h2⟩
 |_,_,v,.fn h k,hu,hv=>by
  obtain⟨x,c,rfl,h1,h2⟩:=hv
  exact⟨x,c,rfl,views_rel R h hu.1 h1,views_rel R k hu.2 h2⟩
theorem views_rel (R:Rel g H n w):∀{us bs:List AVal} {vs:List Value},Views H us bs->unders 0 us->VRels g bs vs->VRels ⟨λ_=>none,allσ w⟩ us vs
 |_,_,vs,.nil,_,hv=>hv
 |_,_,vs,.cons h t,hu,hv=>by
  obtain⟨v,r,rfl,h1,h2⟩:=hv
  exact⟨v,r,rfl,T8 R h hu.1 h1,views_rel R t hu.2 h2⟩
end
end
theorem Pur.viewF {P:Program} {f:FuncId} {args args':List AVal} {r:AVal} {H:AB} (h:Pur P f args r) (hf:∀g g' v,VRel g r v->VRel g' r v) (hv:Views H args args') (n:Nat):Aa P f args' H n r:=by
 obtain⟨ha,hr,hcb,hc⟩:=h
 refine⟨hcb,λg w vs R hvs=>?_⟩
 have R0:Rel ⟨λ_=>none,allσ w⟩ hnil 0 w:=
  {σw:=λb o v h=>h
   obj:=λ_ _ h=>by simp [hget,hnil]at h
   dom:=λ_ _ h=>by simp at h
   hd:=λ_ _ h=>by simp [hget,hnil]at h
   ap:=λ_ _ _ _ _ _ _ h=>by simp [hget,hnil]at h
   un:=λ_ _ _ _ h=>by simp [hget,hnil]at h
   gl:=λi cs h=>PStab.agree (n:=0) (Fh R) (λo x h=>R.σw i o x h) cs 0 (IY i cs h) (R.gl i cs h)
   gz:=R.gz}
 refine(hc _ w vs R0 (views_rel R hv ha hvs)).mono ?_
 rintro e w' ⟨g',out,H',n',⟨v,rfl,hw⟩,he,hR',-,ht⟩
 cases e with
 |panicked c=>exact he.elim
 |outgrown=>exact he.elim
 |returned x=>
  have hx:VRel g' r x:=hw _ _ he
  have keep:∀(b:Nat) ob,w.heap[b]?=some ob->w'.heap[b]?=some ob:=by
   intro b ob hb
   have hk:=ht.kept b ob hb
   cases ob<;>first|exact hk.resolve_left Cv|skip
   obtain⟨c',h1,h2,h3⟩:=hk
   rw[h1]
   congr 2
   exact Array.ext_getElem? λi=>h3 i Cv
  have inH:∀b o v,w.cell? ⟨b,o,none⟩=some v->b<w.heap.size:=by
   intro b o v hc
   unfold World.cell? at hc
   split at hc
   ·rename_i hb;exact(Xs.1 hb).1
   ·cases hc
  let σ2:Nat->Nat->Option Value:=λb o=>if b<w.heap.size then g.σ b o else g'.σ b o
  have old:∀b o v,g.σ b o=some v->σ2 b o=some v:=λb o v hh=>by
   simp only[σ2];rw[Xg (inH b o v (R.σw b o v hh))];exact hh
  have gle:g.le ⟨g.β,σ2⟩:=⟨λ_ _ h=>h,old⟩
  have hcell:∀b o v,b<w.heap.size->w.cell? ⟨b,o,none⟩=some v->w'.cell? ⟨b,o,none⟩=some v:=by
   intro b o v hb hh
   have e1:=YJ hb
   have e2:=keep b _ e1
   unfold World.cell? at hh⊢
   simp only[e1,e2]at hh⊢
   exact hh
  refine⟨⟨g.β,σ2⟩,.ret r,H,n,⟨rfl,rfl,rfl⟩,hf _ _ x hx,?_,Xb _,?_⟩
  ·refine⟨?_,?_,?_,R.hd,R.ap,?_,R.gl.mono gle,hR'.gz⟩
   ·intro b o v hh
    simp only[σ2]at hh
    split at hh
    ·rename_i hb;exact hcell b o v hb (R.σw b o v hh)
    ·exact hR'.σw b o v hh
   ·intro id ob hob
    have ho:=R.obj id ob hob
    cases ob with
    |box cs=>obtain⟨L,c,e,h1,h2,h3,h4,h5,h6⟩:=ho;exact⟨L,c,e,h1,h2,h3,keep _ _ h4,h5,PStab.mono gle (λ_ _ h=>h) cs 0 h6⟩
    |tok=>obtain⟨L,h1,h2⟩:=ho;exact⟨L,h1,λhlt=>let ⟨c,e,h3,h4⟩:=h2 hlt;⟨c,e,keep _ _ h3,h4⟩⟩
    |arr esz l=>obtain⟨L,c,e,h1,h2,h3,h4,h5,h6⟩:=ho;exact⟨L,c,e,h1,h2,h3,keep _ _ h4,h5,Stab.mono gle (λ_ _ h=>h) esz l 0 h6⟩
    |frz esz l=>obtain⟨L,h1,h2,h3⟩:=ho;exact⟨L,h1,h2,Stab.mono gle (λo x hx=>old L.blk o x hx) esz l 0 h3⟩
    |map es c=>obtain⟨L,es',h1,h2,h3,h4,h5⟩:=ho;exact⟨L,es',h1,h2,h3,keep _ _ h4,MRel.mono gle _ _ h5⟩
    |sit s pos=>obtain⟨L,h1,h2,h3,h4⟩:=ho;exact⟨L,h1,h2,h3,keep _ _ h4⟩
    |mit m c seen last=>obtain⟨L,Lm,h1,h2,h3,h4,h5⟩:=ho;exact⟨L,Lm,h1,h2,h3,keep _ _ h4,h5⟩
    |lp x=>obtain⟨L,h1,h2,h3,h4,r,k1,k2,k3,k4,k5,k6,k7,k8⟩:=ho;exact⟨L,h1,h2,h3,h4,r,keep _ _ k1,k2,k3,k4,k5,k6,BB.mono gle k7,k8⟩
    |dead=>trivial
   ·intro id L hL
    exact⟨(R.dom id L hL).1,λhlt=>YL ((R.dom id L hL).2 hlt) ht.size⟩
   ·intro id ob L o q1 q2 q3 q4 q5
    have hb:=(R.dom id L q3).2 (by omega)
    show σ2 L.blk o=none
    simp only[σ2]
    rw[Xg hb];exact R.un id ob L o q1 q2 q3 q4 q5
  ·refine⟨gle,λ_ _ h=>.inl h,ht.os,ht.tape,ht.output,ht.size,λb ob hb=>by rw[keep b ob hb];exact Kept.same _ _,λ_ _ _ h=>h,λb o v hb h=>.inl ?_⟩
   have h':σ2 b o=some v:=h
   simp only[σ2]at h'
   rw[Xg hb]at h';exact h'
theorem Pur.view {P:Program} {f:FuncId} {args args':List AVal} {r:AVal} {H:AB} (h:Pur P f args r) (hf:r.flat) (hv:Views H args args') (n:Nat):Aa P f args' H n r:=h.viewF (λ_ _ v=>Nl r v hf) hv n
end Go.AM
namespace Go.AM
open Go.Proofs Go.Lib
theorem Rr {α:Type} {p:α->Bool} {l:List α} {i:Nat} (h:i<l.length) (hp:p l[i]=true) (hn:∀j (hj:j<l.length),j<i->p l[j]=false):l.findIdx? p=some i:=
 XK.2 ⟨h,hp,λj hj=>by rw[hn j (by omega) hj];decide⟩
theorem Rs {α:Type} {p:α->Bool} {l:List α} (hn:∀j (hj:j<l.length),p l[j]=false):l.findIdx? p=none:=
 Yd.2 λx hx=>by obtain⟨j,hj,rfl⟩:=Xx.1 hx;exact hn j hj
def idxG {α:Type} [DecidableEq α] (l:List α) (s:α):Int:=match l.findIdx? (λx=>decide (x=s))with
 |some k=>k
 |none=>-1
theorem U0 (l:List Bs) (s:Bs):idxG l s=idxS l s:=rfl
theorem Fi {α:Type} [DecidableEq α] {l:List α} {s:α} {i:Nat} (h:i<l.length) (hp:l[i]=s) (hn:∀j (hj:j<l.length),j<i->l[j]≠s):idxG l s=i:=by
 unfold idxG
 rw[Rr h (by simp [hp]) λj hj hji=>by simp [hn j hj hji]]
theorem LL {α:Type} [DecidableEq α] {l:List α} {s:α} (hn:∀j (hj:j<l.length),l[j]≠s):idxG l s= -1:=by
 unfold idxG
 rw[Rs λj hj=>by simp [hn j hj]]
theorem EV {α:Type} [DecidableEq α]:∀{l:List α},Av l=true↔∀j (hj:j<l.length),idxG l l[j]=(j:Int)
 |[]=>by simp [Av]
 |x::r=>by
  have ih:=EV (l:=r)
  simp only[Av,X8,Yb]
  constructor
  ·rintro⟨h1,h2⟩ j hj
   cases j with
   |zero=>exact Fi (i:=0) (by simp) rfl λk _ hk=>by omega
   |succ j=>
    have hj':j<r.length:=by simpa using hj
    refine Fi hj rfl λk hk hkj=>?_
    cases k with
    |zero=>
     intro e
     have:(r.any λy=>decide (y=x))=true:=YZ.2 ⟨r[j],Xk hj',by simpa using e.symm⟩
     rw[h1]at this;cases this
    |succ k=>
     intro e
     have hk':k<r.length:=by simpa using hk
     have e':r[k]=r[j]:=by simpa using e
     have q1:=ih.1 h2 k hk'
     have q2:=ih.1 h2 j hj'
     rw[e']at q1;rw[q1]at q2;omega
  ·intro h
   refine⟨?_,ih.2 λj hj=>?_⟩
   ·rw[Z3]
    intro y hy e
    obtain⟨j,hj,rfl⟩:=Xx.1 hy
    have e:r[j]=x:=by simpa using e
    have h0:=h 0 (by simp)
    have:=h (j+1) (by simpa using hj)
    simp only[List.getElem_cons_succ,e]at this
    simp only[List.getElem_cons_zero]at h0
    rw[h0]at this
    omega
   ·have:=h (j+1) (by simpa using hj)
    simp only[List.getElem_cons_succ]at this
    unfold idxG at this⊢
    rw[Zv]at this
    by_cases e:x=r[j]
    ·simp [e]at this;omega
    ·rw[show decide (x=r[j])=false by simp [e]]at this
     simp only[Xq,XO]at this
     cases hq:r.findIdx? (λx=>decide (x=r[j]))with
     |none=>rw[hq]at this;simp at this;omega
     |some k=>rw[hq]at this;simp at this⊢;omega
theorem p109 (l:List Bs) (s:Bs) (hl:few l):Pur Tryz.prog 109 [eSs l,.str s] (eI (idxS l s)):=by
 refine .mk ⟨⟨trivial,DM 0 l⟩,trivial,trivial⟩ trivial (a109 (AF AH.tnil (AG ?_)))
 simp only[eE,eN,reduceCtorEq,Nat.reduceEqDiff,↓reduceIte,Nat.reduceAdd,X0,c109]
 refine AU (λi:Nat=>⟨[(0,true,eSs l),(1,true,.str s),(7,true,.int .i64 l.length),(8,true,.int .i64 i)],hnil,0⟩)
  (λi=>i<=l.length/\∀j (hj:j<l.length),j<i->l[j]≠s) (λi=>l.length-i) 0 rfl ⟨Xh _,λj hj h=>by omega⟩ ?_
 rintro i ⟨hi,hall⟩
 by_cases hlt:i<l.length
 case neg=>
  simp only[eE,eC,eN,reduceCtorEq,Nat.reduceEqDiff,↓reduceIte,lt_F hlt]
  rw[<-U0,LL λj hj=>hall j hj (by omega)]
 have hg:=X5 hlt
 have e:=AL (k:=i) (by omega)
 by_cases hs:l[i]=s
 ·simp only[eE,eC,eN,reduceCtorEq,Nat.reduceEqDiff,↓reduceIte,X2,X3,X4,X0,X6,lt_T hlt,hg,FF,hs]
  rw[<-U0,Fi hlt hs hall]
 ·simp only[eE,eC,eN,reduceCtorEq,Nat.reduceEqDiff,↓reduceIte,Int.reduceEq,X2,X3,X4,X0,X6,lt_T hlt,hg,FF,show(s=l[i])=False from X9 (Ne.symm hs),e]
  refine .mk (i+1) rfl ⟨hlt,λj hj h=>?_⟩ (by omega)
  by_cases q:j=i
  ·subst q;exact hs
  ·exact hall j hj (by omega)
theorem pw63 (l:List Int) (s:Int) (hl:few l):Pur Tryz.prog 63 [eIs l,eI s] (eI (idxG l s)):=by
 refine .mk ⟨⟨trivial,Ck 0 l⟩,trivial,trivial⟩ trivial (a63 (AF AH.tnil (AG ?_)))
 simp only[eE,eN,reduceCtorEq,Nat.reduceEqDiff,↓reduceIte,Nat.reduceAdd,X0,c63]
 refine AU (λi:Nat=>⟨[(0,true,eIs l),(1,true,eI s),(7,true,.int .i64 l.length),(8,true,.int .i64 i)],hnil,0⟩)
  (λi=>i<=l.length/\∀j (hj:j<l.length),j<i->l[j]≠s) (λi=>l.length-i) 0 rfl ⟨Xh _,λj hj h=>by omega⟩ ?_
 rintro i ⟨hi,hall⟩
 by_cases hlt:i<l.length
 case neg=>
  simp only[eE,eC,eN,reduceCtorEq,Nat.reduceEqDiff,↓reduceIte,lt_F hlt]
  rw[LL λj hj=>hall j hj (by omega)]
 have hg:=X5 hlt
 have e:=AL (k:=i) (by omega)
 by_cases hs:l[i]=s
 ·simp only[eE,eC,eN,reduceCtorEq,Nat.reduceEqDiff,↓reduceIte,X2,X3,X4,X0,X6,lt_T hlt,hg,hs]
  rw[Fi hlt hs hall]
 ·simp only[eE,eC,eN,reduceCtorEq,Nat.reduceEqDiff,↓reduceIte,Int.reduceEq,X2,X3,X4,X0,X6,lt_T hlt,hg,show(s=l[i])=False from X9 (Ne.symm hs),e]
  refine .mk (i+1) rfl ⟨hlt,λj hj h=>?_⟩ (by omega)
  by_cases q:j=i
  ·subst q;exact hs
  ·exact hall j hj (by omega)
structure Vg where
 i:Nat
 tk:Tok
 H:AB
 n:Nat
structure Ig (e len:Nat) (v:Vg):Prop where
 hi:v.i<=len
 fr:AN v.H v.n
 tok:tkG e 0 v.H v.tk
 es:v.tk.esz=e\/v.i=0
theorem Rt {l:List Int} {n:Nat}:difI l n=true↔∀j (hj:j<l.length),0<=l[j]/\l[j]<n/\idxG l l[j]=(j:Int):=by
 unfold difI
 rw[X8,Xi,EV]
 constructor
 ·rintro⟨h1,h2⟩ j hj
  have:=h1 _ (Xk hj)
  simp only[X8,Xf]at this
  exact⟨this.1,this.2,h2 j hj⟩
 ·intro h
  refine⟨λx hx=>?_,λj hj=>(h j hj).2.2⟩
  obtain⟨j,hj,rfl⟩:=Xx.1 hx
  simp [(h j hj).1,(h j hj).2.1]
theorem Ru {l:List Int} {n:Nat} {j:Nat} (hj:j<l.length) (h:¬(0<=l[j]/\l[j]<n/\idxG l l[j]=(j:Int))):difI l n=false:=by
 cases q:difI l n with
 |false=>rfl
 |true=>exact absurd (Rt.1 q j hj) h
def TixI:Tab:=tadd 63 (s2 dIs dI (λa _=>few a) λa s=>eI (idxG a s)) tnil
theorem XA:AH Tryz.prog TixI:=AH.tnil.add (q2 pw63)
theorem Rv (a:List AVal) (H:AB):TixI 63 a H=s2 dIs dI (λa _=>few a) (λa s=>eI (idxG a s)) a H:=rfl
def indN (l:List Int) (n:Nat) (GP:Int):Bool:=difI l n&&decide (GP<=l.length)
theorem p76 (l:List Int) (n:Nat) (GP:Int) (hl:few l):Pur Tryz.prog 76 [eIs l,.int .i64 n,.int .i64 GP] (.bool (indN l n GP)):=by
 refine .mk ⟨⟨trivial,Ck 0 l⟩,trivial,trivial,trivial⟩ trivial (a76 (AF XA (AG ?_)))
 simp only[eE,eN,reduceCtorEq,Nat.reduceEqDiff,↓reduceIte,Nat.reduceAdd,X0,c76]
 refine AU (λi:Nat=>⟨[(0,true,eIs l),(1,true,.int .i64 n),(2,true,.int .i64 GP),(9,true,eIs l),(10,true,.int .i64 l.length),(11,true,.int .i64 i)],hnil,0⟩)
  (λi=>i<=l.length/\∀j (hj:j<l.length),j<i->0<=l[j]/\l[j]<n/\idxG l l[j]=(j:Int)) (λi=>l.length-i) 0 rfl ⟨Xh _,λj hj h=>by omega⟩ ?_
 rintro i ⟨hi,hall⟩
 by_cases hlt:i<l.length
 case neg=>
  simp only[eE,eC,eN,reduceCtorEq,Nat.reduceEqDiff,↓reduceIte,X0,lt_F hlt]
  unfold indN
  rw[Rt.2 λj hj=>hall j hj (by omega)];rfl
 have hg:=X5 hlt
 have e:=AL (k:=i) (by omega)
 by_cases h1:l[i]<0
 ·simp only[eE,eC,eN,reduceCtorEq,Nat.reduceEqDiff,↓reduceIte,X7,X2,X3,X4,X0,X6,lt_T hlt,hg,h1]
  unfold indN
  rw[Ru hlt λq=>by omega];rfl
 by_cases h2:(n:Int)<=l[i]
 ·simp only[eE,eC,eN,reduceCtorEq,Nat.reduceEqDiff,↓reduceIte,X7,X2,X3,X4,X0,X6,lt_T hlt,hg,h1,h2]
  unfold indN
  rw[Ru hlt λq=>by omega];rfl
 by_cases h3:idxG l l[i]=(i:Int)
 ·simp only[eE,eC,eN,reduceCtorEq,Nat.reduceEqDiff,↓reduceIte,Int.reduceEq,X7,X2,X3,X4,X0,X6,lt_T hlt,hg,h1,h2,Rv,s2,dIs,dI,okL,decL,Dj,As,hl,toI,h3,e]
  refine .mk (i+1) rfl ⟨hlt,λj hj h=>?_⟩ (by omega)
  by_cases q:j=i
  ·subst q;exact⟨by omega,by omega,h3⟩
  ·exact hall j hj (by omega)
 ·simp only[eE,eC,eN,reduceCtorEq,Nat.reduceEqDiff,↓reduceIte,Xe,X2,X3,X4,X0,X6,lt_T hlt,hg,h1,h2,Rv,s2,dIs,dI,okL,decL,Dj,As,hl,toI,h3]
  unfold indN
  rw[Ru hlt λq=>h3 q.2.2];rfl
def Tnm:Tab:=tadd 74 (s1 dS any1 λs=>.bool (CH s)) (tadd 109 (s2 dSs dS (λa _=>few a) λa s=>eI (idxS a s)) tnil)
theorem Tnm_ok:AH Tryz.prog Tnm:=(AH.tnil.add (q2 p109)).add (q1 λs _=>p74 s)
theorem Rw (a:List AVal) (H:AB):Tnm 109 a H=s2 dSs dS (λa _=>few a) (λa s=>eI (idxS a s)) a H:=rfl
theorem Rx (a:List AVal) (H:AB):Tnm 74 a H=s1 dS any1 (λs=>.bool (CH s)) a H:=rfl
theorem Ry {l:List Bs}:(l.all CH&&Av l)=true↔∀j (hj:j<l.length),CH l[j]=true/\idxS l l[j]=(j:Int):=by
 rw[X8,Xi,EV]
 constructor
 ·rintro⟨h1,h2⟩ j hj
  exact⟨h1 _ (Xk hj),h2 j hj⟩
 ·intro h
  refine⟨λx hx=>?_,λj hj=>(h j hj).2⟩
  obtain⟨j,hj,rfl⟩:=Xx.1 hx
  exact(h j hj).1
theorem U1 {l:List Bs} {j:Nat} (hj:j<l.length) (h:¬(CH l[j]=true/\idxS l l[j]=(j:Int))):(l.all CH&&Av l)=false:=by
 cases q:(l.all CH&&Av l)with
 |false=>rfl
 |true=>exact absurd (Ry.1 q j hj) h
theorem p75 (l:List Bs) (most:Nat) (hl:few l):Pur Tryz.prog 75 [eSs l,.int .i64 most] (.bool (CW l most)):=by
 refine .mk ⟨⟨trivial,DM 0 l⟩,trivial,trivial⟩ trivial (a75 (AF Tnm_ok (AG ?_)))
 simp only[eE,eN,reduceCtorEq,Nat.reduceEqDiff,↓reduceIte,Nat.reduceAdd,X0,c75]
 refine AU (λi:Nat=>⟨[(0,true,eSs l),(1,true,.int .i64 most),(7,true,eSs l),(8,true,.int .i64 l.length),(9,true,.int .i64 i)],hnil,0⟩)
  (λi=>i<=l.length/\∀j (hj:j<l.length),j<i->CH l[j]=true/\idxS l l[j]=(j:Int)) (λi=>l.length-i) 0 rfl ⟨Xh _,λj hj h=>by omega⟩ ?_
 rintro i ⟨hi,hall⟩
 by_cases hlt:i<l.length
 case neg=>
  simp only[eE,eC,eN,reduceCtorEq,Nat.reduceEqDiff,↓reduceIte,X0,lt_F hlt]
  unfold CW
  rw[Ry.2 λj hj=>hall j hj (by omega)]
  by_cases h1:1<=l.length<;>by_cases h2:l.length<=most<;>simp [h1,h2]<;>omega
 have hg:=X5 hlt
 have e:=AL (k:=i) (by omega)
 by_cases h1:CH l[i]=true
 ·by_cases h3:idxS l l[i]=(i:Int)
  ·simp only[eE,eC,eN,reduceCtorEq,Nat.reduceEqDiff,↓reduceIte,Int.reduceEq,X7,X2,X3,X4,X0,X6,lt_T hlt,hg,Rx,Rw,s1,s2,dSs,dS,okL,decL,isS,toS,C8,hl,h1,h3,e]
   refine .mk (i+1) rfl ⟨hlt,λj hj h=>?_⟩ (by omega)
   by_cases q:j=i
   ·subst q;exact⟨h1,h3⟩
   ·exact hall j hj (by omega)
  ·simp only[eE,eC,eN,reduceCtorEq,Nat.reduceEqDiff,↓reduceIte,X7,Xe,X2,X3,X4,X0,X6,lt_T hlt,hg,Rx,Rw,s1,s2,dSs,dS,okL,decL,isS,toS,C8,hl,h1,h3]
   unfold CW
   rw[U1 hlt λq=>h3 q.2];rfl
 ·have h1':CH l[i]=false:=by simpa using h1
  simp only[eE,eC,eN,reduceCtorEq,Nat.reduceEqDiff,↓reduceIte,X7,Xe,X2,X3,X4,X0,X6,lt_T hlt,hg,Rx,Rw,s1,s2,dSs,dS,okL,decL,isS,toS,C8,hl,h1']
  unfold CW
  rw[U1 hlt λq=>h1 q.1];rfl
end Go.AM
namespace Go.AM
open Go.Proofs Go.Lib
abbrev encQ (q:Cnd):AVal:=.agg [.int .i64 q.k,eIs q.cs,eIs q.ls,.int .i64 q.n]
abbrev encM (p:Prm):AVal:=.agg [.int .i64 p.c,eIs p.ls]
abbrev encL (x:Lma):AVal:=.agg [.str x.nm,.int .i64 x.lv,eSs x.cs,eSs x.ls,.sl (.none 4) (x.qs.map encQ),.sl (.none 2) (x.ps.map encM),.int .i64 x.c,.int .i64 x.l]
theorem Ej (n:Nat) (q:Cnd):(encQ q).under n:=⟨trivial,⟨trivial,Ck n _⟩,⟨trivial,Ck n _⟩,trivial,trivial⟩
theorem Fy (n:Nat) (p:Prm):(encM p).under n:=⟨trivial,⟨trivial,Ck n _⟩,trivial⟩
theorem Ah (n:Nat) (x:Lma):(encL x).under n:=⟨trivial,trivial,⟨trivial,DM n _⟩,⟨trivial,DM n _⟩,⟨trivial,AY (Ej n) _⟩,⟨trivial,AY (Fy n) _⟩,trivial,trivial,trivial⟩
def decQ:AVal->Cnd
 | .agg [.int _ k,c,l,.int _ n]=>⟨k,GU c,GU l,n⟩
 |_=>⟨0,[],[],0⟩
def decM:AVal->Prm
 | .agg [.int _ c,l]=>⟨c,GU l⟩
 |_=>⟨0,[]⟩
def decX:AVal->Lma
 | .agg [.str nm,.int _ lv,cs,ls,qs,ps,.int _ c,.int _ l]=>⟨nm,lv,Ow cs,Ow ls,IL decQ qs,IL decM ps,c,l⟩
 |_=>⟨[],0,[],[],[],[],0,0⟩
theorem Jy (q:Cnd):decQ (encQ q)=q:=by
 simp only[decQ,GU,As]
theorem Jz (p:Prm):decM (encM p)=p:=by
 simp only[decM,GU,As]
theorem Dr (x:Lma):decX (encL x)=x:=by
 simp only[decX,Ow,IL,C8,Bz Jy,Bz Jz]
def dQ:Dc Cnd:=dEx encQ decQ
def dX:Dc Lma:=dEx encL decX
theorem T9 (q:Cnd):dQ.ok (encQ q)=True:=X1 (by show encQ q=encQ (decQ (encQ q));rw[Jy])
theorem Nm (q:Cnd):dQ.dec (encQ q)=q:=Jy q
theorem GY (x:Lma):dX.ok (encL x)=True:=X1 (by show encL x=encL (decX (encL x));rw[Dr])
theorem Dy (x:Lma):dX.dec (encL x)=x:=Dr x
def Tcd:Tab:=tadd 76 (s3 dIs dI dI (λa n _=>few a/\0<=n) λa n k=>.bool (indN a n.toNat k)) tnil
theorem Tcd_ok:AH Tryz.prog Tcd:=AH.tnil.add (q3 λa n k h=>by
 obtain⟨j,rfl⟩:∃j:Nat,n=j:=⟨n.toNat,by omega⟩
 exact p76 a j k h.1)
theorem Fj (a:List AVal) (H:AB):Tcd 76 a H=s3 dIs dI dI (λa n _=>few a/\0<=n) (λa n k=>.bool (indN a n.toNat k)) a H:=rfl
theorem U2 {q:Cnd} {nc nl:Nat} (h:(indN q.cs nc 1&&indN q.ls nl 0)=false):CR q nc nl=false:=by
 unfold CR indN at*
 cases h1:difI q.cs nc<;>cases h2:difI q.ls nl<;>simp [h1,h2]at h⊢
 intro q1;omega
theorem XB {q:Cnd} {nc nl:Nat} (h1:indN q.cs nc 1=true) (h2:indN q.ls nl 0=true):CR q nc nl=(if q.k=1\/q.k=4 then decide (2<=q.cs.length)&&decide (q.ls.length=0)&&decide (q.n=0)
  else if q.k=2 then decide (q.ls.length=1)&&decide (q.n=0)
  else if q.k=3 then decide (q.cs.length=2)&&decide (q.ls.length=0)&&decide (1<=q.n)&&decide (q.n<=99)
  else if q.k=5 then decide (q.cs.length=2)&&decide (q.ls.length=0)&&decide (q.n=0)
  else if q.k=6 then decide (1<=q.ls.length)&&decide (0<=q.n)&&decide (q.n<=q.cs.length)
  else false):=by
 unfold indN at h1 h2
 simp only[X8,Xf]at h1 h2
 unfold CR
 rw[h1.1,h2.1,Xz (by omega:1<=q.cs.length)]
 rfl
theorem p77 (q:Cnd) (nc nl:Nat) (h1:few q.cs) (h2:few q.ls):Pur Tryz.prog 77 [encQ q,.int .i64 nc,.int .i64 nl] (.bool (CR q nc nl)):=by
 refine .mk ⟨Ej 0 q,trivial,trivial,trivial⟩ trivial (a77 (AF Tcd_ok (AG ?_)))
 cases hb1:indN q.cs nc 1 with
 |false=>
  simp only[eE,eC,eN,reduceCtorEq,Nat.reduceEqDiff,↓reduceIte,Nat.reduceAdd,Nat.reduceLeDiff,X7,Xe,X3,X4,c77,Fj,s3,dIs,dI,okL,decL,Dj,As,toI,h1,h2,hb1]
  rw[U2 (by rw[hb1];rfl)]
 |true=>
  cases hb2:indN q.ls nl 0 with
  |false=>
   simp only[eE,eC,eN,reduceCtorEq,Nat.reduceEqDiff,↓reduceIte,Nat.reduceAdd,Nat.reduceLeDiff,X7,Xe,X3,X4,c77,Fj,s3,dIs,dI,okL,decL,Dj,As,toI,h1,h2,hb1,hb2]
   rw[U2 (by rw[hb1,hb2];rfl)]
  |true=>
   rw[XB hb1 hb2]
   obtain⟨k,cs,ls,n⟩:=q
   by_cases k1:k=1
   ·subst k1
    simp only[eE,eC,eN,reduceCtorEq,Nat.reduceEqDiff,↓reduceIte,Nat.reduceAdd,Nat.reduceLeDiff,Int.reduceEq,X7,X3,X4,X0,c77,Fj,s3,dIs,dI,okL,decL,Dj,As,toI,h1,h2,hb1,hb2]
    exact(by rw[Y8];simp only[X8,Xf];omega)
   by_cases k4:k=4
   ·subst k4
    simp only[eE,eC,eN,reduceCtorEq,Nat.reduceEqDiff,↓reduceIte,Nat.reduceAdd,Nat.reduceLeDiff,Int.reduceEq,X7,X3,X4,X0,c77,Fj,s3,dIs,dI,okL,decL,Dj,As,toI,h1,h2,hb1,hb2]
    exact(by rw[Y8];simp only[X8,Xf];omega)
   by_cases k2:k=2
   ·subst k2
    simp only[eE,eC,eN,reduceCtorEq,Nat.reduceEqDiff,↓reduceIte,Nat.reduceAdd,Nat.reduceLeDiff,Int.reduceEq,X7,X3,X4,X0,c77,Fj,s3,dIs,dI,okL,decL,Dj,As,toI,h1,h2,hb1,hb2]
    exact(by rw[Y8];simp only[X8,Xf];omega)
   by_cases k3:k=3
   ·subst k3
    simp only[eE,eC,eN,reduceCtorEq,Nat.reduceEqDiff,↓reduceIte,Nat.reduceAdd,Nat.reduceLeDiff,Int.reduceEq,X7,X3,X4,X0,c77,Fj,s3,dIs,dI,okL,decL,Dj,As,toI,h1,h2,hb1,hb2]
    exact(by rw[Y8];simp only[X8,Xf];omega)
   by_cases k5:k=5
   ·subst k5
    simp only[eE,eC,eN,reduceCtorEq,Nat.reduceEqDiff,↓reduceIte,Nat.reduceAdd,Nat.reduceLeDiff,Int.reduceEq,X7,X3,X4,X0,c77,Fj,s3,dIs,dI,okL,decL,Dj,As,toI,h1,h2,hb1,hb2]
    exact(by rw[Y8];simp only[X8,Xf];omega)
   by_cases k6:k=6
   ·subst k6
    simp only[eE,eC,eN,reduceCtorEq,Nat.reduceEqDiff,↓reduceIte,Nat.reduceAdd,Nat.reduceLeDiff,Int.reduceEq,X7,X3,X4,X0,c77,Fj,s3,dIs,dI,okL,decL,Dj,As,toI,h1,h2,hb1,hb2]
    exact(by rw[Y8];simp only[X8,Xf];omega)
   simp only[eE,eC,eN,reduceCtorEq,Nat.reduceEqDiff,↓reduceIte,Nat.reduceAdd,Nat.reduceLeDiff,X7,X3,X4,X0,c77,Fj,s3,dIs,dI,okL,decL,Dj,As,toI,h1,h2,hb1,hb2,k1,k2,k3,k4,k5,k6]
end Go.AM
namespace Go.AM
open Go.Proofs Go.Lib
structure FewL (x:Lma):Prop where
 cs:few x.cs
 ls:few x.ls
 qs:few x.qs
 ps:few x.ps
 q:∀q∈x.qs,few q.cs/\few q.ls
 p:∀p∈x.ps,few p.ls
def Tckm:Tab:=tadd 74 (s1 dS any1 λs=>.bool (CH s)) (tadd 75 (s2 dSs dI (λa n=>few a/\0<=n) λa n=>.bool (CW a n.toNat)) (tadd 76 (s3 dIs dI dI (λa n _=>few a/\0<=n) λa n k=>.bool (indN a n.toNat k))
 (tadd 77 (s3 dQ dI dI (λq n m=>(few q.cs/\few q.ls)/\0<=n/\0<=m) λq n m=>.bool (CR q n.toNat m.toNat)) tnil)))
theorem XD:AH Tryz.prog Tckm:=(((AH.tnil.add (q3 λq n m h=>by
 obtain⟨j,rfl⟩:∃j:Nat,n=j:=⟨n.toNat,by omega⟩
 obtain⟨k,rfl⟩:∃j:Nat,m=j:=⟨m.toNat,by omega⟩
 exact p77 q j k h.1.1 h.1.2)).add (q3 λa n k h=>by
 obtain⟨j,rfl⟩:∃j:Nat,n=j:=⟨n.toNat,by omega⟩
 exact p76 a j k h.1)).add (q2 λa n h=>by
 obtain⟨j,rfl⟩:∃j:Nat,n=j:=⟨n.toNat,by omega⟩
 exact p75 a j h.1)).add (q1 λs _=>p74 s)
theorem XE (a:List AVal) (H:AB):Tckm 74 a H=s1 dS any1 (λs=>.bool (CH s)) a H:=rfl
theorem XG (a:List AVal) (H:AB):Tckm 75 a H=s2 dSs dI (λa n=>few a/\0<=n) (λa n=>.bool (CW a n.toNat)) a H:=rfl
theorem J0 (a:List AVal) (H:AB):Tckm 76 a H=s3 dIs dI dI (λa n _=>few a/\0<=n) (λa n k=>.bool (indN a n.toNat k)) a H:=rfl
theorem XH (a:List AVal) (H:AB):Tckm 77 a H=s3 dQ dI dI (λq n m=>(few q.cs/\few q.ls)/\0<=n/\0<=m) (λq n m=>.bool (CR q n.toNat m.toNat)) a H:=rfl
theorem few1 (c:Int):few [c]=True:=X1 (by show 1<_;decide)
def chk (x:Lma):Int:=if Hd x=true then 0 else 300
def hd0 (x:Lma):Bool:=CH x.nm&&decide (1<=x.lv)&&decide (x.lv<=8)&&CW x.cs 4&&CW x.ls 3&&decide ((x.qs.length:Int)<=6)
def hd1 (x:Lma):Bool:=hd0 x&&indN [x.c] x.cs.length 1&&indN [x.l] x.ls.length 1
def cdA (x:Lma) (i:Nat):Bool:=hd1 x&&(x.qs.take i).all λq=>CR q x.cs.length x.ls.length
def prA (x:Lma) (i:Nat):Bool:=cdA x x.qs.length&&(x.ps.take i).all λp=>indN p.ls x.ls.length 1
theorem UA {x:Lma} {i:Nat} (h:i<x.qs.length):cdA x (i+1)=(cdA x i&&CR x.qs[i] x.cs.length x.ls.length):=by
 unfold cdA;rw[NV h,Bool.and_assoc]
theorem UB {x:Lma} {i:Nat} (h:i<x.ps.length):prA x (i+1)=(prA x i&&indN x.ps[i].ls x.ls.length 1):=by
 unfold prA;rw[NV h,Bool.and_assoc]
theorem ind1 (c:Int) (n:Nat):indN [c] n 1=difI [c] n:=by unfold indN;simp
theorem XI (x:Lma):(prA x x.ps.length&&indN (x.ps.map (·.c)) x.cs.length 0)=Hd x:=by
 unfold prA cdA hd1 hd0 Hd
 rw[ind1,ind1,XY,XY]
 have e1:indN (x.ps.map (·.c)) x.cs.length 0=difI (x.ps.map (·.c)) x.cs.length:=by unfold indN;simp
 have e2:(x.ps.all λp=>indN p.ls x.ls.length 1)=x.ps.all λp=>difI p.ls x.ls.length&&decide (1<=p.ls.length):=by
  congr 1;funext p;unfold indN;congr 1;simp;omega
 have e3:decide ((x.qs.length:Int)<=6)=decide (x.qs.length<=6):=by rw[decide_eq_decide];omega
 rw[e1,e2,e3]
abbrev AT (x:Lma):List AVal:=[.str x.nm,.int .i64 x.lv,eSs x.cs,eSs x.ls,.sl (.none 4) (x.qs.map encQ),.sl (.none 2) (x.ps.map encM),.int .i64 x.c,.int .i64 x.l]
structure Vh where
 i:Nat
 H:AB
 n:Nat
structure Ih (len:Nat) (cs:List AVal) (v:Vh):Prop where
 hi:v.i<=len
 fr:AN v.H v.n
 b:hget v.H 0=some (.box cs)
 hn:1<=v.n
structure Ip (len:Nat) (cs:List AVal) (v:Vg):Prop where
 hi:v.i<=len
 fr:AN v.H v.n
 b:hget v.H 0=some (.box cs)
 hn:1<=v.n
 tok:tkG 1 1 v.H v.tk
 es:v.tk.esz=1\/v.i=0
abbrev hp10 (H:AB) (n:Nat) (p:Prm):AB:=hset (hset H (n+2) (.box [.int .i64 0,.sl .nil []])) (n+2) (.box [.int .i64 p.c,eIs p.ls])
theorem p42 (x:Lma) (hx:FewL x):Pur Tryz.prog 42 [encL x] (eI (chk x)):=by
 refine .mk ⟨Ah 0 x,trivial⟩ trivial (a42 (AF XD (AG ?_)))
 simp only[eE,eC,eN,reduceCtorEq,Nat.reduceEqDiff,↓reduceIte,Nat.reduceAdd,Nat.reduceLeDiff,Nat.reduceMul,Nat.reduceLT,Int.reduceLE,Int.reduceToNat,X3,X4,X0,c42,XE,XG,J0,s1,s2,s3,dS,dSs,dIs,dI,okL,decL,isS,toS,Dj,toI,C8,hx.cs,hx.ls,few1]
 refine AU (λv:Vh=>⟨[(1,true,.ptr 0 0),(3,true,.sl .nil []),(4,true,.bool (cdA x v.i)),(58,true,.sl (.none 4) (x.qs.map encQ)),(59,true,.int .i64 x.qs.length),(60,true,.int .i64 v.i)],v.H,v.n⟩) (Ih x.qs.length (AT x)) (λv=>x.qs.length-v.i)
  ⟨0,hset hnil 0 (.box (AT x)),2⟩ (by simp only[cdA,hd1,hd0,YN,List.all_nil,Bool.and_true];rfl) ⟨Xh _,AN.nil.hset (Xh 2) (Nat.zero_lt_succ 1),rfl,Nat.succ_le_succ (Xh 1)⟩ ?_
 rintro⟨i,H,n⟩ ⟨hi,hfr,hb,hn⟩
 simp only at hi hfr hb hn
 have z1:(0=n+2)=False:=X9 (by omega)
 have hqn:=hx.qs
 have hpn:=hx.ps
 by_cases hlt:i<x.qs.length
 ·have hg:=X5 hlt
  have e:=AL (k:=i) (by omega)
  have hq:=hx.q _ (Xk hlt)
  generalize hqq:x.qs[i]=q at hg hq
  simp only[eE,eC,eN,reduceCtorEq,Nat.reduceEqDiff,↓reduceIte,Nat.reduceAdd,Nat.reduceLeDiff,Int.reduceEq,X2,X3,X4,X0,X6,lt_T hlt,hg,fr1 hfr,hb,XH,s3,T9,Nm,dI,Dj,toI,hq.1,hq.2,e]
  refine .mk ⟨i+1,hset (hset H (n+2) (.box [.int .i64 0,.sl .nil [],.sl .nil [],.int .i64 0])) (n+2) (.box [.int .i64 q.k,eIs q.cs,eIs q.ls,.int .i64 q.n]),n+4⟩ ?_ ⟨hlt,?_,?_,by simp only[];omega⟩ (by simp only[];omega)
  ·rw[UA hlt,hqq]
  ·exact(hfr.hset (m:=n+4) (by omega) (by omega)).hset (Xb (n+4)) (show n+2<n+4 by omega)
  ·simp only[]
   rw[AA _ _ _ _ (by omega),AA _ _ _ _ (by omega)];exact hb
 obtain rfl:i=x.qs.length:=by omega
 simp only[eE,eC,eN,Nat.reduceEqDiff,↓reduceIte,Nat.reduceAdd,Nat.reduceLeDiff,X0,lt_F hlt,hb]
 refine AU (λv:Vg=>⟨[(1,true,.ptr 0 0),(3,true,.sl v.tk ((x.ps.take v.i).map λp=>eI p.c)),(4,true,.bool (prA x v.i)),(77,true,.sl (.none 2) (x.ps.map encM)),(78,true,.int .i64 x.ps.length),(79,true,.int .i64 v.i)],v.H,v.n⟩) (Ip x.ps.length (AT x)) (λv=>x.ps.length-v.i)
  ⟨0,.nil,H,n⟩ (by simp only[prA,YN,List.all_nil,Bool.and_true,XZ];rfl) ⟨Xh _,hfr,hb,hn,.inl rfl,.inr rfl⟩ ?_
 clear hlt hb hfr hn hi z1
 rintro⟨i,tk,H,n⟩ ⟨hi,hfr,hb,hn,htk,hes⟩
 simp only at hi hfr hb hn htk hes
 by_cases hlt:i<x.ps.length
 ·have hg:=X5 hlt
  have e:=AL (k:=i) (by omega)
  have hp:=hx.p _ (Xk hlt)
  generalize hqq:x.ps[i]=p at hg hp
  have z2:(0=n+2)=False:=X9 (by omega)
  have z3:(0=n+4+4)=False:=X9 (by omega)
  have hf2:AN (hp10 H n p) (n+4):=(hfr.hset (m:=n+4) (by omega) (by omega)).hset (Xb (n+4)) (by omega)
  have ht2:tkG 1 1 (hp10 H n p) tk:=(htk.set (.inr (.inr (hfr _ (by omega))))).set (.inr (.inl ⟨_,AC ..⟩))
  have hb2:hget (hp10 H n p) 0=some (.box (AT x)):=by
   rw[AA _ _ _ _ (by omega),AA _ _ _ _ (by omega)];exact hb
  have hb3:hget (hp10 H n p) (n+2)=some (.box [.int .i64 p.c,eIs p.ls]):=AC ..
  have k0:hget (AV (hp10 H n p) tk) 0=some (.box (AT x)):=by rw[Ad ht2 (.inl (by omega))];exact hb2
  have k2:hget (AV (hp10 H n p) tk) (n+2)=some (.box [.int .i64 p.c,eIs p.ls]):=by rw[Ad ht2 (.inr ⟨_,hb3⟩)];exact hb3
  have q1:Bj (hp10 H n p) 1 tk=True:=X1 ht2.app
  have q2:(i<=35184372088831)=True:=X1 (by omega)
  have q3:Ap (i+1) 8=True:=X1 (AX (by omega) (by decide))
  have ln:((x.ps.take i).map λp=>eI p.c).length=i:=by simp;omega
  have z4:(n+4+4=0)=False:=X9 (by omega)
  have z5:(n+8=n+2)=False:=X9 (by omega)
  have z6:(n+8=0)=False:=X9 (by omega)
  have z7:(n+2=0)=False:=X9 (by omega)
  have h8:=hfr (n+8) (by omega)
  simp only[eE,eC,eN,reduceCtorEq,Nat.reduceEqDiff,↓reduceIte,Nat.reduceAdd,Nat.reduceLeDiff,Nat.reduceMul,Nat.reduceLT,Int.reduceEq,X2,X3,X4,X0,X6,lt_T hlt,hg,fr1 hfr,z4,z5,q1,q2,q3,ln,k0,k2,J0,s3,dIs,dI,okL,decL,Dj,As,toI,hp,e,natE3]
  refine .mk ⟨i+1,.own (n+8) 1,hset (AV (hp10 H n p) tk) (n+8) .tok,n+10⟩ (by rw[UB hlt,map_take hlt,hqq]) ⟨hlt,(Ag ht2 hf2).hset (m:=n+10) (by omega) (by omega),?_,by simp only[];omega,.inr (.inr ⟨n+8,rfl,by omega,AC ..⟩),.inl rfl⟩ (by simp only[];omega)
  simp only[]
  rw[AA _ _ _ _ (by omega)];exact k0
 obtain rfl:i=x.ps.length:=by omega
 have hc:x.ps.map (λp=>eI p.c)=(x.ps.map (·.c)).map eI:=by rw[Ze];rfl
 have hes':(tk.esz=1\/(x.ps.map (·.c)).map eI=[])=True:=X1 (hes.imp id λe=>by rw[YX.1 e];rfl)
 have hpl:few (x.ps.map (·.c))=True:=X1 (by show(x.ps.map _).length<_;rw[X0];exact hpn)
 have hfin:=XI x
 cases h1:prA x x.ps.length with
 |false=>
  have hl:Hd x=false:=by rw[<-hfin,h1];rfl
  simp only[eE,eC,eN,reduceCtorEq,Nat.reduceEqDiff,↓reduceIte,Nat.reduceAdd,X7,Xe,lt_F hlt]
  unfold chk;rw[Xc (by rw[hl];decide)]
 |true=>
  rw[h1,YM]at hfin
  cases hl:Hd x with
  |true=>
   simp only[eE,eC,eN,Nat.reduceEqDiff,↓reduceIte,Nat.reduceAdd,Nat.reduceLeDiff,X7,X3,X4,X0,lt_F hlt,hb,XY,hc,J0,s3,dIs,dI,okL,decL,Dj,As,toI,hes',hpl,hfin.trans hl]
   unfold chk;rw[Xg hl]
  |false=>
   simp only[eE,eC,eN,Nat.reduceEqDiff,↓reduceIte,Nat.reduceAdd,Nat.reduceLeDiff,X7,Xe,X3,X4,X0,lt_F hlt,hb,XY,hc,J0,s3,dIs,dI,okL,decL,Dj,As,toI,hes',hpl,hfin.trans hl]
   unfold chk;rw[Xc (by rw[hl];decide)]
end Go.AM
namespace Go.AM
open Go.Proofs Go.Lib
end Go.AM
