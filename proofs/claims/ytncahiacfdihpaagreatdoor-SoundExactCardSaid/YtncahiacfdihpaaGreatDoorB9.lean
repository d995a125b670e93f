/-
  Declarations compared · Declarations compared: regions, rules, all of it · Grids: a list copied, a grid made, a grid che.
  Conditions: none beyond those of its parts.
-/
import Derived.Test.YtncahiacfdihpaaGreatDoorB8
import Derived.Test.YtncahiacfdihpaaGreatDoorB6
import Derived.Test.YtncahiacfdihpaaGreatDoorB5

set_option maxRecDepth 20000
set_option linter.all false
set_option maxHeartbeats 1000000
namespace Go.AM
open Go.Proofs Go.Lib
theorem DU{a b:Bs}:scmp .neq a b= !decide (a=b):=rfl
theorem Ef{a b:Bs}:scmp .eql a b=decide (a=b):=rfl
theorem Ut{a b:DSym}:a=b↔a.nm=b.nm/\a.v=b.v:=by cases a;cases b;simp only[DSym.mk.injEq]
theorem Uu{a b:DClu}:a=b↔a.nm=b.nm/\a.on=b.on/\a.fam=b.fam/\a.ty=b.ty/\a.lo=b.lo/\a.hi=b.hi:=by cases a;cases b;simp only[DClu.mk.injEq]
theorem Uv{a b:DReg}:a=b↔a.nm=b.nm/\a.ls=b.ls:=by cases a;cases b;simp only[DReg.mk.injEq]
theorem S9(s t:DSym):ceqs [.str s.nm,.int .i64 s.v] [.str t.nm,.int .i64 t.v]=decide (s=t):=by
 rw[VS,Vf,Ut];simp [ceqs,ceq]
theorem TA(s t:DClu):ceqs [.str s.nm,.str s.on,.int .i64 s.fam,.int .i64 s.ty,.int .i64 s.lo,.int .i64 s.hi] [.str t.nm,.str t.on,.int .i64 t.fam,.int .i64 t.ty,.int .i64 t.lo,.int .i64 t.hi]=decide (s=t):=by
 rw[VS,Vf,Uu];simp [ceqs,ceq]
theorem CQ{p:Prop}[Decidable p](h:p):decide p=true:=VJ h
theorem Bu{p:Prop}[Decidable p](h:¬p):decide p=false:=VN h
theorem p103(a b:List Int)(hb:wide b):Pur Tryz.prog 103 [eIs a,eIs b] (.bool (decide (a=b))):=by
 refine .mk ⟨Aa 0 a,Aa 0 b,trivial⟩ trivial (a103 (AE AH.tnil (AF ?_)))
 by_cases hl:a.length=b.length
 case neg=>
  simp only[eE,eC,eN,reduceCtorEq,Nat.reduceEqDiff,↓reduceIte,Nat.reduceAdd,Ve,V0,c103,FX hl,Ve]
  exact(VN λe=>hl (by rw[e])).symm
 simp only[eE,eC,eN,reduceCtorEq,Nat.reduceEqDiff,↓reduceIte,Nat.reduceAdd,V8,V0,c103,FY hl]
 refine AU (λi:Nat=>⟨[(0,true,eIs a),(1,true,eIs b),(12,true,.int .i64 a.length),(13,true,.int .i64 i)],hnil,0⟩) (λi=>i<=a.length/\∀j,j<i->a[j]?=b[j]?) (λi=>a.length-i) 0 rfl ⟨Vi _,λj hj=>by omega⟩ ?_
 rintro i ⟨hi,hall⟩
 by_cases hlt:i<a.length
 case neg=>
  simp only[eE,eC,eN,reduceCtorEq,Nat.reduceEqDiff,↓reduceIte,lt_F hlt]
  exact(VJ (Cq hl λj hj=>hall j (by omega))).symm
 have hltb:i<b.length:=by omega
 have hga:=V5 hlt
 have hgb:=V5 hltb
 have e:=AJ (k:=i) (by have:b.length<1125899906842624:=hb;omega)
 by_cases hs:a[i]=b[i]
 ·simp only[eE,eC,eN,reduceCtorEq,Nat.reduceEqDiff,↓reduceIte,Int.reduceEq,V8,V1,V2,V4,V0,V6,lt_T hlt,lt_T hltb,hga,hgb,e,CQ hs]
  refine .mk (i+1) rfl ⟨hlt,λj h=>?_⟩ (by omega)
  by_cases q:j=i
  ·subst q;rw[hga,hgb,hs]
  ·exact hall j (by omega)
 ·simp only[eE,eC,eN,reduceCtorEq,Nat.reduceEqDiff,↓reduceIte,Ve,V1,V2,V4,V0,V6,lt_T hlt,lt_T hltb,hga,hgb,Bu hs]
  exact(VN λq=>hs (by simp [q])).symm
theorem p154(a b:List Bs)(hb:wide b):Pur Tryz.prog 154 [eSs a,eSs b] (.bool (decide (a=b))):=by
 refine .mk ⟨C8 0 a,C8 0 b,trivial⟩ trivial (a154 (AE AH.tnil (AF ?_)))
 by_cases hl:a.length=b.length
 case neg=>
  simp only[eE,eC,eN,reduceCtorEq,Nat.reduceEqDiff,↓reduceIte,Nat.reduceAdd,Ve,V0,c154,FX hl,Ve]
  exact(VN λe=>hl (by rw[e])).symm
 simp only[eE,eC,eN,reduceCtorEq,Nat.reduceEqDiff,↓reduceIte,Nat.reduceAdd,V8,V0,c154,FY hl]
 refine AU (λi:Nat=>⟨[(0,true,eSs a),(1,true,eSs b),(12,true,.int .i64 a.length),(13,true,.int .i64 i)],hnil,0⟩) (λi=>i<=a.length/\∀j,j<i->a[j]?=b[j]?) (λi=>a.length-i) 0 rfl ⟨Vi _,λj hj=>by omega⟩ ?_
 rintro i ⟨hi,hall⟩
 by_cases hlt:i<a.length
 case neg=>
  simp only[eE,eC,eN,reduceCtorEq,Nat.reduceEqDiff,↓reduceIte,lt_F hlt]
  exact(VJ (Cq hl λj hj=>hall j (by omega))).symm
 have hltb:i<b.length:=by omega
 have hga:=V5 hlt
 have hgb:=V5 hltb
 have e:=AJ (k:=i) (by have:b.length<1125899906842624:=hb;omega)
 by_cases hs:a[i]=b[i]
 ·simp only[eE,eC,eN,reduceCtorEq,Nat.reduceEqDiff,↓reduceIte,Int.reduceEq,V8,V1,V2,V4,V0,V6,lt_T hlt,lt_T hltb,hga,hgb,e,DU,CQ hs]
  refine .mk (i+1) rfl ⟨hlt,λj h=>?_⟩ (by omega)
  by_cases q:j=i
  ·subst q;rw[hga,hgb,hs]
  ·exact hall j (by omega)
 ·simp only[eE,eC,eN,reduceCtorEq,Nat.reduceEqDiff,↓reduceIte,Ve,V1,V2,V4,V0,V6,lt_T hlt,lt_T hltb,hga,hgb,DU,Bu hs]
  exact(VN λq=>hs (by simp [q])).symm
theorem p155(a b:List DSym)(hb:few b):Pur Tryz.prog 155 [eSys a,eSys b] (.bool (decide (a=b))):=by
 refine .mk ⟨D8 0 a,D8 0 b,trivial⟩ trivial (a155 (AE AH.tnil (AF ?_)))
 by_cases hl:a.length=b.length
 case neg=>
  simp only[eE,eC,eN,reduceCtorEq,Nat.reduceEqDiff,↓reduceIte,Nat.reduceAdd,Ve,V0,c155,FX hl,Ve]
  exact(VN λe=>hl (by rw[e])).symm
 simp only[eE,eC,eN,reduceCtorEq,Nat.reduceEqDiff,↓reduceIte,Nat.reduceAdd,V8,V0,c155,FY hl]
 refine AU (λi:Nat=>⟨[(0,true,eSys a),(1,true,eSys b),(12,true,.int .i64 a.length),(13,true,.int .i64 i)],hnil,0⟩) (λi=>i<=a.length/\∀j,j<i->a[j]?=b[j]?) (λi=>a.length-i) 0 rfl ⟨Vi _,λj hj=>by omega⟩ ?_
 rintro i ⟨hi,hall⟩
 by_cases hlt:i<a.length
 case neg=>
  simp only[eE,eC,eN,reduceCtorEq,Nat.reduceEqDiff,↓reduceIte,lt_F hlt]
  exact(VJ (Cq hl λj hj=>hall j (by omega))).symm
 have hltb:i<b.length:=by omega
 have hga:=V5 hlt
 have hgb:=V5 hltb
 have e:=AJ (k:=i) (by have:b.length<1000000000:=hb;omega)
 by_cases hs:a[i]=b[i]
 ·simp only[eE,eC,eN,reduceCtorEq,Nat.reduceEqDiff,↓reduceIte,Nat.reduceAdd,Int.reduceEq,V8,V1,V2,V4,V0,V6,lt_T hlt,lt_T hltb,hga,hgb,e,S9,cfit,CQ hs]
  refine .mk (i+1) rfl ⟨hlt,λj h=>?_⟩ (by omega)
  by_cases q:j=i
  ·subst q;rw[hga,hgb,hs]
  ·exact hall j (by omega)
 ·simp only[eE,eC,eN,reduceCtorEq,Nat.reduceEqDiff,↓reduceIte,Nat.reduceAdd,Ve,V1,V2,V4,V0,V6,lt_T hlt,lt_T hltb,hga,hgb,S9,cfit,Bu hs]
  exact(VN λq=>hs (by simp [q])).symm
theorem p157(a b:List DClu)(hb:few b):Pur Tryz.prog 157 [eCls a,eCls b] (.bool (decide (a=b))):=by
 refine .mk ⟨D9 0 a,D9 0 b,trivial⟩ trivial (a157 (AE AH.tnil (AF ?_)))
 by_cases hl:a.length=b.length
 case neg=>
  simp only[eE,eC,eN,reduceCtorEq,Nat.reduceEqDiff,↓reduceIte,Nat.reduceAdd,Ve,V0,c157,FX hl,Ve]
  exact(VN λe=>hl (by rw[e])).symm
 simp only[eE,eC,eN,reduceCtorEq,Nat.reduceEqDiff,↓reduceIte,Nat.reduceAdd,V8,V0,c157,FY hl]
 refine AU (λi:Nat=>⟨[(0,true,eCls a),(1,true,eCls b),(12,true,.int .i64 a.length),(13,true,.int .i64 i)],hnil,0⟩) (λi=>i<=a.length/\∀j,j<i->a[j]?=b[j]?) (λi=>a.length-i) 0 rfl ⟨Vi _,λj hj=>by omega⟩ ?_
 rintro i ⟨hi,hall⟩
 by_cases hlt:i<a.length
 case neg=>
  simp only[eE,eC,eN,reduceCtorEq,Nat.reduceEqDiff,↓reduceIte,lt_F hlt]
  exact(VJ (Cq hl λj hj=>hall j (by omega))).symm
 have hltb:i<b.length:=by omega
 have hga:=V5 hlt
 have hgb:=V5 hltb
 have e:=AJ (k:=i) (by have:b.length<1000000000:=hb;omega)
 by_cases hs:a[i]=b[i]
 ·simp only[eE,eC,eN,reduceCtorEq,Nat.reduceEqDiff,↓reduceIte,Nat.reduceAdd,Int.reduceEq,V8,V1,V2,V4,V0,V6,lt_T hlt,lt_T hltb,hga,hgb,e,TA,cfit,CQ hs]
  refine .mk (i+1) rfl ⟨hlt,λj h=>?_⟩ (by omega)
  by_cases q:j=i
  ·subst q;rw[hga,hgb,hs]
  ·exact hall j (by omega)
 ·simp only[eE,eC,eN,reduceCtorEq,Nat.reduceEqDiff,↓reduceIte,Nat.reduceAdd,Ve,V1,V2,V4,V0,V6,lt_T hlt,lt_T hltb,hga,hgb,TA,cfit,Bu hs]
  exact(VN λq=>hs (by simp [q])).symm
end Go.AM
namespace Go.AM
open Go.Proofs Go.Lib
def s2f{α β:Type}(cl:Nat)(A:Dc α)(B:Dc β)(c:α->β->Prop)(f:α->β->AVal):List AVal->AB->Prop×AVal:=λa _=>match a with
 |[x,y,.fn (.func k) [] []]=>(k=cl/\A.ok x/\B.ok y/\c (A.dec x) (B.dec y),f (A.dec x) (B.dec y))
 |_=>(False,.tup [])
theorem q2f{α β:Type}{cl:Nat}{A:Dc α}{B:Dc β}{c:α->β->Prop}{f:α->β->AVal}{fid:FuncId}(h:∀x y,c x y->Pur Tryz.prog fid [A.enc x,B.enc y,.fn (.func cl) [] []] (f x y)):∀args H n,(s2f cl A B c f args H).1->AZ Tryz.prog fid args H n (s2f cl A B c f args H).2:=by
 intro args H n hh
 unfold s2f at hh⊢
 split at hh
 ·obtain⟨rfl,h1,h2,h3⟩:=hh
  refine AI.args ((h _ _ h3).quiet H n) ?_
  rintro g vs ⟨v,r,rfl,k1,w,r',rfl,k2,k3⟩
  exact⟨v,_,rfl,A.wk _ h1 _ _ k1,w,_,rfl,B.wk _ h2 _ _ k2,k3⟩
 ·exact hh.elim
theorem Dy(x:List (List Int)):dLl.ok (eLl x)=True:=Gy C9 (.inl rfl)
theorem Cf(x:List (List Int)):dLl.dec (eLl x)=x:=Ee C9
theorem Uw(x:List DSym):dSys.ok (eSys x)=True:=Gy Eu (.inl rfl)
theorem SF(x:List DSym):dSys.dec (eSys x)=x:=Ee Eu
theorem Ux(x:List DReg):dRgs.ok (eRgs x)=True:=Gy Dv (.inl rfl)
theorem SG(x:List DReg):dRgs.dec (eRgs x)=x:=Ee Dv
theorem Uy(x:List DClu):dCls.ok (eCls x)=True:=Gy Ev (.inl rfl)
theorem SH(x:List DClu):dCls.dec (eCls x)=x:=Ee Ev
theorem Uz(x:List DRul):dRus.ok (eRus x)=True:=Gy Dw (.inl rfl)
theorem SI(x:List DRul):dRus.dec (eRus x)=x:=Ee Dw
abbrev Bo(l:List (List Int)):Prop:=few l/\∀x∈l,wide x
abbrev KB(r:DReg):Prop:=Bo r.ls
abbrev LS(r:DRul):Prop:=wide r.ns/\wide r.os
structure FewD(d:Dcl):Prop where
 ho:few d.holes
 sy:few d.syms
 rg:few d.regs
 rgs:∀r∈d.regs,KB r
 cl:few d.clus
 ru:few d.ruls
 rus:∀r∈d.ruls,LS r
theorem U0{a b:DRul}:a=b↔(((((a.ns=b.ns/\a.os=b.os)/\a.nm=b.nm)/\a.on=b.on)/\a.byN=b.byN)/\a.kind=b.kind/\a.fam=b.fam/\a.set=b.set/\a.oth=b.oth/\a.op=b.op/\a.n=b.n/\a.clue=b.clue):=by
 cases a;cases b;simp only[DRul.mk.injEq]
 constructor
 ·rintro⟨a,b,c,d,e,f,g,h,i,j,k,l⟩;exact⟨⟨⟨⟨⟨e,f⟩,a⟩,b⟩,k⟩,c,d,g,h,i,j,l⟩
 ·rintro⟨⟨⟨⟨⟨e,f⟩,a⟩,b⟩,k⟩,c,d,g,h,i,j,l⟩;exact⟨a,b,c,d,e,f,g,h,i,j,k,l⟩
theorem ceq_7(a b c d e f g a' b' c' d' e' f' g':Int):ceqs [.int .i64 a,.int .i64 b,.int .i64 c,.int .i64 d,.int .i64 e,.int .i64 f,.int .i64 g] [.int .i64 a',.int .i64 b',.int .i64 c',.int .i64 d',.int .i64 e',.int .i64 f',.int .i64 g']=decide (a=a'/\b=b'/\c=c'/\d=d'/\e=e'/\f=f'/\g=g'):=by
 rw[VS,Vf];simp [ceqs,ceq]
theorem U1{a b:Dcl}:a=b↔((((((((((a.nm=b.nm/\a.ver=b.ver)/\a.sh=b.sh)/\a.w=b.w)/\a.h=b.h)/\a.holes=b.holes)/\a.syms=b.syms)/\a.regs=b.regs)/\a.clus=b.clus)/\a.ruls=b.ruls)):=by
 cases a;cases b;simp only[Dcl.mk.injEq]
 constructor
 ·rintro⟨a,b,c,d,e,f,g,h,i,j⟩;exact⟨⟨⟨⟨⟨⟨⟨⟨⟨a,b⟩,c⟩,d⟩,e⟩,f⟩,g⟩,h⟩,i⟩,j⟩
 ·rintro⟨⟨⟨⟨⟨⟨⟨⟨⟨a,b⟩,c⟩,d⟩,e⟩,f⟩,g⟩,h⟩,i⟩,j⟩;exact⟨a,b,c,d,e,f,g,h,i,j⟩
def Tci:Tab:=tadd 103 (s2 dIs dIs (λ_ b=>wide b) λa b=>.bool (decide (a=b))) tnil
theorem Tci_ok:AH Tryz.prog Tci:=AH.tnil.add (q2 p103)
theorem Tci_e(a:List AVal)(H:AB):Tci 103 a H=(s2 dIs dIs (λ_ b=>wide b) λa b=>.bool (decide (a=b))) a H:=rfl
theorem p152(a b:List (List Int))(hb:few b)(hx:∀x∈b,wide x):Pur Tryz.prog 152 [eLl a,eLl b,.fn (.func 103) [] []] (.bool (decide (a=b))):=by
 refine .mk ⟨Ar 0 a,Ar 0 b,by simp [AVal.under,unders],trivial⟩ trivial (a152 (AE Tci_ok (AF ?_)))
 by_cases hl:a.length=b.length
 case neg=>
  simp only[eE,eC,eN,reduceCtorEq,Nat.reduceEqDiff,↓reduceIte,Nat.reduceAdd,Ve,V0,c152,FX hl,Ve]
  exact(VN λe=>hl (by rw[e])).symm
 simp only[eE,eC,eN,reduceCtorEq,Nat.reduceEqDiff,↓reduceIte,Nat.reduceAdd,V8,V0,c152,FY hl]
 refine AU (λi:Nat=>⟨[(1,true,eLl b),(2,true,.fn (.func 103) [] []),(15,true,eLl a),(16,true,.int .i64 a.length),(17,true,.int .i64 i)],hnil,0⟩) (λi=>i<=a.length/\∀j,j<i->a[j]?=b[j]?) (λi=>a.length-i) 0 rfl ⟨Vi _,λj hj=>by omega⟩ ?_
 rintro i ⟨hi,hall⟩
 by_cases hlt:i<a.length
 case neg=>
  simp only[eE,eC,eN,Nat.reduceEqDiff,↓reduceIte,lt_F hlt]
  exact(VJ (Cq hl λj hj=>hall j (by omega))).symm
 have hltb:i<b.length:=by omega
 have hga:=V5 hlt
 have hgb:=V5 hltb
 have e:=AJ (k:=i) (by have:b.length<1000000000:=hb;omega)
 have hf:=hx _ (Vn hltb)
 by_cases hs:a[i]=b[i]
 ·simp only[eE,eC,eN,Nat.reduceEqDiff,↓reduceIte,Int.reduceEq,V8,V1,V2,V4,V0,V6,lt_T hlt,lt_T hltb,hga,hgb,e,Tci_e,s2,BD,At,V3 hf,CQ hs]
  refine lpN.drop (i+1) rfl rfl rfl rfl AN.nil (λ_ _ h=>by cases h) ⟨Ar 0 b,by simp [AVal.under,unders],Ar 0 a,trivial,trivial,trivial⟩ ⟨hlt,λj h=>?_⟩ (by omega)
  by_cases q:j=i
  ·subst q;rw[hga,hgb,hs]
  ·exact hall j (by omega)
 ·simp only[eE,eC,eN,Nat.reduceEqDiff,↓reduceIte,Ve,V1,V2,V4,V0,V6,lt_T hlt,lt_T hltb,hga,hgb,Tci_e,s2,BD,At,V3 hf,Bu hs]
  exact(VN λq=>hs (by simp [q])).symm
def Tcl:Tab:=tadd 152 (s2f 103 dLl dLl (λ_ b=>Bo b) λa b=>.bool (decide (a=b))) tnil
theorem TB:AH Tryz.prog Tcl:=AH.tnil.add (q2f λa b h=>p152 a b h.1 h.2)
theorem Tcl_e(a:List AVal)(H:AB):Tcl 152 a H=(s2f 103 dLl dLl (λ_ b=>Bo b) λa b=>.bool (decide (a=b))) a H:=rfl
theorem p151(a b:DReg)(hb:KB b):Pur Tryz.prog 151 [Ft a,Ft b] (.bool (decide (a=b))):=by
 refine .mk ⟨DS 0 a,DS 0 b,trivial⟩ trivial (a151 (AE TB (AF ?_)))
 simp only[eE,eC,eN,reduceCtorEq,Nat.reduceEqDiff,↓reduceIte,Nat.reduceAdd,Nat.reduceLeDiff,c151,Ef,Tcl_e,s2f,Dy,Cf,V3 hb]
 rw[VS]
 simp only[V7,Vf,Uv]
def Tcr:Tab:=tadd 151 (s2 dRg dRg (λ_ b=>KB b) λa b=>.bool (decide (a=b))) tnil
theorem Tcr_ok:AH Tryz.prog Tcr:=AH.tnil.add (q2 p151)
theorem Tcr_e(a:List AVal)(H:AB):Tcr 151 a H=(s2 dRg dRg (λ_ b=>KB b) λa b=>.bool (decide (a=b))) a H:=rfl
theorem p156(a b:List DReg)(hb:few b)(hx:∀x∈b,KB x):Pur Tryz.prog 156 [eRgs a,eRgs b,.fn (.func 151) [] []] (.bool (decide (a=b))):=by
 refine .mk ⟨CU 0 a,CU 0 b,by simp [AVal.under,unders],trivial⟩ trivial (a156 (AE Tcr_ok (AF ?_)))
 by_cases hl:a.length=b.length
 case neg=>
  simp only[eE,eC,eN,reduceCtorEq,Nat.reduceEqDiff,↓reduceIte,Nat.reduceAdd,Ve,V0,c156,FX hl,Ve]
  exact(VN λe=>hl (by rw[e])).symm
 simp only[eE,eC,eN,reduceCtorEq,Nat.reduceEqDiff,↓reduceIte,Nat.reduceAdd,V8,V0,c156,FY hl]
 refine AU (λi:Nat=>⟨[(1,true,eRgs b),(2,true,.fn (.func 151) [] []),(15,true,eRgs a),(16,true,.int .i64 a.length),(17,true,.int .i64 i)],hnil,0⟩) (λi=>i<=a.length/\∀j,j<i->a[j]?=b[j]?) (λi=>a.length-i) 0 rfl ⟨Vi _,λj hj=>by omega⟩ ?_
 rintro i ⟨hi,hall⟩
 by_cases hlt:i<a.length
 case neg=>
  simp only[eE,eC,eN,Nat.reduceEqDiff,↓reduceIte,lt_F hlt]
  exact(VJ (Cq hl λj hj=>hall j (by omega))).symm
 have hltb:i<b.length:=by omega
 have hga:=V5 hlt
 have hgb:=V5 hltb
 have e:=AJ (k:=i) (by have:b.length<1000000000:=hb;omega)
 have hf:=hx _ (Vn hltb)
 by_cases hs:a[i]=b[i]
 ·simp only[eE,eC,eN,Nat.reduceEqDiff,↓reduceIte,Nat.reduceAdd,Int.reduceEq,V8,V1,V2,V4,V0,V6,lt_T hlt,lt_T hltb,hga,hgb,e,Tcr_e,s2,MV,I0,V3 hf,CQ hs]
  refine lpN.drop (i+1) rfl rfl rfl rfl AN.nil (λ_ _ h=>by cases h) ⟨CU 0 b,by simp [AVal.under,unders],CU 0 a,trivial,trivial,trivial⟩ ⟨hlt,λj h=>?_⟩ (by omega)
  by_cases q:j=i
  ·subst q;rw[hga,hgb,hs]
  ·exact hall j (by omega)
 ·simp only[eE,eC,eN,Nat.reduceEqDiff,↓reduceIte,Nat.reduceAdd,Ve,V1,V2,V4,V0,V6,lt_T hlt,lt_T hltb,hga,hgb,Tcr_e,s2,MV,I0,V3 hf,Bu hs]
  exact(VN λq=>hs (by simp [q])).symm
def Tcs:Tab:=tadd 154 (s2 dSs dSs (λ_ b=>wide b) λa b=>.bool (decide (a=b))) tnil
theorem Tcs_ok:AH Tryz.prog Tcs:=AH.tnil.add (q2 p154)
theorem Tcs_e(a:List AVal)(H:AB):Tcs 154 a H=(s2 dSs dSs (λ_ b=>wide b) λa b=>.bool (decide (a=b))) a H:=rfl
theorem p153(a b:DRul)(hb:LS b):Pur Tryz.prog 153 [BX a,BX b] (.bool (decide (a=b))):=by
 refine .mk ⟨B4 0 a,B4 0 b,trivial⟩ trivial (a153 (AE Tcs_ok (AF ?_)))
 have h1:=hb.1
 have h2:=hb.2
 simp only[eE,eC,eN,reduceCtorEq,Nat.reduceEqDiff,↓reduceIte,Nat.reduceAdd,Nat.reduceLeDiff,c153,Ef,Tcs_e,s2,dSs_ok,Up,V3 h1,V3 h2,ceq_7,cfit]
 rw[VS]
 simp only[V7,Vf,U0]
def Tcu:Tab:=tadd 153 (s2 dRu dRu (λ_ b=>LS b) λa b=>.bool (decide (a=b))) tnil
theorem Tcu_ok:AH Tryz.prog Tcu:=AH.tnil.add (q2 p153)
theorem Tcu_e(a:List AVal)(H:AB):Tcu 153 a H=(s2 dRu dRu (λ_ b=>LS b) λa b=>.bool (decide (a=b))) a H:=rfl
theorem p158(a b:List DRul)(hb:few b)(hx:∀x∈b,LS x):Pur Tryz.prog 158 [eRus a,eRus b,.fn (.func 153) [] []] (.bool (decide (a=b))):=by
 refine .mk ⟨CV 0 a,CV 0 b,by simp [AVal.under,unders],trivial⟩ trivial (a158 (AE Tcu_ok (AF ?_)))
 by_cases hl:a.length=b.length
 case neg=>
  simp only[eE,eC,eN,reduceCtorEq,Nat.reduceEqDiff,↓reduceIte,Nat.reduceAdd,Ve,V0,c158,FX hl,Ve]
  exact(VN λe=>hl (by rw[e])).symm
 simp only[eE,eC,eN,reduceCtorEq,Nat.reduceEqDiff,↓reduceIte,Nat.reduceAdd,V8,V0,c158,FY hl]
 refine AU (λi:Nat=>⟨[(1,true,eRus b),(2,true,.fn (.func 153) [] []),(15,true,eRus a),(16,true,.int .i64 a.length),(17,true,.int .i64 i)],hnil,0⟩) (λi=>i<=a.length/\∀j,j<i->a[j]?=b[j]?) (λi=>a.length-i) 0 rfl ⟨Vi _,λj hj=>by omega⟩ ?_
 rintro i ⟨hi,hall⟩
 by_cases hlt:i<a.length
 case neg=>
  simp only[eE,eC,eN,Nat.reduceEqDiff,↓reduceIte,lt_F hlt]
  exact(VJ (Cq hl λj hj=>hall j (by omega))).symm
 have hltb:i<b.length:=by omega
 have hga:=V5 hlt
 have hgb:=V5 hltb
 have e:=AJ (k:=i) (by have:b.length<1000000000:=hb;omega)
 have hf:=hx _ (Vn hltb)
 by_cases hs:a[i]=b[i]
 ·simp only[eE,eC,eN,Nat.reduceEqDiff,↓reduceIte,Nat.reduceAdd,Int.reduceEq,V8,V1,V2,V4,V0,V6,lt_T hlt,lt_T hltb,hga,hgb,e,Tcu_e,s2,Fc,Dx,V3 hf,CQ hs]
  refine lpN.drop (i+1) rfl rfl rfl rfl AN.nil (λ_ _ h=>by cases h) ⟨CV 0 b,by simp [AVal.under,unders],CV 0 a,trivial,trivial,trivial⟩ ⟨hlt,λj h=>?_⟩ (by omega)
  by_cases q:j=i
  ·subst q;rw[hga,hgb,hs]
  ·exact hall j (by omega)
 ·simp only[eE,eC,eN,Nat.reduceEqDiff,↓reduceIte,Nat.reduceAdd,Ve,V1,V2,V4,V0,V6,lt_T hlt,lt_T hltb,hga,hgb,Tcu_e,s2,Fc,Dx,V3 hf,Bu hs]
  exact(VN λq=>hs (by simp [q])).symm
def Tsa:Tab:=tadd 103 (s2 dIs dIs (λ_ b=>wide b) λa b=>.bool (decide (a=b))) (tadd 155 (s2 dSys dSys (λ_ b=>few b) λa b=>.bool (decide (a=b))) (tadd 156 (s2f 151 dRgs dRgs (λ_ b=>few b/\∀x∈b,KB x) λa b=>.bool (decide (a=b))) (tadd 157 (s2 dCls dCls (λ_ b=>few b) λa b=>.bool (decide (a=b))) (tadd 158 (s2f 153 dRus dRus (λ_ b=>few b/\∀x∈b,LS x) λa b=>.bool (decide (a=b))) tnil))))
theorem Tsa_ok:AH Tryz.prog Tsa:=((((AH.tnil.add (q2f λa b h=>p158 a b h.1 h.2)).add (q2 p157)).add (q2f λa b h=>p156 a b h.1 h.2)).add (q2 p155)).add (q2 p103)
theorem Tsa_i(a:List AVal)(H:AB):Tsa 103 a H=s2 dIs dIs (λ_ b=>wide b) (λa b=>.bool (decide (a=b))) a H:=rfl
theorem Tsa_s(a:List AVal)(H:AB):Tsa 155 a H=s2 dSys dSys (λ_ b=>few b) (λa b=>.bool (decide (a=b))) a H:=rfl
theorem Tsa_r(a:List AVal)(H:AB):Tsa 156 a H=s2f 151 dRgs dRgs (λ_ b=>few b/\∀x∈b,KB x) (λa b=>.bool (decide (a=b))) a H:=rfl
theorem Tsa_c(a:List AVal)(H:AB):Tsa 157 a H=s2 dCls dCls (λ_ b=>few b) (λa b=>.bool (decide (a=b))) a H:=rfl
theorem Tsa_u(a:List AVal)(H:AB):Tsa 158 a H=s2f 153 dRus dRus (λ_ b=>few b/\∀x∈b,LS x) (λa b=>.bool (decide (a=b))) a H:=rfl
theorem p104(a b:Dcl)(hb:FewD b):Pur Tryz.prog 104 [encD a,encD b] (.bool (decide (a=b))):=by
 refine .mk ⟨A9 0 a,A9 0 b,trivial⟩ trivial (a104 (AE Tsa_ok (AF ?_)))
 simp only[eE,eC,eN,reduceCtorEq,Nat.reduceEqDiff,↓reduceIte,Nat.reduceAdd,Nat.reduceLeDiff,c104,Ef,Tsa_i,Tsa_s,Tsa_r,Tsa_c,Tsa_u,s2,s2f,BD,At,Uw,SF,Ux,SG,Uy,SH,Uz,SI,V3 (Iu hb.ho),V3 hb.sy,V3 hb.rg,V3 hb.rgs,V3 hb.cl,V3 hb.ru,V3 hb.rus]
 rw[VS]
 simp only[V7,Vf,U1]
end Go.AM
namespace Go.AM
open Go.Proofs Go.Lib
abbrev AG(sh w h:Int)(holes cells:List Int):List AVal:=[.int .i64 sh,.int .i64 w,.int .i64 h,eIs holes,eIs cells]
abbrev encG(sh w h:Int)(holes cells:List Int):AVal:=.agg (AG sh w h holes cells)
theorem BZ(n:Nat)(sh w h:Int)(holes cells:List Int):(encG sh w h holes cells).under n:=⟨trivial,trivial,trivial,Aa n _,Aa n _,trivial⟩
def B5(sh w h:Int)(holes:List Int):AVal:=match Ad sh w h holes with
 |some cells=>.tup [encG sh w h holes cells,.int .i64 0]
 |none=>.tup [encG 0 0 0 [] [],.int .i64 130]
theorem LT(sh w h:Int)(holes:List Int):(B5 sh w h holes).under 0:=by
 unfold B5
 split<;>exact⟨BZ 0 ..,trivial,trivial⟩
theorem wk_G{sh w h:Int}{holes cells:List Int}{a b:AVal}{e:Int}(h1:Wk a (eIs holes))(h2:Wk b (eIs cells)):Wk (.tup [.agg [.int .i64 sh,.int .i64 w,.int .i64 h,a,b],.int .i64 e]) (.tup [encG sh w h holes cells,.int .i64 e]):=
 Wk.tup (.cons (Wk.agg (.cons (Wk.refl _) (.cons (Wk.refl _) (.cons (Wk.refl _) (.cons h1 (.cons h2 .nil)))))) (.cons (Wk.refl _) .nil))
theorem p62(l:List Int)(hl:few l):Pur Tryz.prog 62 [eIs l] (eIs l):=by
 refine .mk ⟨Aa 0 l,trivial⟩ (Aa 0 l) (a62 (AE AH.tnil (AF ?_)))
 have a1:(l.length<=35184372088832)=True:=V3 (by have:l.length<1000000000:=hl;omega)
 have a2:Al l.length 8=True:=V3 (AX (by have:l.length<1000000000:=hl;omega) (by decide))
 cases l with
 |nil=>
  simp only[eE,eC,eN,reduceCtorEq,↓reduceIte,c62]
  refine⟨?_,?_⟩
  ·simp only[eE,eC,eN,reduceCtorEq,Nat.reduceEqDiff,↓reduceIte,Nat.reduceLT,Al,WX,Vi]
   exact Wk.sl (.inl rfl)
  ·simp only[eE,eC,eN,reduceCtorEq,↓reduceIte,Ve]
   exact Wk.sl (.inr rfl)
 |cons x r=>
  rw[Vq]at a1 a2
  simp only[eE,eC,eN,reduceCtorEq,Nat.reduceEqDiff,↓reduceIte,Nat.reduceLeDiff,Nat.reduceMul,Nat.reduceLT,V0,c62,eIs,a1,a2]
  exact Wk.sl (.inl rfl)
def Tmk:Tab:=tadd 62 (s1 dIs few λl=>eIs l) (tadd 218 (s2 dIs dI (λl _=>few l/\List.Pairwise (λx y=>x<y) l) λl x=>.tup [.int .i64 (lowB l x),.bool (l.contains x)]) tnil)
theorem Tmk_ok:AH Tryz.prog Tmk:=(AH.tnil.add (q2 λl x h=>p218 l x h.1 h.2)).add (q1 p62)
theorem Tmk_c(a:List AVal)(H:AB):Tmk 62 a H=s1 dIs few (λl=>eIs l) a H:=rfl
theorem Tmk_b(a:List AVal)(H:AB):Tmk 218 a H=s2 dIs dI (λl _=>few l/\List.Pairwise (λx y=>x<y) l) (λl x=>.tup [.int .i64 (lowB l x),.bool (l.contains x)]) a H:=rfl
def posL(holes:List Int)(k:Nat):List Int:=((List.range k).map λ(i:Nat)=>(i:Int)).filter λp=>!holes.contains p
theorem QB(holes:List Int)(k:Nat):posL holes (k+1)=if holes.contains (k:Int)then posL holes k else posL holes k++[(k:Int)]:=by
 unfold posL
 rw[WR,Vl,X1]
 cases h:holes.contains (k:Int)<;>simp only[Vs,VP,Wy,List.filter_nil,h,V8,Ve,Wd,Vv,Vo,Vy]
theorem U2(holes:List Int)(k:Nat):(posL holes k).length<=k:=by
 have:=Wm (λp=>!holes.contains p) ((List.range k).map λ(i:Nat)=>(i:Int))
 simpa [posL]using this
structure VM where
 k:Nat
 tk:Tok
 H:AB
 n:Nat
structure IM(sh w h:Int)(holes:List Int)(m:Nat)(v:VM):Prop where
 hk:v.k<=m
 hn:2<=v.n
 fr:AN v.H v.n
 h0:hget v.H 0=some (.box [.int .i64 sh,.int .i64 w,.int .i64 h,eIs holes,.sl v.tk ((posL holes v.k).map eI)])
 tok:tkG 1 1 v.H v.tk
 es:v.tk.esz=1\/posL holes v.k=[]
theorem p147(sh w h:Int)(holes:List Int)(hl:few holes):Pur Tryz.prog 147 [.int .i64 sh,.int .i64 w,.int .i64 h,eIs holes] (B5 sh w h holes):=by
 refine .mk ⟨trivial,trivial,trivial,Aa 0 _,trivial⟩ (LT sh w h holes) (a147 (AE Tmk_ok (AF ?_)))
 have hE:∀b,(b=true↔¬((sh=1\/sh=2)/\1<=w/\w<=16/\1<=h/\h<=16/\(holes.length:Int)<w*h))->(!decide (sh=1)&& !decide (sh=2)||decide (w<1)||decide (16<w)||decide (h<1)||decide (16<h)||decide (IntKind.wrap .i64 (w*h)<=(holes.length:Int)))=b:=by
  intro b hb
  rw[VS,hb]
  simp only[Vr,V7,WF,Vf,X8]
  by_cases hwh:1<=w/\w<=16/\1<=h/\h<=16
  ·have:=wh_le hwh.1 hwh.2.1 hwh.2.2.1 hwh.2.2.2
   rw[Aq (by omega) (by omega)]
   omega
  ·omega
 by_cases hc:(sh=1\/sh=2)/\1<=w/\w<=16/\1<=h/\h<=16/\(holes.length:Int)<w*h
 case neg=>
  have hn:B5 sh w h holes= .tup [encG 0 0 0 [] [],.int .i64 130]:=by
   unfold B5 Ad
   rw[Vb λq=>hc ⟨q.1,q.2.1,q.2.2.1,q.2.2.2.1,q.2.2.2.2.1,q.2.2.2.2.2.1⟩]
  have hb:=hE true (by simp [hc])
  rw[hn]
  simp only[eE,eC,eN,reduceCtorEq,Nat.reduceEqDiff,↓reduceIte,Nat.reduceAdd,CN,V0,c147,hb]
  exact wk_G (Wk.sl (.inr rfl)) (Wk.sl (.inr rfl))
 have hb:=hE false (by simp [hc])
 obtain⟨hsh,hw1,hw2,hh1,hh2,hln⟩:=hc
 obtain⟨p1,p2⟩:=wh_le hw1 hw2 hh1 hh2
 have hwh:IntKind.wrap .i64 (w*h)=w*h:=Aq (by omega) (by omega)
 have hG:Ad sh w h holes=if(Cx (-1) holes&&holes.all λp=>decide (p<w*h))=true then some (posL holes (w*h).toNat)else none:=by
  unfold Ad
  by_cases q:(Cx (-1) holes&&holes.all λp=>decide (p<w*h))=true
  ·rw[Vk q]
   rw[V7]at q
   rw[Vk ⟨hsh,hw1,hw2,hh1,hh2,hln,q.1,q.2⟩];rfl
  ·rw[Vb q]
   rw[V7]at q
   rw[Vb λz=>q ⟨z.2.2.2.2.2.2.1,z.2.2.2.2.2.2.2⟩]
 simp only[eE,eC,eN,reduceCtorEq,Nat.reduceEqDiff,↓reduceIte,Nat.reduceAdd,V0,c147,hb]
 refine AU (λv:Nat×Int=>⟨[(0,true,.int .i64 sh),(1,true,.int .i64 w),(2,true,.int .i64 h),(3,true,eIs holes),(8,true,.ptr 0 0),(10,true,.int .i64 v.2),(47,true,eIs holes),(48,true,.int .i64 holes.length),(49,true,.int .i64 v.1)],hset hnil 0 (.box [z0,z0,z0,zs,zs]),2⟩)
  (λv=>v.1<=holes.length/\(Cx (-1) holes&&holes.all λp=>decide (p<w*h))=(Cx v.2 (holes.drop v.1)&&(holes.drop v.1).all λp=>decide (p<w*h))) (λv=>holes.length-v.1) (0,-1) rfl ⟨Vi _,rfl⟩ ?_
 rintro⟨i,last⟩ ⟨hi,he⟩
 simp only at hi he
 by_cases hlt:i<holes.length
 ·have hg:=V5 hlt
  have e:=AJ (k:=i) (by have:holes.length<1000000000:=hl;omega)
  rw[VO hlt,Cx,Xt]at he
  by_cases hok:last<holes[i]/\holes[i]<w*h
  ·have hd:(decide (holes[i]<=last)||decide (w*h<=holes[i]))=false:=by simp;omega
   simp only[eE,eC,eN,reduceCtorEq,Nat.reduceEqDiff,↓reduceIte,Int.reduceEq,V1,V2,V4,V0,V6,lt_T hlt,hg,e,hwh,hd]
   refine .mk (i+1,holes[i]) rfl ⟨hlt,?_⟩ (by simp only[];omega)
   simp only[]
   rw[he,VJ hok.1,VJ hok.2];simp
  ·have hd:(decide (holes[i]<=last)||decide (w*h<=holes[i]))=true:=by simp;omega
   have hn:B5 sh w h holes= .tup [encG 0 0 0 [] [],.int .i64 130]:=by
    unfold B5
    rw[hG,Vb]
    rw[he]
    intro q
    simp only[V7,Vf]at q
    exact hok ⟨q.1.1,q.2.1⟩
   rw[hn]
   simp only[eE,eC,eN,reduceCtorEq,Nat.reduceEqDiff,↓reduceIte,Nat.reduceAdd,CN,V1,V2,V4,V0,V6,lt_T hlt,hg,hwh,hd]
   exact wk_G (Wk.sl (.inr rfl)) (Wk.sl (.inr rfl))
 have hi':i=holes.length:=by omega
 subst hi'
 rw[Wx]at he
 have hS:Ad sh w h holes=some (posL holes (w*h).toNat):=by rw[hG,Vk (by rw[he];rfl)]
 have hrise:=(F2 hS).2.2.2.2.2.2.2.1
 have hM:B5 sh w h holes= .tup [encG sh w h holes (posL holes (w*h).toNat),.int .i64 0]:=by unfold B5;rw[hS]
 rw[hM]
 obtain⟨m,hm⟩:∃m:Nat,w*h=(m:Int):=⟨(w*h).toNat,by omega⟩
 have hmt:(w*h).toNat=m:=by omega
 have hwm:IntKind.wrap .i64 (m:Int)=m:=by rw[<-hm];exact hwh
 rw[hmt]
 simp only[eE,eC,eN,reduceCtorEq,Nat.reduceEqDiff,↓reduceIte,Nat.reduceAdd,Nat.reduceLeDiff,lt_F hlt,Tmk_c,s1,BD,At,V3 hl,hwm,hm,AK]
 refine AU (λv:VM=>⟨[(3,true,eIs holes),(8,true,.ptr 0 0),(74,true,.int .i64 m),(75,true,.int .i64 v.k)],v.H,v.n⟩) (IM sh w h holes m) (λv=>m-v.k)
  ⟨0,.nil,hset hnil 0 (.box [.int .i64 sh,.int .i64 w,.int .i64 h,eIs holes,.sl .nil []]),2⟩ rfl ⟨Vi _,V9 _,AN.nil.hset (m:=2) (Vi 2) (show 0<2 by decide),rfl,.inl rfl,.inr rfl⟩ ?_
 rintro⟨k,tk,H,n⟩ hI
 have hk:=hI.hk
 have hn:=hI.hn
 have hfr:=hI.fr
 have h0:=hI.h0
 have htk:=hI.tok
 have hes:=hI.es
 simp only at hk hn hfr h0 htk hes
 by_cases hlt:k<m
 ·have e:=AJ (k:=k) (by omega)
  have hps:=QB holes k
  cases hin:holes.contains (k:Int)with
  |true=>
   rw[hin,Vk rfl]at hps
   simp only[eE,eC,eN,Nat.reduceEqDiff,↓reduceIte,Nat.reduceAdd,Nat.reduceLT,Int.reduceEq,V8,V1,Va,Vc,lt_T hlt,Tmk_b,s2,BD,At,CP,BH,V3 hl,V3 hrise,hin,e]
   exact .mk ⟨k+1,tk,H,n⟩ rfl ⟨hlt,hn,hfr,by simp only[hps];exact h0,htk,by simp only[hps];exact hes⟩ (by simp only[];omega)
  |false=>
   rw[hin,Vb (by decide)]at hps
   have hpl:=U2 holes k
   have q1:Bh H 1 tk=True:=V3 htk.app
   have q2:((posL holes k).length<=35184372088831)=True:=V3 (by omega)
   have q3:Al ((posL holes k).length+1) 8=True:=V3 (AX (by omega) (by decide))
   have kx:hget (AW H tk) 0=some (.box [.int .i64 sh,.int .i64 w,.int .i64 h,eIs holes,.sl tk ((posL holes k).map eI)]):=by rw[Ai htk (.inl (by omega))];exact h0
   have y0:∀j,(n+j=0)=False:=λj=>Vd (by omega)
   simp only[eE,eC,eN,reduceCtorEq,Nat.reduceEqDiff,↓reduceIte,Nat.reduceAdd,Nat.reduceLeDiff,Nat.reduceMul,Nat.reduceLT,Int.reduceEq,Ve,V1,V0,Va,Vc,lt_T hlt,Tmk_b,s2,BD,At,CP,BH,V3 hl,V3 hrise,hin,e,h0,q1,q2,q3,fr1 hfr,kx,y0]
   refine .mk ⟨k+1,.own (n+4) 1,hset (hset (AW H tk) (n+4) .tok) 0 (.box [.int .i64 sh,.int .i64 w,.int .i64 h,eIs holes,.sl (.own (n+4) 1) ((posL holes (k+1)).map eI)]),n+7⟩ ?_ ⟨hlt,by simp only[];omega,((Ak htk hfr).hset (m:=n+7) (by omega) (by omega)).hset (V9 (n+7)) (show 0<n+7 by omega),AC ..,.inr (.inr ⟨n+4,rfl,by omega,by rw[AA _ _ _ _ (by omega)];exact AC ..⟩),.inl rfl⟩ (by simp only[];omega)
   rw[hps,Vl];rfl
 obtain rfl:k=m:=by omega
 simp only[eE,eC,eN,Nat.reduceEqDiff,↓reduceIte,Nat.reduceAdd,CN,lt_F hlt,h0]
 exact wk_G (Wk.refl _) (Wk.sl (hes.imp id λq=>by rw[q];rfl))
def Tgc:Tab:=tadd 147 (λa H=>match a with
 |[.int .i64 sh,.int .i64 w,.int .i64 h,x]=>(dIs.ok x/\few (dIs.dec x),B5 sh w h (dIs.dec x))
 |_=>(False,.tup [])) (tadd 103 (s2 dIs dIs (λ_ b=>few b) λa b=>.bool (decide (a=b))) tnil)
theorem TC:∀args H n,((λ(a:List AVal) (H:AB)=>match a with
 |[.int .i64 sh,.int .i64 w,.int .i64 h,x]=>(dIs.ok x/\few (dIs.dec x),B5 sh w h (dIs.dec x))
 |_=>(False,AVal.tup [])) args H).1->AZ Tryz.prog 147 args H n ((λ(a:List AVal) (H:AB)=>match a with
 |[.int .i64 sh,.int .i64 w,.int .i64 h,x]=>(dIs.ok x/\few (dIs.dec x),B5 sh w h (dIs.dec x))
 |_=>(False,AVal.tup [])) args H).2:=by
 intro args H n hh
 simp only at hh⊢
 split at hh
 ·obtain⟨h1,h2⟩:=hh
  refine AI.args ((p147 _ _ _ _ h2).quiet H n) ?_
  rintro g vs ⟨v,r,rfl,k1,w,r',rfl,k2,u,r2,rfl,k3,z,r3,rfl,k4,k5⟩
  exact⟨v,_,rfl,k1,w,_,rfl,k2,u,_,rfl,k3,z,_,rfl,dIs.wk _ h1 _ _ k4,k5⟩
 ·exact hh.elim
theorem Tgc_ok:AH Tryz.prog Tgc:=(AH.tnil.add (q2 λa b h=>p103 a b (Iu h))).add TC
theorem U3(sh w h:Int)(x:AVal)(H:AB):Tgc 147 [.int .i64 sh,.int .i64 w,.int .i64 h,x] H=(dIs.ok x/\few (dIs.dec x),B5 sh w h (dIs.dec x)):=rfl
theorem Tgc_e(a:List AVal)(H:AB):Tgc 103 a H=s2 dIs dIs (λ_ b=>few b) (λa b=>.bool (decide (a=b))) a H:=rfl
def grOK(sh w h:Int)(holes cells:List Int):Bool:=decide (Ad sh w h holes=some cells)
theorem p219(sh w h:Int)(holes cells:List Int)(hl:few holes)(hc:few cells):Pur Tryz.prog 219 [encG sh w h holes cells] (.int .i64 (if grOK sh w h holes cells=true then 0 else 130)):=by
 refine .mk ⟨BZ 0 ..,trivial⟩ trivial (a219 (AE Tgc_ok (AF ?_)))
 cases hG:Ad sh w h holes with
 |none=>
  have hM:B5 sh w h holes= .tup [encG 0 0 0 [] [],.int .i64 130]:=by unfold B5;rw[hG]
  have hk:grOK sh w h holes cells=false:=by unfold grOK;rw[hG];simp
  rw[hk]
  simp only[eE,eC,eN,reduceCtorEq,Nat.reduceEqDiff,↓reduceIte,Nat.reduceAdd,Nat.reduceLeDiff,Nat.reduceLT,Int.reduceEq,V8,Ve,V1,Va,Vc,c219,U3,BD,At,V3 hl,hM,encG]
 |some cs=>
  have hM:B5 sh w h holes= .tup [encG sh w h holes cs,.int .i64 0]:=by unfold B5;rw[hG]
  have hk:grOK sh w h holes cells=decide (cs=cells):=by unfold grOK;rw[hG];simp
  rw[hk]
  by_cases hq:cs=cells
  ·simp only[eE,eC,eN,reduceCtorEq,Nat.reduceEqDiff,↓reduceIte,Nat.reduceAdd,Nat.reduceLeDiff,Nat.reduceLT,V8,V1,Va,Vc,c219,U3,Tgc_e,s2,BD,At,V3 hl,hM,encG,V3 hc,CQ hq]
  ·simp only[eE,eC,eN,reduceCtorEq,Nat.reduceEqDiff,↓reduceIte,Nat.reduceAdd,Nat.reduceLeDiff,Nat.reduceLT,V8,Ve,V1,Va,Vc,c219,U3,Tgc_e,s2,BD,At,V3 hl,hM,encG,V3 hc,Bu hq]
end Go.AM
namespace Go.AM
open Go.Proofs Go.Lib
structure Grd where
 sh:Int
 w:Int
 h:Int
 holes:List Int
 cells:List Int
 deriving DecidableEq
abbrev DC(g:Grd):AVal:=encG g.sh g.w g.h g.holes g.cells
def QC:AVal->Grd
 | .agg [.int _ sh,.int _ w,.int _ h,ho,ce]=>⟨sh,w,h,Fu ho,Fu ce⟩
 |_=>⟨0,0,0,[],[]⟩
theorem G2(g:Grd):QC (DC g)=g:=by simp only[QC,C9]
def dGd:Dc Grd:=dWk DC QC
theorem KC(x:Grd):dGd.ok (DC x)=True:=Fb G2 x
theorem G3(x:Grd):dGd.dec (DC x)=x:=G2 x
theorem QD{sh w h:Int}{holes cells:List Int}:dGd.ok (encG sh w h holes cells)=True:=KC ⟨sh,w,h,holes,cells⟩
theorem KD{sh w h:Int}{holes cells:List Int}:dGd.dec (encG sh w h holes cells)=⟨sh,w,h,holes,cells⟩:=G3 ⟨sh,w,h,holes,cells⟩
abbrev chkV(g:Grd):AVal:=.int .i64 (if grOK g.sh g.w g.h g.holes g.cells=true then 0 else 130)
def Tgr:Tab:=tadd 219 (s1 dGd (λg=>few g.holes/\few g.cells) chkV) (tadd 218 (s2 dIs dI (λl _=>few l/\List.Pairwise (λx y=>x<y) l) λl x=>.tup [.int .i64 (lowB l x),.bool (l.contains x)]) tnil)
theorem Tgr_ok:AH Tryz.prog Tgr:=(AH.tnil.add (q2 λl x h=>p218 l x h.1 h.2)).add (q1 λg h=>p219 g.sh g.w g.h g.holes g.cells h.1 h.2)
theorem Tgr_c(a:List AVal)(H:AB):Tgr 219 a H=s1 dGd (λg=>few g.holes/\few g.cells) chkV a H:=rfl
theorem U4(a:List AVal)(H:AB):Tgr 218 a H=s2 dIs dI (λl _=>few l/\List.Pairwise (λx y=>x<y) l) (λl x=>.tup [.int .i64 (lowB l x),.bool (l.contains x)]) a H:=rfl
theorem Wks.len{ws us:List AVal}(h:Wks ws us):ws.length=us.length:=by
 induction h with
 |nil=>rfl
 |cons _ _ ih=>simp [ih]
theorem Wks.app{a b c d:List AVal}(h:Wks a b)(k:Wks c d):Wks (a++c) (b++d):=by
 induction h with
 |nil=>exact k
 |cons h1 _ ih=>exact .cons h1 ih
theorem SJ{g:Ghost}{e:Nat}{f:Nat->Option Value}{l m:List AVal}(hw:Wks l m):∀o,Stab g e f o l->Stab g e f o m:=by
 induction hw with
 |nil=>exact λ_ _=>trivial
 |cons h1 _ ih=>exact λo ⟨⟨v,q1,q2,q3⟩,h'⟩=>⟨⟨v,h1 _ _ q1,q2,q3⟩,ih _ h'⟩
theorem Wk.slx{t:Tok}{e:Nat}{l m:List AVal}(h:t.esz=e\/l=[])(hw:Wks l m):Wk (.sl t l) (.sl (.none e) m):=by
 intro g v hv
 have hv:=Wk.sl h g v hv
 rcases hv with⟨h1,rfl,-⟩|⟨-,b,o,cap,⟨sp,rfl,hsp⟩,hc,hst,-⟩
 ·have hl:=hw.len
  subst h1
  have:m=[]:=VR (by rw[<-hl];rfl)
  subst this
  exact .inl ⟨rfl,rfl,trivial⟩
 ·have hl:=hw.len
  refine .inr ⟨trivial,b,o,cap,⟨sp,by rw[hl],?_⟩,by rw[<-hl];exact hc,SJ hw _ hst,trivial⟩
  rcases hsp with q|⟨q,q2⟩
  ·exact .inl q
  ·refine .inr ⟨?_,.inr ⟨e,rfl⟩⟩
   subst q
   exact VR (by rw[<-hl];rfl)
theorem SK{cells l:List Int}{p:Int}(hp:List.Pairwise (λx y=>x<y) cells)(hl:∀q∈l,q∈cells)(hc:p∈cells):(Bt cells l).contains (lowB cells p:Int)=l.contains p:=by
 rw[VS,Wh,Wh]
 unfold Bt
 rw[W2]
 constructor
 ·rintro⟨q,hq,e⟩
  have:=Uo hp (hl q hq) hc (by omega)
  rw[<-this];exact hq
 ·exact λh=>⟨p,h,rfl⟩
theorem KE(cells l:List Int):(Bt cells l).length=l.length:=V0 ..
def rgsV(cells:List Int)(lists:List (List Int)):AVal:=if(decide (lists.length<=64)&&lists.all (Dt cells))=true then .tup [eLl (lists.map (Bt cells)),.int .i64 0]else .tup [eLl [],.int .i64 130]
theorem LU:∀{l m:List Int},l.Nodup->(∀q∈l,q∈m)->l.length<=m.length
 |[],_,_,_=>Vi _
 |a::l,m,hd,hs=>by
  obtain⟨h1,h2⟩:=WQ.1 hd
  have ha:=hs a (by simp)
  have ih:=LU (m:=m.erase a) h2 λq hq=>(List.mem_erase_of_ne (λe:q=a=>by subst e;exact h1 hq)).2 (hs q (by simp [hq]))
  rw[List.length_erase_of_mem ha]at ih
  have:=List.length_pos_of_mem ha
  rw[Vq];omega
structure VRg where
 i:Nat
 E:List AVal
 tl:Tok
 H:AB
 n:Nat
structure IRg(g:Grd)(lists:List (List Int))(v:VRg):Prop where
 hi:v.i<=lists.length
 hn:3<=v.n
 fr:AN v.H v.n
 h0:hget v.H 0=some (.box (AG g.sh g.w g.h g.holes g.cells))
 tok:tkG 1 1 v.H v.tl
 es:v.tl.esz=1\/v.E=[]
 hE:Wks v.E (((lists.take v.i).map (Bt g.cells)).map eIs)
 eq:lists.all (Dt g.cells)=(lists.drop v.i).all (Dt g.cells)
structure VRi where
 j:Nat
 tc:Tok
 H:AB
 n:Nat
structure IRi(g:Grd)(x:List Int)(H0:AB)(n0:Nat)(v:VRi):Prop where
 hj:v.j<=x.length
 hn:n0+2<=v.n
 fr:AN v.H v.n
 hk:∀id,id<n0->hget v.H id=hget H0 id
 hm:hget v.H n0=some (.map (ctEs (Bt g.cells (x.take v.j)) 0) v.j)
 tok:tkG 1 (n0+1) v.H v.tc
 es:v.tc.esz=1\/v.j=0
 sub:∀q∈x.take v.j,q∈g.cells
 eq:Gv g.cells [] x=Gv g.cells (x.take v.j) (x.drop v.j)
 nd:(x.take v.j).Nodup
theorem p150(g:Grd)(lists:List (List Int))(hG:Ad g.sh g.w g.h g.holes=some g.cells)(hh:few g.holes)(hl:Bo lists):Pur Tryz.prog 150 [DC g,eLl lists] (rgsV g.cells lists):=by
 refine .mk ⟨BZ 0 ..,Ar 0 _,trivial⟩ (by unfold rgsV;split<;>exact⟨Ar 0 _,trivial,trivial⟩) (a150 (AE Tgr_ok (AF ?_)))
 obtain⟨hr1,hr2,hr3⟩:=A8 hG
 have hfc:few g.cells:=show g.cells.length<_ by omega
 have hgo:grOK g.sh g.w g.h g.holes g.cells=true:=by unfold grOK;rw[hG];simp
 by_cases h64:64<lists.length
 ·have hv:rgsV g.cells lists= .tup [eLl [],.int .i64 130]:=by unfold rgsV;rw[Vb];simp;omega
  have l64:((64:Int)<(lists.length:Int))=True:=V3 (by omega)
  rw[hv]
  simp only[eE,eC,eN,reduceCtorEq,Nat.reduceEqDiff,↓reduceIte,Nat.reduceAdd,V8,V0,c150,Tgr_c,s1,QD,KD,V3 hh,V3 hfc,hgo,l64]
  exact Wk.tup (.cons (Wk.sl (.inr rfl)) (.cons (Wk.refl _) .nil))
 have l64:((64:Int)<(lists.length:Int))=False:=Vd (by omega)
 simp only[eE,eC,eN,reduceCtorEq,Nat.reduceEqDiff,↓reduceIte,Nat.reduceAdd,V8,V0,c150,Tgr_c,s1,QD,KD,V3 hh,V3 hfc,hgo,l64]
 have hbad:lists.all (Dt g.cells)=false->rgsV g.cells lists= .tup [eLl [],.int .i64 130]:=λq=>by unfold rgsV;rw[q,Bool.and_false,Vb (by decide)]
 refine AU (λv:VRg=>⟨[(2,true,.ptr 0 0),(4,true,.sl v.tl v.E),(22,true,eLl lists),(23,true,.int .i64 lists.length),(24,true,.int .i64 v.i)],v.H,v.n⟩) (IRg g lists) (λv=>lists.length-v.i)
  ⟨0,[],.nil,hset hnil 0 (.box (AG g.sh g.w g.h g.holes g.cells)),3⟩ rfl ⟨Vi _,V9 _,AN.nil.hset (m:=3) (Vi 3) (show 0<3 by decide),rfl,.inl rfl,.inr rfl,.nil,rfl⟩ ?_
 rintro⟨i,E,tl,H,n⟩ hI
 have hi:=hI.hi
 have hn:=hI.hn
 have hfr:=hI.fr
 have h0:=hI.h0
 have htk:=hI.tok
 have hes:=hI.es
 have hE:=hI.hE
 have heq:=hI.eq
 simp only at hi hn hfr h0 htk hes hE heq
 by_cases hlt:i<lists.length
 case neg=>
  have hi':i=lists.length:=by omega
  subst hi'
  rw[Wx]at heq
  rw[VQ]at hE
  have hv:rgsV g.cells lists= .tup [eLl (lists.map (Bt g.cells)),.int .i64 0]:=by
   unfold rgsV;rw[heq,Vk];simp;omega
  rw[hv]
  simp only[eE,eC,eN,Nat.reduceEqDiff,↓reduceIte,lt_F hlt]
  exact Wk.tup (.cons (Wk.slx hes hE) (.cons (Wk.refl _) .nil))
 have hg:=V5 hlt
 have e:=AJ (k:=i) (by omega)
 have hxf:=hl.2 _ (Vn hlt)
 have hxe:=map_take (f:=Bt g.cells) hlt
 rw[VO hlt,Xt]at heq
 generalize hx:lists[i]=x at hg hxf heq hxe
 have hxl:x.length<1125899906842624:=hxf
 have hmk:hget (hset H n (.map [] 0)) 0=some (.box (AG g.sh g.w g.h g.holes g.cells)):=by rw[AA _ _ _ _ (by omega)];exact h0
 simp only[eE,eC,eN,Nat.reduceEqDiff,↓reduceIte,xE,V1,V2,V4,V0,V6,lt_T hlt,hg,fr0 hfr]
 refine AU (λv:VRi=>⟨[(2,true,.ptr 0 0),(4,true,.sl tl E),(8,true,.sl v.tc ((Bt g.cells (x.take v.j)).map eI)),(9,true,.mp n),(22,true,eLl lists),(23,true,.int .i64 lists.length),(24,true,.int .i64 i),(29,true,eIs x),(30,true,.int .i64 x.length),(31,true,.int .i64 v.j)],v.H,v.n⟩)
  (IRi g x H n) (λv=>x.length-v.j) ⟨0,.nil,hset H n (.map [] 0),n+2⟩ rfl ⟨Vi _,V9 _,(hfr.hset (m:=n+2) (by omega) (by omega)),λid hid=>AA _ _ _ _ (by omega),AC ..,.inl rfl,.inr rfl,λq hq=>by(simp at hq),rfl,by simp⟩ ?_
 rintro⟨j,tc,H1,n1⟩ hJ
 have hj:=hJ.hj
 have hn1:=hJ.hn
 have hf1:=hJ.fr
 have hk:=hJ.hk
 have hm:=hJ.hm
 have htc:=hJ.tok
 have hec:=hJ.es
 have hsub:=hJ.sub
 have hme:=hJ.eq
 have hnd:=hJ.nd
 simp only at hj hn1 hf1 hk hm htc hec hsub hme hnd
 have hj256:j<=256:=by
  have:=LU hnd hsub
  rw[Vt]at this
  omega
 have h01:hget H1 0=some (.box (AG g.sh g.w g.h g.holes g.cells)):=by rw[hk 0 (by omega)];exact h0
 by_cases hlj:j<x.length
 ·have hgj:=V5 hlj
  have ej:=AJ (k:=j) (by omega)
  have htx:=map_take (f:=λp=>(lowB g.cells p:Int)) hlj
  have htk2:x.take (j+1)=x.take j++[x[j]]:=by rw[VX,hgj];rfl
  rw[VO hlj,Gv]at hme
  have hlen:(Bt g.cells (x.take j)).length=j:=by rw[KE,Vt];omega
  generalize hp:x[j]=p at hgj htx htk2 hme
  have hno:(g.cells.contains p&& !(x.take j).contains p)=false->rgsV g.cells lists= .tup [eLl [],.int .i64 130]:=λq=>hbad (by
   rw[heq,Ix,hme,q];simp)
  cases hin:g.cells.contains p with
  |false=>
   rw[hno (by rw[hin];rfl)]
   simp only[eE,eC,eN,eX,reduceCtorEq,Nat.reduceEqDiff,↓reduceIte,Nat.reduceAdd,Nat.reduceLT,V8,Ve,V1,V2,V4,V0,V6,Va,Vc,lt_T hlj,hgj,h01,U4,s2,BD,At,CP,BH,V3 hfc,V3 hr1,hin]
   exact Wk.tup (.cons (Wk.sl (.inr rfl)) (.cons (Wk.refl _) .nil))
  |true=>
   have hpm:p∈g.cells:=Wh.1 hin
   have hcm:=SK hr1 hsub hpm
   have hmf:Aw (.int .i64 (lowB g.cells p:Int)) (ctEs (Bt g.cells (x.take j)) 0)=if(x.take j).contains p then some (.bool true)else none:=by rw[LP,hcm]
   cases hmt:(x.take j).contains p with
   |true=>
    rw[hno (by rw[hin,hmt];rfl)]
    rw[hmt,Vk rfl]at hmf
    simp only[eE,eC,eN,eX,Nat.reduceEqDiff,↓reduceIte,Nat.reduceAdd,Nat.reduceLT,V8,xE,V1,V2,V4,V0,V6,Va,Vc,lt_T hlj,hgj,h01,U4,s2,BD,At,CP,BH,V3 hfc,V3 hr1,hin,hm,hmf,QA,xE,KT.is,By]
    exact Wk.tup (.cons (Wk.sl (.inr rfl)) (.cons (Wk.refl _) .nil))
   |false=>
    rw[hmt,Vb (by decide)]at hmf
    have hms:=ct_set (l:=Bt g.cells (x.take j)) (x:=(lowB g.cells p:Int)) (by rw[hcm];exact hmt)
    rw[hlen]at hms
    have htm:tkG 1 (n+1) (hset H1 n (.map (ctEs (Bt g.cells (x.take j)++[(lowB g.cells p:Int)]) 0) (j+1))) tc:=htc.set (.inl (by omega))
    have q1:Bh (hset H1 n (.map (ctEs (Bt g.cells (x.take j)++[(lowB g.cells p:Int)]) 0) (j+1))) 1 tc=True:=V3 htm.app
    have q2:(j<=35184372088831)=True:=V3 (by omega)
    have q3:Al (j+1) 8=True:=V3 (AX (by omega) (by decide))
    have yn:∀k,(n=n1+k)=False:=λk=>Vd (by omega)
    simp only[eE,eC,eN,eX,reduceCtorEq,Nat.reduceEqDiff,↓reduceIte,Nat.reduceAdd,Nat.reduceLeDiff,Nat.reduceMul,Nat.reduceLT,Int.reduceEq,V8,xE,WL,Option.isSome_none,V1,V2,V4,V0,V6,Va,Vc,lt_T hlj,hgj,h01,U4,s2,BD,At,CP,BH,V3 hfc,V3 hr1,hin,hm,hmf,QA,xE,KT.is,By,ej,hms,q1,q2,q3,hlen,yn,fr1 hf1]
    generalize hG2:hset H1 n (.map (ctEs (Bt g.cells (x.take j)++[(lowB g.cells p:Int)]) 0) (j+1))=H2 at htm
    have hf2:AN H2 n1:=by rw[<-hG2];exact hf1.hset (V9 _) (by omega)
    have hk2:∀id,id<n->hget H2 id=hget H id:=λid hid=>by rw[<-hG2,AA _ _ _ _ (by omega)];exact hk id hid
    have hm2:hget H2 n=some (.map (ctEs (Bt g.cells (x.take j)++[(lowB g.cells p:Int)]) 0) (j+1)):=by rw[<-hG2];exact AC ..
    have hct:Bt g.cells (x.take (j+1))=Bt g.cells (x.take j)++[(lowB g.cells p:Int)]:=htx
    refine .mk ⟨j+1,.own (n1+3) 1,hset (AW H2 tc) (n1+3) .tok,n1+5⟩ ?_ ⟨hlj,by simp only[];omega,(Ak htm hf2).hset (m:=n1+5) (by omega) (by omega),λid hid=>?_,?_,.inr (.inr ⟨n1+3,rfl,by omega,AC ..⟩),.inl rfl,λq hq=>?_,?_,?_⟩ (by simp only[];omega)
    ·rw[hct,Vl];rfl
    ·simp only[]
     rw[AA _ _ _ _ (by omega),Ai htm (.inl (by omega))];exact hk2 id hid
    ·simp only[]
     rw[AA _ _ _ _ (by omega),Ai htm (.inl (by omega)),hct];exact hm2
    ·simp only[htk2]at hq
     rcases W7.1 hq with q1|q1
     ·exact hsub q q1
     ·rw[Wp.1 q1];exact hpm
    ·simp only[]
     rw[htk2,hme,hin,hmt];rfl
    ·simp only[]
     rw[htk2,X6]
     refine⟨hnd,by simp,λa ha b hb e=>?_⟩
     rw[Wp]at hb
     subst hb;subst e
     rw[Wh.2 ha]at hmt;cases hmt
 have hj':j=x.length:=by omega
 subst hj'
 rw[Wx,VQ]at hme
 rw[VQ]at hm
 have hlx:(Bt g.cells (x.take x.length)).length=x.length:=by rw[KE,VQ]
 by_cases hx0:x.length=0
 ·have hno:rgsV g.cells lists= .tup [eLl [],.int .i64 130]:=hbad (by rw[heq,Ix,hx0];simp)
  rw[hno]
  simp only[eE,eC,eN,Nat.reduceEqDiff,↓reduceIte,V0,lt_F hlj,hlx,CQ (show((x.length:Nat):Int)=0 by omega)]
  exact Wk.tup (.cons (Wk.sl (.inr rfl)) (.cons (Wk.refl _) .nil))
 have hEl:E.length<=64:=by
  have:=hE.len
  simp only[V0,Vt]at this
  omega
 have ht1:tkG 1 1 H1 tl:=by
  rcases htk with rfl|rfl|⟨id,rfl,h1,h2⟩
  ·exact .inl rfl
  ·exact .inr (.inl rfl)
  ·exact .inr (.inr ⟨id,rfl,h1,by rw[hk id (hfr.lt h2)];exact h2⟩)
 have q1:Bh H1 1 tl=True:=V3 ht1.app
 have q2:(E.length<=35184372088831)=True:=V3 (by omega)
 have q3:Al (E.length+1) 24=True:=V3 (AX (by omega) (by decide))
 simp only[eE,eC,eN,reduceCtorEq,Nat.reduceEqDiff,↓reduceIte,Nat.reduceLeDiff,Nat.reduceMul,Nat.reduceLT,Int.reduceEq,V0,lt_F hlj,hlx,Bu (show ¬((x.length:Nat):Int)=0 by omega),e,q1,q2,q3,fr1 hf1]
 refine .mk ⟨i+1,E++[.sl tc ((Bt g.cells x).map eI)],.own (n1+3) 1,hset (AW H1 tl) (n1+3) .tok,n1+5⟩ ?_ ⟨hlt,by simp only[];omega,(Ak ht1 hf1).hset (m:=n1+5) (by omega) (by omega),?_,.inr (.inr ⟨n1+3,rfl,by omega,AC ..⟩),.inl rfl,?_,?_⟩ (by simp only[];omega)
 ·rw[VQ]
 ·simp only[]
  rw[AA _ _ _ _ (by omega),Ai ht1 (.inl (by omega))];exact h01
 ·simp only[]
  rw[hxe,Vl]
  exact hE.app (.cons (Wk.sl (hec.imp id λq=>by rw[WA.1 q];rfl)) .nil)
 ·simp only[]
  have hok:Dt g.cells x=true:=by rw[Ix,hme];simp [Gv];omega
  rw[heq,hok,WU]
end Go.AM
namespace Go.AM
open Go.Proofs Go.Lib
def idxP(m:Nat)(p:Nat->Bool):List Int:=((List.range m).filter p).map λ(i:Nat)=>(i:Int)
theorem Ew{m:Nat}{p:Nat->Bool}{x:Int}:x∈idxP m p↔∃i:Nat,i<m/\p i=true/\x=(i:Int):=by grind [idxP]
theorem MX{m:Nat}{p:Nat->Bool}{i:Nat}:(i:Int)∈idxP m p↔i<m/\p i=true:=by grind [Ew]
theorem G4(m:Nat)(p:Nat->Bool):List.Pairwise (λx y=>x<y) (idxP m p):=by
 unfold idxP
 rw[List.pairwise_map]
 exact(Xl.sublist List.filter_sublist).imp λq=>by omega
theorem Ex(m:Nat)(p:Nat->Bool):idxP (m+1) p=if p m=true then idxP m p++[(m:Int)]else idxP m p:=by grind [idxP,List.range_succ]
theorem EA(m:Nat)(p:Nat->Bool):(idxP m p).length<=m:=by grind [idxP]
theorem H8{m:Nat}{p q:Nat->Bool}(h:∀i,i<m->p i=q i):idxP m p=idxP m q:=by grind [idxP,List.filter_congr]
theorem SL(m:Nat):idxP m (λ_=>true)=(List.range m).map λ(i:Nat)=>(i:Int):=by
 unfold idxP;rw[X9.2 λ_ _=>rfl]
abbrev Spot:=Int×Int
def I1(sh w p:Int):Spot:=(if sh=2 then p.tmod w-(p.tdiv w).tdiv 2 else p.tmod w,p.tdiv w)
def AP(sh w:Int)(cells:List Int):List Spot:=cells.map (I1 sh w)
def Dz(sh:Int):List Spot:=(([(1,0),(-1,0),(0,1),(0,-1),(1,-1),(-1,1)]:List Spot)).take (if sh=1 then 4 else 6)
def addP(s d:Spot):Spot:=(s.1+d.1,s.2+d.2)
def Db(S:List Spot)(s:Spot):Option Int:=(S.findIdx? λx=>decide (x=s)).map λ(i:Nat)=>(i:Int)
def nbS(sh:Int)(S:List Spot)(s:Spot):List Int:=idxP S.length λb=>(Dz sh).any λd=>decide (S[b]?=some (addP s d))
def nbsS(sh:Int)(S:List Spot):List (List Int):=S.map (nbS sh S)
def Bc(S:List Spot)(f:Spot->Option Int)(n:Int):List Int:=idxP S.length λc=>decide (S[c]?.bind f=some n)
def KF:List Int:=(List.range 49).map λ(k:Nat)=>(k:Int)-16
def BU(S:List Spot)(f:Spot->Option Int):List (List Int):=(KF.map (Bc S f)).filter λl=>!l.isEmpty
def No(w:Int)(S:List Spot):List (List Int):=
 let a:=Bc S (λs=>if s.1=s.2 then some 0 else none) 0
 let b:=Bc S (λs=>if s.1+s.2=w-1 then some 0 else none) 0
 (if a.isEmpty then[]else[a])++(if b.isEmpty||decide (a=b)then[]else[b])
def famS(sh w h:Int)(S:List Spot)(f:Nat):List (List Int):=
 if f=0 then(idxP S.length λ_=>true).map λc=>[c]
 else if f=1 then BU S λs=>some s.2
 else if f=2 then BU S λs=>some s.1
 else if f=3 then(if sh=2 then BU S λs=>some (s.1+s.2)else if w=h then No w S else[])
 else if f=4 then nbsS sh S
 else if f=5 then(List.range S.length).map λ(c:Nat)=>idxP S.length λb=>decide (b=c)||((Dz sh).any λd=>decide (S[b]?=(S[c]?).map λs=>addP s d))
 else if f=6 then(List.range S.length).flatMap λ(c:Nat)=>(((nbsS sh S)[c]?.getD []).filter λb=>decide ((c:Int)<b)).map λb=>[(c:Int),b]
 else[(idxP S.length λ_=>true)]
theorem EB{S:List Spot}(hd:S.Nodup){s:Spot}{i:Nat}:Db S s=some (i:Int)↔S[i]?=some s:=by
 unfold Db
 constructor
 ·intro h
  obtain⟨j,h1,h2⟩:=Wj.1 h
  have:j=i:=by omega
  subst this
  obtain⟨hl,h3,-⟩:=Wn.1 h1
  rw[V5 hl,VH h3]
 ·intro h
  obtain⟨hl,h1⟩:=VV.1 h
  have:S.findIdx? (λx=>decide (x=s))=some i:=by
   rw[Wn]
   refine⟨hl,by simp [h1],λj hj=>?_⟩
   simp only[Vf]
   intro h2
   have:=(WE.1 hd) j i (by omega) hl hj
   exact this (h2.trans h1.symm)
  rw[this];rfl
theorem KG{S:List Spot}{s:Spot}{x:Int}(h:Db S s=some x):∃i:Nat,x=(i:Int):=by
 unfold Db at h
 obtain⟨j,-,h2⟩:=Wj.1 h
 exact⟨j,h2.symm⟩
theorem H9{S:List Spot}{s:Spot}:Db S s=none↔s∉S:=by grind [Db,Option.map_eq_none_iff,List.findIdx?_eq_none_iff,decide_eq_false_iff_not]
def Fe(sh:Int)(S:List Spot)(s:Spot):List Int:=(Dz sh).filterMap λd=>Db S (addP s d)
theorem LW(sh:Int):(Dz sh).Nodup:=by
 unfold Dz;split<;>decide
theorem U5{s a b:Spot}(h:addP s a=addP s b):a=b:=by grind [addP,Prod.mk.injEq]
theorem LX(sh:Int){S:List Spot}(hd:S.Nodup)(s:Spot):(Fe sh S s).Nodup:=by
 unfold Fe
 have h:=LW sh
 generalize Dz sh=L at h
 induction L with
 |nil=>simp
 |cons d r ih=>
  obtain⟨h1,h2⟩:=WQ.1 h
  rw[List.filterMap_cons]
  cases he:Db S (addP s d)with
  |none=>exact ih h2
  |some x=>
   refine WQ.2 ⟨λhm=>?_,ih h2⟩
   obtain⟨e,he1,he2⟩:=List.mem_filterMap.1 hm
   obtain⟨i,rfl⟩:=KG he
   have a:=(EB hd).1 he
   have b:=(EB hd).1 he2
   rw[a]at b
   have:=U5 (Option.some.inj b)
   subst this;exact h1 he1
theorem QE{sh:Int}{S:List Spot}(hd:S.Nodup){s:Spot}{x:Int}:x∈Fe sh S s↔x∈nbS sh S s:=by
 unfold Fe nbS
 rw[List.mem_filterMap,Ew]
 constructor
 ·rintro⟨d,hm,he⟩
  obtain⟨i,rfl⟩:=KG he
  have h:=(EB hd).1 he
  exact⟨i,(VV.1 h).1,Xk.2 ⟨d,hm,by simp [h]⟩,rfl⟩
 ·rintro⟨i,hi,ha,rfl⟩
  obtain⟨d,hm,he⟩:=Xk.1 ha
  exact⟨d,hm,(EB hd).2 (VH he)⟩
theorem G5{l m:List Int}(hd:l.Nodup)(hm:List.Pairwise (λx y=>x<y) m)(h:∀x,x∈l↔x∈m):l.mergeSort leI=m:=by
 refine MU ?_ hm λx=>?_
 ·have h1:=Et l
  have h2:(l.mergeSort leI).Nodup:=(WP l leI).nodup_iff.2 hd
  rw[WE]at h1⊢
  intro i j hi hj hij
  have a:=h1 i j hi hj hij
  have b:=WE.1 h2 i j hi hj hij
  have b':¬(l.mergeSort leI)[i]=(l.mergeSort leI)[j]:=b
  omega
 ·rw[(WP l leI).mem_iff];exact h x
theorem Np(sh:Int){S:List Spot}(hd:S.Nodup)(s:Spot):(Fe sh S s).mergeSort leI=nbS sh S s:=G5 (LX sh hd s) (G4 ..) λx=>QE hd
theorem MY{S:List Spot}{f:Spot->Option Int}{n:Int}{c:Nat}:(c:Int)∈Bc S f n↔∃s,S[c]?=some s/\f s=some n:=by
 unfold Bc
 rw[MX]
 simp only[Vf,Option.bind_eq_some_iff]
 constructor
 ·exact λh=>h.2
 ·grind
theorem LY{S:List Spot}{f:Spot->Option Int}{n:Int}:(Bc S f n).isEmpty=false↔∃s∈S,f s=some n:=by
 rw[List.isEmpty_eq_false_iff_exists_mem]
 constructor
 ·rintro⟨x,hx⟩
  obtain⟨i,-,-,rfl⟩:=Ew.1 hx
  obtain⟨s,h1,h2⟩:=MY.1 hx
  exact⟨s,Wl h1,h2⟩
 ·rintro⟨s,h1,h2⟩
  obtain⟨i,hi,h3⟩:=VI.1 h1
  exact⟨(i:Int),MY.2 ⟨s,by rw[V5 hi,h3],h2⟩⟩
theorem QF:List.Pairwise (λx y=>x<y) KF:=by
 unfold KF
 rw[List.pairwise_map]
 exact Xl.imp λq=>by omega
theorem SM{n:Int}:n∈KF↔ -16<=n/\n<=32:=by
 unfold KF
 rw[W2]
 constructor
 ·rintro⟨k,hk,rfl⟩
  have:=Wa.1 hk
  omega
 ·intro h
  exact⟨(n+16).toNat,Wa.2 (by omega),by omega⟩
theorem SN{S:List Spot}{f:Spot->Option Int}{K:List Int}(hn:K.Nodup)(hk:∀n,n∈K↔∃s∈S,f s=some n)(hb:∀s∈S,∀n,f s=some n-> -16<=n/\n<=32):(K.mergeSort leI).map (Bc S f)=BU S f:=by
 have h:K.mergeSort leI=KF.filter λn=>!(Bc S f n).isEmpty:=by
  refine G5 hn (QF.sublist List.filter_sublist) λn=>?_
  rw[hk,WJ,SM,WF,LY]
  exact⟨λq=>let ⟨s,h1,h2⟩:=q;⟨hb s h1 n h2,q⟩,λq=>q.2⟩
 rw[h,BU,List.filter_map];rfl
theorem SO{sh w p q:Int}(hw:1<=w)(hp:0<=p)(hq:0<=q)(h:I1 sh w p=I1 sh w q):p=q:=by
 unfold I1 at h
 simp only[Prod.mk.injEq]at h
 obtain⟨h1,h2⟩:=h
 have e1:=Int.tmod_add_mul_tdiv p w
 have e2:=Int.tmod_add_mul_tdiv q w
 rw[h2]at h1 e1
 split at h1<;>omega
theorem G6{sh w:Int}{cells:List Int}(hw:1<=w)(hr:List.Pairwise (λx y=>x<y) cells)(h0:∀p∈cells,0<=p):(AP sh w cells).Nodup:=by
 unfold AP
 rw[List.Nodup,List.pairwise_map,WE]
 intro i j hi hj hij e
 have:=SO hw (h0 _ (Vn hi)) (h0 _ (Vn hj)) e
 have:=WE.1 hr i j hi hj hij
 omega
end Go.AM
namespace Go.AM
open Go.Proofs Go.Lib
def besS(sh:Int)(a b:Spot):Bool:=(Dz sh).any λd=>decide (b=addP a d)
def besR(sh:Int)(a b:Spot):Bool:=
 let dx:=b.1-a.1
 let dy:=b.2-a.2
 if sh=1 then decide (dy=0)&&(decide (dx=1)||decide (dx= -1))||decide (dx=0)&&(decide (dy=1)||decide (dy= -1))
 else decide (dx=1)&&decide (dy=0)||decide (dx= -1)&&decide (dy=0)||decide (dx=0)&&decide (dy=1)||decide (dx=0)&&decide (dy= -1)||decide (dx=1)&&decide (dy= -1)||decide (dx= -1)&&decide (dy=1)
theorem U6(sh:Int)(a b:Spot):besR sh a b=besS sh a b:=by
 obtain⟨a1,a2⟩:=a
 obtain⟨b1,b2⟩:=b
 rw[VS]
 unfold besR besS Dz addP
 by_cases h:sh=1
 ·simp only[Vk h,List.take,List.any_cons,List.any_nil,Vr,V7,Vf,Prod.mk.injEq,Vo,or_false]
  omega
 ·simp only[Vb h,List.take,List.any_cons,List.any_nil,Vr,V7,Vf,Prod.mk.injEq,Vo,or_false]
  omega
theorem nb_bes(sh:Int)(S:List Spot)(s:Spot):nbS sh S s=idxP S.length λb=>match S[b]? with
  |some t=>besS sh s t
  |none=>false:=by
 unfold nbS
 refine H8 λi hi=>?_
 rw[V5 hi]
 unfold besS
 simp only[Option.some.injEq]
theorem SP(sh:Int)(a:Spot):besS sh a a=false:=by
 rw[<-U6,Bool.eq_false_iff]
 intro h
 unfold besR at h
 by_cases h1:sh=1
 ·simp_all
 ·simp_all
end Go.AM
namespace Go.AM
open Go.Proofs Go.Lib
def symI(m:Nat):List Int:=(List.range m).map λ(i:Nat)=>(i:Int)
theorem F5{m:Nat}{s:Int}:s∈symI m↔0<=s/\s<m:=by
 unfold symI
 rw[W2]
 constructor
 ·rintro⟨i,hi,rfl⟩
  have:=Wa.1 hi
  omega
 ·intro h
  exact⟨s.toNat,Wa.2 (by omega),by omega⟩
def Nq(m:Nat)(l:List Int):List Int:=(symI m).filter λs=>!l.contains s
def chsE(m:Nat):Nat->List Int->List (List Int)
 |0,l=>[l]
 |j+1,l=>(Nq m l).flatMap λs=>chsE m j (l++[s])
def chs(m n:Nat):List (List Int):=chsE m n []
def chsR(m:Nat):Nat->List (List Int)
 |0=>[[]]
 |n+1=>(chsR m n).flatMap λl=>(Nq m l).map λs=>l++[s]
theorem KH(m:Nat):∀(j:Nat) (l:List Int),chsE m (j+1) l=(chsE m j l).flatMap λl'=>(Nq m l').map λs=>l'++[s]
 |0,l=>by simp [chsE,Xm,List.map_eq_flatMap]
 |j+1,l=>by
  rw[chsE]
  conv=>rhs;rw[chsE]
  rw[List.flatMap_assoc]
  congr 1
  funext s
  exact KH m j (l++[s])
theorem QG(m:Nat):∀n,chs m n=chsR m n
 |0=>rfl
 |n+1=>by
  unfold chs
  rw[KH,chsR,<-QG m n];rfl
theorem MZ{m:Nat}:∀{j:Nat} {l x:List Int},x∈chsE m j l->x.length=l.length+j/\(l.Nodup->(∀s∈l,0<=s/\s<m)->x.Nodup/\∀s∈x,0<=s/\s<m)
 |0,l,x,h=>by
  simp only[chsE,Wp]at h
  subst h;exact⟨rfl,λa b=>⟨a,b⟩⟩
 |j+1,l,x,h=>by
  simp only[chsE,List.mem_flatMap]at h
  obtain⟨s,hs,hx⟩:=h
  obtain⟨h1,h2⟩:=MZ hx
  refine⟨by rw[h1,Vm];simp;omega,λhd hr=>?_⟩
  unfold Nq at hs
  rw[WJ,F5,WF,List.contains_eq_mem,X8]at hs
  refine h2 ?_ ?_
  ·grind
  ·grind
theorem QH{m n:Nat}{x:List Int}(h:x∈chs m n):x.length=n/\x.Nodup/\∀s∈x,0<=s/\s<m:=by
 obtain⟨h1,h2⟩:=MZ h
 obtain⟨h3,h4⟩:=h2 Xy (by simp)
 exact⟨by simpa using h1,h3,h4⟩
def at0(l:List Int)(i:Int):Int:=l[i.toNat]?.getD 0
def Ba(bad:Int->Int->Bool):List Int->Bool
 |[]=>false
 |a::r=>(r.any λb=>decide (0<=a)&&decide (0<=b)&&bad a b)||Ba bad r
def cOwn(ls l:List Int):Nat:=(l.filter λs=>decide (0<=s)&&ls.contains s).length
def cOth(ls l:List Int):Nat:=(l.filter λs=>decide (0<=s)&& !ls.contains s).length
def cNon(l:List Int):Nat:=(l.filter λs=>decide (s<0)).length
def absI(a:Int):Int:=max a (-a)
def BO(vals:List Int)(k n:Int)(ls l:List Int):Bool:=
 if k=1 then Ba (λa b=>decide (a=b)) l
 else if k=2 then decide (cOwn ls l=0)&&decide (cNon l=0)
 else if k=3 then Ba (λa b=>decide (absI (at0 vals a-at0 vals b)<n)) l
 else if k=4 then Ba (λa b=>decide (at0 vals b<=at0 vals a)) l
 else if k=6 then decide (n<(cOwn ls l:Int))||decide ((l.length:Int)-n<(cOth ls l:Int))
 else false
def IA(vals:List Int)(q:Cnd)(letters cells:List Int):Bool:=BO vals q.k q.n (q.ls.map (at0 letters)) (q.cs.map (at0 cells))
def QI(p:Prm)(letters cells:List Int):Bool:=decide (0<=at0 cells p.c)&& !(p.ls.map (at0 letters)).contains (at0 cells p.c)
def KI(vals:List Int)(x:Lma)(letters cells:List Int):List Bool:=(x.qs.map λq=>IA vals q letters cells)++x.ps.map λp=>QI p letters cells
def Bp(vals:List Int)(x:Lma)(letters cells:List Int)(i:Int):Bool:=if i<0 then false else(KI vals x letters cells)[i.toNat]?.getD false
def Ma(vals:List Int)(x:Lma)(letters cells:List Int):Bool:=(KI vals x letters cells).all λb=>!b
structure ExtC(a b:List Int):Prop where
 len:a.length=b.length
 le:∀(i:Nat) s,a[i]?=some s->0<=s->b[i]?=some s
 neg:∀s∈a,-1<=s
theorem Cy{l:List Int}{i:Int}(h0:0<=i)(h:i<l.length):l[i.toNat]?=some (at0 l i):=by
 unfold at0
 rw[V5 (by omega)];rfl
inductive Ext2:List Int->List Int->Prop
 |nil:Ext2 [] []
 |cons {a b:Int} {l m:List Int}:(0<=a->b=a)->Ext2 l m->Ext2 (a::l) (b::m)
end Go.AM
namespace Go.AM
open Go.Proofs Go.Lib
structure Cas where
 k:Int
 a:Int
 deriving DecidableEq
def IB:Int:=2
def KJ:Int:=1
def G7(x:Lma)(c:Int):Option Prm:=x.ps.find? λp=>decide (p.c=c)
def Mb(m:Nat)(x:Lma)(letters:List Int)(c:Int):List Int:=match G7 x c with
 |none=>symI m
 |some p=>(symI m).filter λs=>(p.ls.map (at0 letters)).contains s
def begC(x:Lma)(letters:List Int):List Int:=(List.replicate x.cs.length (-1)).set x.c.toNat (at0 letters x.l)
def seqT(f:Int->List Cas->Option (List Cas)):List Int->List Cas->Option (List Cas)
 |[],l=>some l
 |s::r,l=>(f s l).bind (seqT f r)
def BC(vals:List Int)(x:Lma)(letters:List Int):Nat->List Int->List Cas->Option (List Cas)
 |_,_,[]=>none
 |f,cells,n::l=>
  if n.k=IB then(if Bp vals x letters cells n.a then some l else none)
  else if n.k=KJ/\0<=n.a/\n.a<cells.length/\at0 cells n.a<0 then
   match f with
   |0=>none
   |f+1=>seqT (λs l=>BC vals x letters f (cells.set n.a.toNat s) l) (Mb vals.length x letters n.a) l
  else none
def BI(vals:List Int)(x:Lma)(trees:List (List Cas)):Bool:=
 decide ((chs vals.length x.ls.length).length=trees.length)&&(((chs vals.length x.ls.length).zip trees).all λq=>decide (BC vals x q.1 x.cs.length (begC x q.1) q.2=some []))
def tryP(vals:List Int)(x:Lma)(letters:List Int):Nat->Nat->List Int->Bool
 |j,i,cells=>if Ma vals x letters cells then(match j with
   |0=>true
   |j+1=>if(i:Int)=x.c then tryP vals x letters j (i+1) cells else(symI vals.length).any λs=>tryP vals x letters j (i+1) (cells.set i s))
  else false
def KK(vals:List Int)(x:Lma):Bool:=(chs vals.length x.ls.length).all λletters=>!tryP vals x letters x.cs.length 0 (begC x letters)
structure Refutes(vals:List Int)(x:Lma)(letters c:List Int):Prop where
 len:c.length=x.cs.length
 rng:∀s∈c,0<=s/\s<vals.length
 con:at0 c x.c=at0 letters x.l
 ok:Ma vals x letters c=true
theorem I2(x:Lma)(letters:List Int):(begC x letters).length=x.cs.length:=by unfold begC;simp
theorem IC{vals:List Int}{x:Lma}{letters:List Int}(hx:OKL x)(hl:letters∈chs vals.length x.ls.length):0<=at0 letters x.l/\at0 letters x.l<vals.length:=by
 obtain⟨h1,-,h3⟩:=QH hl
 exact h3 _ (Wl (Cy hx.l.1 (by rw[h1];exact hx.l.2)))
end Go.AM
namespace Go.AM
open Go.Proofs Go.Lib
structure Sofar(vals:List Int)(x:Lma)(letters:List Int)(i:Nat)(cells:List Int):Prop where
 len:cells.length=x.cs.length
 con:at0 cells x.c=at0 letters x.l
 lo:∀(k:Nat) s,cells[k]?=some s->k<i\/(k:Int)=x.c->0<=s/\s<vals.length
 hi:∀(k:Nat) s,cells[k]?=some s->i<=k->(k:Int)≠x.c->s= -1
end Go.AM
namespace Go.AM
open Go.Proofs Go.Lib
theorem Mc{f:Int->List Cas->Option (List Cas)}(hf:∀s l r z,f s l=some r->f s (l++z)=some (r++z)):∀{ss:List Int} {l r:List Cas},seqT f ss l=some r->∀z,seqT f ss (l++z)=some (r++z)
 |[],l,r,h,z=>by
  rw[seqT]at h⊢
  cases h;rfl
 |s::ss,l,r,h,z=>by
  rw[seqT]at h⊢
  obtain⟨l1,h1,h2⟩:=Option.bind_eq_some_iff.1 h
  rw[hf s l l1 z h1]
  exact Mc hf h2 z
theorem Md{vals:List Int}{x:Lma}{letters:List Int}:∀(f:Nat) (cells:List Int) (l r z:List Cas),BC vals x letters f cells l=some r->BC vals x letters f cells (l++z)=some (r++z)
 |f,cells,[],r,z,h=>by rw[BC]at h;cases h
 |0,cells,n::l,r,z,h=>by
  rw[Vu]
  rw[BC]at h⊢
  by_cases h1:n.k=IB
  ·simp_all
  ·rw[Vb h1]at h⊢
   split at h<;>cases h
 |f+1,cells,n::l,r,z,h=>by
  rw[Vu]
  rw[BC]at h⊢
  by_cases h1:n.k=IB
  ·simp_all
  ·rw[Vb h1]at h⊢
   by_cases h2:n.k=KJ/\0<=n.a/\n.a<cells.length/\at0 cells n.a<0
   ·rw[Vk h2]at h⊢
    exact Mc (λs l r z q=>Md f (cells.set n.a.toNat s) l r z q) h z
   ·rw[Vb h2]at h;cases h
theorem KL{vals:List Int}{x:Lma}{letters:List Int}{f:Nat}{cells:List Int}{l:List Cas}{n:Cas}(h:BC vals x letters f cells l=some []):BC vals x letters f cells (l++[n])≠some []:=by
 rw[Md f cells l [] [n] h];simp
theorem QJ{vals:List Int}{x:Lma}{letters:List Int}{f:Nat}{cells:List Int}{l:List Cas}(h:BC vals x letters f cells l=some []):BC vals x letters f cells l.dropLast≠some []:=by
 intro h2
 have hne:l≠[]:=λe=>by subst e;rw[BC]at h;cases h
 have:=KL (n:=l.getLast hne) h2
 rw[List.dropLast_concat_getLast hne]at this
 exact this h
theorem U7{vals:List Int}{x:Lma}{letters:List Int}{f:Nat}{cells:List Int}{l r:List Cas}(h:BC vals x letters f cells l=some r):l≠[]:=λe=>by subst e;rw[BC]at h;cases h
structure Some1(vals:List Int)(x:Lma)(letters cells:List Int):Prop where
 len:cells.length=x.cs.length
 con:at0 cells x.c=at0 letters x.l
 rng:∀s∈cells,-1<=s/\s<vals.length
 let0:0<=at0 letters x.l
def negs(cells:List Int):Nat:=(cells.filter λs=>decide (s<0)).length
theorem Me:∀{cells:List Int} {i:Nat} {s t:Int},cells[i]?=some t->t<0->0<=s->negs (cells.set i s)+1=negs cells
 |[],_,_,_,h,_,_=>by cases h
 |a::l,0,s,t,h,ht,hs=>by
  cases h
  unfold negs
  rw[List.set_cons_zero,Wy,Wy,Vb (by simpa using hs),Vk (by simpa using ht)];rfl
 |a::l,i+1,s,t,h,ht,hs=>by
  have ih:=Me (cells:=l) (i:=i) (s:=s) (t:=t) (by simpa using h) ht hs
  unfold negs at ih⊢
  rw[List.set_cons_succ,Wy,Wy]
  split<;>(try simp only[Vq])<;>omega
theorem SQ{x:Lma}{letters:List Int}:negs (begC x letters)<=x.cs.length:=by grind [negs,I2]
end Go.AM
namespace Go.AM
open Go.Proofs Go.Lib
mutual
inductive View(H:AB):AVal->AVal->Prop
 |wk {a b:AVal}:Wk b a->View H a b
 |ref {id e off len cap:Nat} {l:List AVal}:hget H id=some (.arr e l)->off+len<=l.length->len<=cap->View H (.sl (.none e) ((l.drop off).take len)) (.ref id e off len cap)
 |ptr {id off:Nat} {cs:List AVal}:hget H id=some (.box cs)->View H (.ep (cs.drop off)) (.ptr id off)
 |pw {id off:Nat} {cs us:List AVal}:hget H id=some (.box cs)->Views H us (cs.drop off)->View H (.ep us) (.ptr id off)
 |agg {us bs:List AVal}:Views H us bs->View H (.agg us) (.agg bs)
 |fn {f:Fn} {us bs cs ds:List AVal}:Views H us bs->Views H cs ds->View H (.fn f us cs) (.fn f bs ds)
inductive Views(H:AB):List AVal->List AVal->Prop
 |nil:Views H [] []
 |cons {a b:AVal} {us bs:List AVal}:View H a b->Views H us bs->Views H (a::us) (b::bs)
end
mutual
def AVal.flat:AVal->Prop
 | .bool _| .int _ _| .str _| .nilp| .nilfn| .nilifc| .nilmp=>True
 | .agg cs=>flats cs
 | .tup cs=>flats cs
 |_=>False
def flats:List AVal->Prop
 |[]=>True
 |a::us=>a.flat/\flats us
end
mutual
theorem Mf{g g':Ghost}:∀(a:AVal) (v:Value),a.flat->VRel g a v->VRel g' a v
 | .bool _,_,_,h=>h
 | .int _ _,_,_,h=>h
 | .str _,_,_,h=>h
 | .nilp,_,_,h=>h
 | .nilfn,_,_,h=>h
 | .nilifc,_,_,h=>h
 | .nilmp,_,_,h=>h
 | .agg cs,_,hf,h=>by
  obtain⟨vs,rfl,h1,h2⟩:=h
  exact⟨vs,rfl,flats_rel cs _ hf h1,h2⟩
 | .tup cs,_,hf,h=>by
  obtain⟨vs,rfl,h1⟩:=h
  exact⟨vs,rfl,flats_rel cs _ hf h1⟩
 | .ptr _ _,_,hf,_=>hf.elim
 | .ep _,_,hf,_=>hf.elim
 | .gp _,_,hf,_=>hf.elim
 | .sl _ _,_,hf,_=>hf.elim
 | .ref _ _ _ _ _,_,hf,_=>hf.elim
 | .ap _ _ _ _,_,hf,_=>hf.elim
 | .fn _ _ _,_,hf,_=>hf.elim
 | .ifc _ _,_,hf,_=>hf.elim
 | .mp _,_,hf,_=>hf.elim
 | .up,_,hf,_=>hf.elim
theorem flats_rel{g g':Ghost}:∀(us:List AVal) (vs:List Value),flats us->VRels g us vs->VRels g' us vs
 |[],_,_,h=>h
 |a::us,_,hf,h=>by
  obtain⟨v,r,rfl,h1,h2⟩:=h
  exact⟨v,r,rfl,Mf a v hf.1 h1,flats_rel us r hf.2 h2⟩
end
def allσ(w:World):Nat->Nat->Option Value:=λb o=>w.cell? ⟨b,o,none⟩
section
variable {g:Ghost} {H:AB} {n:Nat} {w:World}
theorem Ey(R:Rel g H n w):IT 0 g ⟨λ_=>none,allσ w⟩:=⟨λ_ _ h=>absurd h (Wq _),λb o v h=>R.σw b o v h⟩
theorem ID{f:Nat->Option Value}:∀(cs:List AVal) (o k:Nat),PStab g f o cs->PStab g f (o+k) (cs.drop k)
 |[],o,k,_=>by rw[List.drop_nil];trivial
 |a::cs,o,0,h=>h
 |a::cs,o,k+1,h=>by rw[List.drop_succ_cons,show o+(k+1)=o+1+k by omega];exact ID cs (o+1) k h.2
mutual
theorem Mg(R:Rel g H n w):∀{a b:AVal} {v:Value},View H a b->a.under 0->VRel g b v->VRel ⟨λ_=>none,allσ w⟩ a v
 |a,b,v,.wk h,hu,hv=>VRel.agree (n:=0) (Ey R) a v hu (h g v hv)
 |_,_,v,.ref (id:=id) (e:=e) (off:=off) (len:=len) (cap:=cap) (l:=l) h1 h2 h3,hu,hv=>by
  obtain⟨L,k1,k2,rfl⟩:=hv
  obtain⟨L',c,ty,j1,j2,j3,j4,j5,j6⟩:=R.obj id _ h1
  rw[k1]at j1;cases j1
  have hlen:((l.drop off).take len).length=len:=by simp;omega
  have hst:=Stab.take len _ _ (Stab.drop off _ _ j6)
  rw[VW]at hst
  refine .inr ⟨trivial,L.blk,off*e,cap,⟨none,by rw[hlen],.inl rfl⟩,by rw[hlen];exact h3,?_,trivial⟩
  have hst2:Stab g e (allσ w L.blk) (off*e) ((l.drop off).take len):=Stab.mono (Ghost.le.refl g) (λo x hx=>by
   show w.cell? ⟨L.blk,o,none⟩=some x
   rw[AY j4];exact hx) e _ _ hst
  exact Stab.agree (n:=0) (Ey R) (λo x h=>h) e _ _ hu.2 hst2
 |_,_,v,.ptr (id:=id) (off:=off) (cs:=cs) h1,hu,hv=>by
  obtain⟨L,k1,k2,rfl⟩:=hv
  obtain⟨L',c,ty,j1,j2,j3,j4,j5,j6⟩:=R.obj id _ h1
  rw[k1]at j1;cases j1
  refine⟨L.blk,off,rfl,?_⟩
  have hd:∀(cs:List AVal) (o k:Nat),PStab g (λo=>c[o]?) o cs->PStab g (λo=>c[o]?) (o+k) (cs.drop k):=by
   intro cs
   induction cs with
   |nil=>intro o k _;rw[List.drop_nil];trivial
   |cons a cs ih=>
    intro o k h
    cases k with
    |zero=>exact h
    |succ k=>rw[List.drop_succ_cons,show o+(k+1)=o+1+k by omega];exact ih (o+1) k h.2
  have h2:=hd cs 0 off j6
  rw[VW]at h2
  have h3:PStab g (allσ w L.blk) off (cs.drop off):=PStab.mono (Ghost.le.refl g) (λo x hx=>by
   show w.cell? ⟨L.blk,o,none⟩=some x
   rw[AY j4];exact hx) _ _ h2
  exact PStab.agree (n:=0) (Ey R) (λo x h=>h) _ _ hu h3
 |_,_,v,.pw (id:=id) (off:=off) (cs:=cs) h1 hw,hu,hv=>by
  obtain⟨L,k1,k2,rfl⟩:=hv
  obtain⟨L',c,ty,j1,j2,j3,j4,j5,j6⟩:=R.obj id _ h1
  rw[k1]at j1;cases j1
  refine⟨L.blk,off,rfl,?_⟩
  have h2:=ID cs 0 off j6
  rw[VW]at h2
  exact pstab_rel R hw hu (PStab.mono (Ghost.le.refl g) (λo x hx=>by
   show w.cell? ⟨L.blk,o,none⟩=some x
   rw[AY j4];exact hx) _ _ h2)
 |_,_,v,.agg h,hu,hv=>by
  obtain⟨vs,rfl,h1,h2⟩:=hv
  exact⟨vs,rfl,views_rel R h hu h1,h2⟩
 |_,_,v,.fn h k,hu,hv=>by
  obtain⟨x,c,rfl,h1,h2⟩:=hv
  exact⟨x,c,rfl,views_rel R h hu.1 h1,views_rel R k hu.2 h2⟩
theorem views_rel(R:Rel g H n w):∀{us bs:List AVal} {vs:List Value},Views H us bs->unders 0 us->VRels g bs vs->VRels ⟨λ_=>none,allσ w⟩ us vs
 |_,_,vs,.nil,_,hv=>hv
 |_,_,vs,.cons h t,hu,hv=>by
  obtain⟨v,r,rfl,h1,h2⟩:=hv
  exact⟨v,r,rfl,Mg R h hu.1 h1,views_rel R t hu.2 h2⟩
theorem pstab_rel(R:Rel g H n w):∀{us bs:List AVal} {f:Nat->Option Value} {o:Nat},Views H us bs->unders 0 us->PStab g f o bs->PStab ⟨λ_=>none,allσ w⟩ f o us
 |_,_,f,o,.nil,_,_=>trivial
 |_,_,f,o,.cons h t,hu,hp=>by
  obtain⟨⟨v,h1,h2,h4⟩,h3⟩:=hp
  exact⟨⟨v,h1,Mg R h hu.1 h2,h4⟩,pstab_rel R t hu.2 h3⟩
end
end
theorem Pur.viewF{P:Program}{f:FuncId}{args args':List AVal}{r:AVal}{H:AB}(h:Pur P f args r)(hf:∀g g' v,VRel g r v->VRel g' r v)(hv:Views H args args')(n:Nat):AZ P f args' H n r:=by
 obtain⟨ha,hr,hcb,hc⟩:=h
 refine⟨hcb,λg w vs R hvs=>?_⟩
 have R0:Rel ⟨λ_=>none,allσ w⟩ hnil 0 w:=
  {σw:=λb o v h=>h
   obj:=λ_ _ h=>by simp [hget,hnil]at h
   dom:=λ_ _ h=>by simp at h
   hd:=λ_ _ h=>by simp [hget,hnil]at h
   ap:=λ_ _ _ _ _ _ _ h=>by simp [hget,hnil]at h
   un:=λ_ _ _ _ h=>by simp [hget,hnil]at h
   gl:=λi cs h=>PStab.agree (n:=0) (Ey R) (λo x h=>R.σw i o x h) cs 0 (HU i cs h) (R.gl i cs h)
   gz:=R.gz}
 refine(hc _ w vs R0 (views_rel R hv ha hvs)).mono ?_
 rintro e w' ⟨g',out,H',n',⟨v,rfl,hw⟩,he,hR',-,ht⟩
 cases e with
 |panicked c=>exact he.elim
 |outgrown=>exact he.elim
 |returned x=>
  have hx:VRel g' r x:=hw _ _ he
  have keep:∀(b:Nat) ob,w.heap[b]?=some ob->w'.heap[b]?=some ob:=by
   intro b ob hb
   have hk:=ht.kept b ob hb
   cases ob<;>first|exact hk.resolve_left CY|skip
   obtain⟨c',h1,h2,h3⟩:=hk
   rw[h1]
   congr 2
   exact Xv λi=>h3 i CY
  have inH:∀b o v,w.cell? ⟨b,o,none⟩=some v->b<w.heap.size:=by
   intro b o v hc
   unfold World.cell? at hc
   split at hc
   ·rename_i hb;exact(Vp.1 hb).1
   ·cases hc
  let σ2:Nat->Nat->Option Value:=λb o=>if b<w.heap.size then g.σ b o else g'.σ b o
  have old:∀b o v,g.σ b o=some v->σ2 b o=some v:=λb o v hh=>by
   simp only[σ2];rw[Vk (inH b o v (R.σw b o v hh))];exact hh
  have gle:g.le ⟨g.β,σ2⟩:=⟨λ_ _ h=>h,old⟩
  have hcell:∀b o v,b<w.heap.size->w.cell? ⟨b,o,none⟩=some v->w'.cell? ⟨b,o,none⟩=some v:=by
   intro b o v hb hh
   have e1:=Wu hb
   have e2:=keep b _ e1
   unfold World.cell? at hh⊢
   simp only[e1,e2]at hh⊢
   exact hh
  refine⟨⟨g.β,σ2⟩,.ret r,H,n,⟨rfl,rfl,rfl⟩,hf _ _ x hx,?_,V9 _,?_⟩
  ·refine⟨?_,?_,?_,R.hd,R.ap,?_,R.gl.mono gle,hR'.gz⟩
   ·intro b o v hh
    simp only[σ2]at hh
    split at hh
    ·rename_i hb;exact hcell b o v hb (R.σw b o v hh)
    ·exact hR'.σw b o v hh
   ·intro id ob hob
    have ho:=R.obj id ob hob
    cases ob with
    |box cs=>obtain⟨L,c,e,h1,h2,h3,h4,h5,h6⟩:=ho;exact⟨L,c,e,h1,h2,h3,keep _ _ h4,h5,PStab.mono gle (λ_ _ h=>h) cs 0 h6⟩
    |tok=>obtain⟨L,h1,h2⟩:=ho;exact⟨L,h1,λhlt=>let ⟨c,e,h3,h4⟩:=h2 hlt;⟨c,e,keep _ _ h3,h4⟩⟩
    |arr esz l=>obtain⟨L,c,e,h1,h2,h3,h4,h5,h6⟩:=ho;exact⟨L,c,e,h1,h2,h3,keep _ _ h4,h5,Stab.mono gle (λ_ _ h=>h) esz l 0 h6⟩
    |frz esz l=>obtain⟨L,h1,h2,h3⟩:=ho;exact⟨L,h1,h2,Stab.mono gle (λo x hx=>old L.blk o x hx) esz l 0 h3⟩
    |map es c=>obtain⟨L,es',h1,h2,h3,h4,h5⟩:=ho;exact⟨L,es',h1,h2,h3,keep _ _ h4,MRel.mono gle _ _ h5⟩
    |sit s pos=>obtain⟨L,h1,h2,h3,h4⟩:=ho;exact⟨L,h1,h2,h3,keep _ _ h4⟩
    |mit m c seen last=>obtain⟨L,Lm,h1,h2,h3,h4,h5⟩:=ho;exact⟨L,Lm,h1,h2,h3,keep _ _ h4,h5⟩
    |lp x=>obtain⟨L,h1,h2,h3,h4,r,k1,k2,k3,k4,k5,k6,k7,k8⟩:=ho;exact⟨L,h1,h2,h3,h4,r,keep _ _ k1,k2,k3,k4,k5,k6,A3.mono gle k7,k8⟩
    |dead=>trivial
   ·intro id L hL
    exact⟨(R.dom id L hL).1,λhlt=>Ww ((R.dom id L hL).2 hlt) ht.size⟩
   ·intro id ob L o q1 q2 q3 q4 q5
    have hb:=(R.dom id L q3).2 (by omega)
    show σ2 L.blk o=none
    simp only[σ2]
    rw[Vk hb];exact R.un id ob L o q1 q2 q3 q4 q5
  ·refine⟨gle,λ_ _ h=>.inl h,ht.os,ht.tape,ht.output,ht.size,λb ob hb=>by rw[keep b ob hb];exact Kept.same _ _,λ_ _ _ h=>h,λb o v hb h=>.inl ?_⟩
   have h':σ2 b o=some v:=h
   simp only[σ2]at h'
   rw[Vk hb]at h';exact h'
theorem Pur.view{P:Program}{f:FuncId}{args args':List AVal}{r:AVal}{H:AB}(h:Pur P f args r)(hf:r.flat)(hv:Views H args args')(n:Nat):AZ P f args' H n r:=h.viewF (λ_ _ v=>Mf r v hf) hv n
end Go.AM
namespace Go.AM
open Go.Proofs Go.Lib
theorem QK{α:Type}{p:α->Bool}{l:List α}{i:Nat}(h:i<l.length)(hp:p l[i]=true)(hn:∀j (hj:j<l.length),j<i->p l[j]=false):l.findIdx? p=some i:=
 Wn.2 ⟨h,hp,λj hj=>by rw[hn j (by omega) hj];decide⟩
theorem QL{α:Type}{p:α->Bool}{l:List α}(hn:∀j (hj:j<l.length),p l[j]=false):l.findIdx? p=none:=
 X3.2 λx hx=>by obtain⟨j,hj,rfl⟩:=VI.1 hx;exact hn j hj
def idxG{α:Type}[DecidableEq α](l:List α)(s:α):Int:=match l.findIdx? (λx=>decide (x=s))with
 |some k=>k
 |none=>-1
theorem TD(l:List Bs)(s:Bs):idxG l s=idxS l s:=rfl
theorem Ez{α:Type}[DecidableEq α]{l:List α}{s:α}{i:Nat}(h:i<l.length)(hp:l[i]=s)(hn:∀j (hj:j<l.length),j<i->l[j]≠s):idxG l s=i:=by
 unfold idxG
 rw[QK h (by simp [hp]) λj hj hji=>by simp [hn j hj hji]]
theorem KM{α:Type}[DecidableEq α]{l:List α}{s:α}(hn:∀j (hj:j<l.length),l[j]≠s):idxG l s= -1:=by
 unfold idxG
 rw[QL λj hj=>by simp [hn j hj]]
theorem D0{α:Type}[DecidableEq α]:∀{l:List α},A1 l=true↔∀j (hj:j<l.length),idxG l l[j]=(j:Int)
 |[]=>by simp [A1]
 |x::r=>by
  have ih:=D0 (l:=r)
  simp only[A1,V7,WF]
  constructor
  ·rintro⟨h1,h2⟩ j hj
   cases j with
   |zero=>exact Ez (i:=0) (by simp) rfl λk _ hk=>by omega
   |succ j=>
    have hj':j<r.length:=by simpa using hj
    refine Ez hj rfl λk hk hkj=>?_
    cases k with
    |zero=>
     intro e
     have:(r.any λy=>decide (y=x))=true:=Xk.2 ⟨r[j],Vn hj',by simpa using e.symm⟩
     rw[h1]at this;cases this
    |succ k=>
     intro e
     have hk':k<r.length:=by simpa using hk
     have e':r[k]=r[j]:=by simpa using e
     have q1:=ih.1 h2 k hk'
     have q2:=ih.1 h2 j hj'
     rw[e']at q1;rw[q1]at q2;omega
  ·intro h
   refine⟨?_,ih.2 λj hj=>?_⟩
   ·rw[List.any_eq_false]
    intro y hy e
    obtain⟨j,hj,rfl⟩:=VI.1 hy
    have e:r[j]=x:=by simpa using e
    have h0:=h 0 (by simp)
    have:=h (j+1) (by simpa using hj)
    simp only[List.getElem_cons_succ,e]at this
    simp only[List.getElem_cons_zero]at h0
    rw[h0]at this
    omega
   ·have:=h (j+1) (by simpa using hj)
    simp only[List.getElem_cons_succ]at this
    unfold idxG at this⊢
    rw[List.findIdx?_cons]at this
    by_cases e:x=r[j]
    ·simp [e]at this;omega
    ·rw[show decide (x=r[j])=false by simp [e]]at this
     simp only[Vo,Vv]at this
     cases hq:r.findIdx? (λx=>decide (x=r[j]))with
     |none=>rw[hq]at this;simp at this;omega
     |some k=>rw[hq]at this;simp at this⊢;omega
theorem p108(l:List Bs)(s:Bs)(hl:few l):Pur Tryz.prog 108 [eSs l,.str s] (eI (idxS l s)):=by
 refine .mk ⟨⟨trivial,C6 0 l⟩,trivial,trivial⟩ trivial (a108 (AE AH.tnil (AF ?_)))
 simp only[eE,eN,reduceCtorEq,Nat.reduceEqDiff,↓reduceIte,Nat.reduceAdd,V0,c108]
 refine AU (λi:Nat=>⟨[(0,true,eSs l),(1,true,.str s),(7,true,.int .i64 l.length),(8,true,.int .i64 i)],hnil,0⟩)
  (λi=>i<=l.length/\∀j (hj:j<l.length),j<i->l[j]≠s) (λi=>l.length-i) 0 rfl ⟨Vi _,λj hj h=>by omega⟩ ?_
 rintro i ⟨hi,hall⟩
 by_cases hlt:i<l.length
 case neg=>
  simp only[eE,eC,eN,reduceCtorEq,Nat.reduceEqDiff,↓reduceIte,lt_F hlt]
  rw[<-TD,KM λj hj=>hall j hj (by omega)]
 have hg:=V5 hlt
 have e:=AJ (k:=i) (by omega)
 by_cases hs:l[i]=s
 ·simp only[eE,eC,eN,reduceCtorEq,Nat.reduceEqDiff,↓reduceIte,V1,V2,V4,V0,V6,lt_T hlt,hg,Ef,hs]
  rw[<-TD,Ez hlt hs hall]
 ·simp only[eE,eC,eN,reduceCtorEq,Nat.reduceEqDiff,↓reduceIte,Int.reduceEq,V1,V2,V4,V0,V6,lt_T hlt,hg,Ef,show(s=l[i])=False from Vd (Ne.symm hs),e]
  refine .mk (i+1) rfl ⟨hlt,λj hj h=>?_⟩ (by omega)
  by_cases q:j=i
  ·subst q;exact hs
  ·exact hall j hj (by omega)
theorem pw64(l:List Int)(s:Int)(hl:few l):Pur Tryz.prog 64 [eIs l,eI s] (eI (idxG l s)):=by
 refine .mk ⟨⟨trivial,DN 0 l⟩,trivial,trivial⟩ trivial (a64 (AE AH.tnil (AF ?_)))
 simp only[eE,eN,reduceCtorEq,Nat.reduceEqDiff,↓reduceIte,Nat.reduceAdd,V0,c64]
 refine AU (λi:Nat=>⟨[(0,true,eIs l),(1,true,eI s),(7,true,.int .i64 l.length),(8,true,.int .i64 i)],hnil,0⟩)
  (λi=>i<=l.length/\∀j (hj:j<l.length),j<i->l[j]≠s) (λi=>l.length-i) 0 rfl ⟨Vi _,λj hj h=>by omega⟩ ?_
 rintro i ⟨hi,hall⟩
 by_cases hlt:i<l.length
 case neg=>
  simp only[eE,eC,eN,reduceCtorEq,Nat.reduceEqDiff,↓reduceIte,lt_F hlt]
  rw[KM λj hj=>hall j hj (by omega)]
 have hg:=V5 hlt
 have e:=AJ (k:=i) (by omega)
 by_cases hs:l[i]=s
 ·simp only[eE,eC,eN,reduceCtorEq,Nat.reduceEqDiff,↓reduceIte,V1,V2,V4,V0,V6,lt_T hlt,hg,hs]
  rw[Ez hlt hs hall]
 ·simp only[eE,eC,eN,reduceCtorEq,Nat.reduceEqDiff,↓reduceIte,Int.reduceEq,V1,V2,V4,V0,V6,lt_T hlt,hg,show(s=l[i])=False from Vd (Ne.symm hs),e]
  refine .mk (i+1) rfl ⟨hlt,λj hj h=>?_⟩ (by omega)
  by_cases q:j=i
  ·subst q;exact hs
  ·exact hall j hj (by omega)
structure Vg where
 i:Nat
 tk:Tok
 H:AB
 n:Nat
structure Ig(e len:Nat)(v:Vg):Prop where
 hi:v.i<=len
 fr:AN v.H v.n
 tok:tkG e 0 v.H v.tk
 es:v.tk.esz=e\/v.i=0
theorem QN{l:List Int}{n:Nat}:difI l n=true↔∀j (hj:j<l.length),0<=l[j]/\l[j]<n/\idxG l l[j]=(j:Int):=by
 unfold difI
 rw[V7,Vj,D0]
 constructor
 ·rintro⟨h1,h2⟩ j hj
  have:=h1 _ (Vn hj)
  simp only[V7,Vf]at this
  exact⟨this.1,this.2,h2 j hj⟩
 ·intro h
  refine⟨λx hx=>?_,λj hj=>(h j hj).2.2⟩
  obtain⟨j,hj,rfl⟩:=VI.1 hx
  simp [(h j hj).1,(h j hj).2.1]
theorem QO{l:List Int}{n:Nat}{j:Nat}(hj:j<l.length)(h:¬(0<=l[j]/\l[j]<n/\idxG l l[j]=(j:Int))):difI l n=false:=by
 cases q:difI l n with
 |false=>rfl
 |true=>exact absurd (QN.1 q j hj) h
def TixI:Tab:=tadd 64 (s2 dIs dI (λa _=>few a) λa s=>eI (idxG a s)) tnil
theorem U8:AH Tryz.prog TixI:=AH.tnil.add (q2 pw64)
theorem QP(a:List AVal)(H:AB):TixI 64 a H=s2 dIs dI (λa _=>few a) (λa s=>eI (idxG a s)) a H:=rfl
def indN(l:List Int)(n:Nat)(Fk:Int):Bool:=difI l n&&decide (Fk<=l.length)
theorem p68(l:List Int)(n:Nat)(Fk:Int)(hl:few l):Pur Tryz.prog 68 [eIs l,.int .i64 n,.int .i64 Fk] (.bool (indN l n Fk)):=by
 refine .mk ⟨⟨trivial,DN 0 l⟩,trivial,trivial,trivial⟩ trivial (a68 (AE U8 (AF ?_)))
 simp only[eE,eN,reduceCtorEq,Nat.reduceEqDiff,↓reduceIte,Nat.reduceAdd,V0,c68]
 refine AU (λi:Nat=>⟨[(0,true,eIs l),(1,true,.int .i64 n),(2,true,.int .i64 Fk),(9,true,eIs l),(10,true,.int .i64 l.length),(11,true,.int .i64 i)],hnil,0⟩)
  (λi=>i<=l.length/\∀j (hj:j<l.length),j<i->0<=l[j]/\l[j]<n/\idxG l l[j]=(j:Int)) (λi=>l.length-i) 0 rfl ⟨Vi _,λj hj h=>by omega⟩ ?_
 rintro i ⟨hi,hall⟩
 by_cases hlt:i<l.length
 case neg=>
  simp only[eE,eC,eN,reduceCtorEq,Nat.reduceEqDiff,↓reduceIte,V0,lt_F hlt]
  unfold indN
  rw[QN.2 λj hj=>hall j hj (by omega)];rfl
 have hg:=V5 hlt
 have e:=AJ (k:=i) (by omega)
 by_cases h1:l[i]<0
 ·simp only[eE,eC,eN,reduceCtorEq,Nat.reduceEqDiff,↓reduceIte,V8,V1,V2,V4,V0,V6,lt_T hlt,hg,h1]
  unfold indN
  rw[QO hlt λq=>by omega];rfl
 by_cases h2:(n:Int)<=l[i]
 ·simp only[eE,eC,eN,reduceCtorEq,Nat.reduceEqDiff,↓reduceIte,V8,V1,V2,V4,V0,V6,lt_T hlt,hg,h1,h2]
  unfold indN
  rw[QO hlt λq=>by omega];rfl
 by_cases h3:idxG l l[i]=(i:Int)
 ·simp only[eE,eC,eN,reduceCtorEq,Nat.reduceEqDiff,↓reduceIte,Int.reduceEq,V8,V1,V2,V4,V0,V6,lt_T hlt,hg,h1,h2,QP,s2,dIs,dI,okL,decL,DO,A0,hl,toI,h3,e]
  refine .mk (i+1) rfl ⟨hlt,λj hj h=>?_⟩ (by omega)
  by_cases q:j=i
  ·subst q;exact⟨by omega,by omega,h3⟩
  ·exact hall j hj (by omega)
 ·simp only[eE,eC,eN,reduceCtorEq,Nat.reduceEqDiff,↓reduceIte,Ve,V1,V2,V4,V0,V6,lt_T hlt,hg,h1,h2,QP,s2,dIs,dI,okL,decL,DO,A0,hl,toI,h3]
  unfold indN
  rw[QO hlt λq=>h3 q.2.2];rfl
def Tnm:Tab:=tadd 66 (s1 dS any1 λs=>.bool (Ci s)) (tadd 108 (s2 dSs dS (λa _=>few a) λa s=>eI (idxS a s)) tnil)
theorem Tnm_ok:AH Tryz.prog Tnm:=(AH.tnil.add (q2 p108)).add (q1 λs _=>p66 s)
theorem QS(a:List AVal)(H:AB):Tnm 108 a H=s2 dSs dS (λa _=>few a) (λa s=>eI (idxS a s)) a H:=rfl
theorem QT(a:List AVal)(H:AB):Tnm 66 a H=s1 dS any1 (λs=>.bool (Ci s)) a H:=rfl
theorem QU{l:List Bs}:(l.all Ci&&A1 l)=true↔∀j (hj:j<l.length),Ci l[j]=true/\idxS l l[j]=(j:Int):=by
 rw[V7,Vj,D0]
 constructor
 ·rintro⟨h1,h2⟩ j hj
  exact⟨h1 _ (Vn hj),h2 j hj⟩
 ·intro h
  refine⟨λx hx=>?_,λj hj=>(h j hj).2⟩
  obtain⟨j,hj,rfl⟩:=VI.1 hx
  exact(h j hj).1
theorem TE{l:List Bs}{j:Nat}(hj:j<l.length)(h:¬(Ci l[j]=true/\idxS l l[j]=(j:Int))):(l.all Ci&&A1 l)=false:=by
 cases q:(l.all Ci&&A1 l)with
 |false=>rfl
 |true=>exact absurd (QU.1 q j hj) h
theorem p67(l:List Bs)(most:Nat)(hl:few l):Pur Tryz.prog 67 [eSs l,.int .i64 most] (.bool (Ce l most)):=by
 refine .mk ⟨⟨trivial,C6 0 l⟩,trivial,trivial⟩ trivial (a67 (AE Tnm_ok (AF ?_)))
 simp only[eE,eN,reduceCtorEq,Nat.reduceEqDiff,↓reduceIte,Nat.reduceAdd,V0,c67]
 refine AU (λi:Nat=>⟨[(0,true,eSs l),(1,true,.int .i64 most),(7,true,eSs l),(8,true,.int .i64 l.length),(9,true,.int .i64 i)],hnil,0⟩)
  (λi=>i<=l.length/\∀j (hj:j<l.length),j<i->Ci l[j]=true/\idxS l l[j]=(j:Int)) (λi=>l.length-i) 0 rfl ⟨Vi _,λj hj h=>by omega⟩ ?_
 rintro i ⟨hi,hall⟩
 by_cases hlt:i<l.length
 case neg=>
  simp only[eE,eC,eN,reduceCtorEq,Nat.reduceEqDiff,↓reduceIte,V0,lt_F hlt]
  unfold Ce
  rw[QU.2 λj hj=>hall j hj (by omega)]
  by_cases h1:1<=l.length<;>by_cases h2:l.length<=most<;>simp [h1,h2]<;>omega
 have hg:=V5 hlt
 have e:=AJ (k:=i) (by omega)
 by_cases h1:Ci l[i]=true
 ·by_cases h3:idxS l l[i]=(i:Int)
  ·simp only[eE,eC,eN,reduceCtorEq,Nat.reduceEqDiff,↓reduceIte,Int.reduceEq,V8,V1,V2,V4,V0,V6,lt_T hlt,hg,QT,QS,s1,s2,dSs,dS,okL,decL,isS,toS,Cp,hl,h1,h3,e]
   refine .mk (i+1) rfl ⟨hlt,λj hj h=>?_⟩ (by omega)
   by_cases q:j=i
   ·subst q;exact⟨h1,h3⟩
   ·exact hall j hj (by omega)
  ·simp only[eE,eC,eN,reduceCtorEq,Nat.reduceEqDiff,↓reduceIte,V8,Ve,V1,V2,V4,V0,V6,lt_T hlt,hg,QT,QS,s1,s2,dSs,dS,okL,decL,isS,toS,Cp,hl,h1,h3]
   unfold Ce
   rw[TE hlt λq=>h3 q.2];rfl
 ·have h1':Ci l[i]=false:=by simpa using h1
  simp only[eE,eC,eN,reduceCtorEq,Nat.reduceEqDiff,↓reduceIte,V8,Ve,V1,V2,V4,V0,V6,lt_T hlt,hg,QT,QS,s1,s2,dSs,dS,okL,decL,isS,toS,Cp,hl,h1']
  unfold Ce
  rw[TE hlt λq=>h1 q.1];rfl
end Go.AM
namespace Go.AM
open Go.Proofs Go.Lib
abbrev encQ(q:Cnd):AVal:=.agg [.int .i64 q.k,eIs q.cs,eIs q.ls,.int .i64 q.n]
abbrev encM(p:Prm):AVal:=.agg [.int .i64 p.c,eIs p.ls]
abbrev encL(x:Lma):AVal:=.agg [.str x.nm,.int .i64 x.lv,eSs x.cs,eSs x.ls,.sl (.none 4) (x.qs.map encQ),.sl (.none 2) (x.ps.map encM),.int .i64 x.c,.int .i64 x.l]
theorem IE(n:Nat)(q:Cnd):(encQ q).under n:=⟨trivial,⟨trivial,DN n _⟩,⟨trivial,DN n _⟩,trivial,trivial⟩
theorem Nr(n:Nat)(p:Prm):(encM p).under n:=⟨trivial,⟨trivial,DN n _⟩,trivial⟩
theorem Bb(n:Nat)(x:Lma):(encL x).under n:=⟨trivial,trivial,⟨trivial,C6 n _⟩,⟨trivial,C6 n _⟩,⟨trivial,Ap (IE n) _⟩,⟨trivial,Ap (Nr n) _⟩,trivial,trivial,trivial⟩
def decQ:AVal->Cnd
 | .agg [.int _ k,c,l,.int _ n]=>⟨k,Fu c,Fu l,n⟩
 |_=>⟨0,[],[],0⟩
def decM:AVal->Prm
 | .agg [.int _ c,l]=>⟨c,Fu l⟩
 |_=>⟨0,[]⟩
def decX:AVal->Lma
 | .agg [.str nm,.int _ lv,cs,ls,qs,ps,.int _ c,.int _ l]=>⟨nm,lv,Nk cs,Nk ls,J8 decQ qs,J8 decM ps,c,l⟩
 |_=>⟨[],0,[],[],[],[],0,0⟩
theorem I3(q:Cnd):decQ (encQ q)=q:=by
 simp only[decQ,Fu,A0]
theorem SR(p:Prm):decM (encM p)=p:=by
 simp only[decM,Fu,A0]
theorem Mh(x:Lma):decX (encL x)=x:=by
 simp only[decX,Nk,J8,Cp,Bl I3,Bl SR]
def dQ:Dc Cnd:=dEx encQ decQ
def dX:Dc Lma:=dEx encL decX
theorem dQ_ok(q:Cnd):dQ.ok (encQ q)=True:=V3 (by show encQ q=encQ (decQ (encQ q));rw[I3])
theorem TF(q:Cnd):dQ.dec (encQ q)=q:=I3 q
theorem Ns(x:Lma):dX.ok (encL x)=True:=V3 (by show encL x=encL (decX (encL x));rw[Mh])
theorem IF(x:Lma):dX.dec (encL x)=x:=Mh x
def Tcd:Tab:=tadd 68 (s3 dIs dI dI (λa n _=>few a/\0<=n) λa n k=>.bool (indN a n.toNat k)) tnil
theorem Tcd_ok:AH Tryz.prog Tcd:=AH.tnil.add (q3 λa n k h=>by
 obtain⟨j,rfl⟩:∃j:Nat,n=j:=⟨n.toNat,by omega⟩
 exact p68 a j k h.1)
theorem E4(a:List AVal)(H:AB):Tcd 68 a H=s3 dIs dI dI (λa n _=>few a/\0<=n) (λa n k=>.bool (indN a n.toNat k)) a H:=rfl
theorem TG{q:Cnd}{nc nl:Nat}(h:(indN q.cs nc 1&&indN q.ls nl 0)=false):Cr q nc nl=false:=by
 unfold Cr indN at*
 cases h1:difI q.cs nc<;>cases h2:difI q.ls nl<;>simp [h1,h2]at h⊢
 intro q1;omega
theorem U9{q:Cnd}{nc nl:Nat}(h1:indN q.cs nc 1=true)(h2:indN q.ls nl 0=true):Cr q nc nl=(if q.k=1\/q.k=4 then decide (2<=q.cs.length)&&decide (q.ls.length=0)&&decide (q.n=0)
  else if q.k=2 then decide (q.ls.length=1)&&decide (q.n=0)
  else if q.k=3 then decide (q.cs.length=2)&&decide (q.ls.length=0)&&decide (1<=q.n)&&decide (q.n<=99)
  else if q.k=5 then decide (q.cs.length=2)&&decide (q.ls.length=0)&&decide (q.n=0)
  else if q.k=6 then decide (1<=q.ls.length)&&decide (0<=q.n)&&decide (q.n<=q.cs.length)
  else false):=by
 unfold indN at h1 h2
 simp only[V7,Vf]at h1 h2
 unfold Cr
 rw[h1.1,h2.1,VJ (by omega:1<=q.cs.length)]
 rfl
theorem p69(q:Cnd)(nc nl:Nat)(h1:few q.cs)(h2:few q.ls):Pur Tryz.prog 69 [encQ q,.int .i64 nc,.int .i64 nl] (.bool (Cr q nc nl)):=by
 refine .mk ⟨IE 0 q,trivial,trivial,trivial⟩ trivial (a69 (AE Tcd_ok (AF ?_)))
 cases hb1:indN q.cs nc 1 with
 |false=>
  simp only[eE,eC,eN,reduceCtorEq,Nat.reduceEqDiff,↓reduceIte,Nat.reduceAdd,Nat.reduceLeDiff,V8,Ve,V2,V4,c69,E4,s3,dIs,dI,okL,decL,DO,A0,toI,h1,h2,hb1]
  rw[TG (by rw[hb1];rfl)]
 |true=>
  cases hb2:indN q.ls nl 0 with
  |false=>
   simp only[eE,eC,eN,reduceCtorEq,Nat.reduceEqDiff,↓reduceIte,Nat.reduceAdd,Nat.reduceLeDiff,V8,Ve,V2,V4,c69,E4,s3,dIs,dI,okL,decL,DO,A0,toI,h1,h2,hb1,hb2]
   rw[TG (by rw[hb1,hb2];rfl)]
  |true=>
   rw[U9 hb1 hb2]
   obtain⟨k,cs,ls,n⟩:=q
   by_cases k1:k=1
   ·subst k1
    simp only[eE,eC,eN,reduceCtorEq,Nat.reduceEqDiff,↓reduceIte,Nat.reduceAdd,Nat.reduceLeDiff,Int.reduceEq,V8,V2,V4,V0,c69,E4,s3,dIs,dI,okL,decL,DO,A0,toI,h1,h2,hb1,hb2]
    exact(by rw[VS];simp only[V7,Vf];omega)
   by_cases k4:k=4
   ·subst k4
    simp only[eE,eC,eN,reduceCtorEq,Nat.reduceEqDiff,↓reduceIte,Nat.reduceAdd,Nat.reduceLeDiff,Int.reduceEq,V8,V2,V4,V0,c69,E4,s3,dIs,dI,okL,decL,DO,A0,toI,h1,h2,hb1,hb2]
    exact(by rw[VS];simp only[V7,Vf];omega)
   by_cases k2:k=2
   ·subst k2
    simp only[eE,eC,eN,reduceCtorEq,Nat.reduceEqDiff,↓reduceIte,Nat.reduceAdd,Nat.reduceLeDiff,Int.reduceEq,V8,V2,V4,V0,c69,E4,s3,dIs,dI,okL,decL,DO,A0,toI,h1,h2,hb1,hb2]
    exact(by rw[VS];simp only[V7,Vf];omega)
   by_cases k3:k=3
   ·subst k3
    simp only[eE,eC,eN,reduceCtorEq,Nat.reduceEqDiff,↓reduceIte,Nat.reduceAdd,Nat.reduceLeDiff,Int.reduceEq,V8,V2,V4,V0,c69,E4,s3,dIs,dI,okL,decL,DO,A0,toI,h1,h2,hb1,hb2]
    exact(by rw[VS];simp only[V7,Vf];omega)
   by_cases k5:k=5
   ·subst k5
    simp only[eE,eC,eN,reduceCtorEq,Nat.reduceEqDiff,↓reduceIte,Nat.reduceAdd,Nat.reduceLeDiff,Int.reduceEq,V8,V2,V4,V0,c69,E4,s3,dIs,dI,okL,decL,DO,A0,toI,h1,h2,hb1,hb2]
    exact(by rw[VS];simp only[V7,Vf];omega)
   by_cases k6:k=6
   ·subst k6
    simp only[eE,eC,eN,reduceCtorEq,Nat.reduceEqDiff,↓reduceIte,Nat.reduceAdd,Nat.reduceLeDiff,Int.reduceEq,V8,V2,V4,V0,c69,E4,s3,dIs,dI,okL,decL,DO,A0,toI,h1,h2,hb1,hb2]
    exact(by rw[VS];simp only[V7,Vf];omega)
   simp only[eE,eC,eN,reduceCtorEq,Nat.reduceEqDiff,↓reduceIte,Nat.reduceAdd,Nat.reduceLeDiff,V8,V2,V4,V0,c69,E4,s3,dIs,dI,okL,decL,DO,A0,toI,h1,h2,hb1,hb2,k1,k2,k3,k4,k5,k6]
end Go.AM
namespace Go.AM
open Go.Proofs Go.Lib
structure FewL(x:Lma):Prop where
 cs:few x.cs
 ls:few x.ls
 qs:few x.qs
 ps:few x.ps
 q:∀q∈x.qs,few q.cs/\few q.ls
 p:∀p∈x.ps,few p.ls
def Tckm:Tab:=tadd 66 (s1 dS any1 λs=>.bool (Ci s)) (tadd 67 (s2 dSs dI (λa n=>few a/\0<=n) λa n=>.bool (Ce a n.toNat)) (tadd 68 (s3 dIs dI dI (λa n _=>few a/\0<=n) λa n k=>.bool (indN a n.toNat k))
 (tadd 69 (s3 dQ dI dI (λq n m=>(few q.cs/\few q.ls)/\0<=n/\0<=m) λq n m=>.bool (Cr q n.toNat m.toNat)) tnil)))
theorem VA:AH Tryz.prog Tckm:=(((AH.tnil.add (q3 λq n m h=>by
 obtain⟨j,rfl⟩:∃j:Nat,n=j:=⟨n.toNat,by omega⟩
 obtain⟨k,rfl⟩:∃j:Nat,m=j:=⟨m.toNat,by omega⟩
 exact p69 q j k h.1.1 h.1.2)).add (q3 λa n k h=>by
 obtain⟨j,rfl⟩:∃j:Nat,n=j:=⟨n.toNat,by omega⟩
 exact p68 a j k h.1)).add (q2 λa n h=>by
 obtain⟨j,rfl⟩:∃j:Nat,n=j:=⟨n.toNat,by omega⟩
 exact p67 a j h.1)).add (q1 λs _=>p66 s)
theorem VB(a:List AVal)(H:AB):Tckm 66 a H=s1 dS any1 (λs=>.bool (Ci s)) a H:=rfl
theorem VC(a:List AVal)(H:AB):Tckm 67 a H=s2 dSs dI (λa n=>few a/\0<=n) (λa n=>.bool (Ce a n.toNat)) a H:=rfl
theorem I4(a:List AVal)(H:AB):Tckm 68 a H=s3 dIs dI dI (λa n _=>few a/\0<=n) (λa n k=>.bool (indN a n.toNat k)) a H:=rfl
theorem VD(a:List AVal)(H:AB):Tckm 69 a H=s3 dQ dI dI (λq n m=>(few q.cs/\few q.ls)/\0<=n/\0<=m) (λq n m=>.bool (Cr q n.toNat m.toNat)) a H:=rfl
theorem few1(c:Int):few [c]=True:=V3 (by show 1<_;decide)
def chk(x:Lma):Int:=if HH x=true then 0 else 300
def hd0(x:Lma):Bool:=Ci x.nm&&decide (1<=x.lv)&&decide (x.lv<=8)&&Ce x.cs 4&&Ce x.ls 3&&decide ((x.qs.length:Int)<=6)
def hd1(x:Lma):Bool:=hd0 x&&indN [x.c] x.cs.length 1&&indN [x.l] x.ls.length 1
def cdA(x:Lma)(i:Nat):Bool:=hd1 x&&(x.qs.take i).all λq=>Cr q x.cs.length x.ls.length
def prA(x:Lma)(i:Nat):Bool:=cdA x x.qs.length&&(x.ps.take i).all λp=>indN p.ls x.ls.length 1
theorem SS{x:Lma}{i:Nat}(h:i<x.qs.length):cdA x (i+1)=(cdA x i&&Cr x.qs[i] x.cs.length x.ls.length):=by
 unfold cdA;rw[MR h,Bool.and_assoc]
theorem ST{x:Lma}{i:Nat}(h:i<x.ps.length):prA x (i+1)=(prA x i&&indN x.ps[i].ls x.ls.length 1):=by
 unfold prA;rw[MR h,Bool.and_assoc]
theorem ind1(c:Int)(n:Nat):indN [c] n 1=difI [c] n:=by unfold indN;simp
theorem VE(x:Lma):(prA x x.ps.length&&indN (x.ps.map (·.c)) x.cs.length 0)=HH x:=by
 unfold prA cdA hd1 hd0 HH
 rw[ind1,ind1,VQ,VQ]
 have e1:indN (x.ps.map (·.c)) x.cs.length 0=difI (x.ps.map (·.c)) x.cs.length:=by unfold indN;simp
 have e2:(x.ps.all λp=>indN p.ls x.ls.length 1)=x.ps.all λp=>difI p.ls x.ls.length&&decide (1<=p.ls.length):=by
  congr 1;funext p;unfold indN;congr 1;simp;omega
 have e3:decide ((x.qs.length:Int)<=6)=decide (x.qs.length<=6):=by rw[decide_eq_decide];omega
 rw[e1,e2,e3]
abbrev Ae(x:Lma):List AVal:=[.str x.nm,.int .i64 x.lv,eSs x.cs,eSs x.ls,.sl (.none 4) (x.qs.map encQ),.sl (.none 2) (x.ps.map encM),.int .i64 x.c,.int .i64 x.l]
structure Vh where
 i:Nat
 H:AB
 n:Nat
structure Ih(len:Nat)(cs:List AVal)(v:Vh):Prop where
 hi:v.i<=len
 fr:AN v.H v.n
 b:hget v.H 0=some (.box cs)
 hn:1<=v.n
structure Ip(len:Nat)(cs:List AVal)(v:Vg):Prop where
 hi:v.i<=len
 fr:AN v.H v.n
 b:hget v.H 0=some (.box cs)
 hn:1<=v.n
 tok:tkG 1 1 v.H v.tk
 es:v.tk.esz=1\/v.i=0
abbrev hp10(H:AB)(n:Nat)(p:Prm):AB:=hset (hset H (n+2) (.box [.int .i64 0,.sl .nil []])) (n+2) (.box [.int .i64 p.c,eIs p.ls])
theorem p39(x:Lma)(hx:FewL x):Pur Tryz.prog 39 [encL x] (eI (chk x)):=by
 refine .mk ⟨Bb 0 x,trivial⟩ trivial (a39 (AE VA (AF ?_)))
 simp only[eE,eC,eN,reduceCtorEq,Nat.reduceEqDiff,↓reduceIte,Nat.reduceAdd,Nat.reduceLeDiff,Nat.reduceMul,Nat.reduceLT,Int.reduceLE,Int.reduceToNat,V2,V4,V0,c39,VB,VC,I4,s1,s2,s3,dS,dSs,dIs,dI,okL,decL,isS,toS,DO,toI,Cp,hx.cs,hx.ls,few1]
 refine AU (λv:Vh=>⟨[(1,true,.ptr 0 0),(3,true,.sl .nil []),(4,true,.bool (cdA x v.i)),(58,true,.sl (.none 4) (x.qs.map encQ)),(59,true,.int .i64 x.qs.length),(60,true,.int .i64 v.i)],v.H,v.n⟩) (Ih x.qs.length (Ae x)) (λv=>x.qs.length-v.i)
  ⟨0,hset hnil 0 (.box (Ae x)),2⟩ (by simp only[cdA,hd1,hd0,WB,List.all_nil,Bool.and_true];rfl) ⟨Vi _,AN.nil.hset (Vi 2) (Nat.zero_lt_succ 1),rfl,Nat.succ_le_succ (Vi 1)⟩ ?_
 rintro⟨i,H,n⟩ ⟨hi,hfr,hb,hn⟩
 simp only at hi hfr hb hn
 have z1:(0=n+2)=False:=Vd (by omega)
 have hqn:=hx.qs
 have hpn:=hx.ps
 by_cases hlt:i<x.qs.length
 ·have hg:=V5 hlt
  have e:=AJ (k:=i) (by omega)
  have hq:=hx.q _ (Vn hlt)
  generalize hqq:x.qs[i]=q at hg hq
  simp only[eE,eC,eN,reduceCtorEq,Nat.reduceEqDiff,↓reduceIte,Nat.reduceAdd,Nat.reduceLeDiff,Int.reduceEq,V1,V2,V4,V0,V6,lt_T hlt,hg,fr1 hfr,hb,VD,s3,dQ_ok,TF,dI,DO,toI,hq.1,hq.2,e]
  refine .mk ⟨i+1,hset (hset H (n+2) (.box [.int .i64 0,.sl .nil [],.sl .nil [],.int .i64 0])) (n+2) (.box [.int .i64 q.k,eIs q.cs,eIs q.ls,.int .i64 q.n]),n+4⟩ ?_ ⟨hlt,?_,?_,by simp only[];omega⟩ (by simp only[];omega)
  ·rw[SS hlt,hqq]
  ·exact(hfr.hset (m:=n+4) (by omega) (by omega)).hset (V9 (n+4)) (show n+2<n+4 by omega)
  ·simp only[]
   rw[AA _ _ _ _ (by omega),AA _ _ _ _ (by omega)];exact hb
 obtain rfl:i=x.qs.length:=by omega
 simp only[eE,eC,eN,Nat.reduceEqDiff,↓reduceIte,Nat.reduceAdd,Nat.reduceLeDiff,V0,lt_F hlt,hb]
 refine AU (λv:Vg=>⟨[(1,true,.ptr 0 0),(3,true,.sl v.tk ((x.ps.take v.i).map λp=>eI p.c)),(4,true,.bool (prA x v.i)),(77,true,.sl (.none 2) (x.ps.map encM)),(78,true,.int .i64 x.ps.length),(79,true,.int .i64 v.i)],v.H,v.n⟩) (Ip x.ps.length (Ae x)) (λv=>x.ps.length-v.i)
  ⟨0,.nil,H,n⟩ (by simp only[prA,WB,List.all_nil,Bool.and_true,VP];rfl) ⟨Vi _,hfr,hb,hn,.inl rfl,.inr rfl⟩ ?_
 clear hlt hb hfr hn hi z1
 rintro⟨i,tk,H,n⟩ ⟨hi,hfr,hb,hn,htk,hes⟩
 simp only at hi hfr hb hn htk hes
 by_cases hlt:i<x.ps.length
 ·have hg:=V5 hlt
  have e:=AJ (k:=i) (by omega)
  have hp:=hx.p _ (Vn hlt)
  generalize hqq:x.ps[i]=p at hg hp
  have z2:(0=n+2)=False:=Vd (by omega)
  have z3:(0=n+4+4)=False:=Vd (by omega)
  have hf2:AN (hp10 H n p) (n+4):=(hfr.hset (m:=n+4) (by omega) (by omega)).hset (V9 (n+4)) (by omega)
  have ht2:tkG 1 1 (hp10 H n p) tk:=(htk.set (.inr (.inr (hfr _ (by omega))))).set (.inr (.inl ⟨_,AC ..⟩))
  have hb2:hget (hp10 H n p) 0=some (.box (Ae x)):=by
   rw[AA _ _ _ _ (by omega),AA _ _ _ _ (by omega)];exact hb
  have hb3:hget (hp10 H n p) (n+2)=some (.box [.int .i64 p.c,eIs p.ls]):=AC ..
  have k0:hget (AW (hp10 H n p) tk) 0=some (.box (Ae x)):=by rw[Ai ht2 (.inl (by omega))];exact hb2
  have k2:hget (AW (hp10 H n p) tk) (n+2)=some (.box [.int .i64 p.c,eIs p.ls]):=by rw[Ai ht2 (.inr ⟨_,hb3⟩)];exact hb3
  have q1:Bh (hp10 H n p) 1 tk=True:=V3 ht2.app
  have q2:(i<=35184372088831)=True:=V3 (by omega)
  have q3:Al (i+1) 8=True:=V3 (AX (by omega) (by decide))
  have ln:((x.ps.take i).map λp=>eI p.c).length=i:=by simp;omega
  have z4:(n+4+4=0)=False:=Vd (by omega)
  have z5:(n+8=n+2)=False:=Vd (by omega)
  have z6:(n+8=0)=False:=Vd (by omega)
  have z7:(n+2=0)=False:=Vd (by omega)
  have h8:=hfr (n+8) (by omega)
  simp only[eE,eC,eN,reduceCtorEq,Nat.reduceEqDiff,↓reduceIte,Nat.reduceAdd,Nat.reduceLeDiff,Nat.reduceMul,Nat.reduceLT,Int.reduceEq,V1,V2,V4,V0,V6,lt_T hlt,hg,fr1 hfr,z4,z5,q1,q2,q3,ln,k0,k2,I4,s3,dIs,dI,okL,decL,DO,A0,toI,hp,e,natE3]
  refine .mk ⟨i+1,.own (n+8) 1,hset (AW (hp10 H n p) tk) (n+8) .tok,n+10⟩ (by rw[ST hlt,map_take hlt,hqq]) ⟨hlt,(Ak ht2 hf2).hset (m:=n+10) (by omega) (by omega),?_,by simp only[];omega,.inr (.inr ⟨n+8,rfl,by omega,AC ..⟩),.inl rfl⟩ (by simp only[];omega)
  simp only[]
  rw[AA _ _ _ _ (by omega)];exact k0
 obtain rfl:i=x.ps.length:=by omega
 have hc:x.ps.map (λp=>eI p.c)=(x.ps.map (·.c)).map eI:=by rw[Xj];rfl
 have hes':(tk.esz=1\/(x.ps.map (·.c)).map eI=[])=True:=V3 (hes.imp id λe=>by rw[WA.1 e];rfl)
 have hpl:few (x.ps.map (·.c))=True:=V3 (by show(x.ps.map _).length<_;rw[V0];exact hpn)
 have hfin:=VE x
 cases h1:prA x x.ps.length with
 |false=>
  have hl:HH x=false:=by rw[<-hfin,h1];rfl
  simp only[eE,eC,eN,reduceCtorEq,Nat.reduceEqDiff,↓reduceIte,Nat.reduceAdd,V8,Ve,lt_F hlt]
  unfold chk;rw[Vb (by rw[hl];decide)]
 |true=>
  rw[h1,WU]at hfin
  cases hl:HH x with
  |true=>
   simp only[eE,eC,eN,Nat.reduceEqDiff,↓reduceIte,Nat.reduceAdd,Nat.reduceLeDiff,V8,V2,V4,V0,lt_F hlt,hb,VQ,hc,I4,s3,dIs,dI,okL,decL,DO,A0,toI,hes',hpl,hfin.trans hl]
   unfold chk;rw[Vk hl]
  |false=>
   simp only[eE,eC,eN,Nat.reduceEqDiff,↓reduceIte,Nat.reduceAdd,Nat.reduceLeDiff,V8,Ve,V2,V4,V0,lt_F hlt,hb,VQ,hc,I4,s3,dIs,dI,okL,decL,DO,A0,toI,hes',hpl,hfin.trans hl]
   unfold chk;rw[Vb (by rw[hl];decide)]
end Go.AM
namespace Go.AM
open Go.Proofs Go.Lib
end Go.AM
