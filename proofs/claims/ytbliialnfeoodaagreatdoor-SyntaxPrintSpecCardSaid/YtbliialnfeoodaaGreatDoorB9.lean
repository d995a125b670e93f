/-
  Declarations compared · Declarations compared: regions, rules, all of it · Declarations: what a step of the parser brings about · Declarations: the parser's small steps · Declarations: the parser's lists · Declarations: the parser's steps that write a rule · The library: words sorted · The library: the keys of a map, collected and sorted · Declarations: the parser's rules · Declarations: the parser's clues and regions · Declarations: the parser's declaration · Declarations: the parser's declaration · Declarations: Parse · Declarations: the writer's tokens · Declarations: the writer's limits, rules, clues · Declarations: the writer's declaration · Declarations: without what a later layer determines · Declarations: Print.
  Conditions: none beyond those of its parts.
-/
import Derived.Test.YtbliialnfeoodaaGreatDoorB8
import Derived.Test.YtbliialnfeoodaaGreatDoorB5

section
set_option maxRecDepth 20000
set_option linter.all false
namespace Go.AM
open Go.Proofs Go.Lib
theorem Ev {a b:Bs}:scmp .neq a b= !decide (a=b):=rfl
theorem Iy {a b:Bs}:scmp .eql a b=decide (a=b):=rfl
theorem TR {a b:DSym}:a=b↔a.nm=b.nm∧a.v=b.v:=by cases a;cases b;simp only[DSym.mk.injEq]
theorem TS {a b:DClu}:a=b↔a.nm=b.nm∧a.on=b.on∧a.fam=b.fam∧a.ty=b.ty∧a.lo=b.lo∧a.hi=b.hi:=by cases a;cases b;simp only[DClu.mk.injEq]
theorem TT {a b:DReg}:a=b↔a.nm=b.nm∧a.ls=b.ls:=by cases a;cases b;simp only[DReg.mk.injEq]
theorem Lo (s t:DSym):ceqs [.str s.nm,.int .i64 s.v] [.str t.nm,.int .i64 t.v]=decide (s=t):=by
 rw[Bool.eq_iff_iff,decide_eq_true_eq,TR];simp [ceqs,ceq]
theorem Lp (s t:DClu):ceqs [.str s.nm,.str s.on,.int .i64 s.fam,.int .i64 s.ty,.int .i64 s.lo,.int .i64 s.hi] [.str t.nm,.str t.on,.int .i64 t.fam,.int .i64 t.ty,.int .i64 t.lo,.int .i64 t.hi]=decide (s=t):=by
 rw[Bool.eq_iff_iff,decide_eq_true_eq,TS];simp [ceqs,ceq]
theorem HI {p:Prop} [Decidable p] (h:p):decide p=true:=decide_eq_true h
theorem G3 {p:Prop} [Decidable p] (h:¬p):decide p=false:=decide_eq_false h
theorem p36 (a b:List Int) (hb:few b):Pur Tryz.prog 36 [eIs a,eIs b] (.bool (decide (a=b))):=by
 refine .mk ⟨Bn 0 a,Bn 0 b,trivial⟩ trivial (a36 (AF AI.tnil (AE ?_)))
 by_cases hl:a.length=b.length
 case neg=>
  simp only[eE,eC,eN,reduceCtorEq,Nat.reduceEqDiff,↓reduceIte,Nat.reduceAdd,Bool.not_false,List.length_map,c36,Gk hl,Bool.not_false]
  exact(decide_eq_false fun e=>hl (by rw[e])).symm
 simp only[eE,eC,eN,reduceCtorEq,Nat.reduceEqDiff,↓reduceIte,Nat.reduceAdd,Bool.not_true,List.length_map,c36,Gl hl]
 refine AW (fun i:Nat=>⟨[(0,true,eIs a),(1,true,eIs b),(12,true,.int .i64 a.length),(13,true,.int .i64 i)],hnil,0⟩) (fun i=>i≤a.length∧∀j,j<i→a[j]?=b[j]?) (fun i=>a.length-i) 0 rfl ⟨Nat.zero_le _,fun j hj=>by omega⟩ ?_
 rintro i ⟨hi,hall⟩
 by_cases hlt:i<a.length
 case neg=>
  simp only[eE,eC,eN,reduceCtorEq,Nat.reduceEqDiff,↓reduceIte,lt_F hlt]
  exact(decide_eq_true (DY hl fun j hj=>hall j (by omega))).symm
 have hltb:i<b.length:=by omega
 have hga:=List.getElem?_eq_getElem hlt
 have hgb:=List.getElem?_eq_getElem hltb
 have e:=AO (k:=i) (by have:b.length<1000000000:=hb;omega)
 by_cases hs:a[i]=b[i]
 ·simp only[eE,eC,eN,reduceCtorEq,Nat.reduceEqDiff,↓reduceIte,Int.reduceEq,Bool.not_true,Option.getD_some,Int.toNat_natCast,Int.natCast_nonneg,List.length_map,List.getElem?_map,lt_T hlt,lt_T hltb,hga,hgb,e,HI hs]
  refine .mk (i+1) rfl ⟨hlt,fun j h=>?_⟩ (by omega)
  by_cases q:j=i
  ·subst q;rw[hga,hgb,hs]
  ·exact hall j (by omega)
 ·simp only[eE,eC,eN,reduceCtorEq,Nat.reduceEqDiff,↓reduceIte,Bool.not_false,Option.getD_some,Int.toNat_natCast,Int.natCast_nonneg,List.length_map,List.getElem?_map,lt_T hlt,lt_T hltb,hga,hgb,G3 hs]
  exact(decide_eq_false fun q=>hs (by simp [q])).symm
theorem p38 (a b:List Bs) (hb:few b):Pur Tryz.prog 38 [eSs a,eSs b] (.bool (decide (a=b))):=by
 refine .mk ⟨Bo 0 a,Bo 0 b,trivial⟩ trivial (a38 (AF AI.tnil (AE ?_)))
 by_cases hl:a.length=b.length
 case neg=>
  simp only[eE,eC,eN,reduceCtorEq,Nat.reduceEqDiff,↓reduceIte,Nat.reduceAdd,Bool.not_false,List.length_map,c38,Gk hl,Bool.not_false]
  exact(decide_eq_false fun e=>hl (by rw[e])).symm
 simp only[eE,eC,eN,reduceCtorEq,Nat.reduceEqDiff,↓reduceIte,Nat.reduceAdd,Bool.not_true,List.length_map,c38,Gl hl]
 refine AW (fun i:Nat=>⟨[(0,true,eSs a),(1,true,eSs b),(12,true,.int .i64 a.length),(13,true,.int .i64 i)],hnil,0⟩) (fun i=>i≤a.length∧∀j,j<i→a[j]?=b[j]?) (fun i=>a.length-i) 0 rfl ⟨Nat.zero_le _,fun j hj=>by omega⟩ ?_
 rintro i ⟨hi,hall⟩
 by_cases hlt:i<a.length
 case neg=>
  simp only[eE,eC,eN,reduceCtorEq,Nat.reduceEqDiff,↓reduceIte,lt_F hlt]
  exact(decide_eq_true (DY hl fun j hj=>hall j (by omega))).symm
 have hltb:i<b.length:=by omega
 have hga:=List.getElem?_eq_getElem hlt
 have hgb:=List.getElem?_eq_getElem hltb
 have e:=AO (k:=i) (by have:b.length<1000000000:=hb;omega)
 by_cases hs:a[i]=b[i]
 ·simp only[eE,eC,eN,reduceCtorEq,Nat.reduceEqDiff,↓reduceIte,Int.reduceEq,Bool.not_true,Option.getD_some,Int.toNat_natCast,Int.natCast_nonneg,List.length_map,List.getElem?_map,lt_T hlt,lt_T hltb,hga,hgb,e,Ev,HI hs]
  refine .mk (i+1) rfl ⟨hlt,fun j h=>?_⟩ (by omega)
  by_cases q:j=i
  ·subst q;rw[hga,hgb,hs]
  ·exact hall j (by omega)
 ·simp only[eE,eC,eN,reduceCtorEq,Nat.reduceEqDiff,↓reduceIte,Bool.not_false,Option.getD_some,Int.toNat_natCast,Int.natCast_nonneg,List.length_map,List.getElem?_map,lt_T hlt,lt_T hltb,hga,hgb,Ev,G3 hs]
  exact(decide_eq_false fun q=>hs (by simp [q])).symm
theorem p39 (a b:List DSym) (hb:few b):Pur Tryz.prog 39 [eSys a,eSys b] (.bool (decide (a=b))):=by
 refine .mk ⟨Fc 0 a,Fc 0 b,trivial⟩ trivial (a39 (AF AI.tnil (AE ?_)))
 by_cases hl:a.length=b.length
 case neg=>
  simp only[eE,eC,eN,reduceCtorEq,Nat.reduceEqDiff,↓reduceIte,Nat.reduceAdd,Bool.not_false,List.length_map,c39,Gk hl,Bool.not_false]
  exact(decide_eq_false fun e=>hl (by rw[e])).symm
 simp only[eE,eC,eN,reduceCtorEq,Nat.reduceEqDiff,↓reduceIte,Nat.reduceAdd,Bool.not_true,List.length_map,c39,Gl hl]
 refine AW (fun i:Nat=>⟨[(0,true,eSys a),(1,true,eSys b),(12,true,.int .i64 a.length),(13,true,.int .i64 i)],hnil,0⟩) (fun i=>i≤a.length∧∀j,j<i→a[j]?=b[j]?) (fun i=>a.length-i) 0 rfl ⟨Nat.zero_le _,fun j hj=>by omega⟩ ?_
 rintro i ⟨hi,hall⟩
 by_cases hlt:i<a.length
 case neg=>
  simp only[eE,eC,eN,reduceCtorEq,Nat.reduceEqDiff,↓reduceIte,lt_F hlt]
  exact(decide_eq_true (DY hl fun j hj=>hall j (by omega))).symm
 have hltb:i<b.length:=by omega
 have hga:=List.getElem?_eq_getElem hlt
 have hgb:=List.getElem?_eq_getElem hltb
 have e:=AO (k:=i) (by have:b.length<1000000000:=hb;omega)
 by_cases hs:a[i]=b[i]
 ·simp only[eE,eC,eN,reduceCtorEq,Nat.reduceEqDiff,↓reduceIte,Nat.reduceAdd,Int.reduceEq,Bool.not_true,Option.getD_some,Int.toNat_natCast,Int.natCast_nonneg,List.length_map,List.getElem?_map,lt_T hlt,lt_T hltb,hga,hgb,e,Lo,cfit,HI hs]
  refine .mk (i+1) rfl ⟨hlt,fun j h=>?_⟩ (by omega)
  by_cases q:j=i
  ·subst q;rw[hga,hgb,hs]
  ·exact hall j (by omega)
 ·simp only[eE,eC,eN,reduceCtorEq,Nat.reduceEqDiff,↓reduceIte,Nat.reduceAdd,Bool.not_false,Option.getD_some,Int.toNat_natCast,Int.natCast_nonneg,List.length_map,List.getElem?_map,lt_T hlt,lt_T hltb,hga,hgb,Lo,cfit,G3 hs]
  exact(decide_eq_false fun q=>hs (by simp [q])).symm
theorem p41 (a b:List DClu) (hb:few b):Pur Tryz.prog 41 [eCls a,eCls b] (.bool (decide (a=b))):=by
 refine .mk ⟨Fd 0 a,Fd 0 b,trivial⟩ trivial (a41 (AF AI.tnil (AE ?_)))
 by_cases hl:a.length=b.length
 case neg=>
  simp only[eE,eC,eN,reduceCtorEq,Nat.reduceEqDiff,↓reduceIte,Nat.reduceAdd,Bool.not_false,List.length_map,c41,Gk hl,Bool.not_false]
  exact(decide_eq_false fun e=>hl (by rw[e])).symm
 simp only[eE,eC,eN,reduceCtorEq,Nat.reduceEqDiff,↓reduceIte,Nat.reduceAdd,Bool.not_true,List.length_map,c41,Gl hl]
 refine AW (fun i:Nat=>⟨[(0,true,eCls a),(1,true,eCls b),(12,true,.int .i64 a.length),(13,true,.int .i64 i)],hnil,0⟩) (fun i=>i≤a.length∧∀j,j<i→a[j]?=b[j]?) (fun i=>a.length-i) 0 rfl ⟨Nat.zero_le _,fun j hj=>by omega⟩ ?_
 rintro i ⟨hi,hall⟩
 by_cases hlt:i<a.length
 case neg=>
  simp only[eE,eC,eN,reduceCtorEq,Nat.reduceEqDiff,↓reduceIte,lt_F hlt]
  exact(decide_eq_true (DY hl fun j hj=>hall j (by omega))).symm
 have hltb:i<b.length:=by omega
 have hga:=List.getElem?_eq_getElem hlt
 have hgb:=List.getElem?_eq_getElem hltb
 have e:=AO (k:=i) (by have:b.length<1000000000:=hb;omega)
 by_cases hs:a[i]=b[i]
 ·simp only[eE,eC,eN,reduceCtorEq,Nat.reduceEqDiff,↓reduceIte,Nat.reduceAdd,Int.reduceEq,Bool.not_true,Option.getD_some,Int.toNat_natCast,Int.natCast_nonneg,List.length_map,List.getElem?_map,lt_T hlt,lt_T hltb,hga,hgb,e,Lp,cfit,HI hs]
  refine .mk (i+1) rfl ⟨hlt,fun j h=>?_⟩ (by omega)
  by_cases q:j=i
  ·subst q;rw[hga,hgb,hs]
  ·exact hall j (by omega)
 ·simp only[eE,eC,eN,reduceCtorEq,Nat.reduceEqDiff,↓reduceIte,Nat.reduceAdd,Bool.not_false,Option.getD_some,Int.toNat_natCast,Int.natCast_nonneg,List.length_map,List.getElem?_map,lt_T hlt,lt_T hltb,hga,hgb,Lp,cfit,G3 hs]
  exact(decide_eq_false fun q=>hs (by simp [q])).symm
end Go.AM
end
section
set_option maxRecDepth 20000
set_option linter.all false
namespace Go.AM
open Go.Proofs Go.Lib
def s2f {α β:Type} (cl:Nat) (A:Dc α) (B:Dc β) (c:α→β→Prop) (f:α→β→AVal):List AVal→AD→Prop×AVal:=fun a _=>match a with
 |[x,y,.fn (.func k) [] []]=>(k=cl∧A.ok x∧B.ok y∧c (A.dec x) (B.dec y),f (A.dec x) (B.dec y))
 |_=>(False,.tup [])
theorem q2f {α β:Type} {cl:Nat} {A:Dc α} {B:Dc β} {c:α→β→Prop} {f:α→β→AVal} {fid:FuncId} (h:∀x y,c x y→Pur Tryz.prog fid [A.enc x,B.enc y,.fn (.func cl) [] []] (f x y)):∀args H n,(s2f cl A B c f args H).1→Bw Tryz.prog fid args H n (s2f cl A B c f args H).2:=by
 intro args H n hh
 unfold s2f at hh⊢
 split at hh
 ·obtain⟨rfl,h1,h2,h3⟩:=hh
  refine AP.args ((h _ _ h3).quiet H n) ?_
  rintro g vs ⟨v,r,rfl,k1,w,r',rfl,k2,k3⟩
  exact⟨v,_,rfl,A.wk _ h1 _ _ k1,w,_,rfl,B.wk _ h2 _ _ k2,k3⟩
 ·exact hh.elim
theorem Ov (x:List (List Int)):dLl.ok (eLl x)=True:=Hz Gt (.inl rfl)
theorem Kn (x:List (List Int)):dLl.dec (eLl x)=x:=Fe Gt
theorem TU (x:List DSym):dSys.ok (eSys x)=True:=Hz Gu (.inl rfl)
theorem QP (x:List DSym):dSys.dec (eSys x)=x:=Fe Gu
theorem TV (x:List DReg):dRgs.ok (eRgs x)=True:=Hz D7 (.inl rfl)
theorem QR (x:List DReg):dRgs.dec (eRgs x)=x:=Fe D7
theorem TW (x:List DClu):dCls.ok (eCls x)=True:=Hz FJ (.inl rfl)
theorem QS (x:List DClu):dCls.dec (eCls x)=x:=Fe FJ
theorem TX (x:List DRul):dRus.ok (eRus x)=True:=Hz D8 (.inl rfl)
theorem QU (x:List DRul):dRus.dec (eRus x)=x:=Fe D8
abbrev Mr (l:List (List Int)):Prop:=few l∧∀x∈l,few x
abbrev Ko (r:DReg):Prop:=Mr r.ls
abbrev G4 (r:DRul):Prop:=few r.ns∧few r.os
structure FewD (d:Dcl):Prop where
 ho:few d.holes
 sy:few d.syms
 rg:few d.regs
 rgs:∀r∈d.regs,Ko r
 cl:few d.clus
 ru:few d.ruls
 rus:∀r∈d.ruls,G4 r
theorem Ow {a b:DRul}:a=b↔(((((a.ns=b.ns∧a.os=b.os)∧a.nm=b.nm)∧a.on=b.on)∧a.byN=b.byN)∧a.kind=b.kind∧a.fam=b.fam∧a.set=b.set∧a.oth=b.oth∧a.op=b.op∧a.n=b.n∧a.clue=b.clue):=by
 cases a;cases b;simp only[DRul.mk.injEq]
 constructor
 ·rintro⟨a,b,c,d,e,f,g,h,i,j,k,l⟩;exact⟨⟨⟨⟨⟨e,f⟩,a⟩,b⟩,k⟩,c,d,g,h,i,j,l⟩
 ·rintro⟨⟨⟨⟨⟨e,f⟩,a⟩,b⟩,k⟩,c,d,g,h,i,j,l⟩;exact⟨a,b,c,d,e,f,g,h,i,j,k,l⟩
theorem ceq_7 (a b c d e f g a' b' c' d' e' f' g':Int):ceqs [.int .i64 a,.int .i64 b,.int .i64 c,.int .i64 d,.int .i64 e,.int .i64 f,.int .i64 g] [.int .i64 a',.int .i64 b',.int .i64 c',.int .i64 d',.int .i64 e',.int .i64 f',.int .i64 g']=decide (a=a'∧b=b'∧c=c'∧d=d'∧e=e'∧f=f'∧g=g'):=by
 rw[Bool.eq_iff_iff,decide_eq_true_eq];simp [ceqs,ceq]
theorem TY {a b:Dcl}:a=b↔((((((((((a.nm=b.nm∧a.ver=b.ver)∧a.sh=b.sh)∧a.w=b.w)∧a.h=b.h)∧a.holes=b.holes)∧a.syms=b.syms)∧a.regs=b.regs)∧a.clus=b.clus)∧a.ruls=b.ruls)):=by
 cases a;cases b;simp only[Dcl.mk.injEq]
 constructor
 ·rintro⟨a,b,c,d,e,f,g,h,i,j⟩;exact⟨⟨⟨⟨⟨⟨⟨⟨⟨a,b⟩,c⟩,d⟩,e⟩,f⟩,g⟩,h⟩,i⟩,j⟩
 ·rintro⟨⟨⟨⟨⟨⟨⟨⟨⟨a,b⟩,c⟩,d⟩,e⟩,f⟩,g⟩,h⟩,i⟩,j⟩;exact⟨a,b,c,d,e,f,g,h,i,j⟩
def Tci:Tab:=tadd 36 (s2 dIs dIs (fun _ b=>few b) fun a b=>.bool (decide (a=b))) tnil
theorem Tci_ok:AI Tryz.prog Tci:=AI.tnil.add (q2 p36)
theorem Tci_e (a:List AVal) (H:AD):Tci 36 a H=(s2 dIs dIs (fun _ b=>few b) fun a b=>.bool (decide (a=b))) a H:=rfl
theorem p35 (a b:List (List Int)) (hb:few b) (hx:∀x∈b,few x):Pur Tryz.prog 35 [eLl a,eLl b,.fn (.func 36) [] []] (.bool (decide (a=b))):=by
 refine .mk ⟨Ci 0 a,Ci 0 b,by simp [AVal.under,unders],trivial⟩ trivial (a35 (AF Tci_ok (AE ?_)))
 by_cases hl:a.length=b.length
 case neg=>
  simp only[eE,eC,eN,reduceCtorEq,Nat.reduceEqDiff,↓reduceIte,Nat.reduceAdd,Bool.not_false,List.length_map,c35,Gk hl,Bool.not_false]
  exact(decide_eq_false fun e=>hl (by rw[e])).symm
 simp only[eE,eC,eN,reduceCtorEq,Nat.reduceEqDiff,↓reduceIte,Nat.reduceAdd,Bool.not_true,List.length_map,c35,Gl hl]
 refine AW (fun i:Nat=>⟨[(1,true,eLl b),(2,true,.fn (.func 36) [] []),(15,true,eLl a),(16,true,.int .i64 a.length),(17,true,.int .i64 i)],hnil,0⟩) (fun i=>i≤a.length∧∀j,j<i→a[j]?=b[j]?) (fun i=>a.length-i) 0 rfl ⟨Nat.zero_le _,fun j hj=>by omega⟩ ?_
 rintro i ⟨hi,hall⟩
 by_cases hlt:i<a.length
 case neg=>
  simp only[eE,eC,eN,Nat.reduceEqDiff,↓reduceIte,lt_F hlt]
  exact(decide_eq_true (DY hl fun j hj=>hall j (by omega))).symm
 have hltb:i<b.length:=by omega
 have hga:=List.getElem?_eq_getElem hlt
 have hgb:=List.getElem?_eq_getElem hltb
 have e:=AO (k:=i) (by have:b.length<1000000000:=hb;omega)
 have hf:=hx _ (List.getElem_mem hltb)
 by_cases hs:a[i]=b[i]
 ·simp only[eE,eC,eN,Nat.reduceEqDiff,↓reduceIte,Int.reduceEq,Bool.not_true,Option.getD_some,Int.toNat_natCast,Int.natCast_nonneg,List.length_map,List.getElem?_map,lt_T hlt,lt_T hltb,hga,hgb,e,Tci_e,s2,B1,BS,eq_true hf,HI hs]
  refine lpN.drop (i+1) rfl rfl rfl rfl Ab.nil (fun _ _ h=>by cases h) ⟨Ci 0 b,by simp [AVal.under,unders],Ci 0 a,trivial,trivial,trivial⟩ ⟨hlt,fun j h=>?_⟩ (by omega)
  by_cases q:j=i
  ·subst q;rw[hga,hgb,hs]
  ·exact hall j (by omega)
 ·simp only[eE,eC,eN,Nat.reduceEqDiff,↓reduceIte,Bool.not_false,Option.getD_some,Int.toNat_natCast,Int.natCast_nonneg,List.length_map,List.getElem?_map,lt_T hlt,lt_T hltb,hga,hgb,Tci_e,s2,B1,BS,eq_true hf,G3 hs]
  exact(decide_eq_false fun q=>hs (by simp [q])).symm
def Tcl:Tab:=tadd 35 (s2f 36 dLl dLl (fun _ b=>Mr b) fun a b=>.bool (decide (a=b))) tnil
theorem Tcl_ok:AI Tryz.prog Tcl:=AI.tnil.add (q2f fun a b h=>p35 a b h.1 h.2)
theorem Tcl_e (a:List AVal) (H:AD):Tcl 35 a H=(s2f 36 dLl dLl (fun _ b=>Mr b) fun a b=>.bool (decide (a=b))) a H:=rfl
theorem p34 (a b:DReg) (hb:Ko b):Pur Tryz.prog 34 [DF a,DF b] (.bool (decide (a=b))):=by
 refine .mk ⟨Ck 0 a,Ck 0 b,trivial⟩ trivial (a34 (AF Tcl_ok (AE ?_)))
 simp only[eE,eC,eN,reduceCtorEq,Nat.reduceEqDiff,↓reduceIte,Nat.reduceAdd,Nat.reduceLeDiff,c34,Iy,Tcl_e,s2f,Ov,Kn,eq_true hb]
 rw[Bool.eq_iff_iff]
 simp only[Bool.and_eq_true,decide_eq_true_eq,TT]
def Tcr:Tab:=tadd 34 (s2 dRg dRg (fun _ b=>Ko b) fun a b=>.bool (decide (a=b))) tnil
theorem Tcr_ok:AI Tryz.prog Tcr:=AI.tnil.add (q2 p34)
theorem Tcr_e (a:List AVal) (H:AD):Tcr 34 a H=(s2 dRg dRg (fun _ b=>Ko b) fun a b=>.bool (decide (a=b))) a H:=rfl
theorem p40 (a b:List DReg) (hb:few b) (hx:∀x∈b,Ko x):Pur Tryz.prog 40 [eRgs a,eRgs b,.fn (.func 34) [] []] (.bool (decide (a=b))):=by
 refine .mk ⟨DG 0 a,DG 0 b,by simp [AVal.under,unders],trivial⟩ trivial (a40 (AF Tcr_ok (AE ?_)))
 by_cases hl:a.length=b.length
 case neg=>
  simp only[eE,eC,eN,reduceCtorEq,Nat.reduceEqDiff,↓reduceIte,Nat.reduceAdd,Bool.not_false,List.length_map,c40,Gk hl,Bool.not_false]
  exact(decide_eq_false fun e=>hl (by rw[e])).symm
 simp only[eE,eC,eN,reduceCtorEq,Nat.reduceEqDiff,↓reduceIte,Nat.reduceAdd,Bool.not_true,List.length_map,c40,Gl hl]
 refine AW (fun i:Nat=>⟨[(1,true,eRgs b),(2,true,.fn (.func 34) [] []),(15,true,eRgs a),(16,true,.int .i64 a.length),(17,true,.int .i64 i)],hnil,0⟩) (fun i=>i≤a.length∧∀j,j<i→a[j]?=b[j]?) (fun i=>a.length-i) 0 rfl ⟨Nat.zero_le _,fun j hj=>by omega⟩ ?_
 rintro i ⟨hi,hall⟩
 by_cases hlt:i<a.length
 case neg=>
  simp only[eE,eC,eN,Nat.reduceEqDiff,↓reduceIte,lt_F hlt]
  exact(decide_eq_true (DY hl fun j hj=>hall j (by omega))).symm
 have hltb:i<b.length:=by omega
 have hga:=List.getElem?_eq_getElem hlt
 have hgb:=List.getElem?_eq_getElem hltb
 have e:=AO (k:=i) (by have:b.length<1000000000:=hb;omega)
 have hf:=hx _ (List.getElem_mem hltb)
 by_cases hs:a[i]=b[i]
 ·simp only[eE,eC,eN,Nat.reduceEqDiff,↓reduceIte,Nat.reduceAdd,Int.reduceEq,Bool.not_true,Option.getD_some,Int.toNat_natCast,Int.natCast_nonneg,List.length_map,List.getElem?_map,lt_T hlt,lt_T hltb,hga,hgb,e,Tcr_e,s2,RM,Oi,eq_true hf,HI hs]
  refine lpN.drop (i+1) rfl rfl rfl rfl Ab.nil (fun _ _ h=>by cases h) ⟨DG 0 b,by simp [AVal.under,unders],DG 0 a,trivial,trivial,trivial⟩ ⟨hlt,fun j h=>?_⟩ (by omega)
  by_cases q:j=i
  ·subst q;rw[hga,hgb,hs]
  ·exact hall j (by omega)
 ·simp only[eE,eC,eN,Nat.reduceEqDiff,↓reduceIte,Nat.reduceAdd,Bool.not_false,Option.getD_some,Int.toNat_natCast,Int.natCast_nonneg,List.length_map,List.getElem?_map,lt_T hlt,lt_T hltb,hga,hgb,Tcr_e,s2,RM,Oi,eq_true hf,G3 hs]
  exact(decide_eq_false fun q=>hs (by simp [q])).symm
def Tcs:Tab:=tadd 38 (s2 dSs dSs (fun _ b=>few b) fun a b=>.bool (decide (a=b))) tnil
theorem Tcs_ok:AI Tryz.prog Tcs:=AI.tnil.add (q2 p38)
theorem Tcs_e (a:List AVal) (H:AD):Tcs 38 a H=(s2 dSs dSs (fun _ b=>few b) fun a b=>.bool (decide (a=b))) a H:=rfl
theorem p37 (a b:DRul) (hb:G4 b):Pur Tryz.prog 37 [Am a,Am b] (.bool (decide (a=b))):=by
 refine .mk ⟨Ah 0 a,Ah 0 b,trivial⟩ trivial (a37 (AF Tcs_ok (AE ?_)))
 have h1:=hb.1
 have h2:=hb.2
 simp only[eE,eC,eN,reduceCtorEq,Nat.reduceEqDiff,↓reduceIte,Nat.reduceAdd,Nat.reduceLeDiff,c37,Iy,Tcs_e,s2,Gw,Er,eq_true h1,eq_true h2,ceq_7,cfit]
 rw[Bool.eq_iff_iff]
 simp only[Bool.and_eq_true,decide_eq_true_eq,Ow]
def Tcu:Tab:=tadd 37 (s2 dRu dRu (fun _ b=>G4 b) fun a b=>.bool (decide (a=b))) tnil
theorem Tcu_ok:AI Tryz.prog Tcu:=AI.tnil.add (q2 p37)
theorem Tcu_e (a:List AVal) (H:AD):Tcu 37 a H=(s2 dRu dRu (fun _ b=>G4 b) fun a b=>.bool (decide (a=b))) a H:=rfl
theorem p42 (a b:List DRul) (hb:few b) (hx:∀x∈b,G4 x):Pur Tryz.prog 42 [eRus a,eRus b,.fn (.func 37) [] []] (.bool (decide (a=b))):=by
 refine .mk ⟨DH 0 a,DH 0 b,by simp [AVal.under,unders],trivial⟩ trivial (a42 (AF Tcu_ok (AE ?_)))
 by_cases hl:a.length=b.length
 case neg=>
  simp only[eE,eC,eN,reduceCtorEq,Nat.reduceEqDiff,↓reduceIte,Nat.reduceAdd,Bool.not_false,List.length_map,c42,Gk hl,Bool.not_false]
  exact(decide_eq_false fun e=>hl (by rw[e])).symm
 simp only[eE,eC,eN,reduceCtorEq,Nat.reduceEqDiff,↓reduceIte,Nat.reduceAdd,Bool.not_true,List.length_map,c42,Gl hl]
 refine AW (fun i:Nat=>⟨[(1,true,eRus b),(2,true,.fn (.func 37) [] []),(15,true,eRus a),(16,true,.int .i64 a.length),(17,true,.int .i64 i)],hnil,0⟩) (fun i=>i≤a.length∧∀j,j<i→a[j]?=b[j]?) (fun i=>a.length-i) 0 rfl ⟨Nat.zero_le _,fun j hj=>by omega⟩ ?_
 rintro i ⟨hi,hall⟩
 by_cases hlt:i<a.length
 case neg=>
  simp only[eE,eC,eN,Nat.reduceEqDiff,↓reduceIte,lt_F hlt]
  exact(decide_eq_true (DY hl fun j hj=>hall j (by omega))).symm
 have hltb:i<b.length:=by omega
 have hga:=List.getElem?_eq_getElem hlt
 have hgb:=List.getElem?_eq_getElem hltb
 have e:=AO (k:=i) (by have:b.length<1000000000:=hb;omega)
 have hf:=hx _ (List.getElem_mem hltb)
 by_cases hs:a[i]=b[i]
 ·simp only[eE,eC,eN,Nat.reduceEqDiff,↓reduceIte,Nat.reduceAdd,Int.reduceEq,Bool.not_true,Option.getD_some,Int.toNat_natCast,Int.natCast_nonneg,List.length_map,List.getElem?_map,lt_T hlt,lt_T hltb,hga,hgb,e,Tcu_e,s2,Jq,Gv,eq_true hf,HI hs]
  refine lpN.drop (i+1) rfl rfl rfl rfl Ab.nil (fun _ _ h=>by cases h) ⟨DH 0 b,by simp [AVal.under,unders],DH 0 a,trivial,trivial,trivial⟩ ⟨hlt,fun j h=>?_⟩ (by omega)
  by_cases q:j=i
  ·subst q;rw[hga,hgb,hs]
  ·exact hall j (by omega)
 ·simp only[eE,eC,eN,Nat.reduceEqDiff,↓reduceIte,Nat.reduceAdd,Bool.not_false,Option.getD_some,Int.toNat_natCast,Int.natCast_nonneg,List.length_map,List.getElem?_map,lt_T hlt,lt_T hltb,hga,hgb,Tcu_e,s2,Jq,Gv,eq_true hf,G3 hs]
  exact(decide_eq_false fun q=>hs (by simp [q])).symm
def Tsa:Tab:=tadd 36 (s2 dIs dIs (fun _ b=>few b) fun a b=>.bool (decide (a=b))) (tadd 39 (s2 dSys dSys (fun _ b=>few b) fun a b=>.bool (decide (a=b))) (tadd 40 (s2f 34 dRgs dRgs (fun _ b=>few b∧∀x∈b,Ko x) fun a b=>.bool (decide (a=b))) (tadd 41 (s2 dCls dCls (fun _ b=>few b) fun a b=>.bool (decide (a=b))) (tadd 42 (s2f 37 dRus dRus (fun _ b=>few b∧∀x∈b,G4 x) fun a b=>.bool (decide (a=b))) tnil))))
theorem Tsa_ok:AI Tryz.prog Tsa:=((((AI.tnil.add (q2f fun a b h=>p42 a b h.1 h.2)).add (q2 p41)).add (q2f fun a b h=>p40 a b h.1 h.2)).add (q2 p39)).add (q2 p36)
theorem Tsa_i (a:List AVal) (H:AD):Tsa 36 a H=s2 dIs dIs (fun _ b=>few b) (fun a b=>.bool (decide (a=b))) a H:=rfl
theorem Tsa_s (a:List AVal) (H:AD):Tsa 39 a H=s2 dSys dSys (fun _ b=>few b) (fun a b=>.bool (decide (a=b))) a H:=rfl
theorem Tsa_r (a:List AVal) (H:AD):Tsa 40 a H=s2f 34 dRgs dRgs (fun _ b=>few b∧∀x∈b,Ko x) (fun a b=>.bool (decide (a=b))) a H:=rfl
theorem Tsa_c (a:List AVal) (H:AD):Tsa 41 a H=s2 dCls dCls (fun _ b=>few b) (fun a b=>.bool (decide (a=b))) a H:=rfl
theorem Tsa_u (a:List AVal) (H:AD):Tsa 42 a H=s2f 37 dRus dRus (fun _ b=>few b∧∀x∈b,G4 x) (fun a b=>.bool (decide (a=b))) a H:=rfl
theorem p16 (a b:Dcl) (hb:FewD b):Pur Tryz.prog 16 [encD a,encD b] (.bool (decide (a=b))):=by
 refine .mk ⟨Ai 0 a,Ai 0 b,trivial⟩ trivial (a16 (AF Tsa_ok (AE ?_)))
 simp only[eE,eC,eN,reduceCtorEq,Nat.reduceEqDiff,↓reduceIte,Nat.reduceAdd,Nat.reduceLeDiff,c16,Iy,Tsa_i,Tsa_s,Tsa_r,Tsa_c,Tsa_u,s2,s2f,B1,BS,TU,QP,TV,QR,TW,QS,TX,QU,eq_true hb.ho,eq_true hb.sy,eq_true hb.rg,eq_true hb.rgs,eq_true hb.cl,eq_true hb.ru,eq_true hb.rus]
 rw[Bool.eq_iff_iff]
 simp only[Bool.and_eq_true,decide_eq_true_eq,TY]
end Go.AM
end
section
set_option maxRecDepth 20000
set_option linter.all false
set_option maxHeartbeats 1000000
namespace Go.AM
open Go.Proofs Go.Lib
abbrev Fs (e:Int) (r:List Tkn):AVal:=.ifc 100 (.agg [.int .i64 (plc e r)])
abbrev pY (e:Int) (l:List Tkn):AObj:=.box [.sl (.none 4) (l.map encK),.int .i64 e]
def YPost {α:Type} (enc:α→AVal) (e:Int) (H:AD) (n pid:Nat):Rs α→AOut→AD→Nat→Prop
 | .ok a r=>fun o H' n'=>o= .ret (enc a)∧H'=hset H pid (pY e r)∧n'=n
 | .bad r=>fun o H' n'=>o= .pan (Fs e r)∧H'=hset H pid (pY e r)∧n'=n
def QV {α:Type} (enc:α→AVal) (e:Int) (H:AD) (pid:Nat):Rs α→AOut→AD→Nat→Prop
 | .ok a r=>fun o H' n'=>(∃v,o= .ret v∧Wk v (enc a))∧hget H' pid=some (pY e r)∧AZ pid H H'
 | .bad r=>fun o H' n'=>o= .pan (Fs e r)∧hget H' pid=some (pY e r)∧AZ pid H H'
def BD {α:Type} (fid:FuncId) (xs:List AVal) (enc:α→AVal) (g:List Tkn→Rs α):Prop:=
 ∀(e:Int) (l:List Tkn) (pid:Nat) (H:AD) (n:Nat),few l→hget H pid=some (pY e l)→AP Tryz.prog fid (.ptr pid 0::xs) H n (YPost enc e H n pid (g l))
theorem Lq (n:Nat) (e:Int) (l:List Tkn):(pY e l).under n:=⟨⟨trivial,Bu n l⟩,trivial,trivial⟩
theorem Lr {H H':AD} {n pid:Nat} {e:Int} {l r:List Tkn} (hf:Ab H n) (hp:hget H pid=some (pY e l)) (h1:hget H' pid=some (pY e r)) (h2:AZ pid H H'):EL n H H' (hset H pid (pY e r)):=by
 refine⟨fun id ob ho=>?_,fun id hid=>?_⟩
 ·rw[AA]at ho
  by_cases q:pid=id
  ·subst q
   rw[if_pos rfl]at ho
   cases ho
   exact⟨hf.lt hp,⟨_,h1,OWk.refl _⟩,.inl (Lq n e r)⟩
  ·rw[if_neg q]at ho
   exact⟨hf.lt ho,⟨ob,h2 id ob (Ne.symm q) ho,OWk.refl _⟩,.inr ho⟩
 ·rw[AA]
  split
  ·exact fun h=>by cases h
  ·exact hid
theorem BD.of {α:Type} {fid:FuncId} {xs:List AVal} {enc:α→AVal} {g:List Tkn→Rs α} (hc:AU Tryz.prog fid) (he:∀n a,(enc a).under n)
  (h:∀(e:Int) (l:List Tkn) (pid:Nat) (H:AD) (n:Nat),few l→Ab H n→pid<n→hget H pid=some (pY e l)→AP Tryz.prog fid (.ptr pid 0::xs) H n (QV enc e H pid (g l))):BD fid xs enc g:=by
 intro e l pid H n hl hp
 refine AP.fresh hc fun hf=>?_
 refine AP.forget (h e l pid H n hl hf (hf.lt hp) hp) ?_
 intro o H' n' q
 cases hg:g l with
 |ok a r=>
  rw[hg]at q
  obtain⟨⟨v,rfl,hw⟩,h1,h2⟩:=q
  exact⟨.ret (enc a),_,⟨rfl,rfl,rfl⟩,Lr hf hp h1 h2,hw,he n a⟩
 |bad r=>
  rw[hg]at q
  obtain⟨rfl,h1,h2⟩:=q
  exact⟨.pan (Fs e r),_,⟨rfl,rfl,rfl⟩,Lr hf hp h1 h2,Wk.refl _,⟨trivial,trivial⟩⟩
section
variable {α β:Type} {enc:α→AVal} {enc':β→AVal} {T:Tab} {b:Nat} {d:Option Nat} {kp:List Nat} {ops:List AOp} {k:List Item} {st:AS} {rs:List RC}
theorem y_bd {fid:FuncId} {xs:List AVal} {g:List Tkn→Rs α} {K:α→List Tkn→Rs β} {e:Int} {l:List Tkn} {pid:Nat} {H0 H1:AD} {n1:Nat} (h:BD fid xs enc g) (hl:few l)
  (hp:hget H1 pid=some (pY e l)) (hk:AZ pid H0 H1)
  (go:∀a r,g l= .ok a r→retK Tryz.prog T b d ops kp k (Cg rs (QV enc' e H0 pid (K a r))) st (.ret (enc a)) (hset H1 pid (pY e r)) n1):
  AP Tryz.prog fid (.ptr pid 0::xs) H1 n1 (retK Tryz.prog T b d ops kp k (Cg rs (QV enc' e H0 pid ((g l).bd K))) st):=by
 refine(h e l pid H1 n1 hl hp).mono fun o H' n' q=>?_
 cases hg:g l with
 |ok a r=>
  rw[hg]at q
  obtain⟨rfl,rfl,rfl⟩:=q
  exact go a r hg
 |bad r=>
  rw[hg]at q
  obtain⟨rfl,rfl,rfl⟩:=q
  show kont _ _ _ _ _ _
  rw[Bb]
  exact⟨rfl,AB ..,hk.set⟩
variable {Q:AExit→AS→Prop}
theorem y_ok {fid:FuncId} {xs:List AVal} {g:List Tkn→Rs α} {e:Int} {l r:List Tkn} {a:α} {pid:Nat} {H1:AD} {n1:Nat} (h:BD fid xs enc g) (hl:few l)
  (hp:hget H1 pid=some (pY e l)) (hg:g l= .ok a r) (go:retK Tryz.prog T b d ops kp k Q st (.ret (enc a)) (hset H1 pid (pY e r)) n1):AP Tryz.prog fid (.ptr pid 0::xs) H1 n1 (retK Tryz.prog T b d ops kp k Q st):=by
 refine(h e l pid H1 n1 hl hp).mono fun o H' n' q=>?_
 rw[hg]at q
 obtain⟨rfl,rfl,rfl⟩:=q
 exact go
theorem Fzq {fid:FuncId} {xs:List AVal} {g:List Tkn→Rs α} {e:Int} {l r:List Tkn} {pid:Nat} {H1:AD} {n1:Nat} (h:BD fid xs enc g) (hl:few l)
  (hp:hget H1 pid=some (pY e l)) (hg:g l= .bad r) (go:kont Tryz.prog T Q k (.pan (Fs e r)) ⟨[],hset H1 pid (pY e r),n1⟩):AP Tryz.prog fid (.ptr pid 0::xs) H1 n1 (retK Tryz.prog T b d ops kp k Q st):=by
 refine(h e l pid H1 n1 hl hp).mono fun o H' n' q=>?_
 rw[hg]at q
 obtain⟨rfl,rfl,rfl⟩:=q
 exact go
end
end Go.AM
end
section
set_option maxRecDepth 20000
set_option linter.all false
set_option maxHeartbeats 1000000
namespace Go.AM
open Go.Proofs Go.Lib
abbrev encU (_:Unit):AVal:=.tup []
abbrev Ox (b:Bool):AVal:=.bool b
theorem IB:BD 106 [] encU fun l=>.bad l:=BD.of l106 (fun _ _=>trivial) fun e l pid H n hl hf hlt hp=>by
 refine a106 (AF AI.tnil (AE ?_))
 cases l with
 |nil=>
  simp only[eE,eC,eN,reduceCtorEq,↓reduceIte,Nat.reduceAdd,Nat.reduceLeDiff,c0,i00,isF,c106,hp]
  exact⟨rfl,hp,AZ.refl _⟩
 |cons t r=>
  simp only[eE,eC,eN,reduceCtorEq,↓reduceIte,Nat.reduceAdd,Nat.reduceLeDiff,cS1,isF,List.getElem?_cons_zero,Option.getD_some,Int.toNat_zero,Int.le_refl,c106,hp]
  exact⟨rfl,hp,AZ.refl _⟩
theorem y_is (w:Bs):BD 126 [.str w] Ox fun l=>.ok (hdW w l) l:=BD.of l126 (fun _ _=>trivial) fun e l pid H n hl hf hlt hp=>by
 refine a126 (AF AI.tnil (AE ?_))
 cases l with
 |nil=>
  simp only[eE,eC,eN,reduceCtorEq,Nat.reduceEqDiff,↓reduceIte,Nat.reduceAdd,Nat.reduceLeDiff,c0,i00,Int.toNat_zero,Int.le_refl,List.drop_one,c126,hp]
  exact⟨⟨_,rfl,Wk.refl _⟩,hp,AZ.refl _⟩
 |cons t r=>
  by_cases hk:t.K=2
  ·simp only[eE,eC,eN,reduceCtorEq,Nat.reduceEqDiff,↓reduceIte,Nat.reduceAdd,Nat.reduceLeDiff,Bool.not_true,cS1,List.getElem?_cons_zero,Option.getD_some,Int.toNat_zero,Int.le_refl,c126,hp,hk]
   have:hdW w (t::r)=false:=by simp [hdW,hk]
   rw[this]
   exact⟨⟨_,rfl,Wk.refl _⟩,hp,AZ.refl _⟩
  ·have hsc:scmp .eql t.T w=decide (t.T=w):=by simp [scmp]
   simp only[eE,eC,eN,reduceCtorEq,Nat.reduceEqDiff,↓reduceIte,Nat.reduceAdd,Nat.reduceLeDiff,Bool.not_false,cS1,List.getElem?_cons_zero,Option.getD_some,Int.toNat_zero,Int.le_refl,c126,hp,hk,hsc]
   have:hdW w (t::r)=decide (t.T=w):=by simp [hdW,hk]
   rw[this]
   exact⟨⟨_,rfl,Wk.refl _⟩,hp,AZ.refl _⟩
theorem DI:BD 125 [] Ox fun l=>.ok (BH l) l:=BD.of l125 (fun _ _=>trivial) fun e l pid H n hl hf hlt hp=>by
 refine a125 (AF AI.tnil (AE ?_))
 cases l with
 |nil=>
  simp only[eE,eC,eN,reduceCtorEq,Nat.reduceEqDiff,↓reduceIte,Nat.reduceAdd,Nat.reduceLeDiff,c0,i00,Int.toNat_zero,Int.le_refl,c125,hp]
  exact⟨⟨_,rfl,Wk.refl _⟩,hp,AZ.refl _⟩
 |cons t r=>
  by_cases hk:t.K=2
  ·simp only[eE,eC,eN,reduceCtorEq,Nat.reduceEqDiff,↓reduceIte,Nat.reduceAdd,Nat.reduceLeDiff,cS1,List.getElem?_cons_zero,Option.getD_some,Int.toNat_zero,Int.le_refl,c125,hp,hk]
   have:BH (t::r)=decide (t.N≤65536):=by simp [BH,hk]
   rw[this]
   exact⟨⟨_,rfl,Wk.refl _⟩,hp,AZ.refl _⟩
  ·simp only[eE,eC,eN,reduceCtorEq,Nat.reduceEqDiff,↓reduceIte,Nat.reduceAdd,Nat.reduceLeDiff,cS1,List.getElem?_cons_zero,Option.getD_some,Int.toNat_zero,Int.le_refl,c125,hp,hk]
   have:BH (t::r)=false:=by simp [BH,hk]
   rw[this]
   exact⟨⟨_,rfl,Wk.refl _⟩,hp,AZ.refl _⟩
def EH (w:Bs) (l:List Tkn):Rs Bool:=if hdW w l=true then .ok true l.tail else .ok false l
theorem A3 (w:Bs):BD 99 [.str w] Ox (EH w):=BD.of l99 (fun _ _=>trivial) fun e l pid H n hl hf hlt hp=>by
 refine a99 (AF AI.tnil (AE ?_))
 simp only[eE,eN,reduceCtorEq,Nat.reduceEqDiff,↓reduceIte,Nat.reduceAdd,c99]
 refine y_ok (y_is w) hl hp rfl ?_
 by_cases hw:hdW w l=true
 ·cases l with
  |nil=>cases hw
  |cons t r=>
   simp only[eE,eC,eN,reduceCtorEq,Nat.reduceEqDiff,↓reduceIte,Nat.reduceAdd,Nat.reduceLeDiff,Int.reduceLE,cS2,Int.toNat_one,Int.le_refl,Int.toNat_natCast,List.take_length,retK,hw]
   have:EH w (t::r)= .ok true r:=by unfold EH;rw[if_pos hw];rfl
   rw[this]
   exact⟨⟨_,rfl,Wk.refl _⟩,AB ..,(AZ.refl _).set.set⟩
 ·have hw':hdW w l=false:=by simpa using hw
  simp only[eE,eC,eN,reduceCtorEq,Nat.reduceEqDiff,↓reduceIte,retK,hw']
  have:EH w l= .ok false l:=by unfold EH;rw[if_neg hw]
  rw[this]
  exact⟨⟨_,rfl,Wk.refl _⟩,AB ..,(AZ.refl _).set⟩
def Jv:List Bs→List Tkn→Rs Unit
 |[],l=>.ok () l
 |w::ws,l=>(need w l).bd fun _ r=>Jv ws r
theorem Av {l:List Tkn} (h:few l):few l.tail:=by show l.tail.length<_;rw[List.length_tail];have:l.length<1000000000:=h;omega
theorem RS (ws:List Bs) (hws:ws.length<1000):BD 96 [.sl (.exact 1) (ws.map .str)] encU (Jv ws):=BD.of l96 (fun _ _=>trivial) fun e l pid H n hl hf hlt hp=>by
 refine a96 (AF AI.tnil (AE ?_))
 simp only[eE,eN,reduceCtorEq,Nat.reduceEqDiff,↓reduceIte,Nat.reduceAdd,c96,List.length_map]
 refine AW (fun v:Nat×List Tkn×AD=>⟨[(0,true,.ptr pid 0),(6,true,.sl (.exact 1) (ws.map .str)),(7,true,.int .i64 ws.length),(8,true,.int .i64 v.1)],v.2.2,n⟩)
  (fun v=>v.1≤ws.length∧hget v.2.2 pid=some (pY e v.2.1)∧AZ pid H v.2.2∧few v.2.1∧Jv ws l=Jv (ws.drop v.1) v.2.1) (fun v=>ws.length-v.1) (0,l,H) rfl ⟨Nat.zero_le _,hp,AZ.refl _,hl,rfl⟩ ?_
 rintro⟨i,m,H1⟩ ⟨hi,hp1,hk1,hm,he⟩
 simp only at hi hp1 hk1 hm he
 by_cases hi2:i<ws.length
 case neg=>
  rw[List.drop_eq_nil_of_le (by omega)]at he
  rw[he]
  simp only[eE,eC,eN,reduceCtorEq,Nat.reduceEqDiff,↓reduceIte,lt_F hi2]
  exact⟨⟨_,rfl,Wk.refl _⟩,hp1,hk1⟩
 have hg:=List.getElem?_eq_getElem hi2
 have ew:=AO (k:=i) (by omega)
 rw[List.drop_eq_getElem_cons hi2]at he
 generalize ws[i]=w at hg he
 rw[he]
 simp only[eE,eC,eN,reduceCtorEq,Nat.reduceEqDiff,↓reduceIte,Option.getD_some,Int.toNat_natCast,lt_T hi2,List.length_map,List.getElem?_map,hg,Int.toNat_natCast,Int.natCast_nonneg]
 by_cases hw:hdW w m=true
 ·have hn:need w m= .ok () m.tail:=by unfold need;rw[if_pos hw]
  refine y_ok (A3 w) hm hp1 (a:=true) (r:=m.tail) (by unfold EH;rw[if_pos hw]) ?_
  simp only[eE,eC,eN,reduceCtorEq,Nat.reduceEqDiff,↓reduceIte,Int.reduceEq,Bool.not_true,retK,ew]
  refine .mk (i+1,m.tail,_) rfl ⟨hi2,AB ..,hk1.set,Av hm,?_⟩ (by simp only[];omega)
  show(need w m).bd _=_
  rw[hn];rfl
 ·have hn:need w m= .bad m:=by unfold need;rw[if_neg hw]
  refine y_ok (A3 w) hm hp1 (a:=false) (r:=m) (by unfold EH;rw[if_neg hw]) ?_
  simp only[eE,eC,eN,reduceCtorEq,Nat.reduceEqDiff,↓reduceIte,Bool.not_false,retK]
  refine Fzq IB hm (AB ..) rfl ?_
  simp only[eE,eN,AT]
  rw[show Jv (w::List.drop (i+1) ws) m= .bad m by show(need w m).bd _=_;rw[hn];rfl]
  exact⟨rfl,AB ..,hk1.set⟩
theorem Ls (w:Bs) (l:List Tkn):Jv [w] l=need w l:=by
 show(need w l).bd _=_
 cases need w l<;>rfl
theorem Aw (w:Bs):BD 96 [.sl (.exact 1) [.str w]] encU (need w):=by
 have:=RS [w] (by decide:1<1000)
 rwa[show Jv [w]=need w from funext (Ls w)]at this
def Ms (v w:Bs) (l:List Tkn):Rs Unit:=(need v l).bd fun _ r=>need w r
theorem Oy (v w:Bs):BD 96 [.sl (.exact 1) [.str v,.str w]] encU (Ms v w):=by
 have:=RS [v,w] (by decide:2<1000)
 rwa[show Jv [v,w]=Ms v w from funext fun l=>by show(need v l).bd _=_;unfold Ms;congr 1;funext _ r;exact Ls w r]at this
theorem Bg:BD 98 [] eI nmbR:=BD.of l98 (fun _ _=>trivial) fun e l pid H n hl hf hlt hp=>by
 refine a98 (AF AI.tnil (AE ?_))
 simp only[eE,eN,reduceCtorEq,↓reduceIte,c98]
 refine y_ok DI hl hp rfl ?_
 by_cases hw:BH l=true
 ·cases l with
  |nil=>cases hw
  |cons t r=>
   simp only[eE,eC,eN,reduceCtorEq,Nat.reduceEqDiff,↓reduceIte,Nat.reduceAdd,Nat.reduceLeDiff,Int.reduceLE,Bool.not_true,cS1,cS2,List.getElem?_cons_zero,Option.getD_some,Int.toNat_zero,Int.toNat_one,Int.le_refl,Int.toNat_natCast,List.take_length,retK,hw]
   have:nmbR (t::r)= .ok t.N r:=by
    simp only[BH,Bool.and_eq_true,decide_eq_true_eq]at hw
    simp only[nmbR];rw[if_pos hw]
   rw[this]
   exact⟨⟨_,rfl,Wk.refl _⟩,AB ..,(AZ.refl _).set.set⟩
 ·have hw':BH l=false:=by simpa using hw
  simp only[eE,eC,eN,reduceCtorEq,↓reduceIte,Bool.not_false,retK,hw']
  refine Fzq IB hl (AB ..) rfl ?_
  rw[Bb]
  have:nmbR l= .bad l:=by
   cases l with
   |nil=>rfl
   |cons t r=>
    simp only[BH,Bool.and_eq_true,decide_eq_true_eq]at hw
    simp only[nmbR];rw[if_neg hw]
  rw[this]
  exact⟨rfl,AB ..,(AZ.refl _).set.set⟩
theorem C0:BD 97 [] .str Bc:=BD.of l97 (fun _ _=>trivial) fun e l pid H n hl hf hlt hp=>by
 refine a97 (AF AI.tnil (AE ?_))
 cases l with
 |nil=>
  simp only[eE,eC,eN,reduceCtorEq,Nat.reduceEqDiff,↓reduceIte,Nat.reduceAdd,Nat.reduceLeDiff,Bool.not_true,c0,i00,Int.toNat_zero,Int.le_refl,c97,hp]
  refine Fzq IB hl hp rfl ?_
  rw[Bb]
  exact⟨rfl,AB ..,(AZ.refl _).set⟩
 |cons t r=>
  by_cases hk:t.K=1
  ·simp only[eE,eC,eN,reduceCtorEq,Nat.reduceEqDiff,↓reduceIte,Nat.reduceAdd,Nat.reduceLeDiff,Int.reduceLE,Bool.not_true,cS0,cS1,cS2,List.getElem?_cons_zero,Option.getD_some,Int.toNat_zero,Int.toNat_one,Int.le_refl,Int.toNat_natCast,List.take_length,c97,hp,hk]
   have:Bc (t::r)= .ok t.T r:=by simp [Bc,Jo,hk,Rs.bd]
   rw[this]
   exact⟨⟨_,rfl,Wk.refl _⟩,AB ..,(AZ.refl _).set⟩
  ·simp only[eE,eC,eN,reduceCtorEq,Nat.reduceEqDiff,↓reduceIte,Nat.reduceAdd,Nat.reduceLeDiff,Bool.not_false,cS0,cS1,List.getElem?_cons_zero,Option.getD_some,Int.toNat_zero,Int.le_refl,c97,hp,hk]
   refine Fzq IB hl hp rfl ?_
   rw[Bb]
   have:Bc (t::r)= .bad (t::r):=by simp [Bc,Jo,hk,Rs.bd]
   rw[this]
   exact⟨rfl,AB ..,(AZ.refl _).set⟩
end Go.AM
end
section
set_option maxRecDepth 20000
set_option linter.all false
set_option maxHeartbeats 1000000
namespace Go.AM
open Go.Proofs Go.Lib
structure VL (α:Type) where
 m:List Tkn
 acc:List α
 tk:Tok
 H:AD
 n:Nat
structure IL {α:Type} (one:List Tkn→Rs α) (es:Nat) (e:Int) (l:List Tkn) (H:AD) (n pid:Nat) (v:VL α):Prop where
 hn:n≤v.n
 fr:Ab v.H v.n
 hp:hget v.H pid=some (pY e v.m)
 hk:AZ pid H v.H
 hl:v.m.length+v.acc.length≤l.length
 tok:tkG es n v.H v.tk
 es:v.tk.esz=es
 eq:CJ one l=(BA (hdW [44]) (comR one) v.m).bd fun xs q=>.ok (v.acc++xs) q
theorem BT {α β γ:Type} (x:Rs α) (f:α→List Tkn→Rs β) (g:β→List Tkn→Rs γ):(x.bd f).bd g=x.bd fun a r=>(f a r).bd g:=by cases x<;>rfl
theorem Kq {α:Type} {one:List Tkn→Rs α} (h:Le one) {m:List Tkn} (hw:hdW [44] m=true):BA (hdW [44]) (comR one) m=(one m.tail).bd fun a r=>(BA (hdW [44]) (comR one) r).bd fun xs q=>.ok (a::xs) q:=by
 rw[GD (fun l a r _ q=>Jr h l a r q),if_pos hw]
 show((need [44] m).bd _).bd _=_
 unfold need
 rw[if_pos hw];rfl
theorem Oz {α:Type} {one:List Tkn→Rs α} (h:Le one) {m:List Tkn} (hw:¬hdW [44] m=true):BA (hdW [44]) (comR one) m= .ok [] m:=by
 rw[GD (fun l a r _ q=>Jr h l a r q),if_neg hw]
theorem At {l r:List Tkn} (h:few l) (h2:r.length≤l.length):few r:=by have:l.length<1000000000:=h;show r.length<_;omega
theorem QX {fid:FuncId} {one:List Tkn→Rs Bs} (h:BD fid [] AVal.str one) (hL:Lt one):BD 173 [.fn (.func fid) [] []] (fun xs=>.sl (.none 1) (xs.map AVal.str)) (CJ one):=BD.of l173 (fun n a=>⟨trivial,Hr n a⟩) fun e l pid H n hl hf hlt hp=>by
 refine a173 (AF AI.tnil (AE ?_))
 simp only[eE,eN,reduceCtorEq,Nat.reduceEqDiff,↓reduceIte,Nat.reduceAdd,c173]
 have hl':l.length<1000000000:=hl
 cases hr:one l with
 |bad r=>
  refine Fzq h hl hp hr ?_
  rw[Bb]
  have:CJ one l= .bad r:=by unfold CJ;rw[hr];rfl
  rw[this]
  exact⟨rfl,AB ..,(AZ.refl _).set⟩
 |ok a0 r0=>
 refine y_ok h hl hp hr ?_
 have hl0:=hL _ _ _ hr
 simp only[eE,eN,reduceCtorEq,Nat.reduceEqDiff,↓reduceIte,Nat.reduceLeDiff,Nat.reduceMul,nS1,retK]
 refine AW (fun v:VL Bs=>⟨[(0,true,.ptr pid 0),(1,true,.fn (.func fid) [] []),(5,true,.sl v.tk (v.acc.map AVal.str))],v.H,v.n⟩) (IL one 1 e l H n pid) (fun v=>v.m.length)
  ⟨r0,[a0],.exact 1,hset H pid (pY e r0),n⟩ rfl ⟨Nat.le_refl _,hf.hset (Nat.le_refl _) hlt,AB ..,(AZ.refl _).set,by simp only[List.length_cons,List.length_nil];omega,.inr (.inl rfl),rfl,by unfold CJ;rw[hr];rfl⟩ ?_
 rintro⟨m,acc,tk,H1,n1⟩ ⟨hn,hfr,hp1,hk1,hl1,htk,hes,he⟩
 simp only at hn hfr hp1 hk1 hl1 htk hes he
 have hlt1:pid<n1:=by omega
 have hm:few m:=by show m.length<_;omega
 by_cases hw:hdW [44] m=true
 ·simp only[eE,↓reduceIte]
  refine y_ok (A3 [44]) hm hp1 (a:=true) (r:=m.tail) (by unfold EH;rw[if_pos hw]) ?_
  rw[Kq hL.le hw,BT]at he
  rw[he]
  simp only[eE,eC,eN,reduceCtorEq,Nat.reduceEqDiff,↓reduceIte,retK]
  have hmt:few m.tail:=Av hm
  cases hr1:one m.tail with
  |bad r=>
   refine Fzq h hmt (AB ..) hr1 ?_
   simp only[eE,eN]
   exact⟨rfl,AB ..,hk1.set.set⟩
  |ok a r=>
   have hl2:=hL _ _ _ hr1
   rw[List.length_tail]at hl2
   have hm0:0<m.length:=by cases m with|nil=>cases hw|cons t q=>simp
   refine y_ok h hmt (AB ..) hr1 ?_
   have htk':tkG 1 n (hset H1 pid (pY e r)) tk:=htk.set (.inl hlt)
   have hk':AZ pid H (hset H1 pid (pY e r)):=hk1.set
   have hfr':Ab (hset H1 pid (pY e r)) n1:=hfr.hset (Nat.le_refl _) hlt1
   have hp':hget (hset H1 pid (pY e r)) pid=some (pY e r):=AB ..
   rw[AT]
   generalize hset H1 pid (pY e r)=H2 at htk' hk' hfr' hp'
   have q1:CF H2 1 tk=True:=eq_true htk'.app
   have q2:(acc.length≤35184372088831)=True:=eq_true (by omega)
   have q3:Ao (acc.length+1) 16=True:=eq_true (by unfold Ao;omega)
   simp only[eE,eN,reduceCtorEq,Nat.reduceEqDiff,↓reduceIte,Nat.reduceLeDiff,Nat.reduceMul,nS1,retK,q1,q2,q3,fr1 hfr',List.length_map]
   refine .mk ⟨r,acc++[a],.own (n1+5) 1,hset (AK H2 tk) (n1+5) .tok,n1+7⟩ (by simp only[List.map_append,List.map_cons,List.map_nil]) ⟨by simp only[];omega,(BO htk' hfr').hset (by simp only[];omega) (by simp only[];omega),?_,?_,?_,.inr (.inr ⟨n1+5,rfl,by omega,AB ..⟩),rfl,?_⟩ (by simp only[];omega)
   ·simp only[]
    rw[AC _ _ _ _ (by omega),Aa htk' (.inl hlt)];exact hp'
   ·intro id ob hne hx
    have:=hf.lt hx
    simp only[]
    rw[AC _ _ _ _ (by omega),Aa htk' (.inl this)];exact hk' id ob hne hx
   ·simp only[List.length_append,List.length_cons,List.length_nil];omega
   ·simp only[]
    rw[he,hr1]
    simp only[Rs.bd]
    cases BA (hdW [44]) (comR one) r<;>simp
 ·simp only[eE,↓reduceIte]
  refine y_ok (A3 [44]) hm hp1 (a:=false) (r:=m) (by unfold EH;rw[if_neg hw]) ?_
  rw[Oz hL.le hw]at he
  rw[he]
  simp only[eE,eC,eN,reduceCtorEq,Nat.reduceEqDiff,↓reduceIte,retK]
  simp only[Rs.bd,List.append_nil]
  exact⟨⟨_,rfl,Wk.sl (.inl hes)⟩,AB ..,hk1.set⟩
theorem Iz {fid:FuncId} {one:List Tkn→Rs Int} (h:BD fid [] eI one) (hL:Lt one):BD 100 [.fn (.func fid) [] []] (fun xs=>.sl (.none 1) (xs.map eI)) (CJ one):=BD.of l100 (fun n a=>⟨trivial,LT n a⟩) fun e l pid H n hl hf hlt hp=>by
 refine a100 (AF AI.tnil (AE ?_))
 simp only[eE,eN,reduceCtorEq,Nat.reduceEqDiff,↓reduceIte,Nat.reduceAdd,c100]
 have hl':l.length<1000000000:=hl
 cases hr:one l with
 |bad r=>
  refine Fzq h hl hp hr ?_
  rw[Bb]
  have:CJ one l= .bad r:=by unfold CJ;rw[hr];rfl
  rw[this]
  exact⟨rfl,AB ..,(AZ.refl _).set⟩
 |ok a0 r0=>
 refine y_ok h hl hp hr ?_
 have hl0:=hL _ _ _ hr
 simp only[eE,eN,reduceCtorEq,Nat.reduceEqDiff,↓reduceIte,Nat.reduceLeDiff,Nat.reduceMul,nS1,retK]
 refine AW (fun v:VL Int=>⟨[(0,true,.ptr pid 0),(1,true,.fn (.func fid) [] []),(5,true,.sl v.tk (v.acc.map eI))],v.H,v.n⟩) (IL one 1 e l H n pid) (fun v=>v.m.length)
  ⟨r0,[a0],.exact 1,hset H pid (pY e r0),n⟩ rfl ⟨Nat.le_refl _,hf.hset (Nat.le_refl _) hlt,AB ..,(AZ.refl _).set,by simp only[List.length_cons,List.length_nil];omega,.inr (.inl rfl),rfl,by unfold CJ;rw[hr];rfl⟩ ?_
 rintro⟨m,acc,tk,H1,n1⟩ ⟨hn,hfr,hp1,hk1,hl1,htk,hes,he⟩
 simp only at hn hfr hp1 hk1 hl1 htk hes he
 have hlt1:pid<n1:=by omega
 have hm:few m:=by show m.length<_;omega
 by_cases hw:hdW [44] m=true
 ·simp only[eE,↓reduceIte]
  refine y_ok (A3 [44]) hm hp1 (a:=true) (r:=m.tail) (by unfold EH;rw[if_pos hw]) ?_
  rw[Kq hL.le hw,BT]at he
  rw[he]
  simp only[eE,eC,eN,reduceCtorEq,Nat.reduceEqDiff,↓reduceIte,retK]
  have hmt:few m.tail:=Av hm
  cases hr1:one m.tail with
  |bad r=>
   refine Fzq h hmt (AB ..) hr1 ?_
   simp only[eE,eN]
   exact⟨rfl,AB ..,hk1.set.set⟩
  |ok a r=>
   have hl2:=hL _ _ _ hr1
   rw[List.length_tail]at hl2
   have hm0:0<m.length:=by cases m with|nil=>cases hw|cons t q=>simp
   refine y_ok h hmt (AB ..) hr1 ?_
   have htk':tkG 1 n (hset H1 pid (pY e r)) tk:=htk.set (.inl hlt)
   have hk':AZ pid H (hset H1 pid (pY e r)):=hk1.set
   have hfr':Ab (hset H1 pid (pY e r)) n1:=hfr.hset (Nat.le_refl _) hlt1
   have hp':hget (hset H1 pid (pY e r)) pid=some (pY e r):=AB ..
   rw[AT]
   generalize hset H1 pid (pY e r)=H2 at htk' hk' hfr' hp'
   have q1:CF H2 1 tk=True:=eq_true htk'.app
   have q2:(acc.length≤35184372088831)=True:=eq_true (by omega)
   have q3:Ao (acc.length+1) 8=True:=eq_true (by unfold Ao;omega)
   simp only[eE,eN,reduceCtorEq,Nat.reduceEqDiff,↓reduceIte,Nat.reduceLeDiff,Nat.reduceMul,nS1,retK,q1,q2,q3,fr1 hfr',List.length_map]
   refine .mk ⟨r,acc++[a],.own (n1+5) 1,hset (AK H2 tk) (n1+5) .tok,n1+7⟩ (by simp only[List.map_append,List.map_cons,List.map_nil]) ⟨by simp only[];omega,(BO htk' hfr').hset (by simp only[];omega) (by simp only[];omega),?_,?_,?_,.inr (.inr ⟨n1+5,rfl,by omega,AB ..⟩),rfl,?_⟩ (by simp only[];omega)
   ·simp only[]
    rw[AC _ _ _ _ (by omega),Aa htk' (.inl hlt)];exact hp'
   ·intro id ob hne hx
    have:=hf.lt hx
    simp only[]
    rw[AC _ _ _ _ (by omega),Aa htk' (.inl this)];exact hk' id ob hne hx
   ·simp only[List.length_append,List.length_cons,List.length_nil];omega
   ·simp only[]
    rw[he,hr1]
    simp only[Rs.bd]
    cases BA (hdW [44]) (comR one) r<;>simp
 ·simp only[eE,↓reduceIte]
  refine y_ok (A3 [44]) hm hp1 (a:=false) (r:=m) (by unfold EH;rw[if_neg hw]) ?_
  rw[Oz hL.le hw]at he
  rw[he]
  simp only[eE,eC,eN,reduceCtorEq,Nat.reduceEqDiff,↓reduceIte,retK]
  simp only[Rs.bd,List.append_nil]
  exact⟨⟨_,rfl,Wk.sl (.inl hes)⟩,AB ..,hk1.set⟩
theorem QY {fid:FuncId} {one:List Tkn→Rs DSym} (h:BD fid [] Fb one) (hL:Lt one):BD 101 [.fn (.func fid) [] []] (fun xs=>.sl (.none 2) (xs.map Fb)) (CJ one):=BD.of l101 (fun n a=>⟨trivial,A2 (Cj n) _⟩) fun e l pid H n hl hf hlt hp=>by
 refine a101 (AF AI.tnil (AE ?_))
 simp only[eE,eN,reduceCtorEq,Nat.reduceEqDiff,↓reduceIte,Nat.reduceAdd,c101]
 have hl':l.length<1000000000:=hl
 cases hr:one l with
 |bad r=>
  refine Fzq h hl hp hr ?_
  rw[Bb]
  have:CJ one l= .bad r:=by unfold CJ;rw[hr];rfl
  rw[this]
  exact⟨rfl,AB ..,(AZ.refl _).set⟩
 |ok a0 r0=>
 refine y_ok h hl hp hr ?_
 have hl0:=hL _ _ _ hr
 simp only[eE,eN,reduceCtorEq,Nat.reduceEqDiff,↓reduceIte,Nat.reduceAdd,Nat.reduceLeDiff,Nat.reduceMul,nS1,retK]
 refine AW (fun v:VL DSym=>⟨[(0,true,.ptr pid 0),(1,true,.fn (.func fid) [] []),(5,true,.sl v.tk (v.acc.map Fb))],v.H,v.n⟩) (IL one 2 e l H n pid) (fun v=>v.m.length)
  ⟨r0,[a0],.exact 2,hset H pid (pY e r0),n⟩ rfl ⟨Nat.le_refl _,hf.hset (Nat.le_refl _) hlt,AB ..,(AZ.refl _).set,by simp only[List.length_cons,List.length_nil];omega,.inr (.inl rfl),rfl,by unfold CJ;rw[hr];rfl⟩ ?_
 rintro⟨m,acc,tk,H1,n1⟩ ⟨hn,hfr,hp1,hk1,hl1,htk,hes,he⟩
 simp only at hn hfr hp1 hk1 hl1 htk hes he
 have hlt1:pid<n1:=by omega
 have hm:few m:=by show m.length<_;omega
 by_cases hw:hdW [44] m=true
 ·simp only[eE,↓reduceIte]
  refine y_ok (A3 [44]) hm hp1 (a:=true) (r:=m.tail) (by unfold EH;rw[if_pos hw]) ?_
  rw[Kq hL.le hw,BT]at he
  rw[he]
  simp only[eE,eC,eN,reduceCtorEq,Nat.reduceEqDiff,↓reduceIte,retK]
  have hmt:few m.tail:=Av hm
  cases hr1:one m.tail with
  |bad r=>
   refine Fzq h hmt (AB ..) hr1 ?_
   simp only[eE,eN]
   exact⟨rfl,AB ..,hk1.set.set⟩
  |ok a r=>
   have hl2:=hL _ _ _ hr1
   rw[List.length_tail]at hl2
   have hm0:0<m.length:=by cases m with|nil=>cases hw|cons t q=>simp
   refine y_ok h hmt (AB ..) hr1 ?_
   have htk':tkG 2 n (hset H1 pid (pY e r)) tk:=htk.set (.inl hlt)
   have hk':AZ pid H (hset H1 pid (pY e r)):=hk1.set
   have hfr':Ab (hset H1 pid (pY e r)) n1:=hfr.hset (Nat.le_refl _) hlt1
   have hp':hget (hset H1 pid (pY e r)) pid=some (pY e r):=AB ..
   rw[AT]
   generalize hset H1 pid (pY e r)=H2 at htk' hk' hfr' hp'
   have q1:CF H2 2 tk=True:=eq_true htk'.app
   have q2:(acc.length≤35184372088831)=True:=eq_true (by omega)
   have q3:Ao (acc.length+1) 24=True:=eq_true (by unfold Ao;omega)
   simp only[eE,eN,reduceCtorEq,Nat.reduceEqDiff,↓reduceIte,Nat.reduceAdd,Nat.reduceLeDiff,Nat.reduceMul,nS1,retK,q1,q2,q3,fr1 hfr',List.length_map]
   refine .mk ⟨r,acc++[a],.own (n1+5) 2,hset (AK H2 tk) (n1+5) .tok,n1+7⟩ (by simp only[List.map_append,List.map_cons,List.map_nil]) ⟨by simp only[];omega,(BO htk' hfr').hset (by simp only[];omega) (by simp only[];omega),?_,?_,?_,.inr (.inr ⟨n1+5,rfl,by omega,AB ..⟩),rfl,?_⟩ (by simp only[];omega)
   ·simp only[]
    rw[AC _ _ _ _ (by omega),Aa htk' (.inl hlt)];exact hp'
   ·intro id ob hne hx
    have:=hf.lt hx
    simp only[]
    rw[AC _ _ _ _ (by omega),Aa htk' (.inl this)];exact hk' id ob hne hx
   ·simp only[List.length_append,List.length_cons,List.length_nil];omega
   ·simp only[]
    rw[he,hr1]
    simp only[Rs.bd]
    cases BA (hdW [44]) (comR one) r<;>simp
 ·simp only[eE,↓reduceIte]
  refine y_ok (A3 [44]) hm hp1 (a:=false) (r:=m) (by unfold EH;rw[if_neg hw]) ?_
  rw[Oz hL.le hw]at he
  rw[he]
  simp only[eE,eC,eN,reduceCtorEq,Nat.reduceEqDiff,↓reduceIte,retK]
  simp only[Rs.bd,List.append_nil]
  exact⟨⟨_,rfl,Wk.sl (.inl hes)⟩,AB ..,hk1.set⟩
theorem Qa:BD 102 [] Fb symR:=BD.of l102 (fun n a=>Cj n a) fun e l pid H n hl hf hlt hp=>by
 refine a102 (AF AI.tnil (AE ?_))
 simp only[eE,eN,reduceCtorEq,↓reduceIte,fr0 hf,c102]
 refine y_bd C0 hl (by simp only[AA,sep4 hlt,if_false];exact hp) (fun id ob hne hx=>by have:=hf.lt hx;simp only[AA];(repeat rw[if_neg (by omega)]);exact hx) fun a r1 hr1=>?_
 have hl1:=At hl (As.le _ _ _ hr1)
 simp only[eE,eN,reduceCtorEq,Nat.reduceEqDiff,↓reduceIte,Nat.reduceAdd,Nat.reduceLeDiff,Nat.reduceMul,nS1,sep3 hlt,retK]
 refine y_bd (Aw [61]) hl1 (by simp only[AA,sep4 hlt,if_true,if_false]) (fun id ob hne hx=>by have:=hf.lt hx;simp only[AA];(repeat rw[if_neg (by omega)]);exact hx) fun u r2 hr2=>?_
 have hl2:=At hl1 ((AR _).le _ _ _ hr2)
 simp only[eE,eN,reduceCtorEq,Nat.reduceEqDiff,↓reduceIte,retK]
 refine y_bd Bg hl2 (by simp only[AA,sep4 hlt,if_true,if_false]) (fun id ob hne hx=>by have:=hf.lt hx;simp only[AA];(repeat rw[if_neg (by omega)]);exact hx) fun v r3 hr3=>?_
 simp only[eE,eN,reduceCtorEq,Nat.reduceEqDiff,↓reduceIte,Nat.reduceAdd,Al,sep3 hlt,retK]
 exact⟨⟨_,rfl,Wk.refl _⟩,(by simp only[AA,sep4 hlt,if_true,if_false]),(fun id ob hne hx=>by have:=hf.lt hx;simp only[AA];(repeat rw[if_neg (by omega)]);exact hx)⟩
theorem O0:BD 165 [] eSs setR:=BD.of l165 (fun n a=>Bo n a) fun e l pid H n hl hf hlt hp=>by
 refine a165 (AF AI.tnil (AE ?_))
 simp only[eE,eN,reduceCtorEq,Nat.reduceEqDiff,↓reduceIte,Nat.reduceLeDiff,Nat.reduceMul,nS1,c165]
 refine y_bd (Aw [123]) hl hp (AZ.refl _) fun u r1 hr1=>?_
 have hl1:=At hl ((AR _).le _ _ _ hr1)
 simp only[eE,eN,reduceCtorEq,↓reduceIte,retK]
 refine y_bd (QX C0 As) hl1 (AB ..) (AZ.refl _).set fun ss r2 hr2=>?_
 have hl2:=At hl1 ((C7 As).le _ _ _ hr2)
 simp only[eE,eN,reduceCtorEq,Nat.reduceEqDiff,↓reduceIte,Nat.reduceLeDiff,Nat.reduceMul,nS1,retK]
 refine y_bd (Aw [125]) hl2 (AB ..) (AZ.refl _).set.set fun u r3 hr3=>?_
 simp only[eE,eN,reduceCtorEq,Nat.reduceEqDiff,↓reduceIte,retK]
 exact⟨⟨_,rfl,Wk.refl _⟩,AB ..,(AZ.refl _).set.set.set⟩
end Go.AM
end
section
set_option maxRecDepth 20000
set_option linter.all false
set_option maxHeartbeats 1000000
namespace Go.AM
open Go.Proofs Go.Lib
theorem eF1 {a b:Nat} (h:a≠b):(a=b)=False:=eq_false h
theorem eF2 {a b:Nat} (h:a≠b):(b=a)=False:=eq_false (Ne.symm h)
abbrev rY (x:DRul) (vn vo:AVal):AObj:=.box [.str x.nm,.str x.on,.int .i64 x.kind,.int .i64 x.fam,vn,vo,.int .i64 x.set,.int .i64 x.oth,.int .i64 x.op,.int .i64 x.n,.str x.byN,.int .i64 x.clue]
def AG (p x:Nat) (H H':AD):Prop:=∀id ob,id≠p→id≠x→hget H id=some ob→hget H' id=some ob
theorem AG.refl {p x:Nat} (H:AD):AG p x H H:=fun _ _ _ _ h=>h
theorem AG.p {p x:Nat} {H H':AD} {ob:AObj} (h:AG p x H H'):AG p x H (hset H' p ob):=fun id o h1 h2 q=>by
 rw[AC _ _ _ _ (Ne.symm h1)];exact h id o h1 h2 q
theorem AG.x {p x:Nat} {H H':AD} {ob:AObj} (h:AG p x H H'):AG p x H (hset H' x ob):=fun id o h1 h2 q=>by
 rw[AC _ _ _ _ (Ne.symm h2)];exact h id o h1 h2 q
theorem PStab.wks {g:Ghost} {f:Nat→Option Value}:∀{ws us:List AVal} (o:Nat),Wks ws us→PStab g f o ws→PStab g f o us
 |_,_,_,.nil,h=>h
 |_,_,o,.cons h t,⟨⟨x,h1,h2,h3⟩,h4⟩=>⟨⟨x,h1,h _ _ h2,h3⟩,PStab.wks (o+1) t h4⟩
theorem Wks.leng {ws us:List AVal} (h:Wks ws us):ws.length=us.length:=by
 induction h with
 |nil=>rfl
 |cons _ _ ih=>simp [ih]
theorem TZ {ws us:List AVal} (h:Wks ws us):OWk (.box ws) (.box us):=⟨fun g w id ⟨L,c,e,h1,h2,h3,h4,h5,h6⟩=>⟨L,c,e,h1,h2,by rw[←h.leng];exact h3,h4,by rw[←h.leng];exact h5,PStab.wks 0 h h6⟩,fun _=>rfl⟩
theorem O1 (ob:AObj):OWk ob .dead:=⟨fun _ _ _ _=>trivial,fun h=>by cases h⟩
theorem owk_rY {x:DRul} {vn vo:AVal} (h1:Wk vn (eSs x.ns)) (h2:Wk vo (eSs x.os)):OWk (rY x vn vo) (.box (BB x)):=
 TZ (.cons (Wk.refl _) (.cons (Wk.refl _) (.cons (Wk.refl _) (.cons (Wk.refl _) (.cons h1 (.cons h2 (.cons (Wk.refl _) (.cons (Wk.refl _) (.cons (Wk.refl _) (.cons (Wk.refl _) (.cons (Wk.refl _) (.cons (Wk.refl _) .nil))))))))))))
def RPost (e:Int) (H:AD) (n pid xid:Nat):Rs DRul→AOut→AD→Nat→Prop
 | .ok x r=>fun o H' n'=>o= .ret (.tup [])∧H'=hset (hset H pid (pY e r)) xid (.box (BB x))∧n'=n
 | .bad r=>fun o H' n'=>o= .pan (Fs e r)∧H'=hset (hset H pid (pY e r)) xid .dead∧n'=n
def Jw (e:Int) (H:AD) (pid xid:Nat):Rs DRul→AOut→AD→Nat→Prop
 | .ok x r=>fun o H' n'=>(∃v,o= .ret v∧Wk v (.tup []))∧hget H' pid=some (pY e r)∧(∃vn vo,hget H' xid=some (rY x vn vo)∧Wk vn (eSs x.ns)∧Wk vo (eSs x.os))∧AG pid xid H H'
 | .bad r=>fun o H' n'=>o= .pan (Fs e r)∧hget H' pid=some (pY e r)∧(∃ob,hget H' xid=some ob)∧AG pid xid H H'
abbrev Lu (x:DRul):Prop:=x.n=0∧x.byN=[]
def DJ (fid:FuncId) (g:DRul→List Tkn→Rs DRul):Prop:=
 ∀(e:Int) (l:List Tkn) (pid xid:Nat) (x:DRul) (vn vo:AVal) (H:AD) (n:Nat),few l→pid≠xid→Lu x→hget H pid=some (pY e l)→hget H xid=some (rY x vn vo)→Wk vn (eSs x.ns)→Wk vo (eSs x.os)→
  AP Tryz.prog fid [.ptr pid 0,.ptr xid 0] H n (RPost e H n pid xid (g x l))
theorem Lv {H H':AD} {n pid xid:Nat} {ob0 ob1 ob2 ob:AObj} {e:Int} {r:List Tkn} (hf:Ab H n) (hne:pid≠xid) (hp:hget H pid=some ob0) (hx:hget H xid=some ob1) (h1:hget H' pid=some (pY e r)) (h2:hget H' xid=some ob2) (hw:OWk ob2 ob) (hu:ob.under n) (h3:AG pid xid H H'):
  EL n H H' (hset (hset H pid (pY e r)) xid ob):=by
 refine⟨fun id o ho=>?_,fun id hid=>?_⟩
 ·rw[AA]at ho
  by_cases q:xid=id
  ·subst q
   rw[if_pos rfl]at ho
   cases ho
   exact⟨hf.lt hx,⟨_,h2,hw⟩,.inl hu⟩
  ·rw[if_neg q,AA]at ho
   by_cases q2:pid=id
   ·subst q2
    rw[if_pos rfl]at ho
    cases ho
    exact⟨hf.lt hp,⟨_,h1,OWk.refl _⟩,.inl (Lq n e r)⟩
   ·rw[if_neg q2]at ho
    exact⟨hf.lt ho,⟨o,h3 id o (Ne.symm q2) (Ne.symm q) ho,OWk.refl _⟩,.inr ho⟩
 ·rw[AA]
  split
  ·exact fun h=>by cases h
  ·rw[AA]
   split
   ·exact fun h=>by cases h
   ·exact hid
theorem DJ.of {fid:FuncId} {g:DRul→List Tkn→Rs DRul} (hc:AU Tryz.prog fid)
  (h:∀(e:Int) (l:List Tkn) (pid xid:Nat) (x:DRul) (vn vo:AVal) (H:AD) (n:Nat),few l→pid≠xid→Lu x→hget H pid=some (pY e l)→hget H xid=some (rY x vn vo)→Wk vn (eSs x.ns)→Wk vo (eSs x.os)→
   AP Tryz.prog fid [.ptr pid 0,.ptr xid 0] H n (Jw e H pid xid (g x l))):DJ fid g:=by
 intro e l pid xid x vn vo H n hl hne hx0 hp hx hv1 hv2
 refine AP.fresh hc fun hf=>?_
 refine AP.forget (h e l pid xid x vn vo H n hl hne hx0 hp hx hv1 hv2) ?_
 intro o H' n' q
 cases hg:g x l with
 |ok a r=>
  rw[hg]at q
  obtain⟨⟨v,rfl,hw⟩,h1,⟨wn,wo,h2,k1,k2⟩,h3⟩:=q
  exact⟨.ret (.tup []),_,⟨rfl,rfl,rfl⟩,Lv hf hne hp hx h1 h2 (owk_rY k1 k2) (Ah n a) h3,hw,trivial⟩
 |bad r=>
  rw[hg]at q
  obtain⟨rfl,h1,⟨ob,h2⟩,h3⟩:=q
  exact⟨.pan (Fs e r),_,⟨rfl,rfl,rfl⟩,Lv hf hne hp hx h1 h2 (O1 ob) trivial h3,Wk.refl _,⟨trivial,trivial⟩⟩
section
variable {α:Type} {enc:α→AVal} {T:Tab} {b:Nat} {d:Option Nat} {kp:List Nat} {ops:List AOp} {k:List Item} {st:AS} {rs:List RC}
theorem r_bd {fid:FuncId} {xs:List AVal} {g:List Tkn→Rs α} {K:α→List Tkn→Rs DRul} {e:Int} {l:List Tkn} {pid xid:Nat} {ob:AObj} {H0 H1:AD} {n1:Nat} (h:BD fid xs enc g) (hne:pid≠xid) (hl:few l)
  (hp:hget H1 pid=some (pY e l)) (hx:hget H1 xid=some ob) (hk:AG pid xid H0 H1)
  (go:∀a r,g l= .ok a r→retK Tryz.prog T b d ops kp k (Cg rs (Jw e H0 pid xid (K a r))) st (.ret (enc a)) (hset H1 pid (pY e r)) n1):
  AP Tryz.prog fid (.ptr pid 0::xs) H1 n1 (retK Tryz.prog T b d ops kp k (Cg rs (Jw e H0 pid xid ((g l).bd K))) st):=by
 refine(h e l pid H1 n1 hl hp).mono fun o H' n' q=>?_
 cases hg:g l with
 |ok a r=>
  rw[hg]at q
  obtain⟨rfl,rfl,rfl⟩:=q
  exact go a r hg
 |bad r=>
  rw[hg]at q
  obtain⟨rfl,rfl,rfl⟩:=q
  show kont _ _ _ _ _ _
  rw[Bb]
  exact⟨rfl,AB ..,⟨ob,by rw[AC _ _ _ _ hne];exact hx⟩,hk.p⟩
theorem RT {fid:FuncId} {g:DRul→List Tkn→Rs DRul} {e:Int} {l:List Tkn} {pid xid:Nat} {x:DRul} {vn vo:AVal} {H0 H1:AD} {n1:Nat} (h:DJ fid g) (hne:pid≠xid) (hl:few l) (hx0:Lu x)
  (hp:hget H1 pid=some (pY e l)) (hx:hget H1 xid=some (rY x vn vo)) (h1:Wk vn (eSs x.ns)) (h2:Wk vo (eSs x.os)) (hk:AG pid xid H0 H1)
  (go:∀a r,g x l= .ok a r→retK Tryz.prog T b d ops kp k (Cg rs (Jw e H0 pid xid (.ok a r))) st (.ret (.tup [])) (hset (hset H1 pid (pY e r)) xid (.box (BB a))) n1):
  AP Tryz.prog fid [.ptr pid 0,.ptr xid 0] H1 n1 (retK Tryz.prog T b d ops kp k (Cg rs (Jw e H0 pid xid (g x l))) st):=by
 refine(h e l pid xid x vn vo H1 n1 hl hne hx0 hp hx h1 h2).mono fun o H' n' q=>?_
 cases hg:g x l with
 |ok a r=>
  rw[hg]at q
  obtain⟨rfl,rfl,rfl⟩:=q
  exact go a r hg
 |bad r=>
  rw[hg]at q
  obtain⟨rfl,rfl,rfl⟩:=q
  show kont _ _ _ _ _ _
  rw[Bb]
  exact⟨rfl,by rw[AC _ _ _ _ (Ne.symm hne)];exact AB ..,⟨.dead,AB ..⟩,hk.p.x⟩
end
theorem Ta:DJ 147 fun x l=>.ok x l:=DJ.of l147 fun e l pid xid x vn vo H n hl hne hx0 hp hx hv1 hv2=>by
 refine a147 (AF AI.tnil (AE ?_))
 simp only[eE,eN,Nat.reduceAdd,c147]
 exact⟨⟨_,rfl,Wk.refl _⟩,hp,⟨vn,vo,hx,hv1,hv2⟩,AG.refl _⟩
theorem Tb:DJ 148 fun x l=>(nmbR l).bd fun n r=>.ok {x with n:=n} r:=DJ.of l148 fun e l pid xid x vn vo H n hl hne hx0 hp hx hv1 hv2=>by
 refine a148 (AF AI.tnil (AE ?_))
 simp only[eE,reduceCtorEq,↓reduceIte,Nat.reduceAdd,c148]
 refine r_bd Bg hne hl hp hx (AG.refl _) fun v r hr=>?_
 simp only[eE,eN,Nat.reduceEqDiff,↓reduceIte,Nat.reduceAdd,Nat.reduceLeDiff,eF1 hne,retK,hx]
 exact⟨⟨_,rfl,Wk.refl _⟩,(by simp only[AA,eF2 hne,if_true,if_false,hp]),⟨vn,vo,(by simp only[AA,eF1 hne,if_true,if_false];try (first|rfl|assumption)),hv1,hv2⟩,(by repeat (first|exact AG.refl _|apply AG.p|apply AG.x))⟩
theorem O2:DJ 150 fun x l=>(setR l).bd fun ss r=>.ok {x with ns:=ss} r:=DJ.of l150 fun e l pid xid x vn vo H n hl hne hx0 hp hx hv1 hv2=>by
 refine a150 (AF AI.tnil (AE ?_))
 simp only[eE,reduceCtorEq,↓reduceIte,Nat.reduceAdd,c150]
 refine r_bd O0 hne hl hp hx (AG.refl _) fun v r hr=>?_
 simp only[eE,eN,Nat.reduceEqDiff,↓reduceIte,Nat.reduceAdd,Nat.reduceLeDiff,eF1 hne,retK,hx]
 exact⟨⟨_,rfl,Wk.refl _⟩,(by simp only[AA,eF2 hne,if_true,if_false,hp]),⟨eSs v,vo,(by simp only[AA,eF1 hne,if_true,if_false];try (first|rfl|assumption)),Wk.refl _,hv2⟩,(by repeat (first|exact AG.refl _|apply AG.p|apply AG.x))⟩
theorem Tc:DJ 151 fun x l=>(Bc l).bd fun s r=>.ok {x with byN:=s} r:=DJ.of l151 fun e l pid xid x vn vo H n hl hne hx0 hp hx hv1 hv2=>by
 refine a151 (AF AI.tnil (AE ?_))
 simp only[eE,reduceCtorEq,↓reduceIte,Nat.reduceAdd,c151]
 refine r_bd C0 hne hl hp hx (AG.refl _) fun v r hr=>?_
 simp only[eE,eN,Nat.reduceEqDiff,↓reduceIte,Nat.reduceAdd,Nat.reduceLeDiff,eF1 hne,retK,hx]
 exact⟨⟨_,rfl,Wk.refl _⟩,(by simp only[AA,eF2 hne,if_true,if_false,hp]),⟨vn,vo,(by simp only[AA,eF1 hne,if_true,if_false];try (first|rfl|assumption)),hv1,hv2⟩,(by repeat (first|exact AG.refl _|apply AG.p|apply AG.x))⟩
theorem Qb:DJ 152 fun x l=>(Bc l).bd fun s r=>.ok {x with on:=s} r:=DJ.of l152 fun e l pid xid x vn vo H n hl hne hx0 hp hx hv1 hv2=>by
 refine a152 (AF AI.tnil (AE ?_))
 simp only[eE,reduceCtorEq,↓reduceIte,Nat.reduceAdd,c152]
 refine r_bd C0 hne hl hp hx (AG.refl _) fun v r hr=>?_
 simp only[eE,eN,Nat.reduceEqDiff,↓reduceIte,Nat.reduceAdd,Nat.reduceLeDiff,eF1 hne,retK,hx]
 exact⟨⟨_,rfl,Wk.refl _⟩,(by simp only[AA,eF2 hne,if_true,if_false,hp]),⟨vn,vo,(by simp only[AA,eF1 hne,if_true,if_false];try (first|rfl|assumption)),hv1,hv2⟩,(by repeat (first|exact AG.refl _|apply AG.p|apply AG.x))⟩
theorem r_not:DJ 149 fun x l=>(setR l).bd fun ss r=>(need Cn r).bd fun _ r=>(setR r).bd fun os r=>.ok {x with ns:=ss,os:=os} r:=DJ.of l149 fun e l pid xid x vn vo H n hl hne hx0 hp hx hv1 hv2=>by
 refine a149 (AF AI.tnil (AE ?_))
 simp only[eE,reduceCtorEq,↓reduceIte,Nat.reduceAdd,c149]
 refine r_bd O0 hne hl hp hx (AG.refl _) fun ss r1 hr1=>?_
 have hl1:=At hl (Co.le _ _ _ hr1)
 simp only[eE,eN,reduceCtorEq,Nat.reduceEqDiff,↓reduceIte,Nat.reduceAdd,Nat.reduceLeDiff,Nat.reduceMul,nS1,eF1 hne,retK,hx]
 refine r_bd (Aw Cn) hne hl1 (by simp only[AA,eF2 hne,if_true,if_false,hp]) (by simp only[AA,eF1 hne,if_true,if_false];try (first|rfl|assumption)) (by repeat (first|exact AG.refl _|apply AG.p|apply AG.x)) fun u r2 hr2=>?_
 have hl2:=At hl1 ((AR _).le _ _ _ hr2)
 simp only[eE,eN,reduceCtorEq,Nat.reduceEqDiff,↓reduceIte,retK]
 refine r_bd O0 hne hl2 (by simp only[AA,eF2 hne,if_true,if_false,hp]) (by simp only[AA,eF1 hne,if_true,if_false];try (first|rfl|assumption)) (by repeat (first|exact AG.refl _|apply AG.p|apply AG.x)) fun os r3 hr3=>?_
 simp only[eE,eN,Nat.reduceEqDiff,↓reduceIte,Nat.reduceAdd,Nat.reduceLeDiff,eF1 hne,retK]
 exact⟨⟨_,rfl,Wk.refl _⟩,(by simp only[AA,eF2 hne,if_true,if_false,hp]),⟨eSs ss,eSs os,(by simp only[AA,eF1 hne,if_true,if_false];try (first|rfl|assumption)),Wk.refl _,Wk.refl _⟩,(by repeat (first|exact AG.refl _|apply AG.p|apply AG.x))⟩
def bndX (x:DRul) (l:List Tkn):Rs DRul:=(bndR l).bd fun b r=>.ok {x with op:=b.1,n:=b.2.1,byN:=b.2.2} r
theorem bnd_x (x:DRul) (h:Lu x) (l:List Tkn):bndX x l=(opR l).bd fun o r=>(if BH r=true then(nmbR r).bd fun n r=>.ok {x with op:=o,n:=n} r else(Bc r).bd fun s r=>.ok {x with op:=o,byN:=s} r:Rs DRul):=by
 obtain⟨h1,h2⟩:=h
 unfold bndX bndR
 cases opR l with
 |bad r=>rfl
 |ok o r=>
  show((limR r).bd fun p r=>Rs.ok (o,p) r).bd (fun b r=>Rs.ok ({x with op:=b.1,n:=b.2.1,byN:=b.2.2}:DRul) r)=(if BH r=true then(nmbR r).bd fun n r=>Rs.ok ({x with op:=o,n:=n}:DRul) r else(Bc r).bd fun s r=>Rs.ok ({x with op:=o,byN:=s}:DRul) r)
  unfold limR
  split
  ·cases nmbR r with
   |bad q=>rfl
   |ok n q=>show Rs.ok ({x with op:=o,n:=n,byN:=[]}:DRul) q=Rs.ok {x with op:=o,n:=n} q;rw[←h2]
  ·cases Bc r with
   |bad q=>rfl
   |ok n q=>show Rs.ok ({x with op:=o,n:=0,byN:=n}:DRul) q=Rs.ok {x with op:=o,byN:=n} q;rw[←h1]
theorem Bh {w:Bs} {l:List Tkn} (h:hdW w l=true):EH w l= .ok true l.tail:=by unfold EH;rw[if_pos h]
theorem CA {w:Bs} {l:List Tkn} (h:¬hdW w l=true):EH w l= .ok false l:=by unfold EH;rw[if_neg h]
theorem Td {l:List Tkn} (h:hdW wIs l=true):opR l= .ok 1 l.tail:=by unfold opR;rw[if_pos h]
theorem Te {l:List Tkn} (h:¬hdW wIs l=true) (h2:hdW Es l=true):opR l= .ok 2 l.tail:=by unfold opR;rw[if_neg h,if_pos h2]
theorem Tf {l:List Tkn} (h:¬hdW wIs l=true) (h2:¬hdW Es l=true):opR l=(need Ed l).bd fun _ r=>.ok 3 r:=by unfold opR;rw[if_neg h,if_neg h2]
theorem Be {α β:Type} (a:α) (r:List Tkn) (f:α→List Tkn→Rs β):(Rs.ok a r).bd f=f a r:=rfl
theorem Kr:DJ 153 bndX:=DJ.of l153 fun e l pid xid x vn vo H n hl hne hx0 hp hx hv1 hv2=>by
 refine a153 (AF AI.tnil (AE ?_))
 rw[bnd_x x hx0]
 simp only[eE,↓reduceIte,Nat.reduceAdd,c153]
 by_cases w1:hdW wIs l=true
 ·refine y_ok (e:=e) (A3 wIs) hl hp (Bh w1) ?_
  rw[Td w1,Be]
  have hl1:=Av hl
  simp only[eE,eC,eN,reduceCtorEq,Nat.reduceEqDiff,↓reduceIte,Nat.reduceAdd,Nat.reduceLeDiff,eF1 hne,retK,hx]
  refine y_ok (e:=e) DI hl1 (by simp only[AA,eF2 hne,if_true,if_false,hp]) rfl ?_
  cases hb:BH l.tail with
  |true=>
   simp only[eE,eC,eN,reduceCtorEq,Nat.reduceEqDiff,↓reduceIte,retK]
   refine r_bd Bg hne hl1 (by simp only[AA,eF2 hne,if_true,if_false,hp]) (by simp only[AA,eF1 hne,if_true,if_false];try (first|rfl|assumption)) (by repeat (first|exact AG.refl _|apply AG.p|apply AG.x)) fun v r hr=>?_
   simp only[eE,eN,Nat.reduceEqDiff,↓reduceIte,Nat.reduceAdd,Nat.reduceLeDiff,eF1 hne,retK]
   exact⟨⟨_,rfl,Wk.refl _⟩,(by simp only[AA,eF2 hne,if_true,if_false,hp]),⟨vn,vo,(by simp only[AA,eF1 hne,if_true,if_false];try (first|rfl|assumption)),hv1,hv2⟩,(by repeat (first|exact AG.refl _|apply AG.p|apply AG.x))⟩
  |false=>
   simp only[eE,eC,eN,reduceCtorEq,Nat.reduceEqDiff,↓reduceIte,retK]
   refine r_bd C0 hne hl1 (by simp only[AA,eF2 hne,if_true,if_false,hp]) (by simp only[AA,eF1 hne,if_true,if_false];try (first|rfl|assumption)) (by repeat (first|exact AG.refl _|apply AG.p|apply AG.x)) fun v r hr=>?_
   simp only[eE,eN,Nat.reduceEqDiff,↓reduceIte,Nat.reduceAdd,Nat.reduceLeDiff,eF1 hne,retK]
   exact⟨⟨_,rfl,Wk.refl _⟩,(by simp only[AA,eF2 hne,if_true,if_false,hp]),⟨vn,vo,(by simp only[AA,eF1 hne,if_true,if_false];try (first|rfl|assumption)),hv1,hv2⟩,(by repeat (first|exact AG.refl _|apply AG.p|apply AG.x))⟩
 refine y_ok (e:=e) (A3 wIs) hl hp (CA w1) ?_
 simp only[eE,eC,eN,reduceCtorEq,Nat.reduceEqDiff,↓reduceIte,retK]
 by_cases w2:hdW Es l=true
 ·refine y_ok (e:=e) (A3 Es) hl (by simp only[AA,if_true,hp]) (Bh w2) ?_
  rw[Te w1 w2,Be]
  have hl1:=Av hl
  simp only[eE,eC,eN,reduceCtorEq,Nat.reduceEqDiff,↓reduceIte,Nat.reduceAdd,Nat.reduceLeDiff,eF1 hne,retK,hx]
  refine y_ok (e:=e) DI hl1 (by simp only[AA,eF2 hne,if_true,if_false,hp]) rfl ?_
  cases hb:BH l.tail with
  |true=>
   simp only[eE,eC,eN,reduceCtorEq,Nat.reduceEqDiff,↓reduceIte,retK]
   refine r_bd Bg hne hl1 (by simp only[AA,eF2 hne,if_true,if_false,hp]) (by simp only[AA,eF1 hne,if_true,if_false];try (first|rfl|assumption)) (by repeat (first|exact AG.refl _|apply AG.p|apply AG.x)) fun v r hr=>?_
   simp only[eE,eN,Nat.reduceEqDiff,↓reduceIte,Nat.reduceAdd,Nat.reduceLeDiff,eF1 hne,retK]
   exact⟨⟨_,rfl,Wk.refl _⟩,(by simp only[AA,eF2 hne,if_true,if_false,hp]),⟨vn,vo,(by simp only[AA,eF1 hne,if_true,if_false];try (first|rfl|assumption)),hv1,hv2⟩,(by repeat (first|exact AG.refl _|apply AG.p|apply AG.x))⟩
  |false=>
   simp only[eE,eC,eN,reduceCtorEq,Nat.reduceEqDiff,↓reduceIte,retK]
   refine r_bd C0 hne hl1 (by simp only[AA,eF2 hne,if_true,if_false,hp]) (by simp only[AA,eF1 hne,if_true,if_false];try (first|rfl|assumption)) (by repeat (first|exact AG.refl _|apply AG.p|apply AG.x)) fun v r hr=>?_
   simp only[eE,eN,Nat.reduceEqDiff,↓reduceIte,Nat.reduceAdd,Nat.reduceLeDiff,eF1 hne,retK]
   exact⟨⟨_,rfl,Wk.refl _⟩,(by simp only[AA,eF2 hne,if_true,if_false,hp]),⟨vn,vo,(by simp only[AA,eF1 hne,if_true,if_false];try (first|rfl|assumption)),hv1,hv2⟩,(by repeat (first|exact AG.refl _|apply AG.p|apply AG.x))⟩
 refine y_ok (e:=e) (A3 Es) hl (by simp only[AA,if_true,hp]) (CA w2) ?_
 rw[Tf w1 w2,BT]
 simp only[eE,eC,eN,reduceCtorEq,Nat.reduceEqDiff,↓reduceIte,Nat.reduceLeDiff,Nat.reduceMul,nS1,retK]
 refine r_bd (Aw Ed) hne hl (by simp only[AA,if_true,hp]) (by simp only[AA,eF1 hne,if_false];try (first|rfl|assumption)) (by repeat (first|exact AG.refl _|apply AG.p|apply AG.x)) fun u r1 hr1=>?_
 have hl1:=At hl ((AR _).le _ _ _ hr1)
 rw[Be]
 simp only[eE,eN,reduceCtorEq,Nat.reduceEqDiff,↓reduceIte,Nat.reduceAdd,Nat.reduceLeDiff,eF1 hne,retK,hx]
 refine y_ok (e:=e) DI hl1 (by simp only[AA,eF2 hne,if_true,if_false,hp]) rfl ?_
 cases hb:BH r1 with
 |true=>
  simp only[eE,eC,eN,reduceCtorEq,Nat.reduceEqDiff,↓reduceIte,retK]
  refine r_bd Bg hne hl1 (by simp only[AA,eF2 hne,if_true,if_false,hp]) (by simp only[AA,eF1 hne,if_true,if_false];try (first|rfl|assumption)) (by repeat (first|exact AG.refl _|apply AG.p|apply AG.x)) fun v r hr=>?_
  simp only[eE,eN,Nat.reduceEqDiff,↓reduceIte,Nat.reduceAdd,Nat.reduceLeDiff,eF1 hne,retK]
  exact⟨⟨_,rfl,Wk.refl _⟩,(by simp only[AA,eF2 hne,if_true,if_false,hp]),⟨vn,vo,(by simp only[AA,eF1 hne,if_true,if_false];try (first|rfl|assumption)),hv1,hv2⟩,(by repeat (first|exact AG.refl _|apply AG.p|apply AG.x))⟩
 |false=>
  simp only[eE,eC,eN,reduceCtorEq,Nat.reduceEqDiff,↓reduceIte,retK]
  refine r_bd C0 hne hl1 (by simp only[AA,eF2 hne,if_true,if_false,hp]) (by simp only[AA,eF1 hne,if_true,if_false];try (first|rfl|assumption)) (by repeat (first|exact AG.refl _|apply AG.p|apply AG.x)) fun v r hr=>?_
  simp only[eE,eN,Nat.reduceEqDiff,↓reduceIte,Nat.reduceAdd,Nat.reduceLeDiff,eF1 hne,retK]
  exact⟨⟨_,rfl,Wk.refl _⟩,(by simp only[AA,eF2 hne,if_true,if_false,hp]),⟨vn,vo,(by simp only[AA,eF1 hne,if_true,if_false];try (first|rfl|assumption)),hv1,hv2⟩,(by repeat (first|exact AG.refl _|apply AG.p|apply AG.x))⟩
theorem each_1 {x:DRul} {l:List Tkn} (h:hdW D9 l=true):ED x l= .ok {x with kind:=1} l.tail:=by unfold ED;rw[if_pos h]
theorem each_2 {x:DRul} {l:List Tkn} (h1:¬hdW D9 l=true) (h:hdW CP l=true):ED x l=(setR l.tail).bd fun ss r=>bndX {x with kind:=2,ns:=ss} r:=by unfold ED;rw[if_neg h1,if_pos h];rfl
theorem each_3 {x:DRul} {l:List Tkn} (h1:¬hdW D9 l=true) (h2:¬hdW CP l=true) (h:hdW wSum l=true):ED x l=bndX {x with kind:=3} l.tail:=by unfold ED;rw[if_neg h1,if_neg h2,if_pos h];rfl
theorem each_4 {x:DRul} {l:List Tkn} (h1:¬hdW D9 l=true) (h2:¬hdW CP l=true) (h3:¬hdW wSum l=true) (h:hdW FN l=true):ED x l= .ok {x with kind:=4} l.tail:=by unfold ED;rw[if_neg h1,if_neg h2,if_neg h3,if_pos h]
theorem each_5 {x:DRul} {l:List Tkn} (h1:¬hdW D9 l=true) (h2:¬hdW CP l=true) (h3:¬hdW wSum l=true) (h4:¬hdW FN l=true):ED x l=(need Cm l).bd fun _ r=>(setR r).bd fun ss r=>(need wBy r).bd fun _ r=>(Bc r).bd fun s r=>.ok {x with kind:=5,ns:=ss,byN:=s} r:=by
 unfold ED;rw[if_neg h1,if_neg h2,if_neg h3,if_neg h4]
theorem r_each:DJ 146 fun x l=>(Bc l).bd fun s r=>ED {x with on:=s} r:=DJ.of l146 fun e l pid xid x vn vo H n hl hne hx0 hp hx hv1 hv2=>by
 refine a146 (AF AI.tnil (AE ?_))
 simp only[eE,reduceCtorEq,↓reduceIte,Nat.reduceAdd,c146]
 refine r_bd C0 hne hl hp hx (AG.refl _) fun s r1 hr1=>?_
 have hl1:=At hl (As.le _ _ _ hr1)
 simp only[eE,eN,reduceCtorEq,Nat.reduceEqDiff,↓reduceIte,Nat.reduceAdd,Nat.reduceLeDiff,eF1 hne,retK,hx]
 by_cases w1:hdW D9 r1=true
 ·refine y_ok (e:=e) (A3 D9) hl1 (by simp only[AA,eF2 hne,if_true,if_false,hp]) (Bh w1) ?_
  rw[each_1 w1]
  simp only[eE,eC,eN,reduceCtorEq,Nat.reduceEqDiff,↓reduceIte,Nat.reduceAdd,Nat.reduceLeDiff,eF1 hne,retK]
  exact⟨⟨_,rfl,Wk.refl _⟩,(by simp only[AA,eF2 hne,if_true,if_false,hp]),⟨vn,vo,(by simp only[AA,eF1 hne,if_true,if_false];try (first|rfl|assumption)),hv1,hv2⟩,(by repeat (first|exact AG.refl _|apply AG.p|apply AG.x))⟩
 refine y_ok (e:=e) (A3 D9) hl1 (by simp only[AA,eF2 hne,if_true,if_false,hp]) (CA w1) ?_
 simp only[eE,eC,eN,reduceCtorEq,Nat.reduceEqDiff,↓reduceIte,retK]
 by_cases w2:hdW CP r1=true
 ·refine y_ok (e:=e) (A3 CP) hl1 (by simp only[AA,eF2 hne,if_true,if_false,hp]) (Bh w2) ?_
  rw[each_2 w1 w2]
  have hl2:=Av hl1
  simp only[eE,eC,eN,reduceCtorEq,Nat.reduceEqDiff,↓reduceIte,Nat.reduceAdd,Nat.reduceLeDiff,eF1 hne,retK]
  refine r_bd O0 hne hl2 (by simp only[AA,eF2 hne,if_true,if_false,hp]) (by simp only[AA,eF1 hne,if_true,if_false];try (first|rfl|assumption)) (by repeat (first|exact AG.refl _|apply AG.p|apply AG.x)) fun ss r3 hr3=>?_
  have hl3:=At hl2 (Co.le _ _ _ hr3)
  simp only[eE,eN,reduceCtorEq,Nat.reduceEqDiff,↓reduceIte,Nat.reduceAdd,Nat.reduceLeDiff,eF1 hne,retK]
  refine RT (x:={x with on:=s,kind:=2,ns:=ss}) (vn:=eSs ss) (vo:=vo) Kr hne hl3 hx0 (by simp only[AA,eF2 hne,if_true,if_false,hp]) (by simp only[AA,eF1 hne,if_true,if_false];try (first|rfl|assumption)) (Wk.refl _) hv2 (by repeat (first|exact AG.refl _|apply AG.p|apply AG.x)) fun a r4 hr4=>?_
  simp only[eE,eN,retK]
  exact⟨⟨_,rfl,Wk.refl _⟩,(by simp only[AA,eF2 hne,if_true,if_false,hp]),⟨eSs a.ns,eSs a.os,(by simp only[AA,eF1 hne,if_true,if_false];try (first|rfl|assumption)),Wk.refl _,Wk.refl _⟩,(by repeat (first|exact AG.refl _|apply AG.p|apply AG.x))⟩
 refine y_ok (e:=e) (A3 CP) hl1 (by simp only[AA,eF2 hne,if_true,if_false,hp]) (CA w2) ?_
 simp only[eE,eC,eN,reduceCtorEq,Nat.reduceEqDiff,↓reduceIte,retK]
 by_cases w3:hdW wSum r1=true
 ·refine y_ok (e:=e) (A3 wSum) hl1 (by simp only[AA,eF2 hne,if_true,if_false,hp]) (Bh w3) ?_
  rw[each_3 w1 w2 w3]
  have hl2:=Av hl1
  simp only[eE,eC,eN,reduceCtorEq,Nat.reduceEqDiff,↓reduceIte,Nat.reduceAdd,Nat.reduceLeDiff,eF1 hne,retK]
  refine RT (x:={x with on:=s,kind:=3}) (vn:=vn) (vo:=vo) Kr hne hl2 hx0 (by simp only[AA,eF2 hne,if_true,if_false,hp]) (by simp only[AA,eF1 hne,if_true,if_false];try (first|rfl|assumption)) hv1 hv2 (by repeat (first|exact AG.refl _|apply AG.p|apply AG.x)) fun a r4 hr4=>?_
  simp only[eE,eN,retK]
  exact⟨⟨_,rfl,Wk.refl _⟩,(by simp only[AA,eF2 hne,if_true,if_false,hp]),⟨eSs a.ns,eSs a.os,(by simp only[AA,eF1 hne,if_true,if_false];try (first|rfl|assumption)),Wk.refl _,Wk.refl _⟩,(by repeat (first|exact AG.refl _|apply AG.p|apply AG.x))⟩
 refine y_ok (e:=e) (A3 wSum) hl1 (by simp only[AA,eF2 hne,if_true,if_false,hp]) (CA w3) ?_
 simp only[eE,eC,eN,reduceCtorEq,Nat.reduceEqDiff,↓reduceIte,retK]
 by_cases w4:hdW FN r1=true
 ·refine y_ok (e:=e) (A3 FN) hl1 (by simp only[AA,eF2 hne,if_true,if_false,hp]) (Bh w4) ?_
  rw[each_4 w1 w2 w3 w4]
  simp only[eE,eC,eN,reduceCtorEq,Nat.reduceEqDiff,↓reduceIte,Nat.reduceAdd,Nat.reduceLeDiff,eF1 hne,retK]
  exact⟨⟨_,rfl,Wk.refl _⟩,(by simp only[AA,eF2 hne,if_true,if_false,hp]),⟨vn,vo,(by simp only[AA,eF1 hne,if_true,if_false];try (first|rfl|assumption)),hv1,hv2⟩,(by repeat (first|exact AG.refl _|apply AG.p|apply AG.x))⟩
 refine y_ok (e:=e) (A3 FN) hl1 (by simp only[AA,eF2 hne,if_true,if_false,hp]) (CA w4) ?_
 rw[each_5 w1 w2 w3 w4]
 simp only[eE,eC,eN,reduceCtorEq,Nat.reduceEqDiff,↓reduceIte,Nat.reduceLeDiff,Nat.reduceMul,nS1,retK]
 refine r_bd (Aw Cm) hne hl1 (by simp only[AA,eF2 hne,if_true,if_false,hp]) (by simp only[AA,eF1 hne,if_true,if_false];try (first|rfl|assumption)) (by repeat (first|exact AG.refl _|apply AG.p|apply AG.x)) fun u r2 hr2=>?_
 have hl2:=At hl1 ((AR _).le _ _ _ hr2)
 simp only[eE,eN,reduceCtorEq,Nat.reduceEqDiff,↓reduceIte,Nat.reduceAdd,Nat.reduceLeDiff,eF1 hne,retK]
 refine r_bd O0 hne hl2 (by simp only[AA,eF2 hne,if_true,if_false,hp]) (by simp only[AA,eF1 hne,if_true,if_false];try (first|rfl|assumption)) (by repeat (first|exact AG.refl _|apply AG.p|apply AG.x)) fun ss r3 hr3=>?_
 have hl3:=At hl2 (Co.le _ _ _ hr3)
 simp only[eE,eN,reduceCtorEq,Nat.reduceEqDiff,↓reduceIte,Nat.reduceAdd,Nat.reduceLeDiff,Nat.reduceMul,nS1,eF1 hne,retK]
 refine r_bd (Aw wBy) hne hl3 (by simp only[AA,eF2 hne,if_true,if_false,hp]) (by simp only[AA,eF1 hne,if_true,if_false];try (first|rfl|assumption)) (by repeat (first|exact AG.refl _|apply AG.p|apply AG.x)) fun u r4 hr4=>?_
 have hl4:=At hl3 ((AR _).le _ _ _ hr4)
 simp only[eE,eN,reduceCtorEq,Nat.reduceEqDiff,↓reduceIte,retK]
 refine r_bd C0 hne hl4 (by simp only[AA,eF2 hne,if_true,if_false,hp]) (by simp only[AA,eF1 hne,if_true,if_false];try (first|rfl|assumption)) (by repeat (first|exact AG.refl _|apply AG.p|apply AG.x)) fun b r5 hr5=>?_
 simp only[eE,eN,Nat.reduceEqDiff,↓reduceIte,Nat.reduceAdd,Nat.reduceLeDiff,eF1 hne,retK]
 exact⟨⟨_,rfl,Wk.refl _⟩,(by simp only[AA,eF2 hne,if_true,if_false,hp]),⟨eSs ss,vo,(by simp only[AA,eF1 hne,if_true,if_false];try (first|rfl|assumption)),Wk.refl _,hv2⟩,(by repeat (first|exact AG.refl _|apply AG.p|apply AG.x))⟩
end Go.AM
end
section
set_option maxRecDepth 20000
set_option linter.all false
set_option maxHeartbeats 1000000
namespace Go.AM
open Go.Proofs Go.Lib Go.RowKit Go.Sort
def wS:List Bs:=[Cw,FK,Bp,FM,Cx,FL,wNot,Cl,Bq]
def wd (i:Nat):Bs:=wS[i]?.getD []
abbrev eW (i:Nat):AVal:=.str (wd i)
theorem Tg {a b:Nat} (ha:a<9) (hb:b<9):Op.bytesLess (wd a) (wd b)=decide (a<b):=by
 have key:∀a b:Fin 9,Op.bytesLess (wd a.val) (wd b.val)=decide (a.val<b.val):=by decide+kernel
 exact key ⟨a,ha⟩ ⟨b,hb⟩
theorem p189 (a:Bs):Pur Tryz.prog 189 [.str a] (.bool false):=by
 refine .mk ⟨trivial,trivial⟩ trivial (a189 (AF AI.tnil (AE ?_)))
 have h:scmp .neq a a=false:=by simp [scmp]
 simp only[eE,eN,reduceCtorEq,Nat.reduceEqDiff,↓reduceIte,c189,h]
def Tnn:Tab:=tadd 189 (s1 dS any1 fun _=>.bool false) tnil
theorem Tnn_ok:AI Tryz.prog Tnn:=AI.tnil.add (q1 fun x h=>p189 x)
theorem Tnn_e (a:List AVal) (H:AD):Tnn 189 a H=(s1 dS any1 fun _=>.bool false) a H:=rfl
theorem p180 (a b:Bs):Pur Tryz.prog 180 [.str a,.str b] (.bool (Op.bytesLess a b)):=by
 refine .mk ⟨trivial,trivial,trivial⟩ trivial (a180 (AF Tnn_ok (AE ?_)))
 have h:scmp .lss a b=Op.bytesLess a b:=rfl
 simp only[eE,eC,eN,reduceCtorEq,Nat.reduceEqDiff,↓reduceIte,Nat.reduceAdd,Bool.not_false,c180,Tnn_e,s1,AV,AH,h]
def Tls:Tab:=tadd 180 (s2 dS dS any2 fun a b=>.bool (Op.bytesLess a b)) tnil
theorem Tls_ok:AI Tryz.prog Tls:=AI.tnil.add (q2 fun x y h=>p180 x y)
theorem Tls_e (a:List AVal) (H:AD):Tls 180 a H=(s2 dS dS any2 fun a b=>.bool (Op.bytesLess a b)) a H:=rfl
abbrev gt (l:List Nat) (p:Nat):Nat:=l[p]?.getD 0
def swp (l:List Nat) (j:Nat):List Nat:=(l.set j (gt l (j-1))).set (j-1) (gt l j)
theorem swp_gt {l:List Nat} {j:Nat} (h0:0<j) (hj:j<l.length) (p:Nat):gt (swp l j) p=if p=j then gt l (j-1)else if p=j-1 then gt l j else gt l p:=by
 unfold swp
 simp only[gt]
 rw[List.getElem?_set,List.getElem?_set]
 by_cases h1:p=j
 ·subst h1
  rw[if_neg (by omega),if_pos rfl,if_pos rfl]
  simp [hj]
 ·rw[if_neg h1]
  by_cases h2:p=j-1
  ·subst h2
   rw[if_pos rfl,if_pos rfl,if_pos (by rw[List.length_set];omega)];rfl
  ·rw[if_neg h2,if_neg (by omega),if_neg (by omega)]
theorem Qd {l:List Nat} {j:Nat} (h0:0<j) (hj:j<l.length):(swp l j).Perm l:=by
 have e1:gt l (j-1)=l[j-1]:=by simp only[gt];rw[List.getElem?_eq_getElem (by omega)];rfl
 have e2:gt l j=l[j]:=by simp only[gt];rw[List.getElem?_eq_getElem hj];rfl
 unfold swp
 rw[e1,e2]
 exact List.set_set_perm hj (by omega)
theorem O3 {l m:List Nat} (h:l.Perm m) (hm:∀x∈m,x<9) {p:Nat} (hp:p<l.length):gt l p<9:=by
 have:l[p]∈m:=h.mem_iff.1 (List.getElem_mem hp)
 simp only[gt]
 rw[List.getElem?_eq_getElem hp]
 exact hm _ this
structure II (xs:List Nat) (i:Nat) (v:Nat×List Nat):Prop where
 j:v.1≤i
 pm:v.2.Perm xs
 c1:∀p q,p<q→q≤i→p≠v.1→q≠v.1→gt v.2 p≤gt v.2 q
 c2:∀q,v.1<q→q≤i→gt v.2 v.1≤gt v.2 q
theorem II.step {xs:List Nat} {i j:Nat} {l:List Nat} (h:II xs i (j,l)) (hi:i<xs.length) (h0:0<j) (hlt:gt l j<gt l (j-1)):II xs i (j-1,swp l j):=by
 obtain⟨h1,h2,h3,h4⟩:=h
 simp only at h1 h2 h3 h4
 have hlen:=h2.length_eq
 have hg:=swp_gt (l:=l) h0 (by omega)
 refine⟨by simp only[];omega,(Qd h0 (by omega)).trans h2,fun p q hpq hq hp1 hq1=>?_,fun q hq hqi=>?_⟩
 ·simp only at hp1 hq1⊢
  rw[hg,hg,if_neg (show ¬p=j-1 from hp1),if_neg (show ¬q=j-1 from hq1)]
  by_cases e1:p=j
  ·rw[if_pos e1,if_neg (by omega)]
   exact h3 (j-1) q (by omega) hq (by omega) (by omega)
  ·rw[if_neg e1]
   by_cases e2:q=j
   ·rw[if_pos e2]
    exact h3 p (j-1) (by omega) (by omega) e1 (by omega)
   ·rw[if_neg e2]
    exact h3 p q hpq hq e1 e2
 ·simp only at hq⊢
  rw[hg,hg,if_neg (by omega),if_pos rfl]
  by_cases e1:q=j
  ·rw[if_pos e1];omega
  ·rw[if_neg e1,if_neg (by omega)]
   exact h4 q (by omega) hqi
theorem II.done {xs:List Nat} {i j:Nat} {l:List Nat} (h:II xs i (j,l)) (he:j=0∨¬gt l j<gt l (j-1)):∀p q,p<q→q<i+1→gt l p≤gt l q:=by
 obtain⟨h1,h2,h3,h4⟩:=h
 simp only at h1 h2 h3 h4
 intro p q hpq hq
 by_cases e1:p=j
 ·subst e1;exact h4 q hpq (by omega)
 ·by_cases e2:q=j
  ·subst e2
   have hle:gt l (q-1)≤gt l q:=by rcases he with he|he<;>omega
   by_cases e3:p=q-1
   ·rw[e3];exact hle
   ·have:=h3 p (q-1) (by omega) (by omega) e1 (by omega)
    omega
  ·exact h3 p q hpq (by omega) e1 e2
abbrev arW (l rest:List Nat):AObj:=.arr 1 ((l++rest).map eW)
theorem get_W {l rest:List Nat} {p:Nat} (h:p<l.length):(l++rest)[p]?=some (gt l p):=by
 rw[List.getElem?_append_left h,List.getElem?_eq_getElem h]
 simp [gt,List.getElem?_eq_getElem h]
theorem pred_w {j:Nat} (h:0<j) (hj:j<1000):IntKind.wrap .i64 ((j:Int)-1)=((j-1:Nat):Int):=by rw[Fr (by omega) (by omega)];omega
theorem set_W {l rest:List Nat} {p x:Nat} (h:p<l.length):((l++rest).map eW).set p (eW x)=((l.set p x)++rest).map eW:=by
 rw[←List.map_set,List.set_append_left _ _ h]
theorem t_ins {H:AD} {n id cap:Nat} {xs rest:List Nat} (ho:hget H id=some (arW xs rest)) (hx:∀x∈xs,x<9) (hl:xs.length≤12):
  AP Tryz.prog 174 [.ref id 1 0 xs.length cap,.int .i64 0,.int .i64 xs.length] H n fun o H' n'=>o= .ret (.tup [])∧(∃ys:List Nat,ys.Perm xs∧ys.Pairwise (· ≤ ·)∧H'=hset H id (arW ys rest))∧n'=n:=by
 refine a174 (AF Tls_ok (AE ?_))
 have w01:IntKind.wrap .i64 ((0:Int)+1)=((1:Nat):Int):=by decide
 simp only[eE,eN,reduceCtorEq,Nat.reduceEqDiff,↓reduceIte,Nat.reduceAdd,Int.reduceEq,c1,c174,w01]
 refine AW (fun v:Nat×List Nat=>⟨[(0,true,.ref id 1 0 xs.length cap),(1,true,.int .i64 0),(2,true,.int .i64 xs.length),(6,true,.int .i64 v.1)],hset H id (arW v.2 rest),n⟩)
  (fun v=>1≤v.1∧v.2.Perm xs∧(v.1≤xs.length∨v.1=1)∧∀p q,p<q→q<v.1→gt v.2 p≤gt v.2 q) (fun v=>xs.length-v.1) (1,xs) ?_ ⟨Nat.le_refl _,.refl _,.inr rfl,fun p q h1 h2=>by simp only at h2;omega⟩ ?_
 ·show(⟨_,_,_⟩:AS)=_
  have:hset H id (arW xs rest)=H:=by
   funext k;simp only[hset];split
   ·rename_i e;rw[←e];exact ho.symm
   ·rfl
  simp only[]
  rw[this];rfl
 rintro⟨i,ys⟩ ⟨h1,hp,hi,hs⟩
 simp only at h1 hp hi hs
 have hlen:=hp.length_eq
 by_cases hlt:i<xs.length
 case neg=>
  simp only[eE,eC,eN,reduceCtorEq,Nat.reduceEqDiff,↓reduceIte,lt_F hlt]
  refine⟨ys,hp,?_,rfl⟩
  rw[List.pairwise_iff_getElem]
  intro p q hpl hql hpq
  have:=hs p q hpq (by omega)
  simp only[gt,List.getElem?_eq_getElem hpl,List.getElem?_eq_getElem hql,Option.getD_some]at this
  exact this
 simp only[eE,eC,eN,reduceCtorEq,Nat.reduceEqDiff,↓reduceIte,lt_T hlt]
 refine AW (fun v:Nat×List Nat=>⟨[(0,true,.ref id 1 0 xs.length cap),(1,true,.int .i64 0),(2,true,.int .i64 xs.length),(6,true,.int .i64 i),(7,true,.int .i64 v.1)],hset H id (arW v.2 rest),n⟩)
  (II xs i) (fun v=>v.1) (i,ys) rfl ⟨Nat.le_refl _,hp,fun p q h1 h2 h3 h4=>hs p q h1 (by simp only at h4;omega),fun q h1 h2=>by simp only at h1;omega⟩ ?_
 rintro⟨j,zs⟩ hI
 have hI':=hI
 obtain⟨k1,k2,k3,k4⟩:=hI'
 simp only at k1 k2 k3 k4
 have hzl:=k2.length_eq
 have wi:=AO (k:=i) (by omega)
 have nxt:(j=0∨¬gt zs j<gt zs (j-1))→1≤i+1∧zs.Perm xs∧(i+1≤xs.length∨i+1=1)∧∀p q,p<q→q<i+1→gt zs p≤gt zs q:=fun he=>⟨by omega,k2,.inl hlt,hI.done he⟩
 by_cases hj:0<j
 case neg=>
  obtain rfl:j=0:=by omega
  have z1:((0:Int)<((0:Nat):Int))=False:=eq_false (by decide)
  simp only[eE,eC,eN,reduceCtorEq,Nat.reduceEqDiff,↓reduceIte,Int.reduceEq,c0,i00,Int.toNat_zero,Int.le_refl,List.length_map,List.getElem?_map,List.length_append,wi]
  exact .mk (i+1,zs) rfl (nxt (.inl rfl)) (by simp only[];omega)
 have z1:((0:Int)<(j:Int))=True:=eq_true (by omega)
 have hjl:j<zs.length:=by omega
 have pj:=pred_w hj (by omega)
 have hb1:(j<xs.length)=True:=eq_true (by omega)
 have hb2:(j-1<xs.length)=True:=eq_true (by omega)
 have hb3:((j:Int)<(xs.length:Int))=True:=eq_true (by omega)
 have hb4:(((j-1:Nat):Int)<(xs.length:Int))=True:=eq_true (by omega)
 have hb5:((j-1:Nat)<zs.length+rest.length)=True:=eq_true (by omega)
 have hb6:((j:Nat)<zs.length+rest.length)=True:=eq_true (by omega)
 have g1:(zs++rest)[j]?=some (gt zs j):=get_W hjl
 have g2:(zs++rest)[j-1]?=some (gt zs (j-1)):=get_W (by omega)
 have hless:=Tg (O3 k2 hx hjl) (O3 k2 hx (show j-1<zs.length by omega))
 by_cases hc:gt zs j<gt zs (j-1)
 ·rw[decide_eq_true hc]at hless
  simp only[eE,eC,eN,reduceCtorEq,Nat.reduceEqDiff,↓reduceIte,Int.reduceEq,Option.getD_some,Int.toNat_natCast,Int.natCast_nonneg,List.length_map,List.getElem?_map,List.length_append,List.length_set,z1,pj,hb3,hb4,hb5,hb6,g1,g2,Tls_e,s2,AV,AH,hless]
  refine .mk (j-1,swp zs j) ?_ (hI.step hlt hj hc) (by simp only[];omega)
  rw[AT,AT,set_W hjl,set_W (by rw[List.length_set];omega)];rfl
 ·rw[decide_eq_false hc]at hless
  simp only[eE,eC,eN,reduceCtorEq,Nat.reduceEqDiff,↓reduceIte,Int.reduceEq,Option.getD_some,Int.toNat_natCast,Int.natCast_nonneg,List.length_map,List.getElem?_map,List.length_append,z1,pj,hb3,hb4,hb5,hb6,g1,g2,Tls_e,s2,AV,AH,hless,wi]
  exact .mk (i+1,zs) rfl (nxt (.inr hc)) (by simp only[];omega)
theorem lLen64:AU Tryz.prog 161:=⟨Tryz.f161,by kernel_rfl,by kernel_rfl,by kernel_rfl⟩
def sLn:List AVal→AD→Prop×AVal:=fun a H=>match a with
 |[.int .u64 x]=>(0≤x∧x≤18446744073709551615,.int .i64 (Lib.bitLen x.toNat))
 |_=>(False,.tup [])
theorem qLn64:∀args H n,(sLn args H).1→Bw Tryz.prog 161 args H n (sLn args H).2:=by
 intro args H n h
 unfold sLn at h⊢
 split at h
 ·rename_i x
  refine Pur.quiet ?_ H n
  refine BQ lLen64 ⟨trivial,trivial⟩ trivial ?_
  rintro g w vs hR ⟨v,r,rfl,k1,k3⟩
  have k1':v= .int .u64 x:=k1
  have k3':r=[]:=k3
  subst k1';subst k3'
  refine(Tryz.bits_Len64 x w h.1 h.2).mono ?_
  rintro e w' ⟨rfl,rfl⟩
  exact⟨⟨_,rfl,rfl⟩,Below.refl _ _⟩
 ·exact h.elim
def Tl64:Tab:=tadd 161 sLn tnil
theorem Th:AI Tryz.prog Tl64:=AI.tnil.add qLn64
theorem Tl64_e (a:List AVal) (H:AD):Tl64 161 a H=sLn a H:=rfl
theorem p168 (x:Int) (h:0≤x∧x≤18446744073709551615):Pur Tryz.prog 168 [.int .u64 x] (.int .i64 (Lib.bitLen x.toNat)):=by
 refine .mk ⟨trivial,trivial⟩ trivial (a168 (AF Th (AE ?_)))
 simp only[eE,eC,eN,reduceCtorEq,↓reduceIte,c168,Tl64_e,sLn,h.1,h.2]
def Tlen:Tab:=tadd 168 sLn tnil
theorem Ti:AI Tryz.prog Tlen:=AI.tnil.add (by
 intro args H n h
 unfold sLn at h⊢
 split at h
 ·exact(p168 _ h).quiet H n
 ·exact h.elim)
theorem Tlen_e (a:List AVal) (H:AD):Tlen 168 a H=sLn a H:=rfl
def SrtP (H:AD) (n id:Nat) (xs rest:List Nat):AOut→AD→Nat→Prop:=fun o H' n'=>o= .ret (.tup [])∧(∃ys:List Nat,ys.Perm xs∧ys.Pairwise (· ≤ ·)∧H'=hset H id (arW ys rest))∧n'=n
theorem t_pdq {H:AD} {n id cap:Nat} {xs rest:List Nat} {lim:Int} (ho:hget H id=some (arW xs rest)) (hx:∀x∈xs,x<9) (hl:xs.length≤12):
  AP Tryz.prog 167 [.ref id 1 0 xs.length cap,.int .i64 0,.int .i64 xs.length,.int .i64 lim] H n (SrtP H n id xs rest):=by
 refine a167 (AF AI.tnil (AE ?_))
 rw[c167]
 simp only[eE,eN,reduceCtorEq,Nat.reduceEqDiff,↓reduceIte,Nat.reduceAdd]
 refine AW (fun u:Unit=>⟨[(0,true,.ref id 1 0 xs.length cap),(1,true,.int .i64 0),(2,true,.int .i64 xs.length),(3,true,.int .i64 lim),(8,true,.bool true),(9,true,.bool true)],H,n⟩) (fun _=>True) (fun _=>0) () rfl trivial ?_
 rintro u -
 have w0:IntKind.wrap .i64 ((xs.length:Int)-0)=xs.length:=by rw[Int.sub_zero,Fr (by omega) (by omega)]
 have w1:((xs.length:Int)≤12)=True:=eq_true (by omega)
 simp only[eE,eC,eN,reduceCtorEq,Nat.reduceEqDiff,↓reduceIte,w0,w1]
 refine(t_ins ho hx hl).mono ?_
 rintro o H' n' ⟨rfl,h1,rfl⟩
 simp only[eE,eN,retK]
 exact⟨rfl,h1,rfl⟩
theorem Tj {H:AD} {n id cap:Nat} {xs rest:List Nat} (ho:hget H id=some (arW xs rest)) (hx:∀x∈xs,x<9) (hl:xs.length≤12):
  AP Tryz.prog 155 [.ref id 1 0 xs.length cap] H n (SrtP H n id xs rest):=by
 refine a155 (AF Ti (AE ?_))
 have w0:IntKind.wrap .u64 (xs.length:Int)=xs.length:=by
  have:(xs.length:Int)<18446744073709551616:=by omega
  unfold IntKind.wrap;simp [IntKind.bits];omega
 have w1:((0:Int)≤(xs.length:Int)∧(xs.length:Int)≤18446744073709551615)=True:=eq_true ⟨by omega,by omega⟩
 simp only[eE,eN,reduceCtorEq,Nat.reduceEqDiff,↓reduceIte,Int.toNat_natCast,Int.natCast_nonneg,c155,w0,Tlen_e,sLn]
 refine⟨by omega,(t_pdq ho hx hl).mono ?_⟩
 rintro o H' n' ⟨rfl,h1,rfl⟩
 simp only[eE,eN,retK]
 exact⟨rfl,h1,rfl⟩
end Go.AM
end
section
set_option maxRecDepth 20000
set_option linter.all false
set_option maxHeartbeats 1000000
namespace Go.AM
open Go.Proofs Go.Lib
abbrev clK (q:Nat):AVal:=.fn (.func 156) [] [.ptr q 0]
abbrev eApY (q c:Nat):List (Nat×Bool×AVal):=[(2,true,.ptr c 0),(4,true,.sl .nil []),(6,true,clK q)]
structure ApY (q c L l':Nat) (H0:AD) (n0:Nat) (qs:List Nat) (H:AD) (m:Nat):Prop where
 fr:Ab H m
 lc:n0≤c
 cl:c<L
 lm:L<m
 hc:∃lv,hget H c=some (.box [lv])∧LvG eW 1 (L+1) H lv qs
 hL:hget H L=some (.lp ⟨l',.ready,none,13,eApY q c, #[7],Gi,Gj⟩)
 kp:∀id ob,id<n0→hget H0 id=some ob→hget H id=some ob
theorem y_apY {q c L l':Nat} {H0:AD} {n0:Nat} {qs:List Nat} {H:AD} {m:Nat} (F:ApY q c L l' H0 n0 qs H m) (x:Nat) (hs:qs.length<1000000000) {R:Bool→AD→Nat→Prop}
  (hR:∀H' m',ApY q c L l' H0 n0 (qs++[x]) H' m'→(∀j ob,j<m→j≠c→j≠L→(∀e Z,ob≠ .arr e Z)→hget H j=some ob→hget H' j=some ob)→m≤m'→R true H' m'):Dr Tryz.prog l' [eW x] H m R:=by
 obtain⟨fr,lc,cl,lm,⟨lv,hc,hlv⟩,hL,kp⟩:=F
 refine y166_0 hL rfl (AF AI.tnil (AE ?_))
 simp only[eE,eN,Nat.reduceEqDiff,↓reduceIte,KZ,renv,List.zip_cons_cons,List.zip_nil_left,List.foldl_cons,List.foldl_nil]
 refine⟨_,hL,rfl,AF AI.tnil (AE ?_)⟩
 have y1:∀k,(L=m+k)=False:=fun k=>eq_false (by omega)
 have y2:(L=c)=False:=eq_false (by omega)
 have y3:(c=L)=False:=eq_false (by omega)
 simp only[eE,reduceCtorEq,Nat.reduceEqDiff,↓reduceIte,Nat.reduceLeDiff,Nat.reduceMul,Nat.reduceLT,KY,hc,y2]
 have g1:∀k,hget (hset H L (.lp ⟨l',.busy,none,13,eApY q c, #[7],Gi,Gj⟩)) (m+k)=none:=fun k=>by rw[AC _ _ _ _ (by omega)];exact fr1 fr k
 refine TP (enc:=eW) (lo:=L+1) (qs:=qs) (z0:=9) ?_ rfl (by decide) rfl rfl (Ar (by omega) (by decide)) (g1 3) (by omega) (by omega) ?_
 ·rcases hlv with h|⟨hne,id,rest,h1,h2,h3⟩
  ·exact .inl h
  ·exact .inr ⟨hne,id,rest,h1,h2,by rw[AC _ _ _ _ (by omega)];exact h3⟩
 intro id rest hlo hid
 have hidm:id<m+5:=by
  rcases hid with rfl|⟨Z,h⟩
  ·omega
  ·apply Classical.byContradiction
   intro z
   obtain⟨k,rfl⟩:∃k,id=m+k:=⟨id-m,by omega⟩
   rw[g1]at h;cases h
 have hida:∀j ob,j<m→j≠L→(∀e Z,ob≠ .arr e Z)→hget H j=some ob→j≠id:=by
  intro j ob hj hjL hob h0 e
  subst e
  rcases hid with rfl|⟨Z,h⟩
  ·omega
  ·rw[AC _ _ _ _ (Ne.symm hjL),h0]at h;cases h;exact hob _ _ rfl
 have z1:(id=L)=False:=eq_false (by omega)
 have z2:(id=c)=False:=eq_false (by omega)
 have z3:(L=id)=False:=eq_false (by omega)
 have z4:(c=id)=False:=eq_false (by omega)
 have hidn:¬id<n0:=by omega
 simp only[eE,eN,Nat.reduceEqDiff,↓reduceIte,Hp,z2,y2,hc]
 refine⟨⟨l',.busy,none,13,eApY q c, #[7],Gi,Gj⟩,by simp only[AA,y3,z1,if_false,if_true],hR _ _ ⟨?_,lc,cl,by simp only[];omega,⟨_,by simp only[AA,y2,if_false,if_true],.inr ⟨by simp,id,rest,rfl,hlo,by simp only[AA,z3,z4,if_false,if_true]⟩⟩,by simp only[AA,if_true],?_⟩ ?_ (Nat.le_add_right _ _)⟩
 ·intro j hj
  have hj':m+5≤j:=hj
  simp only[AA];repeat rw[if_neg (by omega)]
  exact fr j (by omega)
 ·intro j ob hj h0
  simp only[AA];repeat rw[if_neg (by omega)]
  exact kp j ob hj h0
 ·intro j ob hj hjc hjL hob h0
  have:=hida j ob hj hjL hob h0
  simp only[AA];repeat rw[if_neg (by omega)]
  exact h0
def rkL:List Nat:=[2,8,0,6,1,5,4,3,7]
def rk (b:Nat):Nat:=rkL[b]?.getD 0
abbrev frmV (k:Int) (f:FuncId):AVal:=.agg [.int .i64 k,.fn (.func f) [] []]
abbrev frmE:List (AVal×AVal×Nat):=[(eW 2,frmV 0 146,0),(eW 8,frmV 6 147,1),(eW 0,frmV 7 148,2),(eW 6,frmV 8 149,3),(eW 1,frmV 9 150,4),(eW 5,frmV 10 150,5),(eW 4,frmV 11 151,6),(eW 3,frmV 12 152,7),(eW 7,frmV 13 153,8)]
theorem Lw {e:AVal×AVal×Nat} (h:e∈frmE):e.2.2<9∧e.1=eW (rk e.2.2)∧NI e.2.2 frmE=some (e.1,e.2.1):=by
 simp only[frmE,List.mem_cons,List.not_mem_nil,or_false]at h
 rcases h with rfl|rfl|rfl|rfl|rfl|rfl|rfl|rfl|rfl<;>exact⟨by decide,rfl,rfl⟩
theorem O4 {es:List (AVal×AVal×Nat)} {seen:List Nat} {e:AVal×AVal×Nat} (h:e∈Eg es seen):(Eg es (seen++[e.2.2])).length<(Eg es seen).length:=by
 have e1:Eg es (seen++[e.2.2])=(Eg es seen).filter fun x=>decide (x.2.2≠e.2.2):=by
  unfold Eg
  rw[List.filter_filter]
  refine List.filter_congr fun x hx=>?_
  by_cases h1:x.2.2∈seen<;>by_cases h2:x.2.2=e.2.2<;>simp [h1,h2]
 rw[e1,List.length_filter_lt_length_iff_exists]
 exact⟨e,h,by simp⟩
theorem Qe {seen:List Nat} (hn:seen.Nodup) (hl:∀b∈seen,b<9) (hd:Eg frmE seen=[]):(seen.map rk).Perm (List.range 9):=by
 have h1:seen.Perm (List.range 9):=(List.perm_ext_iff_of_nodup hn List.nodup_range).2 fun b=>⟨fun h=>List.mem_range.2 (hl b h),fun h=>by
  have hb:=List.mem_range.1 h
  apply Classical.byContradiction
  intro hns
  obtain⟨e,he,rfl⟩:∃e∈frmE,e.2.2=b:=by
   have:b=0∨b=1∨b=2∨b=3∨b=4∨b=5∨b=6∨b=7∨b=8:=by omega
   rcases this with rfl|rfl|rfl|rfl|rfl|rfl|rfl|rfl|rfl
   ·exact⟨_,List.mem_iff_getElem?.2 ⟨0,rfl⟩,rfl⟩
   ·exact⟨_,List.mem_iff_getElem?.2 ⟨1,rfl⟩,rfl⟩
   ·exact⟨_,List.mem_iff_getElem?.2 ⟨2,rfl⟩,rfl⟩
   ·exact⟨_,List.mem_iff_getElem?.2 ⟨3,rfl⟩,rfl⟩
   ·exact⟨_,List.mem_iff_getElem?.2 ⟨4,rfl⟩,rfl⟩
   ·exact⟨_,List.mem_iff_getElem?.2 ⟨5,rfl⟩,rfl⟩
   ·exact⟨_,List.mem_iff_getElem?.2 ⟨6,rfl⟩,rfl⟩
   ·exact⟨_,List.mem_iff_getElem?.2 ⟨7,rfl⟩,rfl⟩
   ·exact⟨_,List.mem_iff_getElem?.2 ⟨8,rfl⟩,rfl⟩
  have:e∈Eg frmE seen:=List.mem_filter.2 ⟨he,by simpa using hns⟩
  rw[hd]at this;cases this⟩
 have h2:=h1.map rk
 refine h2.trans ?_
 have:(List.range 9).map rk=rkL:=by decide
 rw[this]
 decide
theorem Qf {ys:List Nat} (h1:ys.Perm (List.range 9)) (h2:ys.Pairwise (· ≤ ·)):ys=List.range 9:=
 h1.eq_of_pairwise (fun a b _ _ h k=>Nat.le_antisymm h k) h2 (by decide)
theorem ApY.it {q c L l':Nat} {H0:AD} {n0:Nat} {qs:List Nat} {H:AD} {m it:Nat} {ob ob':AObj} (F:ApY q c L l' H0 n0 qs H m) (h1:n0≤it) (h2:it≠c) (h3:it≠L) (h4:it<m) (h5:hget H it=some ob) (h6:∀e Z,ob≠ .arr e Z):ApY q c L l' H0 n0 qs (hset H it ob') m:=by
 obtain⟨fr,lc,cl,lm,⟨lv,hc,hlv⟩,hL,kp⟩:=F
 refine⟨fr.hset (Nat.le_refl _) h4,lc,cl,lm,⟨lv,by rw[AC _ _ _ _ h2];exact hc,?_⟩,by rw[AC _ _ _ _ h3];exact hL,fun j o hj h0=>by rw[AC _ _ _ _ (by omega)];exact kp j o hj h0⟩
 rcases hlv with h|⟨hne,id,rest,k1,k2,k3⟩
 ·exact .inl h
 ·exact .inr ⟨hne,id,rest,k1,k2,by rw[AC _ _ _ _ (fun e=>by subst e;rw[h5]at k3;cases k3;exact h6 _ _ rfl)];exact k3⟩
structure VK where
 seen:List Nat
 H:AD
 n:Nat
structure IK (q n mp l':Nat) (H:AD) (v:VK):Prop where
 F:ApY q n (n+2) l' H n (v.seen.map rk) v.H v.n
 it:hget v.H (n+4)=some (.mit mp 9 v.seen 9)
 lt:n+4<v.n
 nd:v.seen.Nodup
 rg:∀b∈v.seen,b<9
 ln:v.seen.length+(Eg frmE v.seen).length≤9
theorem t_apY {H:AD} {n q mp:Nat} (hf:Ab H n) (hq:hget H q=some (.box [.mp mp])) (hm:hget H mp=some (.map frmE 9)):
  AP Tryz.prog 166 [.sl .nil [],clK q] H n fun o H' n'=>∃lv qs,o= .ret lv∧qs.Perm (List.range 9)∧LvG eW 1 (n+3) H' lv qs∧Ab H' n'∧n≤n'∧∀id ob,id<n→hget H id=some ob→hget H' id=some ob:=by
 have hqn:=hf.lt hq
 have hmn:=hf.lt hm
 refine a166 (AF AI.tnil (AE ?_))
 simp only[eE,eN,reduceCtorEq,Nat.reduceEqDiff,↓reduceIte,Nat.reduceAdd,c166,fr0 hf,JG]
 intro l'
 generalize hH1:hset (hset H n (.box [.sl .nil []])) (n+2) _=H1
 have F0:ApY q n (n+2) l' H n [] H1 (n+3):=by
  subst hH1
  refine⟨fun j hj=>?_,Nat.le_refl _,by omega,by omega,⟨.sl .nil [],?_,.inl ⟨rfl,rfl⟩⟩,AB ..,fun j ob hj h0=>?_⟩
  ·simp only[AA];repeat rw[if_neg (by omega)]
   exact hf j (by omega)
  ·simp only[AA];rw[if_neg (by omega),if_pos trivial]
  ·simp only[AA];repeat rw[if_neg (by omega)]
   exact h0
 have hc0:hget H1 n=some (.box [.sl .nil []]):=by
  subst hH1
  simp only[AA];rw[if_neg (by omega),if_pos trivial]
 clear hH1
 have hq1:=F0.kp q _ hqn hq
 have hm1:=F0.kp mp _ hmn hm
 have hfn:=fr1 F0.fr
 refine a156 (AF AI.tnil (AE ?_))
 simp only[eE,eN,reduceCtorEq,↓reduceIte,Nat.reduceAdd,xE,c156,hq1,hm1]
 refine⟨hfn 1,?_⟩
 refine AW (fun v:VK=>⟨[(0,true,.fn (.yield l') [] []),(5,true,.ptr (n+4) 0)],v.H,v.n⟩) (IK q n mp l' H) (fun v=>(Eg frmE v.seen).length) ⟨[],hset H1 (n+4) (.mit mp 9 [] 9),n+5⟩ rfl
  ⟨⟨F0.fr.hset (m:=n+5) (by omega) (by omega),Nat.le_refl _,by omega,by simp only[];omega,⟨.sl .nil [],by rw[AC _ _ _ _ (by omega)];exact hc0,.inl ⟨rfl,rfl⟩⟩,by rw[AC _ _ _ _ (by omega)];exact F0.hL,fun j o hj h0=>by rw[AC _ _ _ _ (by omega)];exact F0.kp j o hj h0⟩,AB ..,by simp only[];omega,List.nodup_nil,fun b hb=>(by cases hb),(show 0+(Eg frmE []).length≤9 by decide)⟩ ?_
 rintro⟨seen,H2,m⟩ ⟨F,hit,hlt,hnd,hrg,hln⟩
 simp only at F hit hlt hnd hrg hln
 have hm2:=F.kp mp _ hmn hm
 have hq2:=F.kp q _ hqn hq
 simp only[eE,eC,reduceCtorEq,↓reduceIte]
 rw[SV hit hm2]
 refine⟨Nat.le_refl _,fun e he=>(Lw he).1,fun hnil=>?_,fun e he=>?_⟩
 ·have hp:=Qe hnd hrg hnil
  obtain⟨fr,lc,cl,lm,⟨lv,hc,hlv⟩,hL,kp⟩:=F
  have y1:(n+2=n)=False:=eq_false (by omega)
  simp only[eE,eC,eN,reduceCtorEq,Nat.reduceEqDiff,↓reduceIte,Nat.reduceLT,Option.getD_some,List.getElem?_cons_zero,MB,hL,hc,y1]
  refine⟨lv,_,rfl,hp,?_,fr.hset (Nat.le_refl m) (show n+2<m by omega),by omega,fun id ob hid h0=>by rw[if_neg (by omega)];exact kp id ob hid h0⟩
  rcases hlv with h|⟨hne,id,rest,h1,h2,h3⟩
  ·exact .inl h
  ·exact .inr ⟨hne,id,rest,h1,h2,by rw[AC _ _ _ _ (by omega)];exact h3⟩
 ·obtain⟨he1,he2⟩:=List.mem_filter.1 he
  obtain⟨b1,b2,b3⟩:=Lw he1
  have hns:e.2.2∉seen:=by simpa using he2
  have hst:JD (hset H2 (n+4) (.mit mp 9 (seen++[e.2.2]) 9)) mp (seen++[e.2.2])=some (e.1,e.2.1):=by
   unfold JD
   rw[AC _ _ _ _ (by omega),hm2,List.getLast?_concat]
   exact b3
  have y0:(n+4=mp)=False:=eq_false (by omega)
  simp only[eE,eC,eN,reduceCtorEq,Nat.reduceEqDiff,↓reduceIte,Nat.reduceAdd,Nat.reduceLT,xE,Option.getD_some,List.getElem?_cons_zero,y0,hm2,hst,b2]
  refine y_apY (F.it (by omega) (by omega) (by omega) hlt hit (by simp)) (rk e.2.2) (by rw[List.length_map];omega) fun H' m' F' hk hmm=>?_
  simp only[eE,eC,eN,reduceCtorEq,Nat.reduceEqDiff,↓reduceIte,Bool.not_true,yldK]
  refine⟨⟨seen++[e.2.2],H',m'⟩,.inr ⟨?_,.inl ⟨rfl,rfl⟩⟩,⟨by simp only[List.map_append,List.map_cons,List.map_nil];exact F',hk _ _ hlt (by omega) (by omega) (by simp) (AB ..),by simp only[];omega,?_,fun b hb=>?_,by have:=O4 he;simp only[List.length_append,List.length_cons,List.length_nil];omega⟩,O4 he⟩
  ·exact⟨⟨_,rfl,Wk.refl _⟩,⟨_,rfl,Wk.refl _⟩,trivial⟩
  ·rw[List.nodup_append]
   exact⟨hnd,by simp,fun a ha b hb=>by rw[List.mem_singleton.1 hb];exact fun e=>hns (e▸ha)⟩
  ·rcases List.mem_append.1 hb with hb|hb
   ·exact hrg b hb
   ·rw[List.mem_singleton.1 hb];exact b1
theorem Tk {H:AD} {n q mp:Nat} (hf:Ab H n) (hq:hget H q=some (.box [.mp mp])) (hm:hget H mp=some (.map frmE 9)):
  AP Tryz.prog 154 [clK q] H n fun o H' n'=>∃lv qs,o= .ret lv∧qs.Perm (List.range 9)∧LvG eW 1 (n+3) H' lv qs∧Ab H' n'∧n≤n'∧∀id ob,id<n→hget H id=some ob→hget H' id=some ob:=by
 refine a154 (AF AI.tnil (AE ?_))
 simp only[eE,eN,reduceCtorEq,↓reduceIte,c154]
 refine(t_apY hf hq hm).mono ?_
 rintro o H' n' ⟨lv,qs,rfl,h1,h2,h3,h4,h5⟩
 simp only[eE,eN,↓reduceIte,retK]
 exact⟨lv,qs,rfl,h1,h2,h3,h4,h5⟩
def SrY (ob:List AVal→AObj) (H:AD):AOut→AD→Nat→Prop:=fun o H' n'=>
 FZ H H'∧∃id rest,o= .ret (.ref id 1 0 9 (9+rest.length))∧hget H id=none∧hget H' id=some (ob ((List.range 9++rest).map eW))
theorem t_srtY {H:AD} {n q mp:Nat} (hf:Ab H n) (hq:hget H q=some (.box [.mp mp])) (hm:hget H mp=some (.map frmE 9)):
  AP Tryz.prog 128 [clK q] H n (QRet H (eSs wS)):=by
 refine AP.out (AP.seal (R:=SrY (.arr 1) H) (R':=SrY (.frz 1) H) (a128 (AF AI.tnil (AE ?_))) ?_) ?_
 ·simp only[eE,eN,reduceCtorEq,↓reduceIte,c128]
  refine(Tk hf hq hm).mono ?_
  rintro o H1 n1 ⟨lv,qs,rfl,hp,hlv,hf1,hn1,hk⟩
  simp only[eE,eN,↓reduceIte,retK]
  have hK:FZ H H1:=fun id ob h0=>hk id ob (hf.lt h0) h0
  have hlen:qs.length=9:=by rw[hp.length_eq];rfl
  rcases hlv with⟨rfl,rfl⟩|⟨hne,id,rest,rfl,h2,h3⟩
  ·cases hlen
  ·refine(Tj h3 (fun x hx=>List.mem_range.1 (hp.mem_iff.1 hx)) (by omega)).mono ?_
   rintro o H2 n2 ⟨rfl,⟨ys,hy1,hy2,rfl⟩,rfl⟩
   have hys:=Qf (hy1.trans hp) hy2
   subst hys
   rw[hlen]
   simp only[eE,eN,Nat.reduceEqDiff,↓reduceIte,retK]
   refine⟨fun i ob h0=>?_,id,rest,rfl,hf _ (by omega),AB ..⟩
   rw[AC _ _ _ _ (fun e=>by subst e;rw[hf _ (by omega)]at h0;cases h0)];exact hK i ob h0
 ·rintro o H' n' ⟨hK,id,rest,h1,h2,h3⟩
  refine .inr ⟨id,1,_,h3,fun i ob h0=>?_,id,rest,h1,h2,AB ..⟩
  rw[AC _ _ _ _ (fun e=>by subst e;rw[h2]at h0;cases h0)];exact hK i ob h0
 ·rintro o H' n' ⟨hK,id,rest,rfl,h2,h3⟩
  refine⟨.ret (eSs wS),⟨⟨_,rfl,Wk.refl _⟩,hK⟩,fun g w e hR he=>?_⟩
  have hL:LF 1 (.ref id 1 0 9 (9+rest.length)) H' (wS.map .str):=.inr ⟨by simp [wS],id,9+rest.length,rest.map eW,rfl,by rw[h3,List.map_append];rfl,by simp [wS]⟩
  cases e with
  |returned v=>exact Ot hL hR he
  |panicked c=>exact he.elim
  |outgrown=>exact he.elim
theorem Tl {H:AD} {n mp:Nat} (hf:Ab H n):AP Tryz.prog 129 [.mp mp] H n fun o H' n'=>o= .ret (clK n)∧H'=hset H n (.box [.mp mp])∧n'=n+2:=by
 refine a129 (AF AI.tnil (AE ?_))
 simp only[eE,eN,Nat.reduceEqDiff,↓reduceIte,c129,fr0 hf]
def sSrY:List AVal→AD→Prop×AVal:=fun a H=>match a with
 |[.fn (.func f) [] [.ptr q 0]]=>(f=156∧∃mp,hget H q=some (.box [.mp mp])∧hget H mp=some (.map frmE 9),eSs wS)
 |_=>(False,.tup [])
theorem qSrY:∀args H n,(sSrY args H).1→Bw Tryz.prog 128 args H n (sSrY args H).2:=by
 intro args H n hh
 unfold sSrY at hh⊢
 split at hh
 ·obtain⟨rfl,mp,h0,h1⟩:=hh
  exact Bw.of l128 (Bo n _) fun hf=>t_srtY hf h0 h1
 ·exact hh.elim
def fE (i:Nat):List (AVal×AVal×Nat):=frmE.take i
theorem fF0:mset (.str [101,97,99,104]) (.agg [.int .i64 0,.fn (.func 146) [] []]) 0 []=fE 1:=rfl
theorem fG0:(Dl (.str [101,97,99,104]) []).isSome=false:=rfl
theorem fK0:CR .str []=True:=eq_true (by simp [CR])
theorem fF1:mset (.str [117,110,108,105,107,101]) (.agg [.int .i64 6,.fn (.func 147) [] []]) 1 (fE 1)=fE 2:=rfl
theorem fG1:(Dl (.str [117,110,108,105,107,101]) (fE 1)).isSome=false:=rfl
theorem fK1:CR .str (fE 1)=True:=eq_true (by simp [fE,frmE,CR,KT.is])
theorem fF2:mset (.str [97,112,97,114,116]) (.agg [.int .i64 7,.fn (.func 148) [] []]) 2 (fE 2)=fE 3:=rfl
theorem fG2:(Dl (.str [97,112,97,114,116]) (fE 2)).isSome=false:=rfl
theorem fK2:CR .str (fE 2)=True:=eq_true (by simp [fE,frmE,CR,KT.is])
theorem fF3:mset (.str [110,111,116]) (.agg [.int .i64 8,.fn (.func 149) [] []]) 3 (fE 3)=fE 4:=rfl
theorem fG3:(Dl (.str [110,111,116]) (fE 3)).isSome=false:=rfl
theorem fK3:CR .str (fE 3)=True:=eq_true (by simp [fE,frmE,CR,KT.is])
theorem fF4:mset (.str [99,111,110,110,101,99,116,101,100]) (.agg [.int .i64 9,.fn (.func 150) [] []]) 4 (fE 4)=fE 5:=rfl
theorem fG4:(Dl (.str [99,111,110,110,101,99,116,101,100]) (fE 4)).isSome=false:=rfl
theorem fK4:CR .str (fE 4)=True:=eq_true (by simp [fE,frmE,CR,KT.is])
theorem fF5:mset (.str [108,111,111,112]) (.agg [.int .i64 10,.fn (.func 150) [] []]) 5 (fE 5)=fE 6:=rfl
theorem fG5:(Dl (.str [108,111,111,112]) (fE 5)).isSome=false:=rfl
theorem fK5:CR .str (fE 5)=True:=eq_true (by simp [fE,frmE,CR,KT.is])
theorem fF6:mset (.str [103,105,118,101,110]) (.agg [.int .i64 11,.fn (.func 151) [] []]) 6 (fE 6)=fE 7:=rfl
theorem fG6:(Dl (.str [103,105,118,101,110]) (fE 6)).isSome=false:=rfl
theorem fK6:CR .str (fE 6)=True:=eq_true (by simp [fE,frmE,CR,KT.is])
theorem fF7:mset (.str [102,105,108,108,101,100]) (.agg [.int .i64 12,.fn (.func 152) [] []]) 7 (fE 7)=fE 8:=rfl
theorem fG7:(Dl (.str [102,105,108,108,101,100]) (fE 7)).isSome=false:=rfl
theorem fK7:CR .str (fE 7)=True:=eq_true (by simp [fE,frmE,CR,KT.is])
theorem fF8:mset (.str [115,116,101,112,115]) (.agg [.int .i64 13,.fn (.func 153) [] []]) 8 (fE 8)=fE 9:=rfl
theorem fG8:(Dl (.str [115,116,101,112,115]) (fE 8)).isSome=false:=rfl
theorem fK8:CR .str (fE 8)=True:=eq_true (by simp [fE,frmE,CR,KT.is])
theorem fI (w:Bs):KT.str.is (.str w)=True:=rfl
theorem Tm {H:AD} {n:Nat} (hf:Ab H n):AP Tryz.prog 127 [] H n fun o H' n'=>o= .ret (.mp n)∧H'=hset H n (.map frmE 9)∧n'=n+21:=by
 refine a127 (AF AI.tnil (AE ?_))
 rw[c127]
 simp only[eE,eN,Nat.reduceEqDiff,↓reduceIte,Nat.reduceAdd,Nat.reduceLeDiff,xE,fr0 hf,fI,fF0,fF1,fF2,fF3,fF4,fF5,fF6,fF7,fF8,fG0,fG1,fG2,fG3,fG4,fG5,fG6,fG7,fG8,fK0,fK1,fK2,fK3,fK4,fK5,fK6,fK7,fK8]
 simp only[AT];rfl
end Go.AM
end
section
set_option maxRecDepth 20000
set_option linter.all false
set_option maxHeartbeats 1000000
namespace Go.AM
open Go.Proofs Go.Lib
theorem Af {w v:Bs} {l:List Tkn} (h:hdW w l=true) (hne:v≠w):¬hdW v l=true:=by
 cases l with
 |nil=>cases h
 |cons t r=>
  simp only[hdW,Bool.and_eq_true,decide_eq_true_eq]at h⊢
  exact fun q=>hne (q.2.symm.trans h.2)
structure Fst (w:Bs) (k:Int) (f:FuncId) (g:DRul→List Tkn→Rs DRul):Prop where
 lk:Dl (.str w) frmE=some (frmV k f)
 st:DJ f g
 bd:∀(x:DRul) (l:List Tkn),x.kind=0→hdW w l=true→Do x l=g {x with kind:=k} l.tail
theorem x_k0 {x:DRul} (h:x.kind=0):{x with kind:=0}=x:=by rw[←h]
theorem fst_of (i:Nat) (hi:i<9):∃k f g,Fst (wd i) k f g:=by
 have:i=0∨i=1∨i=2∨i=3∨i=4∨i=5∨i=6∨i=7∨i=8:=by omega
 rcases this with rfl|rfl|rfl|rfl|rfl|rfl|rfl|rfl|rfl
 ·refine⟨7,_,_,rfl,Tb,fun x l h0 h=>?_⟩
  have h:hdW Cw l=true:=h
  unfold Do
  rw[if_neg (Af h (by decide)),if_neg (Af h (by decide)),if_pos h]
 ·refine⟨9,_,_,rfl,O2,fun x l h0 h=>?_⟩
  have h:hdW FK l=true:=h
  unfold Do
  rw[if_neg (Af h (by decide)),if_neg (Af h (by decide)),if_neg (Af h (by decide)),if_neg (Af h (by decide)),if_pos h]
 ·refine⟨0,_,_,rfl,r_each,fun x l h0 h=>?_⟩
  have h:hdW Bp l=true:=h
  rw[x_k0 h0]
  unfold Do
  rw[if_pos h]
 ·refine⟨12,_,_,rfl,Qb,fun x l h0 h=>?_⟩
  have h:hdW FM l=true:=h
  unfold Do
  rw[if_neg (Af h (by decide)),if_neg (Af h (by decide)),if_neg (Af h (by decide)),if_neg (Af h (by decide)),if_neg (Af h (by decide)),if_neg (Af h (by decide)),if_neg (Af h (by decide)),if_pos h]
 ·refine⟨11,_,_,rfl,Tc,fun x l h0 h=>?_⟩
  have h:hdW Cx l=true:=h
  unfold Do
  rw[if_neg (Af h (by decide)),if_neg (Af h (by decide)),if_neg (Af h (by decide)),if_neg (Af h (by decide)),if_neg (Af h (by decide)),if_neg (Af h (by decide)),if_pos h]
 ·refine⟨10,_,_,rfl,O2,fun x l h0 h=>?_⟩
  have h:hdW FL l=true:=h
  unfold Do
  rw[if_neg (Af h (by decide)),if_neg (Af h (by decide)),if_neg (Af h (by decide)),if_neg (Af h (by decide)),if_neg (Af h (by decide)),if_pos h]
 ·refine⟨8,_,_,rfl,r_not,fun x l h0 h=>?_⟩
  have h:hdW wNot l=true:=h
  unfold Do
  rw[if_neg (Af h (by decide)),if_neg (Af h (by decide)),if_neg (Af h (by decide)),if_pos h]
 ·refine⟨13,_,_,rfl,Kr,fun x l h0 h=>?_⟩
  have h:hdW Cl l=true:=h
  unfold Do
  rw[if_neg (Af h (by decide)),if_neg (Af h (by decide)),if_neg (Af h (by decide)),if_neg (Af h (by decide)),if_neg (Af h (by decide)),if_neg (Af h (by decide)),if_neg (Af h (by decide)),if_neg (Af h (by decide)),if_pos h]
  rfl
 ·refine⟨6,_,_,rfl,Ta,fun x l h0 h=>?_⟩
  have h:hdW Bq l=true:=h
  unfold Do
  rw[if_neg (Af h (by decide)),if_pos h]
theorem O5 {x:DRul} {l:List Tkn} (h:∀j,j<9→¬hdW (wd j) l=true):Do x l= .bad l:=by
 have k2:¬hdW Bp l=true:=h 2 (by decide)
 have k8:¬hdW Bq l=true:=h 8 (by decide)
 have k0:¬hdW Cw l=true:=h 0 (by decide)
 have k6:¬hdW wNot l=true:=h 6 (by decide)
 have k1:¬hdW FK l=true:=h 1 (by decide)
 have k5:¬hdW FL l=true:=h 5 (by decide)
 have k4:¬hdW Cx l=true:=h 4 (by decide)
 have k3:¬hdW FM l=true:=h 3 (by decide)
 have k7:¬hdW Cl l=true:=h 7 (by decide)
 unfold Do
 rw[if_neg k2,if_neg k8,if_neg k0,if_neg k6,if_neg k1,if_neg k5,if_neg k4,if_neg k3,if_neg k7]
def Tru:Tab:=tadd 128 sSrY tnil
theorem Tru_ok:AI Tryz.prog Tru:=AI.tnil.add qSrY
theorem Tru_e (a:List AVal) (H:AD):Tru 128 a H=sSrY a H:=rfl
structure VR where
 i:Nat
 H:AD
structure IR (e:Int) (l2:List Tkn) (H:AD) (n pid:Nat) (s:Bs) (v:VR):Prop where
 i:v.i≤9
 hp:hget v.H pid=some (pY e l2)
 hx:hget v.H n=some (rY {rul0 with nm:=s} (.sl .nil []) (.sl .nil []))
 hm:hget v.H (n+1)=some (.map frmE 9)
 fr:Ab v.H (n+24)
 hk:AZ pid H v.H
 no:∀j,j<v.i→¬hdW (wd j) l2=true
theorem RU {i:Nat} (h:i<9):wS[i]?=some (wd i):=by
 have:i=0∨i=1∨i=2∨i=3∨i=4∨i=5∨i=6∨i=7∨i=8:=by omega
 rcases this with rfl|rfl|rfl|rfl|rfl|rfl|rfl|rfl|rfl<;>rfl
theorem Tn:CR .str frmE=True:=eq_true (by simp [CR,KT.is])
theorem RV:BD 105 [] Am Gx:=BD.of l105 Ah fun e l pid H n hl hf hlt hp=>by
 refine a105 (AF Tru_ok (AE ?_))
 simp only[eE,eN,reduceCtorEq,↓reduceIte,fr0 hf,c105]
 refine y_bd C0 hl (by simp only[AA,sep4 hlt,if_false];exact hp) (fun id ob hne hx=>by have:=hf.lt hx;simp only[AA];(repeat rw[if_neg (by omega)]);exact hx) fun s r1 hr1=>?_
 have hl1:=At hl (As.le _ _ _ hr1)
 simp only[eE,eN,reduceCtorEq,Nat.reduceEqDiff,↓reduceIte,Nat.reduceAdd,Nat.reduceLeDiff,Nat.reduceMul,nS1,sep3 hlt,retK]
 refine y_bd (Aw [58]) hl1 (by simp only[AA,sep4 hlt,if_true,if_false]) (fun id ob hne hx=>by have:=hf.lt hx;simp only[AA];(repeat rw[if_neg (by omega)]);exact hx) fun u r2 hr2=>?_
 have hl2:=At hl1 ((AR _).le _ _ _ hr2)
 simp only[eE,eN,reduceCtorEq,Nat.reduceEqDiff,↓reduceIte,retK]
 generalize hG:hset _ pid (pY e r2)=H1
 have hp1:hget H1 pid=some (pY e r2):=by rw[←hG];exact AB ..
 have hx1:hget H1 n=some (rY {rul0 with nm:=s} (.sl .nil []) (.sl .nil [])):=by
  rw[←hG];simp only[AA,sep3 hlt,if_false];rw[if_pos trivial]
 have hf1:Ab H1 (n+1):=by
  rw[←hG]
  exact(((hf.hset (m:=n+1) (by omega) (by omega)).hset (Nat.le_refl _) (by omega)).hset (Nat.le_refl _) (by omega)).hset (Nat.le_refl _) (by omega)
 have hk1:AZ pid H H1:=by rw[←hG];exact(fun id ob hne hx=>by have:=hf.lt hx;simp only[AA];(repeat rw[if_neg (by omega)]);exact hx)
 clear hG
 refine(Tm hf1).mono ?_
 rintro o H2 n2 ⟨rfl,rfl,rfl⟩
 simp only[eE,eN,reduceCtorEq,Nat.reduceEqDiff,↓reduceIte,Nat.reduceAdd,retK]
 have hf2:Ab (hset H1 (n+1) (.map frmE 9)) (n+1+21):=hf1.hset (by omega) (by omega)
 refine(Tl hf2).mono ?_
 rintro o H3 n3 ⟨rfl,rfl,rfl⟩
 have e1:(n+22=n+1)=False:=eq_false (by omega)
 simp only[eE,eN,reduceCtorEq,Nat.reduceEqDiff,↓reduceIte,Nat.reduceAdd,List.length_map,retK,Tru_e,sSrY]
 refine⟨⟨n+1,rfl,by rw[if_neg (by omega),if_pos rfl]⟩,?_⟩
 generalize hG:hset (hset H1 (n+1) (AObj.map frmE 9)) (n+22) _=H4
 have I0:IR e r2 H n pid s ⟨0,H4⟩:=by
  rw[←hG]
  refine⟨Nat.zero_le _,by simp only[AA];repeat rw[if_neg (by omega)]
                          exact hp1,by simp only[AA];repeat rw[if_neg (by omega)]
                                       exact hx1,by rw[AC _ _ _ _ (by omega)];exact AB ..,(hf2.hset (m:=n+24) (by omega) (by omega)),fun id ob hne hx=>?_,fun j hj=>by simp only at hj;omega⟩
  have:=hf.lt hx
  simp only[AA];repeat rw[if_neg (by omega)]
  exact hk1 id ob hne hx
 clear hG
 refine AW (fun v:VR=>⟨[(0,true,.ptr pid 0),(2,true,.ptr n 0),(3,true,.mp (n+1)),(15,true,eSs wS),(16,true,.int .i64 wS.length),(17,true,.int .i64 v.i)],v.H,n+24⟩) (IR e r2 H n pid s) (fun v=>9-v.i) ⟨0,H4⟩ rfl I0 ?_
 rintro⟨i,H5⟩ ⟨hi,hp5,hx5,hm5,hf5,hk5,hno⟩
 simp only at hi hp5 hx5 hm5 hf5 hk5 hno
 have hlen:wS.length=9:=rfl
 by_cases hi2:i<wS.length
 case neg=>
  have hi9:i=9:=by omega
  subst hi9
  rw[O5 hno]
  simp only[eE,eC,eN,reduceCtorEq,Nat.reduceEqDiff,↓reduceIte,lt_F hi2]
  refine Fzq IB hl2 hp5 rfl ?_
  rw[Bb]
  exact⟨rfl,AB ..,hk5.set⟩
 have hi9:i<9:=by omega
 have hg:=RU hi9
 have ew:=AO (k:=i) (by omega)
 obtain⟨k,f,g,hF⟩:=fst_of i hi9
 generalize wd i=w at hg hF
 simp only[eE,eC,eN,reduceCtorEq,Nat.reduceEqDiff,↓reduceIte,Option.getD_some,Int.toNat_natCast,Int.natCast_nonneg,List.length_map,List.getElem?_map,lt_T hi2,hg,eSs]
 refine y_ok (e:=e) (y_is w) hl2 hp5 rfl ?_
 cases hb:hdW w r2 with
 |false=>
  simp only[eE,eC,eN,reduceCtorEq,Nat.reduceEqDiff,↓reduceIte,Int.reduceEq,retK,ew]
  have hno':∀j,j<i+1→¬hdW (wd j) r2=true:=fun j hj=>by
   by_cases q:j=i
   ·subst q
    have e9:=RU hi9
    rw[hg]at e9;cases e9
    rw[hb];decide
   ·exact hno j (by omega)
  exact⟨⟨i+1,hset H5 pid (pY e r2)⟩,.inr ⟨⟨⟨_,rfl,Wk.refl _⟩,⟨_,rfl,Wk.refl _⟩,⟨_,rfl,Wk.refl _⟩,⟨_,rfl,Wk.refl _⟩,⟨_,rfl,Wk.refl _⟩,⟨_,rfl,Wk.refl _⟩,trivial⟩,.inl ⟨rfl,rfl⟩⟩,
   ⟨by simp only[];omega,AB ..,by rw[AC _ _ _ _ (by omega)];exact hx5,by rw[AC _ _ _ _ (by omega)];exact hm5,hf5.hset (Nat.le_refl _) (by omega),hk5.set,hno'⟩,by simp only[];omega⟩
 |true=>
  simp only[eE,eC,eN,reduceCtorEq,Nat.reduceEqDiff,↓reduceIte,Nat.reduceLeDiff,Nat.reduceMul,nS1,retK]
  have hne:pid≠n:=by omega
  have hl3:=Av hl2
  refine y_ok (e:=e) (Aw w) hl2 (AB ..) (a:=()) (r:=r2.tail) (by unfold need;rw[if_pos hb]) ?_
  simp only[eE,eN,reduceCtorEq,Nat.reduceEqDiff,↓reduceIte,Nat.reduceAdd,Nat.reduceLeDiff,xE,Option.getD_some,NH,sep1 hlt,sep3 hlt,retK,hx5,hm5,hF.lk,Tn,fI]
  rw[hF.bd _ _ rfl hb]
  generalize hG:hset (hset (hset H5 pid _) pid _) n _=H6
  have hp6:hget H6 pid=some (pY e r2.tail):=by rw[←hG];simp only[AA,sep4 hlt,if_false,if_true]
  have hx6:hget H6 n=some (rY {rul0 with nm:=s,kind:=k} (.sl .nil []) (.sl .nil [])):=by rw[←hG];exact AB ..
  have hf6:Ab H6 (n+24):=by rw[←hG];exact((hf5.hset (Nat.le_refl _) (by omega)).hset (Nat.le_refl _) (by omega)).hset (Nat.le_refl _) (by omega)
  have hk6:AZ pid H H6:=by
   rw[←hG]
   intro id ob hne hx
   have:=hf.lt hx
   simp only[AA];repeat rw[if_neg (by omega)]
   exact hk5 id ob hne hx
  clear hG
  refine(hF.st e r2.tail pid n {rul0 with nm:=s,kind:=k} (.sl .nil []) (.sl .nil []) H6 (n+24) hl3 hne ⟨rfl,rfl⟩ hp6 hx6 (Wk.sl (.inr rfl)) (Wk.sl (.inr rfl))).mono fun o H7 n7 q=>?_
  cases hg2:g {rul0 with nm:=s,kind:=k} r2.tail with
  |bad r=>
   rw[hg2]at q
   obtain⟨rfl,rfl,rfl⟩:=q
   show kont _ _ _ _ _ _
   rw[Bb]
   exact⟨rfl,by rw[AC _ _ _ _ (Ne.symm hne)];exact AB ..,fun id ob h1 hx=>by have:=hf.lt hx;rw[AC _ _ _ _ (by omega)];exact hk6.set id ob h1 hx⟩
  |ok x r3=>
   rw[hg2]at q
   obtain⟨rfl,rfl,rfl⟩:=q
   simp only[eE,eN,reduceCtorEq,Nat.reduceEqDiff,↓reduceIte,Nat.reduceLeDiff,Nat.reduceMul,nS1,retK]
   have hl4:few r3:=by
    have:=(Kh {rul0 with nm:=s}) r2 x r3 (by rw[hF.bd _ _ rfl hb];exact hg2)
    exact At hl2 (Nat.le_of_lt this)
   have hp7:hget (hset (hset H6 pid (pY e r3)) n (.box (BB x))) pid=some (pY e r3):=by rw[AC _ _ _ _ (Ne.symm hne)];exact AB ..
   have hk7:AZ pid H (hset (hset H6 pid (pY e r3)) n (.box (BB x))):=fun id ob h1 hx=>by
    have:=hf.lt hx
    rw[AC _ _ _ _ (by omega)];exact hk6.set id ob h1 hx
   cases hr4:need [59] r3 with
   |bad r4=>
    refine Fzq (Aw [59]) hl4 hp7 hr4 ?_
    simp only[eE,eN]
    rw[Be,hr4]
    exact⟨rfl,AB ..,hk7.set⟩
   |ok u2 r4=>
    refine y_ok (Aw [59]) hl4 hp7 hr4 ?_
    simp only[eE,eN,reduceCtorEq,Nat.reduceEqDiff,↓reduceIte,Nat.reduceAdd,Al,sep3 hlt,retK]
    rw[Be,hr4]
    refine⟨⟨_,rfl,Wk.refl _⟩,(by simp only[AA,sep4 hlt,if_true,if_false]),?_⟩
    intro id ob h1 hx
    have:=hf.lt hx
    simp only[AA];repeat rw[if_neg (by omega)]
    exact hk6 id ob h1 hx
end Go.AM
end
section
set_option maxRecDepth 20000
set_option linter.all false
set_option maxHeartbeats 1000000
namespace Go.AM
open Go.Proofs Go.Lib
theorem RW:BD 104 [] BI cluR:=BD.of l104 Dd fun e l pid H n hl hf hlt hp=>by
 refine a104 (AF AI.tnil (AE ?_))
 simp only[eE,eN,reduceCtorEq,↓reduceIte,fr0 hf,c104]
 refine y_bd C0 hl (by simp only[AA,sep4 hlt,if_false];exact hp) (fun id ob hne hx=>by have:=hf.lt hx;simp only[AA];(repeat rw[if_neg (by omega)]);exact hx) fun s r1 hr1=>?_
 have hl1:=At hl (As.le _ _ _ hr1)
 simp only[eE,eN,reduceCtorEq,Nat.reduceEqDiff,↓reduceIte,Nat.reduceAdd,Nat.reduceLeDiff,Nat.reduceMul,nS1,sep3 hlt,retK]
 refine y_bd (Aw wOn) hl1 (by simp only[AA,sep4 hlt,if_true,if_false]) (fun id ob hne hx=>by have:=hf.lt hx;simp only[AA];(repeat rw[if_neg (by omega)]);exact hx) fun u r2 hr2=>?_
 have hl2:=At hl1 ((AR _).le _ _ _ hr2)
 simp only[eE,eN,reduceCtorEq,Nat.reduceEqDiff,↓reduceIte,retK]
 refine y_bd C0 hl2 (by simp only[AA,sep4 hlt,if_true,if_false]) (fun id ob hne hx=>by have:=hf.lt hx;simp only[AA];(repeat rw[if_neg (by omega)]);exact hx) fun o r3 hr3=>?_
 have hl3:=At hl2 (As.le _ _ _ hr3)
 simp only[eE,eN,reduceCtorEq,Nat.reduceEqDiff,↓reduceIte,Nat.reduceAdd,Nat.reduceLeDiff,sep3 hlt,retK]
 by_cases w1:hdW wSym r3=true
 ·refine y_ok (e:=e) (A3 wSym) hl3 (by simp only[AA,sep4 hlt,if_true,if_false]) (Bh w1) ?_
  rw[if_pos w1,Be]
  simp only[eE,eC,eN,reduceCtorEq,Nat.reduceEqDiff,↓reduceIte,Nat.reduceAdd,Nat.reduceLeDiff,Nat.reduceMul,nS1,sep3 hlt,retK]
  refine y_bd (Aw [59]) (Av hl3) (by simp only[AA,sep4 hlt,if_true,if_false]) (fun id ob hne hx=>by have:=hf.lt hx;simp only[AA];(repeat rw[if_neg (by omega)]);exact hx) fun u r5 hr5=>?_
  simp only[eE,eN,reduceCtorEq,Nat.reduceEqDiff,↓reduceIte,Nat.reduceAdd,Al,sep3 hlt,retK]
  exact⟨⟨_,rfl,Wk.refl _⟩,(by simp only[AA,sep4 hlt,if_true,if_false]),(fun id ob hne hx=>by have:=hf.lt hx;simp only[AA];(repeat rw[if_neg (by omega)]);exact hx)⟩
 refine y_ok (e:=e) (A3 wSym) hl3 (by simp only[AA,sep4 hlt,if_true,if_false]) (CA w1) ?_
 rw[if_neg w1]
 simp only[eE,eC,eN,reduceCtorEq,Nat.reduceEqDiff,↓reduceIte,retK]
 by_cases w2:hdW BC r3=true
 ·refine y_ok (e:=e) (A3 BC) hl3 (by simp only[AA,sep4 hlt,if_true,if_false]) (Bh w2) ?_
  rw[if_pos w2,BT]
  simp only[eE,eC,eN,reduceCtorEq,Nat.reduceEqDiff,↓reduceIte,Nat.reduceAdd,Nat.reduceLeDiff,sep3 hlt,retK]
  refine y_bd Bg (Av hl3) (by simp only[AA,sep4 hlt,if_true,if_false]) (fun id ob hne hx=>by have:=hf.lt hx;simp only[AA];(repeat rw[if_neg (by omega)]);exact hx) fun a r5 hr5=>?_
  have hl5:=At (Av hl3) (Bd.le _ _ _ hr5)
  rw[BT]
  simp only[eE,eN,reduceCtorEq,Nat.reduceEqDiff,↓reduceIte,Nat.reduceAdd,Nat.reduceLeDiff,Nat.reduceMul,nS1,sep3 hlt,retK]
  refine y_bd (Aw wTo) hl5 (by simp only[AA,sep4 hlt,if_true,if_false]) (fun id ob hne hx=>by have:=hf.lt hx;simp only[AA];(repeat rw[if_neg (by omega)]);exact hx) fun u r6 hr6=>?_
  have hl6:=At hl5 ((AR _).le _ _ _ hr6)
  rw[BT]
  simp only[eE,eN,reduceCtorEq,Nat.reduceEqDiff,↓reduceIte,retK]
  refine y_bd Bg hl6 (by simp only[AA,sep4 hlt,if_true,if_false]) (fun id ob hne hx=>by have:=hf.lt hx;simp only[AA];(repeat rw[if_neg (by omega)]);exact hx) fun b r7 hr7=>?_
  have hl7:=At hl6 (Bd.le _ _ _ hr7)
  rw[Be]
  simp only[eE,eN,reduceCtorEq,Nat.reduceEqDiff,↓reduceIte,Nat.reduceAdd,Nat.reduceLeDiff,Nat.reduceMul,nS1,sep3 hlt,retK]
  refine y_bd (Aw [59]) hl7 (by simp only[AA,sep4 hlt,if_true,if_false]) (fun id ob hne hx=>by have:=hf.lt hx;simp only[AA];(repeat rw[if_neg (by omega)]);exact hx) fun u r8 hr8=>?_
  simp only[eE,eN,reduceCtorEq,Nat.reduceEqDiff,↓reduceIte,Nat.reduceAdd,Al,sep3 hlt,retK]
  exact⟨⟨_,rfl,Wk.refl _⟩,(by simp only[AA,sep4 hlt,if_true,if_false]),(fun id ob hne hx=>by have:=hf.lt hx;simp only[AA];(repeat rw[if_neg (by omega)]);exact hx)⟩
 refine y_ok (e:=e) (A3 BC) hl3 (by simp only[AA,sep4 hlt,if_true,if_false]) (CA w2) ?_
 rw[if_neg w2,BT]
 simp only[eE,eC,eN,reduceCtorEq,Nat.reduceEqDiff,↓reduceIte,Nat.reduceLeDiff,Nat.reduceMul,nS1,retK]
 refine y_bd (Aw Cm) hl3 (by simp only[AA,sep4 hlt,if_true,if_false]) (fun id ob hne hx=>by have:=hf.lt hx;simp only[AA];(repeat rw[if_neg (by omega)]);exact hx) fun u r5 hr5=>?_
 have hl5:=At hl3 ((AR _).le _ _ _ hr5)
 rw[Be]
 simp only[eE,eN,reduceCtorEq,Nat.reduceEqDiff,↓reduceIte,Nat.reduceAdd,Nat.reduceLeDiff,Nat.reduceMul,nS1,sep3 hlt,retK]
 refine y_bd (Aw [59]) hl5 (by simp only[AA,sep4 hlt,if_true,if_false]) (fun id ob hne hx=>by have:=hf.lt hx;simp only[AA];(repeat rw[if_neg (by omega)]);exact hx) fun u r8 hr8=>?_
 simp only[eE,eN,reduceCtorEq,Nat.reduceEqDiff,↓reduceIte,Nat.reduceAdd,Al,sep3 hlt,retK]
 exact⟨⟨_,rfl,Wk.refl _⟩,(by simp only[AA,sep4 hlt,if_true,if_false]),(fun id ob hne hx=>by have:=hf.lt hx;simp only[AA];(repeat rw[if_neg (by omega)]);exact hx)⟩
section
variable {α:Type} {enc:α→AVal} {T:Tab} {b m:Nat} {cx:Nat→AVal} {d:Option Nat} {kp:List Nat} {ops:List (Nat×AOp)} {k:List Item} {st:AS} {Q:AExit→AS→Prop}
theorem Qg {fid:FuncId} {xs:List AVal} {g:List Tkn→Rs α} {e:Int} {l r:List Tkn} {a:α} {pid:Nat} {H1:AD} {n1:Nat} (h:BD fid xs enc g) (hl:few l)
  (hp:hget H1 pid=some (pY e l)) (hg:g l= .ok a r) (go:Gf Tryz.prog T b cx m d ops kp k Q st (.ret (enc a)) (hset H1 pid (pY e r)) n1):AP Tryz.prog fid (.ptr pid 0::xs) H1 n1 (Gf Tryz.prog T b cx m d ops kp k Q st):=by
 refine(h e l pid H1 n1 hl hp).mono fun o H' n' q=>?_
 rw[hg]at q
 obtain⟨rfl,rfl,rfl⟩:=q
 exact go
theorem Lx {fid:FuncId} {xs:List AVal} {g:List Tkn→Rs α} {e:Int} {l r:List Tkn} {pid:Nat} {H1:AD} {n1:Nat} (h:BD fid xs enc g) (hl:few l)
  (hp:hget H1 pid=some (pY e l)) (hg:g l= .bad r) (go:kont Tryz.prog T Q k (.pan (Fs e r)) ⟨[],hset H1 pid (pY e r),n1⟩):AP Tryz.prog fid (.ptr pid 0::xs) H1 n1 (Gf Tryz.prog T b cx m d ops kp k Q st):=by
 refine(h e l pid H1 n1 hl hp).mono fun o H' n' q=>?_
 rw[hg]at q
 obtain⟨rfl,rfl,rfl⟩:=q
 exact go
end
theorem G5 {α:Type} {t:List Tkn→Bool} {one:List Tkn→Rs α} (hp:Lt one) {m:List Tkn} (hw:t m=true):BA t one m=(one m).bd fun a r=>(BA t one r).bd fun xs q=>.ok (a::xs) q:=by
 rw[GD (fun l a r _ q=>hp l a r q),if_pos hw]
theorem Ly {α:Type} {t:List Tkn→Bool} {one:List Tkn→Rs α} (hp:Lt one) {m:List Tkn} (hw:t m=false):BA t one m= .ok [] m:=by
 rw[GD (fun l a r _ q=>hp l a r q),if_neg (by rw[hw];decide)]
structure IG (e:Int) (l2:List Tkn) (s:Bs) (H:AD) (n pid:Nat) (v:VL (List Int)):Prop where
 hn:n+1≤v.n
 fr:Ab v.H v.n
 hp:hget v.H pid=some (pY e v.m)
 hx:hget v.H n=some (.box [.str s,.sl v.tk (v.acc.map eIs)])
 hk:AZ pid H v.H
 hl:v.m.length+v.acc.length≤l2.length
 tok:tkG 1 (n+1) v.H v.tk
 es:v.tk.esz=1∨v.acc=[]
 eq:BA BH Di l2=(BA BH Di v.m).bd fun xs q=>.ok (v.acc++xs) q
theorem Lz:BD 103 [] DF regR:=BD.of l103 Ck fun e l pid H n hl hf hlt hp=>by
 refine a103 (AF AI.tnil (AE ?_))
 simp only[eE,eN,reduceCtorEq,↓reduceIte,fr0 hf,c103]
 refine y_bd C0 hl (by simp only[AA,sep4 hlt,if_false];exact hp) (fun id ob hne hx=>by have:=hf.lt hx;simp only[AA];(repeat rw[if_neg (by omega)]);exact hx) fun s r1 hr1=>?_
 have hl1:=At hl (As.le _ _ _ hr1)
 simp only[eE,eN,reduceCtorEq,Nat.reduceEqDiff,↓reduceIte,Nat.reduceAdd,Nat.reduceLeDiff,Nat.reduceMul,nS1,sep3 hlt,retK]
 refine y_bd (Aw [123]) hl1 (by simp only[AA,sep4 hlt,if_true,if_false]) (fun id ob hne hx=>by have:=hf.lt hx;simp only[AA];(repeat rw[if_neg (by omega)]);exact hx) fun u r2 hr2=>?_
 have hl2:=At hl1 ((AR _).le _ _ _ hr2)
 have hl2':r2.length<1000000000:=hl2
 simp only[eE,eN,reduceCtorEq,Nat.reduceEqDiff,↓reduceIte,retK]
 generalize hG:hset _ pid (pY e r2)=H1
 have I0:IG e r2 s H n pid ⟨r2,[],.nil,H1,n+1⟩:=by
  rw[←hG]
  refine⟨Nat.le_refl _,(((hf.hset (m:=n+1) (by omega) (by omega)).hset (Nat.le_refl _) (show pid<n+1 by omega)).hset (Nat.le_refl _) (show n<n+1 by omega)).hset (Nat.le_refl (n+1)) (show pid<n+1 by omega),AB ..,?_,(fun id ob hne hx=>by have:=hf.lt hx;simp only[AA];(repeat rw[if_neg (by omega)]);exact hx),by simp,.inl rfl,.inr rfl,?_⟩
  ·simp only[AA,sep3 hlt,if_false];rw[if_pos trivial];rfl
  ·simp only[List.nil_append]
   cases BA BH Di r2<;>rfl
 clear hG
 refine AW (fun v:VL (List Int)=>⟨[(0,true,.ptr pid 0),(2,true,.ptr n 0)],v.H,v.n⟩) (IG e r2 s H n pid) (fun v=>v.m.length) ⟨r2,[],.nil,H1,n+1⟩ rfl I0 ?_
 rintro⟨m,acc,tk,H5,n1⟩ ⟨hn,hfr,hp5,hx5,hk5,hlm,htk,hes,he⟩
 simp only at hn hfr hp5 hx5 hk5 hlm htk hes he
 have hm:few m:=by show m.length<_;omega
 have hlt1:pid<n1:=by omega
 have hne:pid≠n:=by omega
 simp only[eE,↓reduceIte]
 refine y_ok (e:=e) DI hm hp5 rfl ?_
 cases hb:BH m with
 |false=>
  rw[he,Ly FO hb]
  simp only[Be,List.append_nil]
  simp only[eE,eC,eN,reduceCtorEq,Nat.reduceEqDiff,↓reduceIte,Nat.reduceLeDiff,Nat.reduceMul,nS1,retK]
  have hk6:AZ pid H (hset H5 pid (pY e m)):=hk5.set
  refine y_bd (Aw [125]) hm (AB ..) hk6 fun u r4 hr4=>?_
  simp only[eE,eN,reduceCtorEq,Nat.reduceEqDiff,↓reduceIte,Nat.reduceAdd,Al,sep3 hlt,retK,hx5]
  have hw:Wk (.sl tk (acc.map eIs)) (eLl acc):=Wk.sl (hes.imp id fun q=>by rw[q];rfl)
  refine⟨⟨_,rfl,Wk.agg (.cons (Wk.refl _) (.cons hw .nil))⟩,(by simp only[AA,sep4 hlt,if_true,if_false]),?_⟩
  intro id ob h1 hx
  have:=hf.lt hx
  simp only[AA];repeat rw[if_neg (by omega)]
  exact hk5 id ob h1 hx
 |true=>
  rw[he,G5 FO hb]
  simp only[eE,eC,eN,eX,reduceCtorEq,Nat.reduceEqDiff,↓reduceIte,Nat.reduceAdd,Nat.reduceLeDiff,Nat.reduceLT,Nat.reduceMod,Nat.reduceSub,Nat.reduceDiv,sep3 hlt,retK,hx5,atK,atN]
  cases hr:CJ nmbR m with
  |bad r3=>
   have hrl:Di m= .bad r3:=by unfold Di;rw[hr];rfl
   refine Lx (Iz Bg Bd) hm (AB ..) hr ?_
   simp only[eE,eN]
   rw[hrl]
   exact⟨rfl,AB ..,hk5.set.set⟩
  |ok ns r3=>
   have hrl:Di m=(need [59] r3).bd fun _ r=>.ok ns r:=by unfold Di;rw[hr];rfl
   have hl3:=(C7 Bd) _ _ _ hr
   refine Qg (Iz Bg Bd) hm (AB ..) hr ?_
   have htk':tkG 1 (n+1) (hset (hset H5 pid (pY e m)) pid (pY e r3)) tk:=(htk.set (.inl (by omega))).set (.inl (by omega))
   have q1:CF (hset (hset H5 pid (pY e m)) pid (pY e r3)) 1 tk=True:=eq_true htk'.app
   have q2:(acc.length≤35184372088831)=True:=eq_true (by omega)
   have q3:Ao (acc.length+1) 24=True:=eq_true (Ar (by omega) (by decide))
   have q4:hget (AK (hset (hset H5 pid (pY e m)) pid (pY e r3)) tk) n=some (.box [.str s,.sl tk (acc.map eIs)]):=by
    rw[Aa htk' (.inl (by omega)),AC _ _ _ _ (by omega),AC _ _ _ _ (by omega)];exact hx5
   have y1:∀k,(n1+k=n)=False:=fun k=>eq_false (by omega)
   simp only[eE,eN,eX,reduceCtorEq,Nat.reduceEqDiff,↓reduceIte,Nat.reduceAdd,Nat.reduceLeDiff,Nat.reduceMul,Nat.reduceSub,Nat.reduceDiv,nS1,List.length_map,Gf,BV,q1,q2,q3,q4,y1,sep1 hlt1,fr1 hfr]
   have hf2:Ab (hset (hset H5 pid (pY e m)) pid (pY e r3)) n1:=(hfr.hset (Nat.le_refl _) (by omega)).hset (Nat.le_refl _) (by omega)
   have hk2:AZ pid H (hset (hset H5 pid (pY e m)) pid (pY e r3)):=hk5.set.set
   have hp2:hget (hset (hset H5 pid (pY e m)) pid (pY e r3)) pid=some (pY e r3):=AB ..
   generalize hset (hset H5 pid (pY e m)) pid (pY e r3)=H6 at htk' q4 hf2 hk2 hp2
   have hp7:hget (hset (hset (AK H6 tk) (n1+5) .tok) n (.box [.str s,.sl (.own (n1+5) 1) (acc.map eIs++[eIs ns])])) pid=some (pY e r3):=by
    rw[AC _ _ _ _ (by omega),AC _ _ _ _ (by omega),Aa htk' (.inl (by omega))];exact hp2
   have hk7:AZ pid H (hset (hset (AK H6 tk) (n1+5) .tok) n (.box [.str s,.sl (.own (n1+5) 1) (acc.map eIs++[eIs ns])])):=fun id ob h1 hx=>by
    have:=hf.lt hx
    rw[AC _ _ _ _ (by omega),AC _ _ _ _ (by omega),Aa htk' (.inl (by omega))];exact hk2 id ob h1 hx
   have hf7:Ab (hset (hset (AK H6 tk) (n1+5) .tok) n (.box [.str s,.sl (.own (n1+5) 1) (acc.map eIs++[eIs ns])])) (n1+8):=
    ((BO htk' hf2).hset (m:=n1+8) (by omega) (by omega)).hset (Nat.le_refl _) (by omega)
   have hx7:hget (hset (hset (AK H6 tk) (n1+5) .tok) n (.box [.str s,.sl (.own (n1+5) 1) (acc.map eIs++[eIs ns])])) n=some (.box [.str s,.sl (.own (n1+5) 1) (acc.map eIs++[eIs ns])]):=AB ..
   have ht7:hget (hset (hset (AK H6 tk) (n1+5) .tok) n (.box [.str s,.sl (.own (n1+5) 1) (acc.map eIs++[eIs ns])])) (n1+5)=some .tok:=by rw[AC _ _ _ _ (by omega)];exact AB ..
   generalize hset (hset (AK H6 tk) (n1+5) .tok) n (.box [.str s,.sl (.own (n1+5) 1) (acc.map eIs++[eIs ns])])=H7 at hp7 hk7 hf7 hx7 ht7
   have hl3':few r3:=At hm (Nat.le_of_lt hl3)
   cases hr4:need [59] r3 with
   |bad r4=>
    refine Fzq (Aw [59]) hl3' hp7 hr4 ?_
    simp only[eE,eN]
    rw[hrl,hr4]
    exact⟨rfl,AB ..,hk7.set⟩
   |ok u2 r4=>
    refine y_ok (Aw [59]) hl3' hp7 hr4 ?_
    have hl4:=(AR _) _ _ _ hr4
    simp only[eE,eN,reduceCtorEq,Nat.reduceEqDiff,↓reduceIte,retK]
    refine .mk ⟨r4,acc++[ns],.own (n1+5) 1,hset H7 pid (pY e r4),n1+8⟩ rfl ⟨by simp only[];omega,hf7.hset (Nat.le_refl _) (show pid<n1+8 by omega),AB ..,?_,hk7.set,?_,.inr (.inr ⟨n1+5,rfl,by omega,by rw[AC _ _ _ _ (by omega)];exact ht7⟩),.inl rfl,?_⟩ (by simp only[];omega)
    ·rw[AC _ _ _ _ hne,hx7];simp
    ·simp only[List.length_append,List.length_cons,List.length_nil];omega
    ·simp only[]
     rw[he,G5 FO hb,hrl,hr4]
     simp only[Be]
     cases BA BH Di r4<;>simp [Rs.bd]
end Go.AM
end
section
set_option maxRecDepth 20000
set_option linter.all false
set_option maxHeartbeats 1000000
namespace Go.AM
open Go.Proofs Go.Lib
def sndA:ACode→ACode
 | .seq _ b=>b
 |c=>c
def sndN:Nat→ACode→ACode
 |0,c=>c
 |k+1,c=>sndN k (sndA c)
abbrev cY (d:Dcl) (vho vsy vrg vcl vru:AVal):List AVal:=[.str d.nm,.int .i64 d.ver,.int .i64 d.sh,.int .i64 d.w,.int .i64 d.h,vho,vsy,vrg,vcl,vru]
abbrev Q0 (e:Int) (H0:AD) (pid:Nat) (x:Rs Dcl):AExit→AS→Prop:=Cg [.c 2 10 true] (QV encD e H0 pid x)
abbrev eD (pid n:Nat) (X:List (Nat×Bool×AVal)):List (Nat×Bool×AVal):=(0,true,.ptr pid 0)::(2,true,.ptr n 0)::X
def K17 (d:Dcl) (r:List Tkn):Rs Dcl:=(need [125] r).bd fun _ r=>endR d r
def K16 (d:Dcl) (r:List Tkn):Rs Dcl:=(C4 CN Gx r).bd fun us r=>K17 {d with ruls:=us} r
def K15 (d:Dcl) (r:List Tkn):Rs Dcl:=(C4 CK cluR r).bd fun cs r=>K16 {d with clus:=cs} r
def K14 (d:Dcl) (r:List Tkn):Rs Dcl:=(C4 Bl regR r).bd fun rs r=>K15 {d with regs:=rs} r
def K11 (d:Dcl) (r:List Tkn):Rs Dcl:=(Ms [59] EC r).bd fun _ r=>(CJ symR r).bd fun ss r=>(need [59] r).bd fun _ r=>K14 {d with syms:=ss} r
def K7 (d:Dcl) (r:List Tkn):Rs Dcl:=(nmbR r).bd fun w r=>(need wBy r).bd fun _ r=>(nmbR r).bd fun h r=>(EF r).bd fun ho r=>K11 {d with w:=w,h:=h,holes:=ho} r
theorem Mt (l:List Tkn):C5 l=(need EA l).bd fun _ r=>(Bc r).bd fun nm r=>(need EW r).bd fun _ r=>(nmbR r).bd fun v r=>(Ms [123] Et r).bd fun _ r=>(EE r).bd fun sh r=>K7 ⟨nm,v,sh,0,0,[],[],[],[],[]⟩ r:=by
 unfold C5 Mm Oj QI K7 K11 K14 K15 K16 K17 Ms
 simp only[BT,Be]
section
variable {e:Int} {H0 H:AD} {n pid m:Nat} {d:Dcl} {r:List Tkn} {vho vsy vrg vcl vru:AVal} {X:List (Nat×Bool×AVal)}
theorem wk_D (h1:Wk vho (eIs d.holes)) (h2:Wk vsy (eSys d.syms)) (h3:Wk vrg (eRgs d.regs)) (h4:Wk vcl (eCls d.clus)) (h5:Wk vru (eRus d.ruls)):Wk (.agg (cY d vho vsy vrg vcl vru)) (encD d):=
 Wk.agg (.cons (Wk.refl _) (.cons (Wk.refl _) (.cons (Wk.refl _) (.cons (Wk.refl _) (.cons (Wk.refl _) (.cons h1 (.cons h2 (.cons h3 (.cons h4 (.cons h5 .nil))))))))))
theorem d17 (hlt:pid<n) (hf:Ab H0 n) (hr:few r) (hp:hget H pid=some (pY e r)) (hx:hget H n=some (.box (cY d vho vsy vrg vcl vru))) (hk:AZ pid H0 H)
  (h1:Wk vho (eIs d.holes)) (h2:Wk vsy (eSys d.syms)) (h3:Wk vrg (eRgs d.regs)) (h4:Wk vcl (eCls d.clus)) (h5:Wk vru (eRus d.ruls)):
  kont Tryz.prog tnil (Q0 e H0 pid (K17 d r)) [.c (sndN 17 c57)] .normal ⟨eD pid n X,H,m⟩:=by
 rw[AL]
 unfold K17
 simp only[eE,Nat.reduceEqDiff,↓reduceIte,Nat.reduceLeDiff,Nat.reduceMul,nS1,c57,sndN,sndA]
 refine y_bd (Aw [125]) hr hp hk fun u r2 hr2=>?_
 have hl2:=At hr ((AR _).le _ _ _ hr2)
 cases r2 with
 |nil=>
  simp only[eE,eC,eN,reduceCtorEq,Nat.reduceEqDiff,↓reduceIte,Nat.reduceAdd,Nat.reduceLeDiff,Al,c0,i00,sep3 hlt,retK,hx]
  refine⟨⟨_,rfl,wk_D h1 h2 h3 h4 h5⟩,(by simp only[AA,sep4 hlt,if_true,if_false]),?_⟩
  intro id ob hne hi
  have:=hf.lt hi
  simp only[AA];repeat rw[if_neg (by omega)]
  exact hk id ob hne hi
 |cons t q=>
  simp only[eE,eC,eN,reduceCtorEq,Nat.reduceEqDiff,↓reduceIte,Nat.reduceAdd,Nat.reduceLeDiff,cS1,List.length_map,retK]
  refine Fzq (e:=e) IB hl2 (by simp only[AA,if_true]) rfl ?_
  rw[Bb]
  exact⟨rfl,AB ..,hk.set.set⟩
end
structure IM {α:Type} (w:Bs) (one:List Tkn→Rs α) (es:Nat) (cs:VL α→List AVal) (e:Int) (l2:List Tkn) (H0:AD) (n pid:Nat) (v:VL α):Prop where
 hn:n+1≤v.n
 fr:Ab v.H v.n
 hp:hget v.H pid=some (pY e v.m)
 hx:hget v.H n=some (.box (cs v))
 hk:AZ pid H0 v.H
 hl:v.m.length+v.acc.length≤l2.length
 tok:tkG es (n+1) v.H v.tk
 es:v.tk.esz=es∨v.acc=[]
 eq:C4 w one l2=(C4 w one v.m).bd fun xs q=>.ok (v.acc++xs) q
theorem ES {α:Type} {w:Bs} {one:List Tkn→Rs α} (hp:Lt one) {m:List Tkn} (hw:hdW w m=true):C4 w one m=(one m.tail).bd fun a r=>(C4 w one r).bd fun xs q=>.ok (a::xs) q:=by
 unfold C4
 rw[G5 (BU w hp.le) hw]
 show((need w m).bd _).bd _=_
 unfold need
 rw[if_pos hw];rfl
theorem Ks {α:Type} {w:Bs} {one:List Tkn→Rs α} (hp:Lt one) {m:List Tkn} (hw:¬hdW w m=true):C4 w one m= .ok [] m:=by
 unfold C4
 exact Ly (BU w hp.le) (by simpa using hw)
theorem d16 {e:Int} {H0 H:AD} {n pid m0:Nat} {d:Dcl} {l2:List Tkn} {vho vsy vrg vcl:AVal} {X:List (Nat×Bool×AVal)} (hlt:pid<n) (hf:Ab H0 n) (hl2:few l2) (hm0:n+1≤m0) (hfr0:Ab H m0) (hp:hget H pid=some (pY e l2)) (hx:hget H n=some (.box (cY d vho vsy vrg vcl (.sl .nil [])))) (hk:AZ pid H0 H)
  (h1:Wk vho (eIs d.holes)) (h2:Wk vsy (eSys d.syms)) (h3:Wk vrg (eRgs d.regs)) (h4:Wk vcl (eCls d.clus)):
  kont Tryz.prog tnil (Q0 e H0 pid (K16 d l2)) [.c (sndN 16 c57)] .normal ⟨eD pid n X,H,m0⟩:=by
 have hl2':l2.length<1000000000:=hl2
 rw[AL]
 unfold K16
 simp only[eE,c57,sndN,sndA]
 refine AW (fun v:VL DRul×List (Nat×Bool×AVal)=>⟨eD pid n v.2,v.1.H,v.1.n⟩) (fun v=>IM CN Gx 12 (fun v=>cY d vho vsy vrg vcl (.sl v.tk (v.acc.map Am))) e l2 H0 n pid v.1) (fun v=>v.1.m.length) (⟨l2,[],.nil,H,m0⟩,X) rfl
  ⟨hm0,hfr0,hp,hx,hk,by simp,.inl rfl,.inr rfl,by cases C4 CN Gx l2<;>rfl⟩ ?_
 rintro⟨⟨m,acc,tk,H5,n1⟩,X1⟩ ⟨hn,hfr,hp5,hx5,hk5,hlm,htk,hes,he⟩
 simp only at hn hfr hp5 hx5 hk5 hlm htk hes he
 have hm:few m:=by show m.length<_;omega
 have hlt1:pid<n1:=by omega
 have hne:pid≠n:=by omega
 simp only[eE,↓reduceIte]
 by_cases hb:hdW CN m=true
 case neg=>
  refine y_ok (e:=e) (A3 CN) hm hp5 (CA hb) ?_
  rw[he,Ks EG hb]
  simp only[Be,List.append_nil]
  simp only[eE,reduceCtorEq,Nat.reduceEqDiff,↓reduceIte,retK]
  rw[AL]
  simp only[eE,eC,reduceCtorEq,Nat.reduceEqDiff,↓reduceIte]
  have hw:Wk (.sl tk (acc.map Am)) (.sl (.none 12) (acc.map Am)):=Wk.sl (hes.imp id fun q=>by rw[q];rfl)
  exact d17 (e:=e) (X:=_) (d:={d with ruls:=acc}) hlt hf hm (AB ..) (by rw[AC _ _ _ _ hne];exact hx5) hk5.set h1 h2 h3 h4 hw
 case pos=>
 have hml:m.tail.length<m.length:=by cases m with|nil=>cases hb|cons t q=>simp
 refine y_ok (e:=e) (A3 CN) hm hp5 (Bh hb) ?_
 rw[he,ES EG hb]
 simp only[eE,eC,eN,eX,reduceCtorEq,Nat.reduceEqDiff,↓reduceIte,Nat.reduceAdd,Nat.reduceLeDiff,Nat.reduceLT,Nat.reduceMod,Nat.reduceSub,Nat.reduceDiv,sep3 hlt,retK,hx5,atK,atN]
 cases hr:Gx m.tail with
 |bad r3=>
  refine Lx RV (Av hm) (AB ..) hr ?_
  simp only[eE,eN]
  exact⟨rfl,AB ..,hk5.set.set⟩
 |ok x r3=>
  have hl3:=EG _ _ _ hr
  refine Qg RV (Av hm) (AB ..) hr ?_
  have htk':tkG 12 (n+1) (hset (hset H5 pid (pY e m.tail)) pid (pY e r3)) tk:=(htk.set (.inl (by omega))).set (.inl (by omega))
  have q1:CF (hset (hset H5 pid (pY e m.tail)) pid (pY e r3)) 12 tk=True:=eq_true htk'.app
  have q2:(acc.length≤35184372088831)=True:=eq_true (by omega)
  have q3:Ao (acc.length+1) 152=True:=eq_true (Ar (by omega) (by decide))
  have q4:hget (AK (hset (hset H5 pid (pY e m.tail)) pid (pY e r3)) tk) n=some (.box (cY d vho vsy vrg vcl (.sl tk (acc.map Am)))):=by
   rw[Aa htk' (.inl (by omega)),AC _ _ _ _ (by omega),AC _ _ _ _ (by omega)];exact hx5
  have y1:∀k,(n1+k=n)=False:=fun k=>eq_false (by omega)
  simp only[eE,eN,eX,reduceCtorEq,Nat.reduceEqDiff,↓reduceIte,Nat.reduceAdd,Nat.reduceLeDiff,Nat.reduceMul,Nat.reduceSub,Nat.reduceDiv,nS1,List.length_map,Gf,BV,q1,q2,q3,q4,y1,sep1 hlt1,fr1 hfr]
  have hf2:Ab (hset (hset H5 pid (pY e m.tail)) pid (pY e r3)) n1:=(hfr.hset (Nat.le_refl _) (by omega)).hset (Nat.le_refl _) (by omega)
  have hk2:AZ pid H0 (hset (hset H5 pid (pY e m.tail)) pid (pY e r3)):=hk5.set.set
  have hp2:hget (hset (hset H5 pid (pY e m.tail)) pid (pY e r3)) pid=some (pY e r3):=AB ..
  generalize hset (hset H5 pid (pY e m.tail)) pid (pY e r3)=H6 at htk' q4 hf2 hk2 hp2
  refine .mk (⟨r3,acc++[x],.own (n1+5) 12,hset (hset (AK H6 tk) (n1+5) .tok) n (.box (cY d vho vsy vrg vcl (.sl (.own (n1+5) 12) ((acc++[x]).map Am)))),n1+8⟩,[]) (by simp only[List.map_append,List.map_cons,List.map_nil]) ⟨by simp only[];omega,
   ((BO htk' hf2).hset (m:=n1+8) (by omega) (by omega)).hset (Nat.le_refl _) (show n<n1+8 by omega),?_,AB ..,?_,?_,.inr (.inr ⟨n1+5,rfl,by omega,by rw[AC _ _ _ _ (by omega)];exact AB ..⟩),.inl rfl,?_⟩ (by simp only[];omega)
  ·simp only[]
   rw[AC _ _ _ _ (by omega),AC _ _ _ _ (by omega),Aa htk' (.inl (by omega))];exact hp2
  ·intro id ob h1 hi
   have:=hf.lt hi
   simp only[]
   rw[AC _ _ _ _ (by omega),AC _ _ _ _ (by omega),Aa htk' (.inl (by omega))];exact hk2 id ob h1 hi
  ·simp only[List.length_append,List.length_cons,List.length_nil];omega
  ·simp only[]
   rw[he,ES EG hb,hr]
   simp only[Be]
   cases C4 CN Gx r3<;>simp [Rs.bd]
theorem d15 {e:Int} {H0 H:AD} {n pid m0:Nat} {d:Dcl} {l2:List Tkn} {vho vsy vrg:AVal} {X:List (Nat×Bool×AVal)} (hlt:pid<n) (hf:Ab H0 n) (hl2:few l2) (hm0:n+1≤m0) (hfr0:Ab H m0) (hp:hget H pid=some (pY e l2)) (hx:hget H n=some (.box (cY d vho vsy vrg (.sl .nil []) (.sl .nil [])))) (hk:AZ pid H0 H)
  (h1:Wk vho (eIs d.holes)) (h2:Wk vsy (eSys d.syms)) (h3:Wk vrg (eRgs d.regs)):
  kont Tryz.prog tnil (Q0 e H0 pid (K15 d l2)) [.c (sndN 15 c57)] .normal ⟨eD pid n X,H,m0⟩:=by
 have hl2':l2.length<1000000000:=hl2
 rw[AL]
 unfold K15
 simp only[eE,c57,sndN,sndA]
 refine AW (fun v:VL DClu×List (Nat×Bool×AVal)=>⟨eD pid n v.2,v.1.H,v.1.n⟩) (fun v=>IM CK cluR 6 (fun v=>cY d vho vsy vrg (.sl v.tk (v.acc.map BI)) (.sl .nil [])) e l2 H0 n pid v.1) (fun v=>v.1.m.length) (⟨l2,[],.nil,H,m0⟩,X) rfl
  ⟨hm0,hfr0,hp,hx,hk,by simp,.inl rfl,.inr rfl,by cases C4 CK cluR l2<;>rfl⟩ ?_
 rintro⟨⟨m,acc,tk,H5,n1⟩,X1⟩ ⟨hn,hfr,hp5,hx5,hk5,hlm,htk,hes,he⟩
 simp only at hn hfr hp5 hx5 hk5 hlm htk hes he
 have hm:few m:=by show m.length<_;omega
 have hlt1:pid<n1:=by omega
 have hne:pid≠n:=by omega
 simp only[eE,↓reduceIte]
 by_cases hb:hdW CK m=true
 case neg=>
  refine y_ok (e:=e) (A3 CK) hm hp5 (CA hb) ?_
  rw[he,Ks Gz hb]
  simp only[Be,List.append_nil]
  simp only[eE,reduceCtorEq,Nat.reduceEqDiff,↓reduceIte,retK]
  rw[AL]
  simp only[eE,eC,reduceCtorEq,Nat.reduceEqDiff,↓reduceIte]
  have hw:Wk (.sl tk (acc.map BI)) (.sl (.none 6) (acc.map BI)):=Wk.sl (hes.imp id fun q=>by rw[q];rfl)
  exact d16 (e:=e) (X:=_) (d:={d with clus:=acc}) hlt hf hm (show n+1≤n1 from hn) (hfr.hset (Nat.le_refl _) (by omega)) (AB ..) (by rw[AC _ _ _ _ hne];exact hx5) hk5.set h1 h2 h3 hw
 case pos=>
 have hml:m.tail.length<m.length:=by cases m with|nil=>cases hb|cons t q=>simp
 refine y_ok (e:=e) (A3 CK) hm hp5 (Bh hb) ?_
 rw[he,ES Gz hb]
 simp only[eE,eC,eN,eX,reduceCtorEq,Nat.reduceEqDiff,↓reduceIte,Nat.reduceAdd,Nat.reduceLeDiff,Nat.reduceLT,Nat.reduceMod,Nat.reduceSub,Nat.reduceDiv,sep3 hlt,retK,hx5,atK,atN]
 cases hr:cluR m.tail with
 |bad r3=>
  refine Lx RW (Av hm) (AB ..) hr ?_
  simp only[eE,eN]
  exact⟨rfl,AB ..,hk5.set.set⟩
 |ok x r3=>
  have hl3:=Gz _ _ _ hr
  refine Qg RW (Av hm) (AB ..) hr ?_
  have htk':tkG 6 (n+1) (hset (hset H5 pid (pY e m.tail)) pid (pY e r3)) tk:=(htk.set (.inl (by omega))).set (.inl (by omega))
  have q1:CF (hset (hset H5 pid (pY e m.tail)) pid (pY e r3)) 6 tk=True:=eq_true htk'.app
  have q2:(acc.length≤35184372088831)=True:=eq_true (by omega)
  have q3:Ao (acc.length+1) 64=True:=eq_true (Ar (by omega) (by decide))
  have q4:hget (AK (hset (hset H5 pid (pY e m.tail)) pid (pY e r3)) tk) n=some (.box (cY d vho vsy vrg (.sl tk (acc.map BI)) (.sl .nil []))):=by
   rw[Aa htk' (.inl (by omega)),AC _ _ _ _ (by omega),AC _ _ _ _ (by omega)];exact hx5
  have y1:∀k,(n1+k=n)=False:=fun k=>eq_false (by omega)
  simp only[eE,eN,eX,reduceCtorEq,Nat.reduceEqDiff,↓reduceIte,Nat.reduceAdd,Nat.reduceLeDiff,Nat.reduceMul,Nat.reduceSub,Nat.reduceDiv,nS1,List.length_map,Gf,BV,q1,q2,q3,q4,y1,sep1 hlt1,fr1 hfr]
  have hf2:Ab (hset (hset H5 pid (pY e m.tail)) pid (pY e r3)) n1:=(hfr.hset (Nat.le_refl _) (by omega)).hset (Nat.le_refl _) (by omega)
  have hk2:AZ pid H0 (hset (hset H5 pid (pY e m.tail)) pid (pY e r3)):=hk5.set.set
  have hp2:hget (hset (hset H5 pid (pY e m.tail)) pid (pY e r3)) pid=some (pY e r3):=AB ..
  generalize hset (hset H5 pid (pY e m.tail)) pid (pY e r3)=H6 at htk' q4 hf2 hk2 hp2
  refine .mk (⟨r3,acc++[x],.own (n1+5) 6,hset (hset (AK H6 tk) (n1+5) .tok) n (.box (cY d vho vsy vrg (.sl (.own (n1+5) 6) ((acc++[x]).map BI)) (.sl .nil []))),n1+8⟩,[]) (by simp only[List.map_append,List.map_cons,List.map_nil]) ⟨by simp only[];omega,
   ((BO htk' hf2).hset (m:=n1+8) (by omega) (by omega)).hset (Nat.le_refl _) (show n<n1+8 by omega),?_,AB ..,?_,?_,.inr (.inr ⟨n1+5,rfl,by omega,by rw[AC _ _ _ _ (by omega)];exact AB ..⟩),.inl rfl,?_⟩ (by simp only[];omega)
  ·simp only[]
   rw[AC _ _ _ _ (by omega),AC _ _ _ _ (by omega),Aa htk' (.inl (by omega))];exact hp2
  ·intro id ob h1 hi
   have:=hf.lt hi
   simp only[]
   rw[AC _ _ _ _ (by omega),AC _ _ _ _ (by omega),Aa htk' (.inl (by omega))];exact hk2 id ob h1 hi
  ·simp only[List.length_append,List.length_cons,List.length_nil];omega
  ·simp only[]
   rw[he,ES Gz hb,hr]
   simp only[Be]
   cases C4 CK cluR r3<;>simp [Rs.bd]
theorem d14 {e:Int} {H0 H:AD} {n pid m0:Nat} {d:Dcl} {l2:List Tkn} {vho vsy:AVal} {X:List (Nat×Bool×AVal)} (hlt:pid<n) (hf:Ab H0 n) (hl2:few l2) (hm0:n+1≤m0) (hfr0:Ab H m0) (hp:hget H pid=some (pY e l2)) (hx:hget H n=some (.box (cY d vho vsy (.sl .nil []) (.sl .nil []) (.sl .nil [])))) (hk:AZ pid H0 H)
  (h1:Wk vho (eIs d.holes)) (h2:Wk vsy (eSys d.syms)):
  kont Tryz.prog tnil (Q0 e H0 pid (K14 d l2)) [.c (sndN 14 c57)] .normal ⟨eD pid n X,H,m0⟩:=by
 have hl2':l2.length<1000000000:=hl2
 rw[AL]
 unfold K14
 simp only[eE,c57,sndN,sndA]
 refine AW (fun v:VL DReg×List (Nat×Bool×AVal)=>⟨eD pid n v.2,v.1.H,v.1.n⟩) (fun v=>IM Bl regR 2 (fun v=>cY d vho vsy (.sl v.tk (v.acc.map DF)) (.sl .nil []) (.sl .nil [])) e l2 H0 n pid v.1) (fun v=>v.1.m.length) (⟨l2,[],.nil,H,m0⟩,X) rfl
  ⟨hm0,hfr0,hp,hx,hk,by simp,.inl rfl,.inr rfl,by cases C4 Bl regR l2<;>rfl⟩ ?_
 rintro⟨⟨m,acc,tk,H5,n1⟩,X1⟩ ⟨hn,hfr,hp5,hx5,hk5,hlm,htk,hes,he⟩
 simp only at hn hfr hp5 hx5 hk5 hlm htk hes he
 have hm:few m:=by show m.length<_;omega
 have hlt1:pid<n1:=by omega
 have hne:pid≠n:=by omega
 simp only[eE,↓reduceIte]
 by_cases hb:hdW Bl m=true
 case neg=>
  refine y_ok (e:=e) (A3 Bl) hm hp5 (CA hb) ?_
  rw[he,Ks G0 hb]
  simp only[Be,List.append_nil]
  simp only[eE,reduceCtorEq,Nat.reduceEqDiff,↓reduceIte,retK]
  rw[AL]
  simp only[eE,eC,reduceCtorEq,Nat.reduceEqDiff,↓reduceIte]
  have hw:Wk (.sl tk (acc.map DF)) (.sl (.none 2) (acc.map DF)):=Wk.sl (hes.imp id fun q=>by rw[q];rfl)
  exact d15 (e:=e) (X:=_) (d:={d with regs:=acc}) hlt hf hm (show n+1≤n1 from hn) (hfr.hset (Nat.le_refl _) (by omega)) (AB ..) (by rw[AC _ _ _ _ hne];exact hx5) hk5.set h1 h2 hw
 case pos=>
 have hml:m.tail.length<m.length:=by cases m with|nil=>cases hb|cons t q=>simp
 refine y_ok (e:=e) (A3 Bl) hm hp5 (Bh hb) ?_
 rw[he,ES G0 hb]
 simp only[eE,eC,eN,eX,reduceCtorEq,Nat.reduceEqDiff,↓reduceIte,Nat.reduceAdd,Nat.reduceLeDiff,Nat.reduceLT,Nat.reduceMod,Nat.reduceSub,Nat.reduceDiv,sep3 hlt,retK,hx5,atK,atN]
 cases hr:regR m.tail with
 |bad r3=>
  refine Lx Lz (Av hm) (AB ..) hr ?_
  simp only[eE,eN]
  exact⟨rfl,AB ..,hk5.set.set⟩
 |ok x r3=>
  have hl3:=G0 _ _ _ hr
  refine Qg Lz (Av hm) (AB ..) hr ?_
  have htk':tkG 2 (n+1) (hset (hset H5 pid (pY e m.tail)) pid (pY e r3)) tk:=(htk.set (.inl (by omega))).set (.inl (by omega))
  have q1:CF (hset (hset H5 pid (pY e m.tail)) pid (pY e r3)) 2 tk=True:=eq_true htk'.app
  have q2:(acc.length≤35184372088831)=True:=eq_true (by omega)
  have q3:Ao (acc.length+1) 40=True:=eq_true (Ar (by omega) (by decide))
  have q4:hget (AK (hset (hset H5 pid (pY e m.tail)) pid (pY e r3)) tk) n=some (.box (cY d vho vsy (.sl tk (acc.map DF)) (.sl .nil []) (.sl .nil []))):=by
   rw[Aa htk' (.inl (by omega)),AC _ _ _ _ (by omega),AC _ _ _ _ (by omega)];exact hx5
  have y1:∀k,(n1+k=n)=False:=fun k=>eq_false (by omega)
  simp only[eE,eN,eX,reduceCtorEq,Nat.reduceEqDiff,↓reduceIte,Nat.reduceAdd,Nat.reduceLeDiff,Nat.reduceMul,Nat.reduceSub,Nat.reduceDiv,nS1,List.length_map,Gf,BV,q1,q2,q3,q4,y1,sep1 hlt1,fr1 hfr]
  have hf2:Ab (hset (hset H5 pid (pY e m.tail)) pid (pY e r3)) n1:=(hfr.hset (Nat.le_refl _) (by omega)).hset (Nat.le_refl _) (by omega)
  have hk2:AZ pid H0 (hset (hset H5 pid (pY e m.tail)) pid (pY e r3)):=hk5.set.set
  have hp2:hget (hset (hset H5 pid (pY e m.tail)) pid (pY e r3)) pid=some (pY e r3):=AB ..
  generalize hset (hset H5 pid (pY e m.tail)) pid (pY e r3)=H6 at htk' q4 hf2 hk2 hp2
  refine .mk (⟨r3,acc++[x],.own (n1+5) 2,hset (hset (AK H6 tk) (n1+5) .tok) n (.box (cY d vho vsy (.sl (.own (n1+5) 2) ((acc++[x]).map DF)) (.sl .nil []) (.sl .nil []))),n1+8⟩,[]) (by simp only[List.map_append,List.map_cons,List.map_nil]) ⟨by simp only[];omega,
   ((BO htk' hf2).hset (m:=n1+8) (by omega) (by omega)).hset (Nat.le_refl _) (show n<n1+8 by omega),?_,AB ..,?_,?_,.inr (.inr ⟨n1+5,rfl,by omega,by rw[AC _ _ _ _ (by omega)];exact AB ..⟩),.inl rfl,?_⟩ (by simp only[];omega)
  ·simp only[]
   rw[AC _ _ _ _ (by omega),AC _ _ _ _ (by omega),Aa htk' (.inl (by omega))];exact hp2
  ·intro id ob h1 hi
   have:=hf.lt hi
   simp only[]
   rw[AC _ _ _ _ (by omega),AC _ _ _ _ (by omega),Aa htk' (.inl (by omega))];exact hk2 id ob h1 hi
  ·simp only[List.length_append,List.length_cons,List.length_nil];omega
  ·simp only[]
   rw[he,ES G0 hb,hr]
   simp only[Be]
   cases C4 Bl regR r3<;>simp [Rs.bd]
end Go.AM
end
section
set_option maxRecDepth 20000
set_option linter.all false
set_option maxHeartbeats 1000000
namespace Go.AM
open Go.Proofs Go.Lib
section
variable {e:Int} {H0 H:AD} {n pid m0:Nat} {d:Dcl} {r:List Tkn} {vho:AVal} {X:List (Nat×Bool×AVal)}
theorem d11 (hlt:pid<n) (hf:Ab H0 n) (hr:few r) (hm0:n+1≤m0) (hfr0:Ab H m0) (hp:hget H pid=some (pY e r)) (hx:hget H n=some (.box (cY d vho (.sl .nil []) (.sl .nil []) (.sl .nil []) (.sl .nil [])))) (hk:AZ pid H0 H)
  (h1:Wk vho (eIs d.holes)):
  kont Tryz.prog tnil (Q0 e H0 pid (K11 d r)) [.c (sndN 11 c57)] .normal ⟨eD pid n X,H,m0⟩:=by
 have hne:pid≠n:=by omega
 have hne':n≠pid:=by omega
 rw[AL]
 unfold K11
 simp only[eE,Nat.reduceEqDiff,↓reduceIte,Nat.reduceLeDiff,Nat.reduceMul,Nat.reduceLT,c57,sndN,sndA]
 refine y_bd (Oy [59] EC) hr hp hk fun u r2 hr2=>?_
 have hl2:=At hr (((AR _).le.bd fun _=>(AR _).le) _ _ _ hr2)
 simp only[eE,reduceCtorEq,Nat.reduceEqDiff,↓reduceIte,retK]
 rw[AL]
 simp only[eE,↓reduceIte]
 refine y_bd (QY Qa Js) hl2 (AB ..) hk.set fun ss r3 hr3=>?_
 have hl3:=At hl2 ((C7 Js).le _ _ _ hr3)
 simp only[eE,reduceCtorEq,Nat.reduceEqDiff,↓reduceIte,Nat.reduceAdd,Nat.reduceLeDiff,retK,hx,hne]
 rw[AL]
 simp only[eE,Nat.reduceEqDiff,↓reduceIte,Nat.reduceLeDiff,Nat.reduceMul,Nat.reduceLT]
 refine y_bd (Aw [59]) hl3 (by simp only[AA,hne',if_true,if_false]) (by intro id ob hne hi;have:=hf.lt hi;simp only[AA];(repeat rw[if_neg (by omega)]);exact hk id ob hne hi) fun u r4 hr4=>?_
 have hl4:=At hl3 ((AR _).le _ _ _ hr4)
 simp only[eE,reduceCtorEq,Nat.reduceEqDiff,↓reduceIte,retK]
 refine d14 (e:=e) (X:=_) (vsy:=eSys ss) (d:={d with syms:=ss}) hlt hf hl4 hm0 (by intro id hid;have:=hfr0 id hid;simp only[AA];(repeat rw[if_neg (by omega)]);exact this) (AB ..) (by simp only[AA,hne,if_true,if_false];try exact hx) (by intro id ob hne hi;have:=hf.lt hi;simp only[AA];(repeat rw[if_neg (by omega)]);exact hk id ob hne hi) h1 (Wk.refl _)
theorem d7 (hlt:pid<n) (hf:Ab H0 n) (hr:few r) (hm0:n+1≤m0) (hfr0:Ab H m0) (hp:hget H pid=some (pY e r)) (hx:hget H n=some (.box (cY d (.sl .nil []) (.sl .nil []) (.sl .nil []) (.sl .nil []) (.sl .nil [])))) (hk:AZ pid H0 H):
  kont Tryz.prog tnil (Q0 e H0 pid (K7 d r)) [.c (sndN 7 c57)] .normal ⟨eD pid n X,H,m0⟩:=by
 have hne:pid≠n:=by omega
 have hne':n≠pid:=by omega
 rw[AL]
 unfold K7
 simp only[eE,↓reduceIte,c57,sndN,sndA]
 refine y_bd Bg hr hp hk fun w r2 hr2=>?_
 have hl2:=At hr (Bd.le _ _ _ hr2)
 simp only[eE,reduceCtorEq,Nat.reduceEqDiff,↓reduceIte,Nat.reduceAdd,Nat.reduceLeDiff,retK,hx,hne]
 rw[AL]
 simp only[eE,Nat.reduceEqDiff,↓reduceIte,Nat.reduceLeDiff,Nat.reduceMul,Nat.reduceLT]
 refine y_bd (Aw wBy) hl2 (by simp only[AA,hne',if_true,if_false];try exact hp) (by intro id ob hne hi;have:=hf.lt hi;simp only[AA];(repeat rw[if_neg (by omega)]);exact hk id ob hne hi) fun u r3 hr3=>?_
 have hl3:=At hl2 ((AR _).le _ _ _ hr3)
 simp only[eE,reduceCtorEq,Nat.reduceEqDiff,↓reduceIte,retK]
 rw[AL]
 simp only[eE,↓reduceIte]
 refine y_bd Bg hl3 (by simp only[AA,hne',if_true,if_false];try exact hp) (by intro id ob hne hi;have:=hf.lt hi;simp only[AA];(repeat rw[if_neg (by omega)]);exact hk id ob hne hi) fun h r4 hr4=>?_
 have hl4:=At hl3 (Bd.le _ _ _ hr4)
 simp only[eE,reduceCtorEq,Nat.reduceEqDiff,↓reduceIte,Nat.reduceAdd,Nat.reduceLeDiff,retK,hne]
 rw[AL]
 simp only[eE,↓reduceIte]
 by_cases w1:hdW Eu r4=true
 ·refine y_ok (e:=e) (A3 Eu) hl4 (by simp only[AA,hne',if_true,if_false];try exact hp) (Bh w1) ?_
  have e1:EF r4=CJ nmbR r4.tail:=by unfold EF;rw[if_pos w1]
  rw[e1]
  simp only[eE,reduceCtorEq,Nat.reduceEqDiff,↓reduceIte,retK]
  rw[AL]
  simp only[eE,eC,reduceCtorEq,Nat.reduceEqDiff,↓reduceIte,Ox]
  refine y_bd (Iz Bg Bd) (Av hl4) (by simp only[AA,hne',if_true,if_false];try exact hp) (by intro id ob hne hi;have:=hf.lt hi;simp only[AA];(repeat rw[if_neg (by omega)]);exact hk id ob hne hi) fun ho r5 hr5=>?_
  have hl5:=At (Av hl4) ((C7 Bd).le _ _ _ hr5)
  simp only[eE,reduceCtorEq,Nat.reduceEqDiff,↓reduceIte,Nat.reduceAdd,Nat.reduceLeDiff,retK,hne]
  refine d11 (e:=e) (X:=_) (vho:=eIs ho) (d:={d with w:=w,h:=h,holes:=ho}) hlt hf hl5 hm0 (by intro id hid;have:=hfr0 id hid;simp only[AA];(repeat rw[if_neg (by omega)]);exact this) (by simp only[AA,hne',if_true,if_false];try exact hp) (by simp only[AA,hne,if_true,if_false];try exact hx) (by intro id ob hne hi;have:=hf.lt hi;simp only[AA];(repeat rw[if_neg (by omega)]);exact hk id ob hne hi) (Wk.refl _)
 ·refine y_ok (e:=e) (A3 Eu) hl4 (by simp only[AA,hne',if_true,if_false];try exact hp) (CA w1) ?_
  have e1:EF r4= .ok [] r4:=by unfold EF;rw[if_neg w1]
  rw[e1,Be]
  simp only[eE,reduceCtorEq,Nat.reduceEqDiff,↓reduceIte,retK]
  rw[AL]
  simp only[eE,eC,reduceCtorEq,Nat.reduceEqDiff,↓reduceIte,Ox]
  refine d11 (e:=e) (X:=_) (vho:=.sl .nil []) (d:={d with w:=w,h:=h,holes:=[]}) hlt hf hl4 hm0 (by intro id hid;have:=hfr0 id hid;simp only[AA];(repeat rw[if_neg (by omega)]);exact this) (by simp only[AA,hne',if_true,if_false];try exact hp) (by simp only[AA,hne,if_true,if_false];try exact hx) (by intro id ob hne hi;have:=hf.lt hi;simp only[AA];(repeat rw[if_neg (by omega)]);exact hk id ob hne hi) (Wk.sl (.inr rfl))
end
theorem y_decl:BD 57 [] encD C5:=BD.of l57 (fun n a=>Ai n a) fun e l pid H n hl hf hlt hp=>by
 have hne:pid≠n:=by omega
 have hne':n≠pid:=by omega
 have hk:AZ pid H H:=AZ.refl _
 refine a57 (AF AI.tnil (AE ?_))
 rw[Mt]
 simp only[eE,reduceCtorEq,↓reduceIte,c57,fr0 hf]
 rw[AL]
 simp only[eE,Nat.reduceEqDiff,↓reduceIte,Nat.reduceLeDiff,Nat.reduceMul,Nat.reduceLT]
 refine y_bd (Aw EA) hl (by simp only[AA,hne',if_false];try exact hp) (by intro id ob hne hi;have:=hf.lt hi;simp only[AA];(repeat rw[if_neg (by omega)]);exact hk id ob hne hi) fun u r1 hr1=>?_
 have hl1:=At hl ((AR _).le _ _ _ hr1)
 simp only[eE,reduceCtorEq,Nat.reduceEqDiff,↓reduceIte,retK]
 rw[AL]
 simp only[eE,↓reduceIte]
 refine y_bd C0 hl1 (by simp only[AA,hne',if_true,if_false];try exact hp) (by intro id ob hne hi;have:=hf.lt hi;simp only[AA];(repeat rw[if_neg (by omega)]);exact hk id ob hne hi) fun nm r2 hr2=>?_
 have hl2:=At hl1 (As.le _ _ _ hr2)
 simp only[eE,reduceCtorEq,Nat.reduceEqDiff,↓reduceIte,Nat.reduceAdd,Nat.reduceLeDiff,retK,hne]
 rw[AL]
 simp only[eE,Nat.reduceEqDiff,↓reduceIte,Nat.reduceLeDiff,Nat.reduceMul,Nat.reduceLT]
 refine y_bd (Aw EW) hl2 (by simp only[AA,hne',if_true,if_false];try exact hp) (by intro id ob hne hi;have:=hf.lt hi;simp only[AA];(repeat rw[if_neg (by omega)]);exact hk id ob hne hi) fun u r3 hr3=>?_
 have hl3:=At hl2 ((AR _).le _ _ _ hr3)
 simp only[eE,reduceCtorEq,Nat.reduceEqDiff,↓reduceIte,retK]
 rw[AL]
 simp only[eE,↓reduceIte]
 refine y_bd Bg hl3 (by simp only[AA,hne',if_true,if_false];try exact hp) (by intro id ob hne hi;have:=hf.lt hi;simp only[AA];(repeat rw[if_neg (by omega)]);exact hk id ob hne hi) fun v r4 hr4=>?_
 have hl4:=At hl3 (Bd.le _ _ _ hr4)
 simp only[eE,reduceCtorEq,Nat.reduceEqDiff,↓reduceIte,Nat.reduceAdd,Nat.reduceLeDiff,retK,hne]
 rw[AL]
 simp only[eE,Nat.reduceEqDiff,↓reduceIte,Nat.reduceLeDiff,Nat.reduceMul,Nat.reduceLT]
 refine y_bd (Oy [123] Et) hl4 (by simp only[AA,hne',if_true,if_false];try exact hp) (by intro id ob hne hi;have:=hf.lt hi;simp only[AA];(repeat rw[if_neg (by omega)]);exact hk id ob hne hi) fun u r5 hr5=>?_
 have hl5:=At hl4 (((AR _).le.bd fun _=>(AR _).le) _ _ _ hr5)
 simp only[eE,reduceCtorEq,Nat.reduceEqDiff,↓reduceIte,retK]
 rw[AL]
 simp only[eE,reduceCtorEq,Nat.reduceEqDiff,↓reduceIte,Nat.reduceAdd,Nat.reduceLeDiff,hne]
 rw[AL]
 simp only[eE,↓reduceIte]
 by_cases w1:hdW wHex r5=true
 ·refine y_ok (e:=e) (A3 wHex) hl5 (by simp only[AA,hne',if_true,if_false];try exact hp) (Bh w1) ?_
  have e1:EE r5= .ok 2 r5.tail:=by unfold EE;rw[if_pos w1]
  rw[e1,Be]
  simp only[eE,reduceCtorEq,Nat.reduceEqDiff,↓reduceIte,Bool.not_true,retK]
  rw[AL]
  simp only[eE,eC,reduceCtorEq,Nat.reduceEqDiff,↓reduceIte]
  refine d7 (e:=e) (X:=_) (d:=⟨nm,v,2,0,0,[],[],[],[],[]⟩) hlt hf (Av hl5) (Nat.le_refl _) (fun id hid=>by have:=hf id (by omega);simp only[AA];(repeat rw[if_neg (by omega)]);exact this) (by simp only[AA,hne',if_true,if_false];try exact hp) (by simp only[AA,hne,if_true,if_false];try exact hp) (by intro id ob hne hi;have:=hf.lt hi;simp only[AA];(repeat rw[if_neg (by omega)]);exact hk id ob hne hi)
 ·refine y_ok (e:=e) (A3 wHex) hl5 (by simp only[AA,hne',if_true,if_false];try exact hp) (CA w1) ?_
  have e1:EE r5=(need EB r5).bd fun _ r=>.ok 1 r:=by unfold EE;rw[if_neg w1]
  rw[e1,BT]
  simp only[eE,reduceCtorEq,Nat.reduceEqDiff,↓reduceIte,Bool.not_false,retK]
  rw[AL]
  simp only[eE,eC,reduceCtorEq,Nat.reduceEqDiff,↓reduceIte,Nat.reduceLeDiff,Nat.reduceMul,Nat.reduceLT]
  refine y_bd (Aw EB) hl5 (by simp only[AA,hne',if_true,if_false];try exact hp) (by intro id ob hne hi;have:=hf.lt hi;simp only[AA];(repeat rw[if_neg (by omega)]);exact hk id ob hne hi) fun u r6 hr6=>?_
  rw[Be]
  have hl6:=At hl5 ((AR _).le _ _ _ hr6)
  simp only[eE,reduceCtorEq,Nat.reduceEqDiff,↓reduceIte,retK]
  rw[AL]
  simp only[eE,reduceCtorEq,Nat.reduceEqDiff,↓reduceIte,Nat.reduceAdd,Nat.reduceLeDiff,hne]
  refine d7 (e:=e) (X:=_) (d:=⟨nm,v,1,0,0,[],[],[],[],[]⟩) hlt hf hl6 (Nat.le_refl _) (fun id hid=>by have:=hf id (by omega);simp only[AA];(repeat rw[if_neg (by omega)]);exact this) (by simp only[AA,hne',if_true,if_false];try exact hp) (by simp only[AA,hne,if_true,if_false];try exact hp) (by intro id ob hne hi;have:=hf.lt hi;simp only[AA];(repeat rw[if_neg (by omega)]);exact hk id ob hne hi)
end Go.AM
end
section
set_option maxRecDepth 20000
set_option linter.all false
set_option maxHeartbeats 1000000
namespace Go.AM
open Go.Proofs Go.Lib
def pdV (r:PD):AVal:=.tup [encD r.d,.int .i64 r.a,.int .i64 r.e]
abbrev z10:List AVal:=[.str [],.int .i64 0,.int .i64 0,.int .i64 0,.int .i64 0,.sl .nil [],.sl .nil [],.sl .nil [],.sl .nil [],.sl .nil []]
theorem O6:Wk (.agg z10) (encD dcl0):=wk_D (d:=dcl0) (Wk.sl (.inr rfl)) (Wk.sl (.inr rfl)) (Wk.sl (.inr rfl)) (Wk.sl (.inr rfl)) (Wk.sl (.inr rfl))
theorem To {b:Nat} {H:AD} {t:Nat} {z v:AVal}:xE b (.tas t true z) H [.ifc t v]=(True,H,.tup [v,.bool true]):=by show(True,H,if t=t then _ else _)=_;rw[if_pos rfl]
theorem dRn {H:AD} {n i0 i1 i2:Nat}:Bz Tryz.prog 56 [.ptr i0 0,.ptr i1 0,.ptr i2 0] .nilifc H n (fun H' n'=>H'=H∧n'=n):=by
 refine a56 (AF AI.tnil (AE ?_))
 simp only[eE,eC,eN,reduceCtorEq,Nat.reduceEqDiff,↓reduceIte,Nat.reduceAdd,Bool.not_true,c56,Sv]
theorem dRp {H:AD} {n:Nat} {y z:AVal} {p:Int} (hn:3≤n) (hf:Ab H n) (h0:hget H 0=some (.box z10)) (h1:hget H 1=some (.box [y])) (h2:hget H 2=some (.box [z])):
  Bz Tryz.prog 56 [.ptr 0 0,.ptr 1 0,.ptr 2 0] (.ifc 100 (.agg [.int .i64 p])) H n (fun H' n'=>hget H' 0=some (.box z10)∧hget H' 1=some (.box [.int .i64 p])∧hget H' 2=some (.box [.int .i64 150])):=by
 refine a56 (AF AI.tnil (AE ?_))
 have k0:(n+5=0)=False:=eq_false (by omega)
 have k1:(n+5=1)=False:=eq_false (by omega)
 have k2:(n+5=2)=False:=eq_false (by omega)
 simp only[eE,eC,eN,eX,reduceCtorEq,Nat.reduceEqDiff,↓reduceIte,Nat.reduceAdd,Nat.reduceLeDiff,Nat.reduceLT,Nat.reduceMod,Nat.reduceSub,Nat.reduceDiv,Bool.not_true,Option.getD_some,List.getElem?_cons_zero,List.getElem?_cons_succ,c56,P6,To,h0,h1,h2,hf (n+5) (by omega),k0,k1,k2,BV]
abbrev rsR:List RC:=[.c 4 10 true,.c 5 1 false,.c 6 1 false]
abbrev envR (e:Int) (ts:List Tkn):List (Nat×Bool×AVal):=[(0,true,.sl (.none 4) (ts.map encK)),(1,true,.int .i64 e),(4,true,.ptr 0 0),(5,true,.ptr 1 0),(6,true,.ptr 2 0)]
theorem rc_R {e:Int} {ts:List Tkn} {H:AD} {n:Nat} {cs:List AVal} {y z r:AVal} (h0:hget H 0=some (.box cs)) (hc:cs.length=10) (h1:hget H 1=some (.box [y])) (h2:hget H 2=some (.box [z])) (hw:Wk (.tup [.agg cs,y,z]) r):RcOf rsR (envR e ts) (Ret r) H n:=by
 unfold RcOf
 simp only[eE,reduceCtorEq,Nat.reduceEqDiff,↓reduceIte,Al,h0,h1,h2,hc]
 exact hw
theorem Tp {e:Int} {ts:List Tkn} {H:AD} {m:Nat} {y z r:AVal} {p:Int} (hn:3≤m) (hf:Ab H m) (h0:hget H 0=some (.box z10)) (h1:hget H 1=some (.box [y])) (h2:hget H 2=some (.box [z])) (hr:r=pdV ⟨dcl0,p,150⟩):
  N4 Tryz.prog 56 [.ptr 0 0,.ptr 1 0,.ptr 2 0] rsR (envR e ts) (Ret r) (.pan (.ifc 100 (.agg [.int .i64 p]))) ⟨[],H,m⟩:=by
 subst hr
 refine Bz.mono (dRp hn hf h0 h1 h2) ?_
 rintro H2 n2 ⟨k1,k2,k3⟩
 exact rc_R k1 rfl k2 k3 (Wk.tup3 O6 (Wk.refl _) (Wk.refl _))
theorem Tq {e:Int} {ts:List Tkn} {H:AD} {m:Nat} {env:List (Nat×Bool×AVal)} {cs:List AVal} {y z r:AVal} (h0:hget H 0=some (.box cs)) (hc:cs.length=10) (h1:hget H 1=some (.box [y])) (h2:hget H 2=some (.box [z])) (hw:Wk (.tup [.agg cs,y,z]) r):
  N4 Tryz.prog 56 [.ptr 0 0,.ptr 1 0,.ptr 2 0] rsR (envR e ts) (Ret r) .ret ⟨env,H,m⟩:=by
 refine Bz.mono dRn ?_
 rintro H2 n2 ⟨rfl,-⟩
 exact rc_R h0 hc h1 h2 hw
theorem p23 (l:List Tkn) (e:Int) (hl:few l):Pur Tryz.prog 23 [.sl (.none 4) (l.map encK),.int .i64 e] (pdV (Ff e l)):=by
 refine .mk ⟨⟨trivial,Bu 0 l⟩,trivial,trivial⟩ ⟨Ai 0 _,trivial,trivial,trivial⟩ (a23 (AF AI.tnil (AE ?_)))
 simp only[eE,eN,reduceCtorEq,Nat.reduceEqDiff,↓reduceIte,Nat.reduceAdd,So,FC,KS,AN]
 refine⟨_,_,rfl,AF AI.tnil (AE ?_)⟩
 generalize hE:List.filter (fun(e:Nat×Bool×AVal)=>Nat.blt e.1 7) _=E
 have hE':E=envR e l:=by rw[←hE];rfl
 subst hE'
 clear hE
 simp only[eE,reduceCtorEq,Nat.reduceEqDiff,↓reduceIte,Nat.reduceAdd,Nat.reduceLeDiff,c23]
 refine(y_decl e l 6 _ 11 hl rfl).mono fun o H' n' q=>?_
 unfold Ff
 cases hd:C5 l with
 |bad r=>
  rw[hd]at q
  obtain⟨rfl,rfl,rfl⟩:=q
  simp only[eE,eN,retK]
  refine Tp (by decide) (fun id hid=>?_) rfl rfl rfl rfl
  simp only[AA]
  repeat rw[if_neg (by omega)]
  rfl
 |ok d r=>
  rw[hd]at q
  obtain⟨rfl,rfl,rfl⟩:=q
  simp only[eE,eN,reduceCtorEq,Nat.reduceEqDiff,↓reduceIte,Nat.reduceAdd,retK]
  exact Tq (y:=.int .i64 0) (z:=.int .i64 0) rfl rfl rfl rfl (Wk.refl _)
theorem O7 (src:Bs):(65536<src.length∧lexV src= .tup [.sl (.none 4) [],.int .i64 0,.int .i64 2]∧Bj src=⟨dcl0,0,2⟩)∨
  (src.length≤65536∧∃ts,ts.length≤src.length∧Bj src=Ff src.length ts∧lexV src= .tup [.sl (.none 4) (ts.map encK),.int .i64 0,.int .i64 0])∨
  (src.length≤65536∧∃a,lexV src= .tup [.sl (.none 4) [],.int .i64 a,.int .i64 100]∧Bj src=⟨dcl0,a,100⟩):=by
 unfold lexV
 split
 ·rename_i h;exact .inl ⟨h,rfl,by unfold Bj;rw[if_pos h]⟩
 ·rename_i h
  rw[S3]
  cases hr:lx src 0 with
  |ok a ts=>
   obtain⟨-,hv,-,hlen⟩:=lx_ok _ _ _ _ _ rfl hr
   exact .inr (.inl ⟨by omega,ts,hlen,by unfold Bj;rw[if_neg h,hr],rfl⟩)
  |err a=>exact .inr (.inr ⟨by omega,a,rfl,by unfold Bj;rw[if_neg h,hr]⟩)
def dKs:Dc (List Tkn):=dLi 4 encK decK
theorem Ae (l:List Tkn):dKs.ok (.sl (.none 4) (l.map encK))=True:=eq_true ⟨.inl rfl,by rw[DZ]⟩
theorem AX (l:List Tkn):dKs.dec (.sl (.none 4) (l.map encK))=l:=DZ l
def Tyr:Tab:=tadd 18 s18 (tadd 23 (s2 dKs dI (fun l _=>few l) fun l e=>pdV (Ff e l)) tnil)
theorem Tyr_ok:AI Tryz.prog Tyr:=(AI.tnil.add (q2 fun l e h=>p23 l e h)).add q18
theorem Kt (a:List AVal) (H:AD):Tyr 18 a H=s18 a H:=rfl
theorem Tyr_r (a:List AVal) (H:AD):Tyr 23 a H=s2 dKs dI (fun l _=>few l) (fun l e=>pdV (Ff e l)) a H:=rfl
theorem p10 (src:Bs) (hs:src.length<1000000000):Pur Tryz.prog 10 [.str src] (pdV (Bj src)):=by
 refine .mk ⟨trivial,trivial⟩ ⟨Ai 0 _,trivial,trivial,trivial⟩ (a10 (AF Tyr_ok (AE ?_)))
 rcases O7 src with⟨h6,hv,hp⟩|⟨h6,ts,hlen,hp,hv⟩|⟨h6,a,hv,hp⟩
 ·rw[hp]
  simp only[eE,eC,eN,reduceCtorEq,Nat.reduceEqDiff,↓reduceIte,Nat.reduceAdd,Nat.reduceLT,Int.reduceEq,Bool.not_false,Al,Option.getD_some,List.getElem?_cons_zero,List.getElem?_cons_succ,c10,Kt,s18,hs,hv]
  exact Wk.tup3 O6 (Wk.refl _) (Wk.refl _)
 ·rw[hp]
  have hf:few ts:=by show ts.length<_;omega
  simp only[eE,eC,eN,reduceCtorEq,Nat.reduceEqDiff,↓reduceIte,Nat.reduceAdd,Nat.reduceLT,Bool.not_true,Al,Option.getD_some,List.getElem?_cons_zero,List.getElem?_cons_succ,c10,Kt,s18,hs,hv,Tyr_r,s2,Ae,AX,By,A9,eq_true hf,pdV]
  exact Wk.refl _
 ·rw[hp]
  simp only[eE,eC,eN,reduceCtorEq,Nat.reduceEqDiff,↓reduceIte,Nat.reduceAdd,Nat.reduceLT,Int.reduceEq,Bool.not_false,Al,Option.getD_some,List.getElem?_cons_zero,List.getElem?_cons_succ,c10,Kt,s18,hs,hv]
  exact Wk.tup3 O6 (Wk.refl _) (Wk.refl _)
end Go.AM
end
section
set_option maxRecDepth 20000
set_option linter.all false
namespace Go.AM
open Go.Proofs Go.Lib
theorem G6 {b:Nat} {H:AD} {t t':Nat} {z v:AVal}:xE b (.tas t true z) H [.ifc t' v]=(True,H,if t'=t then .tup [v,.bool true]else .tup [z,.bool false]):=rfl
abbrev pW (tk:Tok) (l:List Tkn):AObj:=.box [.sl tk (l.map encK)]
structure WS (H:AD) (n pid:Nat) (l:List Tkn):Prop where
 fr:Ab H n
 ob:∃tk,hget H pid=some (pW tk l)∧tkG 4 0 H tk∧(tk.esz=4∨l=[])
abbrev fewW (l:List Tkn):Prop:=l.length≤900000000
def HJ (fid:FuncId) (xs:List AVal) (ts:List Tkn):Prop:=∀(l:List Tkn) (pid:Nat) (H:AD) (n:Nat),fewW (l++ts)→WS H n pid l→
 AP Tryz.prog fid (.ptr pid 0::xs) H n fun o H' n'=>o= .ret (.tup [])∧n≤n'∧WS H' n' pid (l++ts)∧Ac pid H H'
inductive WV where
 |s (x:Bs)
 |g (x:Bs)
 |n (x:Int)
 |ns (x:List Int)
 |ss (x:List Bs)
def encW:WV→AVal
 | .s x=>.ifc 9 (.str x)
 | .g x=>.ifc 125 (.str x)
 | .n x=>.ifc 3 (.int .i64 x)
 | .ns x=>.ifc 23 (eIs x)
 | .ss x=>.ifc 57 (eSs x)
def putT:WV→List Tkn
 | .s x=>[kI x]
 | .g x=>[kS x]
 | .n x=>[kN x]
 | .ns x=>comT oneN x
 | .ss x=>setT x
def WV.one:WV→Bool
 | .ns _| .ss _=>false
 |_=>true
section
variable {T:Tab} {b:Nat} {d:Option Nat} {kp:List Nat} {ops:List AOp} {k:List Item} {st:AS} {Q:AExit→AS→Prop}
theorem w_go {fid:FuncId} {xs:List AVal} {ts l:List Tkn} {pid:Nat} {H1:AD} {n1:Nat} (h:HJ fid xs ts) (hl:fewW (l++ts)) (hs:WS H1 n1 pid l)
  (go:∀H' n',n1≤n'→WS H' n' pid (l++ts)→Ac pid H1 H'→retK Tryz.prog T b d ops kp k Q st (.ret (.tup [])) H' n'):AP Tryz.prog fid (.ptr pid 0::xs) H1 n1 (retK Tryz.prog T b d ops kp k Q st):=
 (h l pid H1 n1 hl hs).mono fun o H' n' q=>by
  obtain⟨rfl,h1,h2,h3⟩:=q
  exact go H' n' h1 h2 h3
end
theorem O8 {H:AD} {n pid m m2:Nat} {tk:Tok} {l:List Tkn} {t:Tkn} (hf:Ab H n) (ho:hget H pid=some (pW tk l)) (ht:tkG 4 0 H tk) (h1:n≤m) (h2:m<m2):
  WS (hset (hset (AK H tk) m .tok) pid (.box [.sl (.own m 4) ((l++[t]).map encK)])) m2 pid (l++[t])∧Ac pid H (hset (hset (AK H tk) m .tok) pid (.box [.sl (.own m 4) ((l++[t]).map encK)])):=by
 have hp:=hf.lt ho
 refine⟨⟨((BO ht hf).hset (by omega) h2).hset (Nat.le_refl _) (by omega),.own m 4,AB ..,.inr (.inr ⟨m,rfl,Nat.zero_le _,?_⟩),.inl rfl⟩,?_⟩
 ·rw[AC _ _ _ _ (by omega)];exact AB ..
 ·intro id ob hx hne hnt
  have:=hf.lt hx
  rw[AC _ _ _ _ (by omega),AC _ _ _ _ (by omega)]
  exact OG ht hx hnt
theorem Qh {α:Type} (one:α→List Tkn) (a:α):∀l:List α,comT one (l++[a])=comT one l++((if l=[]then[]else[kS [44]])++one a)
 |[]=>by simp [comT]
 |b::r=>by simp [comT,List.flatMap_append]
theorem Df {α:Type} (one:α→List Tkn) {l:List α} {j:Nat} (h:j<l.length):comT one (l.take (j+1))=comT one (l.take j)++((if j=0 then[]else[kS [44]])++one l[j]):=by
 rw[List.take_succ_eq_append_getElem h,Qh]
 have e:(l.take j=[])↔j=0:=⟨fun e=>by have:=congrArg List.length e;rw[List.length_take,List.length_nil]at this;omega,fun e=>by subst e;rfl⟩
 simp only[e]
theorem Dg {α:Type} {one:α→List Tkn} (h:∀a,1≤(one a).length):∀l:List α,l.length≤(comT one l).length
 |[]=>Nat.le_refl _
 |b::r=>by
  have:r.length≤(r.flatMap fun b=>kS [44]::one b).length:=by
   induction r with
   |nil=>simp
   |cons c r ih=>simp only[List.flatMap_cons,List.length_append,List.length_cons];omega
  have:=h b
  simp only[comT,List.length_append,List.length_cons];omega
theorem G7 {α:Type} (one:α→List Tkn) {l:List α} (j:Nat):(comT one (l.take j)).length≤(comT one l).length:=by
 cases l with
 |nil=>simp
 |cons b r=>
  cases j with
  |zero=>simp [comT]
  |succ j=>
   simp only[List.take_succ_cons,comT,List.length_append]
   have:((r.take j).flatMap fun b=>kS [44]::one b).length≤(r.flatMap fun b=>kS [44]::one b).length:=by
    conv=>rhs;rw[←List.take_append_drop j r,List.flatMap_append]
    rw[List.length_append];omega
   omega
structure SW where
 i:Nat
 H:AD
 n:Nat
theorem L1 (vs:List WV) (hv:vs.length<1000) (hrec:(∃v∈vs,v.one=false)→∀v:WV,v.one=true→HJ 75 [.sl (.exact 1) [encW v]] (putT v)):HJ 75 [.sl (.exact 1) (vs.map encW)] (vs.flatMap putT):=by
 intro l pid H n hl hs
 refine a75 (AF AI.tnil (AE ?_))
 simp only[eE,eN,reduceCtorEq,Nat.reduceEqDiff,↓reduceIte,Nat.reduceAdd,List.length_map,c75]
 refine AW (fun v:SW=>⟨[(0,true,.ptr pid 0),(15,true,.sl (.exact 1) (vs.map encW)),(16,true,.int .i64 vs.length),(17,true,.int .i64 v.i)],v.H,v.n⟩)
  (fun v=>v.i≤vs.length∧n≤v.n∧WS v.H v.n pid (l++(vs.take v.i).flatMap putT)∧Ac pid H v.H) (fun v=>vs.length-v.i) ⟨0,H,n⟩ rfl
  ⟨Nat.zero_le _,Nat.le_refl _,by simpa using hs,.refl _ _⟩ ?_
 rintro⟨i,H1,n1⟩ ⟨hi,hn1,hs1,hk1⟩
 simp only at hi hn1 hs1 hk1
 by_cases hlt:i<vs.length
 case neg=>
  have:i=vs.length:=by omega
  subst this
  rw[List.take_length]at hs1
  simp only[eE,eC,eN,reduceCtorEq,Nat.reduceEqDiff,↓reduceIte,lt_F hlt]
  exact⟨hn1,hs1,hk1⟩
 have hg:=List.getElem?_eq_getElem hlt
 have e:=AO (k:=i) (by omega)
 have eT:(vs.take (i+1)).flatMap putT=(vs.take i).flatMap putT++putT vs[i]:=by
  rw[List.take_succ_eq_append_getElem hlt,List.flatMap_append];simp
 have hsub:((vs.take (i+1)).flatMap putT).length≤(vs.flatMap putT).length:=by
  conv=>rhs;rw[←List.take_append_drop (i+1) vs,List.flatMap_append]
  rw[List.length_append];omega
 have hl':l.length+(vs.flatMap putT).length≤900000000:=by have:=hl;unfold fewW at this;rwa[List.length_append]at this
 rw[eT,List.length_append]at hsub
 obtain⟨hf1,tk,ho1,ht1,he1⟩:=hs1
 have hlt1:=hf1.lt ho1
 generalize hacc:l++(vs.take i).flatMap putT=acc at ho1 he1
 have hal:acc.length=l.length+((vs.take i).flatMap putT).length:=by rw[←hacc,List.length_append]
 have eA:l++(vs.take (i+1)).flatMap putT=acc++putT vs[i]:=by rw[eT,←hacc,List.append_assoc]
 have q1:CF H1 4 tk=True:=eq_true ht1.app
 have q2:hget H1 (n1+8)=none:=hf1 _ (by omega)
 have q3:(n1+8=pid)=False:=eq_false (by omega)
 have q4:hget (AK H1 tk) pid=some (pW tk acc):=(Aa ht1 (.inr ⟨_,ho1⟩)).trans ho1
 have q5:∀t:Tkn,putT vs[i]=[t]→Ao (acc.length+1) 40=True∧(acc.length≤35184372088831)=True:=fun t ht=>by
  rw[ht]at hsub
  simp only[List.length_cons,List.length_nil]at hsub
  exact⟨eq_true (Ar (by omega) (by decide)),eq_true (by omega)⟩
 cases hvi:vs[i]with
 |s x=>
  obtain⟨q6,q7⟩:=q5 (kI x) (by rw[hvi];rfl)
  simp only[eE,eC,eN,reduceCtorEq,Nat.reduceEqDiff,↓reduceIte,Nat.reduceAdd,Nat.reduceLeDiff,Nat.reduceMul,Nat.reduceLT,Int.reduceEq,G6,Option.getD_some,Int.toNat_natCast,Int.natCast_nonneg,List.length_map,List.getElem?_map,List.getElem?_cons_zero,List.getElem?_cons_succ,lt_T hlt,hg,hvi,encW,e,ho1,q1,q2,q3,q4,q6,q7]
  have hw:=O8 (t:=kI x) hf1 ho1 ht1 (show n1≤n1+8 by omega) (show n1+8<n1+12 by omega)
  exact .mk ⟨i+1,hset (hset (AK H1 tk) (n1+8) .tok) pid (.box [.sl (.own (n1+8) 4) ((acc++[kI x]).map encK)]),n1+12⟩ (by simp only[List.map_append,List.map_cons,List.map_nil]) ⟨hlt,by simp only[];omega,by rw[eA,hvi];exact hw.1,hk1.trans hw.2⟩ (by simp only[];omega)
 |g x=>
  obtain⟨q6,q7⟩:=q5 (kS x) (by rw[hvi];rfl)
  simp only[eE,eC,eN,reduceCtorEq,Nat.reduceEqDiff,↓reduceIte,Nat.reduceAdd,Nat.reduceLeDiff,Nat.reduceMul,Nat.reduceLT,Int.reduceEq,G6,Option.getD_some,Int.toNat_natCast,Int.natCast_nonneg,List.length_map,List.getElem?_map,List.getElem?_cons_zero,List.getElem?_cons_succ,lt_T hlt,hg,hvi,encW,e,ho1,q1,q2,q3,q4,q6,q7]
  have hw:=O8 (t:=kS x) hf1 ho1 ht1 (show n1≤n1+8 by omega) (show n1+8<n1+12 by omega)
  exact .mk ⟨i+1,hset (hset (AK H1 tk) (n1+8) .tok) pid (.box [.sl (.own (n1+8) 4) ((acc++[kS x]).map encK)]),n1+12⟩ (by simp only[List.map_append,List.map_cons,List.map_nil]) ⟨hlt,by simp only[];omega,by rw[eA,hvi];exact hw.1,hk1.trans hw.2⟩ (by simp only[];omega)
 |n x=>
  obtain⟨q6,q7⟩:=q5 (kN x) (by rw[hvi];rfl)
  simp only[eE,eC,eN,reduceCtorEq,Nat.reduceEqDiff,↓reduceIte,Nat.reduceAdd,Nat.reduceLeDiff,Nat.reduceMul,Nat.reduceLT,Int.reduceEq,G6,Option.getD_some,Int.toNat_natCast,Int.natCast_nonneg,List.length_map,List.getElem?_map,List.getElem?_cons_zero,List.getElem?_cons_succ,lt_T hlt,hg,hvi,encW,e,ho1,q1,q2,q3,q4,q6,q7]
  have hw:=O8 (t:=kN x) hf1 ho1 ht1 (show n1≤n1+8 by omega) (show n1+8<n1+12 by omega)
  exact .mk ⟨i+1,hset (hset (AK H1 tk) (n1+8) .tok) pid (.box [.sl (.own (n1+8) 4) ((acc++[kN x]).map encK)]),n1+12⟩ (by simp only[List.map_append,List.map_cons,List.map_nil]) ⟨hlt,by simp only[];omega,by rw[eA,hvi];exact hw.1,hk1.trans hw.2⟩ (by simp only[];omega)
 |ns x=>
  have hr:=hrec ⟨vs[i],List.getElem_mem hlt,by rw[hvi];rfl⟩
  have hx:putT vs[i]=comT oneN x:=by rw[hvi];rfl
  have hx2:acc.length+(comT oneN x).length≤900000000:=by rw[hx]at hsub;omega
  have hxl:x.length≤(comT oneN x).length:=Dg (fun _=>Nat.le_refl _) x
  simp only[eE,eC,eN,reduceCtorEq,Nat.reduceEqDiff,↓reduceIte,Nat.reduceAdd,Nat.reduceLT,G6,Option.getD_some,Int.toNat_natCast,Int.natCast_nonneg,List.length_map,List.getElem?_map,List.getElem?_cons_zero,List.getElem?_cons_succ,lt_T hlt,hg,hvi,encW]
  refine AW (fun v:SW=>⟨[(0,true,.ptr pid 0),(15,true,.sl (.exact 1) (vs.map encW)),(16,true,.int .i64 vs.length),(17,true,.int .i64 i),(67,true,eIs x),(68,true,.int .i64 x.length),(69,true,.int .i64 v.i)],v.H,v.n⟩)
   (fun v=>v.i≤x.length∧n1≤v.n∧WS v.H v.n pid (acc++comT oneN (x.take v.i))∧Ac pid H1 v.H) (fun v=>x.length-v.i) ⟨0,H1,n1⟩ rfl
   ⟨Nat.zero_le _,Nat.le_refl _,by simpa [comT]using(⟨hf1,tk,ho1,ht1,he1⟩:WS H1 n1 pid acc),.refl _ _⟩ ?_
  rintro⟨j,H2,n2⟩ ⟨hj,hn2,hs2,hk2⟩
  simp only at hj hn2 hs2 hk2
  by_cases hlj:j<x.length
  case neg=>
   have:j=x.length:=by omega
   subst this
   rw[List.take_length]at hs2
   simp only[eE,eC,eN,reduceCtorEq,Nat.reduceEqDiff,↓reduceIte,Int.reduceEq,lt_F hlj]
   exact .mk ⟨i+1,H2,n2⟩ (by simp only[e]) ⟨hlt,by simp only[];omega,by rw[eA,hx];exact hs2,hk1.trans hk2⟩ (by simp only[];omega)
  have hgj:=List.getElem?_eq_getElem hlj
  have ej:=AO (k:=j) (by omega)
  have eQ:=Df oneN hlj
  have eP:=G7 oneN (l:=x) (j+1)
  rw[eQ]at eP
  simp only[List.length_append]at eP
  have e1:(oneN x[j]).length=1:=rfl
  by_cases hj0:j=0
  ·have j0:((0:Int)<(j:Int))=False:=eq_false (by omega)
   rw[if_pos hj0]at eQ eP
   simp only[eE,eC,eN,reduceCtorEq,Nat.reduceEqDiff,↓reduceIte,Nat.reduceLeDiff,Nat.reduceMul,Nat.reduceLT,Option.getD_some,Int.toNat_natCast,Int.natCast_nonneg,List.length_map,List.getElem?_map,lt_T hlj,hgj,j0]
   refine w_go (hr (.n x[j]) rfl) (by show(_++[_]).length≤_;simp only[List.length_append,List.length_cons,List.length_nil]at hx2 eP⊢;omega) hs2 fun H3 n3 h3 hs3 hk3=>?_
   simp only[eE,eN,reduceCtorEq,Nat.reduceEqDiff,↓reduceIte,Int.reduceEq,retK,ej]
   exact .mk ⟨j+1,H3,n3⟩ rfl ⟨hlj,by simp only[];omega,by simp only[];rw[eQ,List.nil_append,←List.append_assoc];exact hs3,hk2.trans hk3⟩ (by simp only[];omega)
  ·have j0:((0:Int)<(j:Int))=True:=eq_true (by omega)
   rw[if_neg hj0]at eQ eP
   simp only[eE,eC,eN,reduceCtorEq,Nat.reduceEqDiff,↓reduceIte,Nat.reduceLeDiff,Nat.reduceMul,Nat.reduceLT,Option.getD_some,Int.toNat_natCast,Int.natCast_nonneg,List.length_map,List.getElem?_map,lt_T hlj,hgj,j0]
   refine w_go (hr (.g [44]) rfl) (by show(_++[_]).length≤_;simp only[List.length_append,List.length_cons,List.length_nil]at hx2 eP⊢;omega) hs2 fun H3 n3 h3 hs3 hk3=>?_
   simp only[eE,eN,reduceCtorEq,Nat.reduceEqDiff,↓reduceIte,Nat.reduceLeDiff,Nat.reduceMul,Nat.reduceLT,retK]
   refine w_go (hr (.n x[j]) rfl) (by show((_++[_])++[_]).length≤_;simp only[List.length_append,List.length_cons,List.length_nil]at hx2 eP⊢;omega) hs3 fun H4 n4 h4 hs4 hk4=>?_
   simp only[eE,eN,reduceCtorEq,Nat.reduceEqDiff,↓reduceIte,Int.reduceEq,retK,ej]
   exact .mk ⟨j+1,H4,n4⟩ rfl ⟨hlj,by simp only[];omega,by simp only[];rw[eQ,←List.append_assoc,←List.append_assoc];exact hs4,(hk2.trans hk3).trans hk4⟩ (by simp only[];omega)
 |ss x=>
  have hr:=hrec ⟨vs[i],List.getElem_mem hlt,by rw[hvi];rfl⟩
  have hx:putT vs[i]=setT x:=by rw[hvi];rfl
  have hx2:acc.length+(1+(comT oneI x).length+1)≤900000000:=by
   rw[hx]at hsub
   simp only[setT,List.length_cons,List.length_append,List.length_nil]at hsub
   omega
  have hxl:x.length≤(comT oneI x).length:=Dg (fun _=>Nat.le_refl _) x
  simp only[eE,eC,eN,reduceCtorEq,Nat.reduceEqDiff,↓reduceIte,Nat.reduceAdd,Nat.reduceLeDiff,Nat.reduceMul,Nat.reduceLT,G6,Option.getD_some,Int.toNat_natCast,Int.natCast_nonneg,List.length_map,List.getElem?_map,List.getElem?_cons_zero,List.getElem?_cons_succ,lt_T hlt,hg,hvi,encW]
  refine w_go (hr (.g [123]) rfl) (by show(_++[_]).length≤_;simp only[List.length_append,List.length_cons,List.length_nil];omega) ⟨hf1,tk,ho1,ht1,he1⟩ fun H9 n9 h9 hs9 hk9=>?_
  simp only[eE,eN,reduceCtorEq,Nat.reduceEqDiff,↓reduceIte,List.length_map,retK]
  have eS:putT (.g [123])=[kS [123]]:=rfl
  rw[eS]at hs9
  refine AW (fun v:SW=>⟨[(0,true,.ptr pid 0),(15,true,.sl (.exact 1) (vs.map encW)),(16,true,.int .i64 vs.length),(17,true,.int .i64 i),(93,true,eSs x),(94,true,.int .i64 x.length),(95,true,.int .i64 v.i)],v.H,v.n⟩)
   (fun v=>v.i≤x.length∧n1≤v.n∧WS v.H v.n pid ((acc++[kS [123]])++comT oneI (x.take v.i))∧Ac pid H1 v.H) (fun v=>x.length-v.i) ⟨0,H9,n9⟩ rfl
   ⟨Nat.zero_le _,h9,by simpa [comT]using hs9,hk9⟩ ?_
  rintro⟨j,H2,n2⟩ ⟨hj,hn2,hs2,hk2⟩
  simp only at hj hn2 hs2 hk2
  by_cases hlj:j<x.length
  case neg=>
   have:j=x.length:=by omega
   subst this
   rw[List.take_length]at hs2
   simp only[eE,eC,eN,reduceCtorEq,Nat.reduceEqDiff,↓reduceIte,Nat.reduceLeDiff,Nat.reduceMul,Nat.reduceLT,lt_F hlj]
   refine w_go (hr (.g [125]) rfl) (by show(((_++[_])++_)++[_]).length≤_;simp only[List.length_append,List.length_cons,List.length_nil];omega) hs2 fun H3 n3 h3 hs3 hk3=>?_
   simp only[eE,eN,reduceCtorEq,Nat.reduceEqDiff,↓reduceIte,Int.reduceEq,retK]
   exact .mk ⟨i+1,H3,n3⟩ (by simp only[e]) ⟨hlt,by simp only[];omega,by rw[eA,hx];unfold setT;rw[←List.cons_append,←List.append_assoc,←List.singleton_append,←List.append_assoc];exact hs3,(hk1.trans hk2).trans hk3⟩ (by simp only[];omega)
  have hgj:=List.getElem?_eq_getElem hlj
  have ej:=AO (k:=j) (by omega)
  have eQ:=Df oneI hlj
  have eP:=G7 oneI (l:=x) (j+1)
  rw[eQ]at eP
  simp only[List.length_append]at eP
  have e1:(oneI x[j]).length=1:=rfl
  by_cases hj0:j=0
  ·have j0:((0:Int)<(j:Int))=False:=eq_false (by omega)
   rw[if_pos hj0]at eQ eP
   simp only[eE,eC,eN,reduceCtorEq,Nat.reduceEqDiff,↓reduceIte,Nat.reduceLeDiff,Nat.reduceMul,Nat.reduceLT,Option.getD_some,Int.toNat_natCast,Int.natCast_nonneg,List.length_map,List.getElem?_map,lt_T hlj,hgj,j0]
   refine w_go (hr (.s x[j]) rfl) (by show(_++[_]).length≤_;simp only[List.length_append,List.length_cons,List.length_nil]at hx2 eP⊢;omega) hs2 fun H3 n3 h3 hs3 hk3=>?_
   simp only[eE,eN,reduceCtorEq,Nat.reduceEqDiff,↓reduceIte,Int.reduceEq,retK,ej]
   exact .mk ⟨j+1,H3,n3⟩ rfl ⟨hlj,by simp only[];omega,by simp only[];rw[eQ,List.nil_append,←List.append_assoc];exact hs3,hk2.trans hk3⟩ (by simp only[];omega)
  ·have j0:((0:Int)<(j:Int))=True:=eq_true (by omega)
   rw[if_neg hj0]at eQ eP
   simp only[eE,eC,eN,reduceCtorEq,Nat.reduceEqDiff,↓reduceIte,Nat.reduceLeDiff,Nat.reduceMul,Nat.reduceLT,Option.getD_some,Int.toNat_natCast,Int.natCast_nonneg,List.length_map,List.getElem?_map,lt_T hlj,hgj,j0]
   refine w_go (hr (.g [44]) rfl) (by show(_++[_]).length≤_;simp only[List.length_append,List.length_cons,List.length_nil]at hx2 eP⊢;omega) hs2 fun H3 n3 h3 hs3 hk3=>?_
   simp only[eE,eN,reduceCtorEq,Nat.reduceEqDiff,↓reduceIte,Nat.reduceLeDiff,Nat.reduceMul,Nat.reduceLT,retK]
   refine w_go (hr (.s x[j]) rfl) (by show((_++[_])++[_]).length≤_;simp only[List.length_append,List.length_cons,List.length_nil]at hx2 eP⊢;omega) hs3 fun H4 n4 h4 hs4 hk4=>?_
   simp only[eE,eN,reduceCtorEq,Nat.reduceEqDiff,↓reduceIte,Int.reduceEq,retK,ej]
   exact .mk ⟨j+1,H4,n4⟩ rfl ⟨hlj,by simp only[];omega,by simp only[];rw[eQ,←List.append_assoc,←List.append_assoc];exact hs4,(hk2.trans hk3).trans hk4⟩ (by simp only[];omega)
theorem w_put0 (v:WV) (hv:v.one=true):HJ 75 [.sl (.exact 1) [encW v]] (putT v):=by
 have:=L1 [v] (by decide:1<1000) (fun⟨u,hu,hn⟩=>by rw[List.mem_singleton.1 hu,hv]at hn;cases hn)
 simpa using this
theorem w_put (vs:List WV) (hv:vs.length<1000):HJ 75 [.sl (.exact 1) (vs.map encW)] (vs.flatMap putT):=L1 vs hv fun _=>w_put0
end Go.AM
end
section
set_option maxRecDepth 20000
set_option linter.all false
namespace Go.AM
open Go.Proofs Go.Lib
theorem Tr (o:Int):(max 0 (min o 3)=0∧opP o=wIs)∨(max 0 (min o 3)=1∧opP o=wIs)∨(max 0 (min o 3)=2∧opP o=Es)∨(max 0 (min o 3)=3∧opP o=Ed):=by
 unfold opP
 by_cases h1:o≤0
 ·refine .inl ⟨by omega,by rw[if_pos (by omega)]⟩
 by_cases h2:o≤1
 ·refine .inr (.inl ⟨by omega,by rw[if_pos h2]⟩)
 by_cases h3:o≤2
 ·refine .inr (.inr (.inl ⟨by omega,by rw[if_neg h2,if_pos h3]⟩))
 ·refine .inr (.inr (.inr ⟨by omega,by rw[if_neg h2,if_neg h3]⟩))
theorem WS.box {H:AD} {n pid m:Nat} {l:List Tkn} {cs:List AVal} (h:WS H n pid l) (hm:n<m):WS (hset H n (.box cs)) m pid l:=by
 obtain⟨hf,tk,ho,ht,he⟩:=h
 have:=hf.lt ho
 exact⟨hf.hset (by omega) hm,tk,by rw[AC _ _ _ _ (by omega)];exact ho,ht.set (.inr (.inr (fr0 hf))),he⟩
theorem Ac.box {H H':AD} {n pid:Nat} {cs:List AVal} (hf:Ab H n) (h:Ac pid (hset H n (.box cs)) H'):Ac pid H H':=fun id ob ho h1 h2=>by
 have:=hf.lt ho
 exact h id ob (by rw[AC _ _ _ _ (by omega)];exact ho) h1 h2
theorem Ac.at {H H':AD} {n pid:Nat} {cs:List AVal} (hp:pid<n) (h:Ac pid (hset H n (.box cs)) H'):hget H' n=some (.box cs):=h n _ (AB ..) (by omega) (fun e=>by cases e)
theorem WS.lt {H:AD} {n pid:Nat} {l:List Tkn} (h:WS H n pid l):pid<n:=by obtain⟨hf,tk,ho,-⟩:=h;exact hf.lt ho
theorem WS.eq {H:AD} {n pid:Nat} {l l':List Tkn} (h:WS H n pid l) (e:l=l'):WS H n pid l':=e▸h
theorem w_p (vs:List WV) (h:Nat.blt vs.length 1000=true:=by rfl):HJ 75 [.sl (.exact 1) (vs.map encW)] (vs.flatMap putT):=w_put vs (Nat.le_of_ble_eq_true h)
theorem Ku (x:DRul):HJ 115 [Am x] (bndT opP x.op x.n x.byN):=by
 intro l pid H n hl hs
 have hp:=hs.lt
 have hl2:l.length+(1+(limT x.n x.byN).length)≤900000000:=by
  have:(l++bndT opP x.op x.n x.byN).length≤900000000:=hl
  unfold bndT at this
  rw[List.length_append,List.length_cons]at this
  omega
 refine a115 (AF AI.tnil (AE ?_))
 have hs1:WS (hset H n (.box (BB x))) (n+1) pid l:=hs.box (by omega)
 rcases Tr x.op with⟨hm,ho⟩|⟨hm,ho⟩|⟨hm,ho⟩|⟨hm,ho⟩
 ·simp only[eE,eN,reduceCtorEq,Nat.reduceEqDiff,↓reduceIte,Nat.reduceAdd,Nat.reduceLeDiff,Nat.reduceMul,Nat.reduceLT,Option.getD_some,Int.toNat_zero,Int.le_refl,List.getElem?_cons_zero,c115,fr0 hs.fr,hm,Int.toNat_zero]
  refine⟨by decide,?_⟩
  refine w_go (w_p [.s wIs]) (by show(l++[_]).length≤_;rw[List.length_append,List.length_cons,List.length_nil];omega) hs1 fun H1 n1 h1 hs2 hk2=>?_
  have hx:=hk2.at hp
  simp only[eE,eC,eN,reduceCtorEq,Nat.reduceEqDiff,↓reduceIte,Nat.reduceAdd,Nat.reduceLeDiff,retK,hx]
  by_cases hb:x.byN=[]
  ·have hsF:scmp .neq x.byN []=false:=by rw[hb];rfl
   have e1:limT x.n x.byN=[kN x.n]:=by unfold limT;rw[if_pos hb]
   rw[e1]at hl2
   simp only[eE,eC,reduceCtorEq,Nat.reduceEqDiff,↓reduceIte,Nat.reduceAdd,Nat.reduceLeDiff,Nat.reduceMul,Nat.reduceLT,hsF,hx]
   refine w_go (w_p [.n x.n]) (by show((l++[_])++[_]).length≤_;simp only[List.length_append,List.length_cons,List.length_nil]at hl2⊢;omega) hs2 fun H3 n3 h3 hs3 hk3=>?_
   simp only[eE,eN,retK]
   exact⟨by omega,hs3.eq (by unfold bndT;rw[e1,ho];simp [putT]),(Ac.box hs.fr hk2).trans hk3⟩
  ·have hsT:scmp .neq x.byN []=true:=by cases hq:x.byN with|nil=>exact absurd hq hb|cons a r=>rfl
   have e1:limT x.n x.byN=[kI x.byN]:=by unfold limT;rw[if_neg hb]
   rw[e1]at hl2
   simp only[eE,eC,reduceCtorEq,Nat.reduceEqDiff,↓reduceIte,Nat.reduceAdd,Nat.reduceLeDiff,Nat.reduceMul,Nat.reduceLT,hsT,hx]
   refine w_go (w_p [.s x.byN]) (by show((l++[_])++[_]).length≤_;simp only[List.length_append,List.length_cons,List.length_nil]at hl2⊢;omega) hs2 fun H3 n3 h3 hs3 hk3=>?_
   simp only[eE,eN,retK]
   exact⟨by omega,hs3.eq (by unfold bndT;rw[e1,ho];simp [putT]),(Ac.box hs.fr hk2).trans hk3⟩
 ·simp only[eE,eN,reduceCtorEq,Nat.reduceEqDiff,↓reduceIte,Nat.reduceAdd,Nat.reduceLeDiff,Nat.reduceMul,Nat.reduceLT,Int.reduceLE,Option.getD_some,Int.toNat_one,List.getElem?_cons_zero,List.getElem?_cons_succ,c115,fr0 hs.fr,hm,Int.toNat_one]
  refine⟨by decide,?_⟩
  refine w_go (w_p [.s wIs]) (by show(l++[_]).length≤_;rw[List.length_append,List.length_cons,List.length_nil];omega) hs1 fun H1 n1 h1 hs2 hk2=>?_
  have hx:=hk2.at hp
  simp only[eE,eC,eN,reduceCtorEq,Nat.reduceEqDiff,↓reduceIte,Nat.reduceAdd,Nat.reduceLeDiff,retK,hx]
  by_cases hb:x.byN=[]
  ·have hsF:scmp .neq x.byN []=false:=by rw[hb];rfl
   have e1:limT x.n x.byN=[kN x.n]:=by unfold limT;rw[if_pos hb]
   rw[e1]at hl2
   simp only[eE,eC,reduceCtorEq,Nat.reduceEqDiff,↓reduceIte,Nat.reduceAdd,Nat.reduceLeDiff,Nat.reduceMul,Nat.reduceLT,hsF,hx]
   refine w_go (w_p [.n x.n]) (by show((l++[_])++[_]).length≤_;simp only[List.length_append,List.length_cons,List.length_nil]at hl2⊢;omega) hs2 fun H3 n3 h3 hs3 hk3=>?_
   simp only[eE,eN,retK]
   exact⟨by omega,hs3.eq (by unfold bndT;rw[e1,ho];simp [putT]),(Ac.box hs.fr hk2).trans hk3⟩
  ·have hsT:scmp .neq x.byN []=true:=by cases hq:x.byN with|nil=>exact absurd hq hb|cons a r=>rfl
   have e1:limT x.n x.byN=[kI x.byN]:=by unfold limT;rw[if_neg hb]
   rw[e1]at hl2
   simp only[eE,eC,reduceCtorEq,Nat.reduceEqDiff,↓reduceIte,Nat.reduceAdd,Nat.reduceLeDiff,Nat.reduceMul,Nat.reduceLT,hsT,hx]
   refine w_go (w_p [.s x.byN]) (by show((l++[_])++[_]).length≤_;simp only[List.length_append,List.length_cons,List.length_nil]at hl2⊢;omega) hs2 fun H3 n3 h3 hs3 hk3=>?_
   simp only[eE,eN,retK]
   exact⟨by omega,hs3.eq (by unfold bndT;rw[e1,ho];simp [putT]),(Ac.box hs.fr hk2).trans hk3⟩
 ·simp only[eE,eN,reduceCtorEq,Nat.reduceEqDiff,↓reduceIte,Nat.reduceAdd,Nat.reduceLeDiff,Nat.reduceMul,Nat.reduceLT,Int.reduceLE,Int.reduceToNat,Option.getD_some,List.getElem?_cons_zero,List.getElem?_cons_succ,c115,fr0 hs.fr,hm]
  refine⟨by decide,?_⟩
  refine w_go (w_p [.s Es]) (by show(l++[_]).length≤_;rw[List.length_append,List.length_cons,List.length_nil];omega) hs1 fun H1 n1 h1 hs2 hk2=>?_
  have hx:=hk2.at hp
  simp only[eE,eC,eN,reduceCtorEq,Nat.reduceEqDiff,↓reduceIte,Nat.reduceAdd,Nat.reduceLeDiff,retK,hx]
  by_cases hb:x.byN=[]
  ·have hsF:scmp .neq x.byN []=false:=by rw[hb];rfl
   have e1:limT x.n x.byN=[kN x.n]:=by unfold limT;rw[if_pos hb]
   rw[e1]at hl2
   simp only[eE,eC,reduceCtorEq,Nat.reduceEqDiff,↓reduceIte,Nat.reduceAdd,Nat.reduceLeDiff,Nat.reduceMul,Nat.reduceLT,hsF,hx]
   refine w_go (w_p [.n x.n]) (by show((l++[_])++[_]).length≤_;simp only[List.length_append,List.length_cons,List.length_nil]at hl2⊢;omega) hs2 fun H3 n3 h3 hs3 hk3=>?_
   simp only[eE,eN,retK]
   exact⟨by omega,hs3.eq (by unfold bndT;rw[e1,ho];simp [putT]),(Ac.box hs.fr hk2).trans hk3⟩
  ·have hsT:scmp .neq x.byN []=true:=by cases hq:x.byN with|nil=>exact absurd hq hb|cons a r=>rfl
   have e1:limT x.n x.byN=[kI x.byN]:=by unfold limT;rw[if_neg hb]
   rw[e1]at hl2
   simp only[eE,eC,reduceCtorEq,Nat.reduceEqDiff,↓reduceIte,Nat.reduceAdd,Nat.reduceLeDiff,Nat.reduceMul,Nat.reduceLT,hsT,hx]
   refine w_go (w_p [.s x.byN]) (by show((l++[_])++[_]).length≤_;simp only[List.length_append,List.length_cons,List.length_nil]at hl2⊢;omega) hs2 fun H3 n3 h3 hs3 hk3=>?_
   simp only[eE,eN,retK]
   exact⟨by omega,hs3.eq (by unfold bndT;rw[e1,ho];simp [putT]),(Ac.box hs.fr hk2).trans hk3⟩
 ·simp only[eE,eN,reduceCtorEq,Nat.reduceEqDiff,↓reduceIte,Nat.reduceAdd,Nat.reduceLeDiff,Nat.reduceMul,Nat.reduceLT,Int.reduceLE,Int.reduceToNat,Option.getD_some,List.getElem?_cons_zero,List.getElem?_cons_succ,c115,fr0 hs.fr,hm]
  refine⟨by decide,?_⟩
  refine w_go (w_p [.s Ed]) (by show(l++[_]).length≤_;rw[List.length_append,List.length_cons,List.length_nil];omega) hs1 fun H1 n1 h1 hs2 hk2=>?_
  have hx:=hk2.at hp
  simp only[eE,eC,eN,reduceCtorEq,Nat.reduceEqDiff,↓reduceIte,Nat.reduceAdd,Nat.reduceLeDiff,retK,hx]
  by_cases hb:x.byN=[]
  ·have hsF:scmp .neq x.byN []=false:=by rw[hb];rfl
   have e1:limT x.n x.byN=[kN x.n]:=by unfold limT;rw[if_pos hb]
   rw[e1]at hl2
   simp only[eE,eC,reduceCtorEq,Nat.reduceEqDiff,↓reduceIte,Nat.reduceAdd,Nat.reduceLeDiff,Nat.reduceMul,Nat.reduceLT,hsF,hx]
   refine w_go (w_p [.n x.n]) (by show((l++[_])++[_]).length≤_;simp only[List.length_append,List.length_cons,List.length_nil]at hl2⊢;omega) hs2 fun H3 n3 h3 hs3 hk3=>?_
   simp only[eE,eN,retK]
   exact⟨by omega,hs3.eq (by unfold bndT;rw[e1,ho];simp [putT]),(Ac.box hs.fr hk2).trans hk3⟩
  ·have hsT:scmp .neq x.byN []=true:=by cases hq:x.byN with|nil=>exact absurd hq hb|cons a r=>rfl
   have e1:limT x.n x.byN=[kI x.byN]:=by unfold limT;rw[if_neg hb]
   rw[e1]at hl2
   simp only[eE,eC,reduceCtorEq,Nat.reduceEqDiff,↓reduceIte,Nat.reduceAdd,Nat.reduceLeDiff,Nat.reduceMul,Nat.reduceLT,hsT,hx]
   refine w_go (w_p [.s x.byN]) (by show((l++[_])++[_]).length≤_;simp only[List.length_append,List.length_cons,List.length_nil]at hl2⊢;omega) hs2 fun H3 n3 h3 hs3 hk3=>?_
   simp only[eE,eN,retK]
   exact⟨by omega,hs3.eq (by unfold bndT;rw[e1,ho];simp [putT]),(Ac.box hs.fr hk2).trans hk3⟩
theorem w_rule (x:DRul):HJ 77 [Am x] (A1 opP false x):=by
 obtain⟨nm,on,kd,fam,ns,os,set,oth,op,vn,bn,clue⟩:=x
 intro l pid H n hl hs
 have hp:=hs.lt
 have hl2:l.length+(3+((Au opP false ⟨nm,on,kd,fam,ns,os,set,oth,op,vn,bn,clue⟩).length+1))≤900000000:=by
  have:(l++A1 opP false _).length≤900000000:=hl
  unfold A1 at this
  simp only[List.length_append,List.length_cons,List.length_nil]at this
  omega
 refine a77 (AF AI.tnil (AE ?_))
 have hs1:WS (hset H n (.box (BB ⟨nm,on,kd,fam,ns,os,set,oth,op,vn,bn,clue⟩))) (n+1) pid l:=hs.box (by omega)
 simp only[eE,reduceCtorEq,↓reduceIte,Nat.reduceAdd,c77,fr0 hs.fr]
 rw[AL]
 simp only[eE,reduceCtorEq,Nat.reduceEqDiff,↓reduceIte,Nat.reduceAdd,Nat.reduceLeDiff,Nat.reduceMul,Nat.reduceLT]
 refine w_go (w_p [.s CN,.s nm,.g [58]]) (by simp only[fewW,putT,List.flatMap_cons,List.flatMap_nil,List.length_append,List.length_cons,List.length_nil]at hl2⊢;omega) hs1 fun H1 n1 h1 hs2 hk2=>?_
 have hx:=hk2.at hp
 simp only[eE,reduceCtorEq,Nat.reduceEqDiff,↓reduceIte,retK]
 rw[AL]
 by_cases k1:kd=1
 ·subst k1
  have hB:Au opP false ⟨nm,on,1,fam,ns,os,set,oth,op,vn,bn,clue⟩=[kI Bp,kI on,kI D9]:=rfl
  rw[hB]at hl2
  simp only[eE,eC,eN,reduceCtorEq,Nat.reduceEqDiff,↓reduceIte,Nat.reduceAdd,Nat.reduceLeDiff,Nat.reduceMul,Nat.reduceLT,hx]
  refine w_go (w_p [.s Bp,.s on,.s D9]) (by simp only[fewW,putT,List.flatMap_cons,List.flatMap_nil,List.length_append,List.length_cons,List.length_nil]at hl2⊢;omega) hs2 fun H2 n2 h2 hs3 hk3=>?_
  simp only[eE,eN,reduceCtorEq,Nat.reduceEqDiff,↓reduceIte,Nat.reduceLeDiff,Nat.reduceMul,Nat.reduceLT,retK]
  refine w_go (w_p [.g [59]]) (by simp only[fewW,putT,List.flatMap_cons,List.flatMap_nil,List.length_append,List.length_cons,List.length_nil]at hl2⊢;omega) hs3 fun H4 n4 h4 hs5 hk5=>?_
  simp only[eE,eN,retK]
  exact⟨by omega,hs5.eq (by unfold A1;rw[hB];simp [putT]),((Ac.box hs.fr hk2).trans hk3).trans hk5⟩
 by_cases k2:kd=2
 ·subst k2
  have hB:Au opP false ⟨nm,on,2,fam,ns,os,set,oth,op,vn,bn,clue⟩=kI Bp::kI on::kI CP::(setT ns++bndT opP op vn bn):=rfl
  rw[hB]at hl2
  simp only[eE,eC,eN,reduceCtorEq,Nat.reduceEqDiff,↓reduceIte,Nat.reduceAdd,Nat.reduceLeDiff,Nat.reduceMul,Nat.reduceLT,Int.reduceEq,hx]
  refine w_go (w_p [.s Bp,.s on,.s CP,.ss ns]) (by simp only[fewW,bndT,putT,List.flatMap_cons,List.flatMap_nil,List.length_append,List.length_cons,List.length_nil]at hl2⊢;omega) hs2 fun H2 n2 h2 hs3 hk3=>?_
  have hx2:=hk3 _ _ hx (by omega) (fun e=>by cases e)
  simp only[eE,eN,reduceCtorEq,Nat.reduceEqDiff,↓reduceIte,Nat.reduceAdd,retK,hx2]
  refine w_go (Ku ⟨nm,on,2,fam,ns,os,set,oth,op,vn,bn,clue⟩) (by simp only[fewW,bndT,putT,List.flatMap_cons,List.flatMap_nil,List.length_append,List.length_cons,List.length_nil]at hl2⊢;omega) hs3 fun H3 n3 h3 hs4 hk4=>?_
  simp only[eE,eN,reduceCtorEq,Nat.reduceEqDiff,↓reduceIte,Nat.reduceLeDiff,Nat.reduceMul,Nat.reduceLT,retK]
  refine w_go (w_p [.g [59]]) (by simp only[fewW,bndT,putT,List.flatMap_cons,List.flatMap_nil,List.length_append,List.length_cons,List.length_nil]at hl2⊢;omega) hs4 fun H4 n4 h4 hs5 hk5=>?_
  simp only[eE,eN,retK]
  exact⟨by omega,hs5.eq (by unfold A1;rw[hB];simp [putT]),(((Ac.box hs.fr hk2).trans hk3).trans hk4).trans hk5⟩
 by_cases k3:kd=3
 ·subst k3
  have hB:Au opP false ⟨nm,on,3,fam,ns,os,set,oth,op,vn,bn,clue⟩=kI Bp::kI on::kI wSum::bndT opP op vn bn:=rfl
  rw[hB]at hl2
  simp only[eE,eC,eN,reduceCtorEq,Nat.reduceEqDiff,↓reduceIte,Nat.reduceAdd,Nat.reduceLeDiff,Nat.reduceMul,Nat.reduceLT,Int.reduceEq,hx]
  refine w_go (w_p [.s Bp,.s on,.s wSum]) (by simp only[fewW,bndT,putT,List.flatMap_cons,List.flatMap_nil,List.length_append,List.length_cons,List.length_nil]at hl2⊢;omega) hs2 fun H2 n2 h2 hs3 hk3=>?_
  have hx2:=hk3 _ _ hx (by omega) (fun e=>by cases e)
  simp only[eE,eN,reduceCtorEq,Nat.reduceEqDiff,↓reduceIte,Nat.reduceAdd,retK,hx2]
  refine w_go (Ku ⟨nm,on,3,fam,ns,os,set,oth,op,vn,bn,clue⟩) (by simp only[fewW,bndT,putT,List.flatMap_cons,List.flatMap_nil,List.length_append,List.length_cons,List.length_nil]at hl2⊢;omega) hs3 fun H3 n3 h3 hs4 hk4=>?_
  simp only[eE,eN,reduceCtorEq,Nat.reduceEqDiff,↓reduceIte,Nat.reduceLeDiff,Nat.reduceMul,Nat.reduceLT,retK]
  refine w_go (w_p [.g [59]]) (by simp only[fewW,bndT,putT,List.flatMap_cons,List.flatMap_nil,List.length_append,List.length_cons,List.length_nil]at hl2⊢;omega) hs4 fun H4 n4 h4 hs5 hk5=>?_
  simp only[eE,eN,retK]
  exact⟨by omega,hs5.eq (by unfold A1;rw[hB];simp [putT]),(((Ac.box hs.fr hk2).trans hk3).trans hk4).trans hk5⟩
 by_cases k4:kd=4
 ·subst k4
  have hB:Au opP false ⟨nm,on,4,fam,ns,os,set,oth,op,vn,bn,clue⟩=[kI Bp,kI on,kI FN]:=rfl
  rw[hB]at hl2
  simp only[eE,eC,eN,reduceCtorEq,Nat.reduceEqDiff,↓reduceIte,Nat.reduceAdd,Nat.reduceLeDiff,Nat.reduceMul,Nat.reduceLT,Int.reduceEq,hx]
  refine w_go (w_p [.s Bp,.s on,.s FN]) (by simp only[fewW,putT,List.flatMap_cons,List.flatMap_nil,List.length_append,List.length_cons,List.length_nil]at hl2⊢;omega) hs2 fun H2 n2 h2 hs3 hk3=>?_
  simp only[eE,eN,reduceCtorEq,Nat.reduceEqDiff,↓reduceIte,Nat.reduceLeDiff,Nat.reduceMul,Nat.reduceLT,retK]
  refine w_go (w_p [.g [59]]) (by simp only[fewW,putT,List.flatMap_cons,List.flatMap_nil,List.length_append,List.length_cons,List.length_nil]at hl2⊢;omega) hs3 fun H4 n4 h4 hs5 hk5=>?_
  simp only[eE,eN,retK]
  exact⟨by omega,hs5.eq (by unfold A1;rw[hB];simp [putT]),((Ac.box hs.fr hk2).trans hk3).trans hk5⟩
 by_cases k5:kd=5
 ·subst k5
  have hB:Au opP false ⟨nm,on,5,fam,ns,os,set,oth,op,vn,bn,clue⟩=kI Bp::kI on::kI Cm::(setT ns++[kI wBy,kI bn]):=rfl
  rw[hB]at hl2
  simp only[eE,eC,eN,reduceCtorEq,Nat.reduceEqDiff,↓reduceIte,Nat.reduceAdd,Nat.reduceLeDiff,Nat.reduceMul,Nat.reduceLT,Int.reduceEq,hx]
  refine w_go (w_p [.s Bp,.s on,.s Cm,.ss ns,.s wBy,.s bn]) (by simp only[fewW,putT,List.flatMap_cons,List.flatMap_nil,List.length_append,List.length_cons,List.length_nil]at hl2⊢;omega) hs2 fun H2 n2 h2 hs3 hk3=>?_
  simp only[eE,eN,reduceCtorEq,Nat.reduceEqDiff,↓reduceIte,Nat.reduceLeDiff,Nat.reduceMul,Nat.reduceLT,retK]
  refine w_go (w_p [.g [59]]) (by simp only[fewW,putT,List.flatMap_cons,List.flatMap_nil,List.length_append,List.length_cons,List.length_nil]at hl2⊢;omega) hs3 fun H4 n4 h4 hs5 hk5=>?_
  simp only[eE,eN,retK]
  exact⟨by omega,hs5.eq (by unfold A1;rw[hB];simp [putT]),((Ac.box hs.fr hk2).trans hk3).trans hk5⟩
 by_cases k6:kd=6
 ·subst k6
  have hB:Au opP false ⟨nm,on,6,fam,ns,os,set,oth,op,vn,bn,clue⟩=[kI Bq]:=rfl
  rw[hB]at hl2
  simp only[eE,eC,eN,reduceCtorEq,Nat.reduceEqDiff,↓reduceIte,Nat.reduceAdd,Nat.reduceLeDiff,Nat.reduceMul,Nat.reduceLT,Int.reduceEq,hx]
  refine w_go (w_p [.s Bq]) (by simp only[fewW,putT,List.flatMap_cons,List.flatMap_nil,List.length_append,List.length_cons,List.length_nil]at hl2⊢;omega) hs2 fun H2 n2 h2 hs3 hk3=>?_
  simp only[eE,eN,reduceCtorEq,Nat.reduceEqDiff,↓reduceIte,Nat.reduceLeDiff,Nat.reduceMul,Nat.reduceLT,retK]
  refine w_go (w_p [.g [59]]) (by simp only[fewW,putT,List.flatMap_cons,List.flatMap_nil,List.length_append,List.length_cons,List.length_nil]at hl2⊢;omega) hs3 fun H4 n4 h4 hs5 hk5=>?_
  simp only[eE,eN,retK]
  exact⟨by omega,hs5.eq (by unfold A1;rw[hB];simp [putT]),((Ac.box hs.fr hk2).trans hk3).trans hk5⟩
 by_cases k7:kd=7
 ·subst k7
  have hB:Au opP false ⟨nm,on,7,fam,ns,os,set,oth,op,vn,bn,clue⟩=[kI Cw,kN vn]:=rfl
  rw[hB]at hl2
  simp only[eE,eC,eN,reduceCtorEq,Nat.reduceEqDiff,↓reduceIte,Nat.reduceAdd,Nat.reduceLeDiff,Nat.reduceMul,Nat.reduceLT,Int.reduceEq,hx]
  refine w_go (w_p [.s Cw,.n vn]) (by simp only[fewW,putT,List.flatMap_cons,List.flatMap_nil,List.length_append,List.length_cons,List.length_nil]at hl2⊢;omega) hs2 fun H2 n2 h2 hs3 hk3=>?_
  simp only[eE,eN,reduceCtorEq,Nat.reduceEqDiff,↓reduceIte,Nat.reduceLeDiff,Nat.reduceMul,Nat.reduceLT,retK]
  refine w_go (w_p [.g [59]]) (by simp only[fewW,putT,List.flatMap_cons,List.flatMap_nil,List.length_append,List.length_cons,List.length_nil]at hl2⊢;omega) hs3 fun H4 n4 h4 hs5 hk5=>?_
  simp only[eE,eN,retK]
  exact⟨by omega,hs5.eq (by unfold A1;rw[hB];simp [putT]),((Ac.box hs.fr hk2).trans hk3).trans hk5⟩
 by_cases k8:kd=8
 ·subst k8
  have hB:Au opP false ⟨nm,on,8,fam,ns,os,set,oth,op,vn,bn,clue⟩=kI wNot::(setT ns++kI Cn::setT os):=rfl
  rw[hB]at hl2
  simp only[eE,eC,eN,reduceCtorEq,Nat.reduceEqDiff,↓reduceIte,Nat.reduceAdd,Nat.reduceLeDiff,Nat.reduceMul,Nat.reduceLT,Int.reduceEq,hx]
  refine w_go (w_p [.s wNot,.ss ns,.s Cn,.ss os]) (by simp only[fewW,putT,List.flatMap_cons,List.flatMap_nil,List.length_append,List.length_cons,List.length_nil]at hl2⊢;omega) hs2 fun H2 n2 h2 hs3 hk3=>?_
  simp only[eE,eN,reduceCtorEq,Nat.reduceEqDiff,↓reduceIte,Nat.reduceLeDiff,Nat.reduceMul,Nat.reduceLT,retK]
  refine w_go (w_p [.g [59]]) (by simp only[fewW,putT,List.flatMap_cons,List.flatMap_nil,List.length_append,List.length_cons,List.length_nil]at hl2⊢;omega) hs3 fun H4 n4 h4 hs5 hk5=>?_
  simp only[eE,eN,retK]
  exact⟨by omega,hs5.eq (by unfold A1;rw[hB];simp [putT]),((Ac.box hs.fr hk2).trans hk3).trans hk5⟩
 by_cases k9:kd=9
 ·subst k9
  have hB:Au opP false ⟨nm,on,9,fam,ns,os,set,oth,op,vn,bn,clue⟩=kI FK::setT ns:=rfl
  rw[hB]at hl2
  simp only[eE,eC,eN,reduceCtorEq,Nat.reduceEqDiff,↓reduceIte,Nat.reduceAdd,Nat.reduceLeDiff,Nat.reduceMul,Nat.reduceLT,Int.reduceEq,hx]
  refine w_go (w_p [.s FK,.ss ns]) (by simp only[fewW,putT,List.flatMap_cons,List.flatMap_nil,List.length_append,List.length_cons,List.length_nil]at hl2⊢;omega) hs2 fun H2 n2 h2 hs3 hk3=>?_
  simp only[eE,eN,reduceCtorEq,Nat.reduceEqDiff,↓reduceIte,Nat.reduceLeDiff,Nat.reduceMul,Nat.reduceLT,retK]
  refine w_go (w_p [.g [59]]) (by simp only[fewW,putT,List.flatMap_cons,List.flatMap_nil,List.length_append,List.length_cons,List.length_nil]at hl2⊢;omega) hs3 fun H4 n4 h4 hs5 hk5=>?_
  simp only[eE,eN,retK]
  exact⟨by omega,hs5.eq (by unfold A1;rw[hB];simp [putT]),((Ac.box hs.fr hk2).trans hk3).trans hk5⟩
 by_cases k10:kd=10
 ·subst k10
  have hB:Au opP false ⟨nm,on,10,fam,ns,os,set,oth,op,vn,bn,clue⟩=kI FL::setT ns:=rfl
  rw[hB]at hl2
  simp only[eE,eC,eN,reduceCtorEq,Nat.reduceEqDiff,↓reduceIte,Nat.reduceAdd,Nat.reduceLeDiff,Nat.reduceMul,Nat.reduceLT,Int.reduceEq,hx]
  refine w_go (w_p [.s FL,.ss ns]) (by simp only[fewW,putT,List.flatMap_cons,List.flatMap_nil,List.length_append,List.length_cons,List.length_nil]at hl2⊢;omega) hs2 fun H2 n2 h2 hs3 hk3=>?_
  simp only[eE,eN,reduceCtorEq,Nat.reduceEqDiff,↓reduceIte,Nat.reduceLeDiff,Nat.reduceMul,Nat.reduceLT,retK]
  refine w_go (w_p [.g [59]]) (by simp only[fewW,putT,List.flatMap_cons,List.flatMap_nil,List.length_append,List.length_cons,List.length_nil]at hl2⊢;omega) hs3 fun H4 n4 h4 hs5 hk5=>?_
  simp only[eE,eN,retK]
  exact⟨by omega,hs5.eq (by unfold A1;rw[hB];simp [putT]),((Ac.box hs.fr hk2).trans hk3).trans hk5⟩
 by_cases k11:kd=11
 ·subst k11
  have hB:Au opP false ⟨nm,on,11,fam,ns,os,set,oth,op,vn,bn,clue⟩=[kI Cx,kI bn]:=rfl
  rw[hB]at hl2
  simp only[eE,eC,eN,reduceCtorEq,Nat.reduceEqDiff,↓reduceIte,Nat.reduceAdd,Nat.reduceLeDiff,Nat.reduceMul,Nat.reduceLT,Int.reduceEq,hx]
  refine w_go (w_p [.s Cx,.s bn]) (by simp only[fewW,putT,List.flatMap_cons,List.flatMap_nil,List.length_append,List.length_cons,List.length_nil]at hl2⊢;omega) hs2 fun H2 n2 h2 hs3 hk3=>?_
  simp only[eE,eN,reduceCtorEq,Nat.reduceEqDiff,↓reduceIte,Nat.reduceLeDiff,Nat.reduceMul,Nat.reduceLT,retK]
  refine w_go (w_p [.g [59]]) (by simp only[fewW,putT,List.flatMap_cons,List.flatMap_nil,List.length_append,List.length_cons,List.length_nil]at hl2⊢;omega) hs3 fun H4 n4 h4 hs5 hk5=>?_
  simp only[eE,eN,retK]
  exact⟨by omega,hs5.eq (by unfold A1;rw[hB];simp [putT]),((Ac.box hs.fr hk2).trans hk3).trans hk5⟩
 by_cases k12:kd=12
 ·subst k12
  have hB:Au opP false ⟨nm,on,12,fam,ns,os,set,oth,op,vn,bn,clue⟩=[kI FM,kI on]:=rfl
  rw[hB]at hl2
  simp only[eE,eC,eN,reduceCtorEq,Nat.reduceEqDiff,↓reduceIte,Nat.reduceAdd,Nat.reduceLeDiff,Nat.reduceMul,Nat.reduceLT,Int.reduceEq,hx]
  refine w_go (w_p [.s FM,.s on]) (by simp only[fewW,putT,List.flatMap_cons,List.flatMap_nil,List.length_append,List.length_cons,List.length_nil]at hl2⊢;omega) hs2 fun H2 n2 h2 hs3 hk3=>?_
  simp only[eE,eN,reduceCtorEq,Nat.reduceEqDiff,↓reduceIte,Nat.reduceLeDiff,Nat.reduceMul,Nat.reduceLT,retK]
  refine w_go (w_p [.g [59]]) (by simp only[fewW,putT,List.flatMap_cons,List.flatMap_nil,List.length_append,List.length_cons,List.length_nil]at hl2⊢;omega) hs3 fun H4 n4 h4 hs5 hk5=>?_
  simp only[eE,eN,retK]
  exact⟨by omega,hs5.eq (by unfold A1;rw[hB];simp [putT]),((Ac.box hs.fr hk2).trans hk3).trans hk5⟩
 by_cases k13:kd=13
 ·subst k13
  have hB:Au opP false ⟨nm,on,13,fam,ns,os,set,oth,op,vn,bn,clue⟩=kI Cl::bndT opP op vn bn:=rfl
  rw[hB]at hl2
  simp only[eE,eC,eN,reduceCtorEq,Nat.reduceEqDiff,↓reduceIte,Nat.reduceAdd,Nat.reduceLeDiff,Nat.reduceMul,Nat.reduceLT,Int.reduceEq,hx]
  refine w_go (w_p [.s Cl]) (by simp only[fewW,bndT,putT,List.flatMap_cons,List.flatMap_nil,List.length_append,List.length_cons,List.length_nil]at hl2⊢;omega) hs2 fun H2 n2 h2 hs3 hk3=>?_
  have hx2:=hk3 _ _ hx (by omega) (fun e=>by cases e)
  simp only[eE,eN,reduceCtorEq,Nat.reduceEqDiff,↓reduceIte,Nat.reduceAdd,retK,hx2]
  refine w_go (Ku ⟨nm,on,13,fam,ns,os,set,oth,op,vn,bn,clue⟩) (by simp only[fewW,bndT,putT,List.flatMap_cons,List.flatMap_nil,List.length_append,List.length_cons,List.length_nil]at hl2⊢;omega) hs3 fun H3 n3 h3 hs4 hk4=>?_
  simp only[eE,eN,reduceCtorEq,Nat.reduceEqDiff,↓reduceIte,Nat.reduceLeDiff,Nat.reduceMul,Nat.reduceLT,retK]
  refine w_go (w_p [.g [59]]) (by simp only[fewW,bndT,putT,List.flatMap_cons,List.flatMap_nil,List.length_append,List.length_cons,List.length_nil]at hl2⊢;omega) hs4 fun H4 n4 h4 hs5 hk5=>?_
  simp only[eE,eN,retK]
  exact⟨by omega,hs5.eq (by unfold A1;rw[hB];simp [putT]),(((Ac.box hs.fr hk2).trans hk3).trans hk4).trans hk5⟩
 have hB:Au opP false ⟨nm,on,kd,fam,ns,os,set,oth,op,vn,bn,clue⟩=[]:=by
  unfold Au
  simp [k1,k2,k3,k4,k5,k6,k7,k8,k9,k10,k11,k12,k13]
 rw[hB]at hl2
 simp only[eE,eC,eN,reduceCtorEq,Nat.reduceEqDiff,↓reduceIte,Nat.reduceAdd,Nat.reduceLeDiff,Nat.reduceMul,Nat.reduceLT,hx,k1,k2,k3,k4,k5,k6,k7,k8,k9,k10,k11,k12,k13]
 refine w_go (w_p [.g [59]]) (by simp only[fewW,putT,List.flatMap_cons,List.flatMap_nil,List.length_append,List.length_cons,List.length_nil]at hl2⊢;omega) hs2 fun H4 n4 h4 hs5 hk5=>?_
 simp only[eE,eN,retK]
 exact⟨by omega,hs5.eq (by unfold A1;rw[hB];simp [putT]),(Ac.box hs.fr hk2).trans hk5⟩
theorem w_clue (x:DClu):HJ 76 [BI x] (cluT x):=by
 obtain⟨nm,on,fam,ty,lo,hi⟩:=x
 intro l pid H n hl hs
 have hp:=hs.lt
 have hl2:l.length+(4+((cluB ⟨nm,on,fam,ty,lo,hi⟩).length+1))≤900000000:=by
  have:(l++cluT _).length≤900000000:=hl
  unfold cluT at this
  simp only[List.length_append,List.length_cons,List.length_nil]at this
  omega
 refine a76 (AF AI.tnil (AE ?_))
 have hs1:WS (hset H n (.box [.str nm,.str on,.int .i64 fam,.int .i64 ty,.int .i64 lo,.int .i64 hi])) (n+1) pid l:=hs.box (by omega)
 simp only[eE,reduceCtorEq,↓reduceIte,Nat.reduceAdd,c76,fr0 hs.fr]
 rw[AL]
 simp only[eE,reduceCtorEq,Nat.reduceEqDiff,↓reduceIte,Nat.reduceAdd,Nat.reduceLeDiff,Nat.reduceMul,Nat.reduceLT]
 refine w_go (w_p [.s CK,.s nm,.s wOn,.s on]) (by simp only[fewW,putT,List.flatMap_cons,List.flatMap_nil,List.length_append,List.length_cons,List.length_nil]at hl2⊢;omega) hs1 fun H1 n1 h1 hs2 hk2=>?_
 have hx:=hk2.at hp
 simp only[eE,reduceCtorEq,Nat.reduceEqDiff,↓reduceIte,retK]
 rw[AL]
 by_cases k1:ty=1
 ·subst k1
  have hB:cluB ⟨nm,on,fam,1,lo,hi⟩=[kI wSym]:=rfl
  rw[hB]at hl2
  simp only[eE,eC,eN,reduceCtorEq,Nat.reduceEqDiff,↓reduceIte,Nat.reduceAdd,Nat.reduceLeDiff,Nat.reduceMul,Nat.reduceLT,hx]
  refine w_go (w_p [.s wSym]) (by simp only[fewW,putT,List.flatMap_cons,List.flatMap_nil,List.length_append,List.length_cons,List.length_nil]at hl2⊢;omega) hs2 fun H2 n2 h2 hs3 hk3=>?_
  simp only[eE,eN,reduceCtorEq,Nat.reduceEqDiff,↓reduceIte,Nat.reduceLeDiff,Nat.reduceMul,Nat.reduceLT,retK]
  refine w_go (w_p [.g [59]]) (by simp only[fewW,putT,List.flatMap_cons,List.flatMap_nil,List.length_append,List.length_cons,List.length_nil]at hl2⊢;omega) hs3 fun H4 n4 h4 hs5 hk5=>?_
  simp only[eE,eN,retK]
  exact⟨by omega,hs5.eq (by unfold cluT;rw[hB];simp [putT]),((Ac.box hs.fr hk2).trans hk3).trans hk5⟩
 by_cases k2:ty=2
 ·subst k2
  have hB:cluB ⟨nm,on,fam,2,lo,hi⟩=[kI BC,kN lo,kI wTo,kN hi]:=rfl
  rw[hB]at hl2
  simp only[eE,eC,eN,reduceCtorEq,Nat.reduceEqDiff,↓reduceIte,Nat.reduceAdd,Nat.reduceLeDiff,Nat.reduceMul,Nat.reduceLT,Int.reduceEq,hx]
  refine w_go (w_p [.s BC,.n lo,.s wTo,.n hi]) (by simp only[fewW,putT,List.flatMap_cons,List.flatMap_nil,List.length_append,List.length_cons,List.length_nil]at hl2⊢;omega) hs2 fun H2 n2 h2 hs3 hk3=>?_
  simp only[eE,eN,reduceCtorEq,Nat.reduceEqDiff,↓reduceIte,Nat.reduceLeDiff,Nat.reduceMul,Nat.reduceLT,retK]
  refine w_go (w_p [.g [59]]) (by simp only[fewW,putT,List.flatMap_cons,List.flatMap_nil,List.length_append,List.length_cons,List.length_nil]at hl2⊢;omega) hs3 fun H4 n4 h4 hs5 hk5=>?_
  simp only[eE,eN,retK]
  exact⟨by omega,hs5.eq (by unfold cluT;rw[hB];simp [putT]),((Ac.box hs.fr hk2).trans hk3).trans hk5⟩
 ·
  have hB:cluB ⟨nm,on,fam,ty,lo,hi⟩=[kI Cm]:=by unfold cluB;simp [k1,k2]
  rw[hB]at hl2
  simp only[eE,eC,eN,reduceCtorEq,Nat.reduceEqDiff,↓reduceIte,Nat.reduceAdd,Nat.reduceLeDiff,Nat.reduceMul,Nat.reduceLT,hx,k1,k2]
  refine w_go (w_p [.s Cm]) (by simp only[fewW,putT,List.flatMap_cons,List.flatMap_nil,List.length_append,List.length_cons,List.length_nil]at hl2⊢;omega) hs2 fun H2 n2 h2 hs3 hk3=>?_
  simp only[eE,eN,reduceCtorEq,Nat.reduceEqDiff,↓reduceIte,Nat.reduceLeDiff,Nat.reduceMul,Nat.reduceLT,retK]
  refine w_go (w_p [.g [59]]) (by simp only[fewW,putT,List.flatMap_cons,List.flatMap_nil,List.length_append,List.length_cons,List.length_nil]at hl2⊢;omega) hs3 fun H4 n4 h4 hs5 hk5=>?_
  simp only[eE,eN,retK]
  exact⟨by omega,hs5.eq (by unfold cluT;rw[hB];simp [putT]),((Ac.box hs.fr hk2).trans hk3).trans hk5⟩
end Go.AM
end
section
set_option maxRecDepth 20000
set_option linter.all false
namespace Go.AM
open Go.Proofs Go.Lib
theorem WS.boxI {H:AD} {n i pid m:Nat} {l:List Tkn} {cs:List AVal} (h:WS H n pid l) (hi:n≤i) (hm:i<m):WS (hset H i (.box cs)) m pid l:=by
 obtain⟨hf,tk,ho,ht,he⟩:=h
 have:=hf.lt ho
 exact⟨hf.hset (by omega) hm,tk,by rw[AC _ _ _ _ (by omega)];exact ho,ht.set (.inr (.inr (hf _ hi))),he⟩
theorem Ac.boxI {H H':AD} {n i pid:Nat} {cs:List AVal} (hf:Ab H n) (hi:n≤i) (h:Ac pid (hset H i (.box cs)) H'):Ac pid H H':=fun id ob ho h1 h2=>by
 have:=hf.lt ho
 exact h id ob (by rw[AC _ _ _ _ (by omega)];exact ho) h1 h2
abbrev QW (tot:List Tkn) (H0:AD) (n0 pid:Nat):AExit→AS→Prop:=Cg [] fun o H' n'=>o= .ret (.tup [])∧n0≤n'∧WS H' n' pid tot∧Ac pid H0 H'
abbrev eWd (pid n:Nat) (X:List (Nat×Bool×AVal)):List (Nat×Bool×AVal):=(0,true,.ptr pid 0)::(3,true,.ptr n 0)::X
def W10 (d:Dcl):List Tkn:=d.ruls.flatMap (A1 opP false)++[kS [125]]
def W9 (d:Dcl):List Tkn:=d.clus.flatMap cluT++W10 d
def W8 (d:Dcl):List Tkn:=d.regs.flatMap regT++W9 d
def W6 (d:Dcl):List Tkn:=comT symT d.syms++kS [59]::W8 d
def W4 (d:Dcl):List Tkn:=B4 d.holes++kS [59]::kI EC::W6 d
def W2 (d:Dcl):List Tkn:=FP d.sh::kN d.w::kI wBy::kN d.h::W4 d
theorem decl_W (d:Dcl):BP opP false d=kI EA::kI d.nm::kI EW::kN d.ver::kS [123]::kI Et::W2 d:=by
 unfold BP Jt W2 W4 W6 W8 W9 W10
 simp
structure WI (d:Dcl) (a rest tot:List Tkn) (H0 H:AD) (n0 n m pid:Nat):Prop where
 eq:a++rest=tot
 few:fewW tot
 ws:WS H m pid a
 x:hget H n=some (.box (A0 d))
 k:Ac pid H0 H
 n0:n0≤m
 ne:pid≠n
theorem WI.go {d:Dcl} {a ts rest tot:List Tkn} {H0 H H':AD} {n0 n m m' pid:Nat} (h:WI d a (ts++rest) tot H0 H n0 n m pid) (hs:WS H' m' pid (a++ts)) (hm:m≤m') (hk:Ac pid H H'):WI d (a++ts) rest tot H0 H' n0 n m' pid:=
 ⟨by rw[List.append_assoc];exact h.eq,h.few,hs,hk _ _ h.x (Ne.symm h.ne) (fun e=>by cases e),h.k.trans hk,Nat.le_trans h.n0 hm,h.ne⟩
theorem WI.size {d:Dcl} {a ts rest tot:List Tkn} {H0 H:AD} {n0 n m pid:Nat} (h:WI d a (ts++rest) tot H0 H n0 n m pid):fewW (a++ts):=by
 have h1:=h.few
 have h2:=h.eq
 subst h2
 simp only[fewW,List.length_append]at h1⊢
 omega
theorem WI.cast {d:Dcl} {a rest rest' tot:List Tkn} {H0 H:AD} {n0 n m pid:Nat} (h:WI d a rest tot H0 H n0 n m pid) (e:rest=rest'):WI d a rest' tot H0 H n0 n m pid:=e▸h
section
variable {d:Dcl} {a tot:List Tkn} {H0 H:AD} {n0 n m pid:Nat} {X:List (Nat×Bool×AVal)}
theorem EI {α β:Type} (f:α→List β) {l:List α} {i:Nat} (h:i<l.length):l.flatMap f=(l.take i).flatMap f++(f l[i]++(l.drop (i+1)).flatMap f):=by
 conv=>lhs;rw[←List.take_append_drop i l,List.drop_eq_getElem_cons h]
 rw[List.flatMap_append,List.flatMap_cons]
theorem Bv {α β:Type} (f:α→List β) {l:List α} {i:Nat} (h:i<l.length):(l.take (i+1)).flatMap f=(l.take i).flatMap f++f l[i]:=by
 rw[List.take_succ_eq_append_getElem h,List.flatMap_append];simp
theorem BW {α β:Type} {f:α→List β} (h:∀x,1≤(f x).length) (l:List α):l.length≤(l.flatMap f).length:=by
 induction l with
 |nil=>simp
 |cons b r ih=>have:=h b;simp only[List.flatMap_cons,List.length_append,List.length_cons];omega
theorem WI.fix {a a' rest:List Tkn} {q ts:List Tkn} (h:WI d ((a++q)++ts) rest tot H0 H n0 n m pid) (e:a'=q++ts):WI d (a++a') rest tot H0 H n0 n m pid:=by
 rw[e,←List.append_assoc];exact h
theorem w10 (h:WI d a (W10 d) tot H0 H n0 n m pid):kont Tryz.prog tnil (QW tot H0 n0 pid) [.c (sndN 10 c30)] .normal ⟨eWd pid n X,H,m⟩:=by
 rw[AL]
 have hx:=h.x
 have hll:d.ruls.length≤900000000:=by
  have h1:=h.few
  have h2:=h.eq
  have h3:=BW (f:=(A1 opP false)) (fun x=>by simp [A1]) d.ruls
  subst h2
  simp only[fewW,W10,List.length_append]at h1
  omega
 simp only[eE,eN,reduceCtorEq,Nat.reduceEqDiff,↓reduceIte,Nat.reduceAdd,List.length_map,c30,sndN,sndA,hx]
 refine AW (fun v:SW=>⟨(0,true,.ptr pid 0)::(139,true,eRus d.ruls)::(140,true,.int .i64 d.ruls.length)::(141,true,.int .i64 v.i)::[],v.H,v.n⟩)
  (fun v=>v.i≤d.ruls.length∧WI d (a++(d.ruls.take v.i).flatMap (A1 opP false)) ((d.ruls.drop v.i).flatMap (A1 opP false)++[kS [125]]) tot H0 v.H n0 n v.n pid) (fun v=>d.ruls.length-v.i) ⟨0,H,m⟩ rfl
  ⟨Nat.zero_le _,by simpa [W10]using h⟩ ?_
 rintro⟨i,H1,m1⟩ ⟨hi,h1⟩
 simp only at hi h1
 by_cases hlt:i<d.ruls.length
 case neg=>
  have:i=d.ruls.length:=by omega
  subst this
  rw[List.take_length,List.drop_length,List.flatMap_nil,List.nil_append]at h1
  simp only[eE,eC,eN,reduceCtorEq,Nat.reduceEqDiff,↓reduceIte,Nat.reduceLeDiff,Nat.reduceMul,Nat.reduceLT,lt_F hlt]
  refine w_go (w_p [.g [125]]) (WI.size (h1.cast (List.append_nil _).symm)) h1.ws fun H2 m2 h3 hs3 hk3=>?_
  simp only[eE,eN,retK]
  have h4:=(h1.cast (List.append_nil _).symm).go hs3 h3 hk3
  exact⟨h4.n0,h4.ws.eq (by rw[←h4.eq,List.append_nil]),h4.k⟩
 have hg:=List.getElem?_eq_getElem hlt
 have e:=AO (k:=i) (by omega)
 have hx1:=h1.x
 have hp1:=h1.ws.lt
 have h2:WI d (a++(d.ruls.take i).flatMap (A1 opP false)) ((A1 opP false) d.ruls[i]++((d.ruls.drop (i+1)).flatMap (A1 opP false)++[kS [125]])) tot H0 H1 n0 n m1 pid:=h1.cast (by rw[List.drop_eq_getElem_cons hlt,List.flatMap_cons,List.append_assoc])
 have hb:WS (hset H1 (m1+2) (.box (BB d.ruls[i]))) (m1+4) pid _:=h1.ws.boxI (i:=m1+2) (m:=m1+4) (by omega) (by omega)
 simp only[eE,eC,eN,reduceCtorEq,Nat.reduceEqDiff,↓reduceIte,Nat.reduceAdd,AT,Option.getD_some,Int.toNat_natCast,Int.natCast_nonneg,List.length_map,List.getElem?_map,lt_T hlt,hg,fr1 h1.ws.fr]
 refine w_go (w_rule d.ruls[i]) h2.size hb fun H2 m2 h3 hs3 hk3=>?_
 simp only[eE,eN,reduceCtorEq,Nat.reduceEqDiff,↓reduceIte,Int.reduceEq,retK,e]
 exact .mk ⟨i+1,H2,m2⟩ rfl ⟨hlt,(h2.go hs3 (by omega) (Ac.boxI h1.ws.fr (by omega) hk3)).fix (Bv _ hlt)⟩ (by simp only[];omega)
theorem w9 (h:WI d a (W9 d) tot H0 H n0 n m pid):kont Tryz.prog tnil (QW tot H0 n0 pid) [.c (sndN 9 c30)] .normal ⟨eWd pid n X,H,m⟩:=by
 rw[AL]
 have hx:=h.x
 have hll:d.clus.length≤900000000:=by
  have h1:=h.few
  have h2:=h.eq
  have h3:=BW (f:=cluT) (fun x=>by simp [cluT]) d.clus
  subst h2
  simp only[fewW,W9,List.length_append]at h1
  omega
 simp only[eE,eN,reduceCtorEq,Nat.reduceEqDiff,↓reduceIte,Nat.reduceAdd,Nat.reduceLeDiff,List.length_map,c30,sndN,sndA,hx]
 refine AW (fun v:SW=>⟨(0,true,.ptr pid 0)::(3,true,.ptr n 0)::(128,true,eCls d.clus)::(129,true,.int .i64 d.clus.length)::(130,true,.int .i64 v.i)::[],v.H,v.n⟩)
  (fun v=>v.i≤d.clus.length∧WI d (a++(d.clus.take v.i).flatMap cluT) ((d.clus.drop v.i).flatMap cluT++W10 d) tot H0 v.H n0 n v.n pid) (fun v=>d.clus.length-v.i) ⟨0,H,m⟩ rfl
  ⟨Nat.zero_le _,by simpa [W9]using h⟩ ?_
 rintro⟨i,H1,m1⟩ ⟨hi,h1⟩
 simp only at hi h1
 by_cases hlt:i<d.clus.length
 case neg=>
  have:i=d.clus.length:=by omega
  subst this
  rw[List.take_length,List.drop_length,List.flatMap_nil,List.nil_append]at h1
  simp only[eE,reduceCtorEq,Nat.reduceEqDiff,↓reduceIte,lt_F hlt]
  rw[AL]
  simp only[eE,eC,reduceCtorEq,Nat.reduceEqDiff,↓reduceIte]
  exact w10 h1
 have hg:=List.getElem?_eq_getElem hlt
 have e:=AO (k:=i) (by omega)
 have hx1:=h1.x
 have hp1:=h1.ws.lt
 have h2:WI d (a++(d.clus.take i).flatMap cluT) (cluT d.clus[i]++((d.clus.drop (i+1)).flatMap cluT++W10 d)) tot H0 H1 n0 n m1 pid:=h1.cast (by rw[List.drop_eq_getElem_cons hlt,List.flatMap_cons,List.append_assoc])
 have hb:WS (hset H1 (m1+2) (.box ((fun x:DClu=>[.str x.nm,.str x.on,.int .i64 x.fam,.int .i64 x.ty,.int .i64 x.lo,.int .i64 x.hi]) d.clus[i]))) (m1+4) pid _:=h1.ws.boxI (i:=m1+2) (m:=m1+4) (by omega) (by omega)
 simp only[eE,eC,eN,reduceCtorEq,Nat.reduceEqDiff,↓reduceIte,Nat.reduceAdd,AT,Option.getD_some,Int.toNat_natCast,Int.natCast_nonneg,List.length_map,List.getElem?_map,lt_T hlt,hg,fr1 h1.ws.fr]
 refine w_go (w_clue d.clus[i]) h2.size hb fun H2 m2 h3 hs3 hk3=>?_
 simp only[eE,eN,reduceCtorEq,Nat.reduceEqDiff,↓reduceIte,Int.reduceEq,retK,e]
 exact .mk ⟨i+1,H2,m2⟩ rfl ⟨hlt,(h2.go hs3 (by omega) (Ac.boxI h1.ws.fr (by omega) hk3)).fix (Bv _ hlt)⟩ (by simp only[];omega)
theorem WI.fix2 {a a' rest:List Tkn} {q:List Tkn} (h:WI d (a++q) rest tot H0 H n0 n m pid) (e:a'=q):WI d (a++a') rest tot H0 H n0 n m pid:=by
 rw[e];exact h
theorem w8 (h:WI d a (W8 d) tot H0 H n0 n m pid):kont Tryz.prog tnil (QW tot H0 n0 pid) [.c (sndN 8 c30)] .normal ⟨eWd pid n X,H,m⟩:=by
 rw[AL]
 have hx:=h.x
 have hsz:∀i (hi:i<d.regs.length),(d.regs[i].ls.flatMap A7).length≤900000000:=fun i hi=>by
  have h1:=h.few
  have h2:=h.eq
  have h3:=EI regT hi
  subst h2
  simp only[fewW,W8,List.length_append,h3,regT,List.length_cons]at h1
  omega
 have hll:d.regs.length≤900000000:=by
  have h1:=h.few
  have h2:=h.eq
  have h3:=BW (f:=regT) (fun x=>by simp [regT]) d.regs
  subst h2
  simp only[fewW,W8,List.length_append]at h1
  omega
 simp only[eE,eN,reduceCtorEq,Nat.reduceEqDiff,↓reduceIte,Nat.reduceAdd,Nat.reduceLeDiff,List.length_map,c30,sndN,sndA,hx]
 refine AW (fun v:SW=>⟨(0,true,.ptr pid 0)::(3,true,.ptr n 0)::(94,true,eRgs d.regs)::(95,true,.int .i64 d.regs.length)::(96,true,.int .i64 v.i)::[],v.H,v.n⟩)
  (fun v=>v.i≤d.regs.length∧WI d (a++(d.regs.take v.i).flatMap regT) ((d.regs.drop v.i).flatMap regT++W9 d) tot H0 v.H n0 n v.n pid) (fun v=>d.regs.length-v.i) ⟨0,H,m⟩ rfl
  ⟨Nat.zero_le _,by simpa [W8]using h⟩ ?_
 rintro⟨i,H1,m1⟩ ⟨hi,h1⟩
 simp only at hi h1
 by_cases hlt:i<d.regs.length
 case neg=>
  have:i=d.regs.length:=by omega
  subst this
  rw[List.take_length,List.drop_length,List.flatMap_nil,List.nil_append]at h1
  simp only[eE,reduceCtorEq,Nat.reduceEqDiff,↓reduceIte,lt_F hlt]
  rw[AL]
  simp only[eE,eC,reduceCtorEq,Nat.reduceEqDiff,↓reduceIte]
  exact w9 h1
 have hg:=List.getElem?_eq_getElem hlt
 have e:=AO (k:=i) (by omega)
 have hx1:=h1.x
 have hp1:=h1.ws.lt
 have hs1:=hsz i hlt
 have hfl:=BW (f:=A7) (fun x=>by simp [A7]) d.regs[i].ls
 have h2:WI d (a++(d.regs.take i).flatMap regT) ([kI Bl,kI d.regs[i].nm,kS [123]]++(d.regs[i].ls.flatMap A7++([kS [125]]++((d.regs.drop (i+1)).flatMap regT++W9 d)))) tot H0 H1 n0 n m1 pid:=h1.cast (by rw[List.drop_eq_getElem_cons hlt,List.flatMap_cons];unfold regT;simp)
 have hb:WS (hset H1 (m1+2) (.box [.str d.regs[i].nm,eLl d.regs[i].ls])) (m1+4) pid _:=h1.ws.boxI (i:=m1+2) (m:=m1+4) (by omega) (by omega)
 simp only[eE,eC,eN,reduceCtorEq,Nat.reduceEqDiff,↓reduceIte,Nat.reduceAdd,Nat.reduceLeDiff,Nat.reduceMul,Nat.reduceLT,AT,Option.getD_some,Int.toNat_natCast,Int.natCast_nonneg,List.length_map,List.getElem?_map,lt_T hlt,hg,fr1 h1.ws.fr]
 refine w_go (w_p [.s Bl,.s d.regs[i].nm,.g [123]]) h2.size hb fun H2 m2 h3 hs3 hk3=>?_
 have hx2:=hk3 (m1+2) _ (AB ..) (by omega) (fun e=>by cases e)
 have h4:=h2.go hs3 (by omega) (Ac.boxI h1.ws.fr (by omega) hk3)
 simp only[eE,eN,reduceCtorEq,Nat.reduceEqDiff,↓reduceIte,Nat.reduceAdd,List.length_map,retK,hx2]
 refine AW (fun v:SW=>⟨(0,true,.ptr pid 0)::(3,true,.ptr n 0)::(94,true,eRgs d.regs)::(95,true,.int .i64 d.regs.length)::(96,true,.int .i64 i)::(109,true,eLl d.regs[i].ls)::(110,true,.int .i64 d.regs[i].ls.length)::(111,true,.int .i64 v.i)::[],v.H,v.n⟩)
  (fun v=>v.i≤d.regs[i].ls.length∧WI d ((a++(d.regs.take i).flatMap regT)++[kI Bl,kI d.regs[i].nm,kS [123]]++(d.regs[i].ls.take v.i).flatMap A7) ((d.regs[i].ls.drop v.i).flatMap A7++([kS [125]]++((d.regs.drop (i+1)).flatMap regT++W9 d))) tot H0 v.H n0 n v.n pid) (fun v=>d.regs[i].ls.length-v.i) ⟨0,H2,m2⟩ rfl
  ⟨Nat.zero_le _,by simpa using h4⟩ ?_
 rintro⟨j,H3,m3⟩ ⟨hj,h5⟩
 simp only at hj h5
 by_cases hlj:j<d.regs[i].ls.length
 case neg=>
  have:j=d.regs[i].ls.length:=by omega
  subst this
  rw[List.take_length,List.drop_length,List.flatMap_nil,List.nil_append]at h5
  simp only[eE,eC,eN,reduceCtorEq,Nat.reduceEqDiff,↓reduceIte,Nat.reduceLeDiff,Nat.reduceMul,Nat.reduceLT,lt_F hlj]
  refine w_go (w_p [.g [125]]) h5.size h5.ws fun H4 m4 h6 hs6 hk6=>?_
  simp only[eE,eN,reduceCtorEq,Nat.reduceEqDiff,↓reduceIte,Int.reduceEq,retK,e]
  refine .mk ⟨i+1,H4,m4⟩ rfl ⟨hlt,?_⟩ (by simp only[];omega)
  have h7:=h5.go hs6 h6 hk6
  rw[List.append_assoc,List.append_assoc,List.append_assoc a]at h7
  refine h7.fix2 ?_
  rw[Bv _ hlt]
  unfold regT
  simp
 have hgj:=List.getElem?_eq_getElem hlj
 have ej:=AO (k:=j) (by omega)
 have h6:WI d _ (([.ns d.regs[i].ls[j],.g [59]]:List WV).flatMap putT++((d.regs[i].ls.drop (j+1)).flatMap A7++([kS [125]]++((d.regs.drop (i+1)).flatMap regT++W9 d)))) tot H0 H3 n0 n m3 pid:=h5.cast (by rw[List.drop_eq_getElem_cons hlj,List.flatMap_cons];unfold A7;simp [putT])
 simp only[eE,eC,eN,reduceCtorEq,Nat.reduceEqDiff,↓reduceIte,Nat.reduceLeDiff,Nat.reduceMul,Nat.reduceLT,Option.getD_some,Int.toNat_natCast,Int.natCast_nonneg,List.length_map,List.getElem?_map,lt_T hlj,hgj]
 refine w_go (w_p [.ns d.regs[i].ls[j],.g [59]]) h6.size h6.ws fun H4 m4 h7 hs7 hk7=>?_
 simp only[eE,eN,reduceCtorEq,Nat.reduceEqDiff,↓reduceIte,Int.reduceEq,retK,ej]
 exact .mk ⟨j+1,H4,m4⟩ rfl ⟨hlj,(h6.go hs7 h7 hk7).fix (by rw[Bv _ hlj];unfold A7;simp [putT])⟩ (by simp only[];omega)
def comQ {α:Type} (one:α→List Tkn) (l:List α) (i:Nat):List Tkn:=(comT one l).drop (comT one (l.take i)).length
theorem Jx {α:Type} (one:α→List Tkn) (l:List α) (i:Nat):comT one l=comT one (l.take i)++comQ one l i:=by
 have:∃r,comT one l=comT one (l.take i)++r:=by
  cases l with
  |nil=>exact⟨[],by simp [comT]⟩
  |cons b r=>
   cases i with
   |zero=>exact⟨_,rfl⟩
   |succ i=>
    refine⟨(r.drop i).flatMap fun b=>kS [44]::one b,?_⟩
    simp only[List.take_succ_cons,comT,List.append_assoc]
    rw[←List.flatMap_append,List.take_append_drop]
 obtain⟨r,hr⟩:=this
 unfold comQ
 rw[hr,List.drop_left]
theorem Qi {α:Type} (one:α→List Tkn) {l:List α} {i:Nat} (h:i<l.length):comQ one l i=((if i=0 then[]else[kS [44]])++one l[i])++comQ one l (i+1):=by
 have h1:=Jx one l i
 have h2:=Jx one l (i+1)
 rw[Df one h,List.append_assoc]at h2
 exact List.append_cancel_left (h1.symm.trans h2)
theorem Qj {α:Type} (one:α→List Tkn) (l:List α):comQ one l l.length=[]:=by unfold comQ;rw[List.take_length,List.drop_length]
theorem w6 (h:WI d a (W6 d) tot H0 H n0 n m pid):kont Tryz.prog tnil (QW tot H0 n0 pid) [.c (sndN 6 c30)] .normal ⟨eWd pid n X,H,m⟩:=by
 rw[AL]
 have hx:=h.x
 have hll:d.syms.length≤900000000:=by
  have h1:=h.few
  have h2:=h.eq
  have h3:=Dg (one:=symT) (fun x=>by simp [symT]) d.syms
  subst h2
  simp only[fewW,W6,List.length_append]at h1
  omega
 simp only[eE,eN,reduceCtorEq,Nat.reduceEqDiff,↓reduceIte,Nat.reduceAdd,Nat.reduceLeDiff,List.length_map,c30,sndN,sndA,hx]
 refine AW (fun v:SW=>⟨(0,true,.ptr pid 0)::(3,true,.ptr n 0)::(65,true,eSys d.syms)::(66,true,.int .i64 d.syms.length)::(67,true,.int .i64 v.i)::[],v.H,v.n⟩)
  (fun v=>v.i≤d.syms.length∧WI d (a++comT symT (d.syms.take v.i)) (comQ symT d.syms v.i++kS [59]::W8 d) tot H0 v.H n0 n v.n pid) (fun v=>d.syms.length-v.i) ⟨0,H,m⟩ rfl
  ⟨Nat.zero_le _,by simpa [W6,comQ,comT]using h⟩ ?_
 rintro⟨i,H1,m1⟩ ⟨hi,h1⟩
 simp only at hi h1
 by_cases hlt:i<d.syms.length
 case neg=>
  have:i=d.syms.length:=by omega
  subst this
  rw[List.take_length,Qj,List.nil_append]at h1
  simp only[eE,reduceCtorEq,Nat.reduceEqDiff,↓reduceIte,lt_F hlt]
  rw[AL]
  simp only[eE,eC,reduceCtorEq,Nat.reduceEqDiff,↓reduceIte]
  rw[AL]
  simp only[eE,Nat.reduceEqDiff,↓reduceIte,Nat.reduceLeDiff,Nat.reduceMul,Nat.reduceLT]
  refine w_go (w_p [.g [59]]) (WI.size (ts:=[kS [59]]) h1) h1.ws fun H2 m2 h2 hs2 hk2=>?_
  simp only[eE,reduceCtorEq,Nat.reduceEqDiff,↓reduceIte,retK]
  exact w8 (WI.go (ts:=[kS [59]]) h1 hs2 h2 hk2)
 have hg:=List.getElem?_eq_getElem hlt
 have e:=AO (k:=i) (by omega)
 have hx1:=h1.x
 have hp1:=h1.ws.lt
 have hc:=Qi symT hlt
 have ht:=Df symT hlt
 have hb:WS (hset H1 (m1+3) (.box [.str d.syms[i].nm,.int .i64 d.syms[i].v])) (m1+6) pid _:=h1.ws.boxI (i:=m1+3) (m:=m1+6) (by omega) (by omega)
 by_cases hi0:i=0
 ·have j0:((0:Int)<(i:Int))=False:=eq_false (by omega)
  rw[if_pos hi0,List.nil_append]at hc ht
  have h2:WI d _ (symT d.syms[i]++(comQ symT d.syms (i+1)++kS [59]::W8 d)) tot H0 H1 n0 n m1 pid:=h1.cast (by rw[hc,List.append_assoc])
  simp only[eE,eC,eN,reduceCtorEq,Nat.reduceEqDiff,↓reduceIte,Nat.reduceAdd,Nat.reduceLeDiff,Nat.reduceMul,Nat.reduceLT,AT,Option.getD_some,Int.toNat_natCast,Int.natCast_nonneg,List.length_map,List.getElem?_map,lt_T hlt,hg,fr1 h1.ws.fr,j0]
  refine w_go (w_p [.s d.syms[i].nm,.g [61],.n d.syms[i].v]) h2.size hb fun H2 m2 h3 hs3 hk3=>?_
  simp only[eE,eN,reduceCtorEq,Nat.reduceEqDiff,↓reduceIte,Int.reduceEq,retK,e]
  exact .mk ⟨i+1,H2,m2⟩ rfl ⟨hlt,(h2.go hs3 (by omega) (Ac.boxI h1.ws.fr (by omega) hk3)).fix ht⟩ (by simp only[];omega)
 ·have j0:((0:Int)<(i:Int))=True:=eq_true (by omega)
  rw[if_neg hi0]at hc ht
  have h2:WI d _ ([kS [44]]++(symT d.syms[i]++(comQ symT d.syms (i+1)++kS [59]::W8 d))) tot H0 H1 n0 n m1 pid:=h1.cast (by rw[hc,List.append_assoc,List.append_assoc])
  simp only[eE,eC,eN,reduceCtorEq,Nat.reduceEqDiff,↓reduceIte,Nat.reduceAdd,Nat.reduceLeDiff,Nat.reduceMul,Nat.reduceLT,AT,Option.getD_some,Int.toNat_natCast,Int.natCast_nonneg,List.length_map,List.getElem?_map,lt_T hlt,hg,fr1 h1.ws.fr,j0]
  refine w_go (w_p [.g [44]]) h2.size hb fun H2 m2 h3 hs3 hk3=>?_
  have hx2:=hk3 (m1+3) _ (AB ..) (by omega) (fun e=>by cases e)
  have h4:=h2.go hs3 (by omega) (Ac.boxI h1.ws.fr (by omega) hk3)
  simp only[eE,eN,reduceCtorEq,Nat.reduceEqDiff,↓reduceIte,Nat.reduceAdd,Nat.reduceLeDiff,Nat.reduceMul,Nat.reduceLT,retK,hx2]
  refine w_go (w_p [.s d.syms[i].nm,.g [61],.n d.syms[i].v]) h4.size h4.ws fun H4 m4 h5 hs5 hk5=>?_
  simp only[eE,eN,reduceCtorEq,Nat.reduceEqDiff,↓reduceIte,Int.reduceEq,retK,e]
  have h6:=h4.go hs5 h5 hk5
  rw[List.append_assoc _ [kS [44]]]at h6
  exact .mk ⟨i+1,H4,m4⟩ rfl ⟨hlt,h6.fix ht⟩ (by simp only[];omega)
theorem w4 (h:WI d a (W4 d) tot H0 H n0 n m pid):kont Tryz.prog tnil (QW tot H0 n0 pid) [.c (sndN 4 c30)] .normal ⟨eWd pid n X,H,m⟩:=by
 rw[AL]
 have hx:=h.x
 have fin:∀{b:List Tkn} {H2:AD} {m2:Nat} {X:List (Nat×Bool×AVal)},WI d b ([kS [59],kI EC]++W6 d) tot H0 H2 n0 n m2 pid→kont Tryz.prog tnil (QW tot H0 n0 pid) [.c (sndN 5 c30)] .normal ⟨eWd pid n X,H2,m2⟩:=fun{b H2 m2 X} g=>by
  rw[AL]
  simp only[eE,Nat.reduceEqDiff,↓reduceIte,Nat.reduceLeDiff,Nat.reduceMul,Nat.reduceLT,c30,sndN,sndA]
  refine w_go (w_p [.g [59],.s EC]) g.size g.ws fun H3 m3 h3 hs3 hk3=>?_
  simp only[eE,reduceCtorEq,Nat.reduceEqDiff,↓reduceIte,retK]
  exact w6 (g.go hs3 h3 hk3)
 by_cases hh:d.holes=[]
 ·have j0:((0:Int)<(d.holes.length:Int))=False:=eq_false (by rw[hh];decide)
  simp only[eE,reduceCtorEq,Nat.reduceEqDiff,↓reduceIte,Nat.reduceAdd,Nat.reduceLeDiff,c30,sndN,sndA,hx,j0,List.length_map]
  rw[AL]
  simp only[eE,eC,reduceCtorEq,Nat.reduceEqDiff,↓reduceIte]
  exact fin (h.cast (by unfold W4 B4;rw[if_pos hh];rfl))
 ·have j0:((0:Int)<(d.holes.length:Int))=True:=eq_true (by have:=List.length_pos_iff.2 hh;omega)
  have g:WI d a ((kI Eu::comT oneN d.holes)++([kS [59],kI EC]++W6 d)) tot H0 H n0 n m pid:=h.cast (by unfold W4 B4;rw[if_neg hh];rfl)
  simp only[eE,reduceCtorEq,Nat.reduceEqDiff,↓reduceIte,Nat.reduceAdd,Nat.reduceLeDiff,c30,sndN,sndA,hx,j0,List.length_map]
  rw[AL]
  simp only[eE,eC,reduceCtorEq,Nat.reduceEqDiff,↓reduceIte,Nat.reduceAdd,Nat.reduceLeDiff,Nat.reduceMul,Nat.reduceLT,hx]
  have e1:([.s Eu,.ns d.holes]:List WV).flatMap putT=kI Eu::comT oneN d.holes:=by simp [putT]
  refine w_go (w_p [.s Eu,.ns d.holes]) (by rw[e1];exact g.size) h.ws fun H2 m2 h2 hs2 hk2=>?_
  rw[e1]at hs2
  simp only[eE,reduceCtorEq,Nat.reduceEqDiff,↓reduceIte,retK]
  exact fin (g.go hs2 h2 hk2)
theorem w2 (h:WI d a (W2 d) tot H0 H n0 n m pid):kont Tryz.prog tnil (QW tot H0 n0 pid) [.c (sndN 2 c30)] .normal ⟨eWd pid n X,H,m⟩:=by
 rw[AL]
 have hx:=h.x
 have fin:∀{b:List Tkn} {H2:AD} {m2:Nat} {X:List (Nat×Bool×AVal)},WI d b ([kN d.w,kI wBy,kN d.h]++W4 d) tot H0 H2 n0 n m2 pid→kont Tryz.prog tnil (QW tot H0 n0 pid) [.c (sndN 3 c30)] .normal ⟨eWd pid n X,H2,m2⟩:=fun{b H2 m2 X} g=>by
  have gx:=g.x
  rw[AL]
  simp only[eE,reduceCtorEq,Nat.reduceEqDiff,↓reduceIte,Nat.reduceAdd,Nat.reduceLeDiff,Nat.reduceMul,Nat.reduceLT,c30,sndN,sndA,gx]
  refine w_go (w_p [.n d.w,.s wBy,.n d.h]) g.size g.ws fun H3 m3 h3 hs3 hk3=>?_
  simp only[eE,reduceCtorEq,Nat.reduceEqDiff,↓reduceIte,retK]
  exact w4 (g.go hs3 h3 hk3)
 by_cases hh:d.sh=2
 ·have j0:(d.sh=2)=True:=eq_true hh
  have g:WI d a ([kI wHex]++([kN d.w,kI wBy,kN d.h]++W4 d)) tot H0 H n0 n m pid:=h.cast (by unfold W2 FP;rw[if_pos hh];rfl)
  simp only[eE,reduceCtorEq,Nat.reduceEqDiff,↓reduceIte,Nat.reduceAdd,Nat.reduceLeDiff,c30,sndN,sndA,hx,j0]
  rw[AL]
  simp only[eE,eC,reduceCtorEq,Nat.reduceEqDiff,↓reduceIte,Nat.reduceLeDiff,Nat.reduceMul,Nat.reduceLT]
  refine w_go (w_p [.s wHex]) g.size h.ws fun H2 m2 h2 hs2 hk2=>?_
  simp only[eE,reduceCtorEq,Nat.reduceEqDiff,↓reduceIte,retK]
  exact fin (g.go hs2 h2 hk2)
 ·have j0:(d.sh=2)=False:=eq_false hh
  have g:WI d a ([kI EB]++([kN d.w,kI wBy,kN d.h]++W4 d)) tot H0 H n0 n m pid:=h.cast (by unfold W2 FP;rw[if_neg hh];rfl)
  simp only[eE,reduceCtorEq,Nat.reduceEqDiff,↓reduceIte,Nat.reduceAdd,Nat.reduceLeDiff,c30,sndN,sndA,hx,j0]
  rw[AL]
  simp only[eE,eC,reduceCtorEq,Nat.reduceEqDiff,↓reduceIte,Nat.reduceLeDiff,Nat.reduceMul,Nat.reduceLT]
  refine w_go (w_p [.s EB]) g.size h.ws fun H2 m2 h2 hs2 hk2=>?_
  simp only[eE,reduceCtorEq,Nat.reduceEqDiff,↓reduceIte,retK]
  exact fin (g.go hs2 h2 hk2)
end
theorem w_decl (d:Dcl):HJ 30 [encD d] (BP opP false d):=by
 intro l pid H n hl hs
 have hp:=hs.lt
 refine a30 (AF AI.tnil (AE ?_))
 have h0:WI d l ([kI EA,kI d.nm,kI EW,kN d.ver,kS [123],kI Et]++W2 d) (l++BP opP false d) H (hset H n (.box (A0 d))) n n (n+1) pid:=
  ⟨by rw[decl_W];rfl,hl,hs.box (by omega),AB ..,Ac.box hs.fr (.refl _ _),by omega,by omega⟩
 simp only[eE,reduceCtorEq,↓reduceIte,Nat.reduceAdd,c30,fr0 hs.fr]
 rw[AL]
 simp only[eE,reduceCtorEq,Nat.reduceEqDiff,↓reduceIte,Nat.reduceAdd,Nat.reduceLeDiff,Nat.reduceMul,Nat.reduceLT,h0.x]
 refine w_go (w_p [.s EA,.s d.nm,.s EW,.n d.ver,.g [123],.s Et]) h0.size h0.ws fun H2 m2 h2 hs2 hk2=>?_
 simp only[eE,reduceCtorEq,Nat.reduceEqDiff,↓reduceIte,retK]
 exact w2 (h0.go hs2 h2 hk2)
end Go.AM
end
section
set_option maxRecDepth 20000
set_option linter.all false
namespace Go.AM
open Go.Proofs Go.Lib
section
variable {a b c d e f g h i j k l v:AVal}
theorem apR3 (hv:v.cells=[v]):DN (.agg [a,b,c,d,e,f,g,h,i,j,k,l]) 3 1 12 v=(True,.agg [a,b,c,v,e,f,g,h,i,j,k,l]):=by
 rw[Dv (by decide)];simp [splice,hv]
theorem apR6 (hv:v.cells=[v]):DN (.agg [a,b,c,d,e,f,g,h,i,j,k,l]) 6 1 12 v=(True,.agg [a,b,c,d,e,f,v,h,i,j,k,l]):=by
 rw[Dv (by decide)];simp [splice,hv]
theorem apR7 (hv:v.cells=[v]):DN (.agg [a,b,c,d,e,f,g,h,i,j,k,l]) 7 1 12 v=(True,.agg [a,b,c,d,e,f,g,v,i,j,k,l]):=by
 rw[Dv (by decide)];simp [splice,hv]
theorem apR11 (hv:v.cells=[v]):DN (.agg [a,b,c,d,e,f,g,h,i,j,k,l]) 11 1 12 v=(True,.agg [a,b,c,d,e,f,g,h,i,j,k,v]):=by
 rw[Dv (by decide)];simp [splice,hv]
theorem apS2 (hv:v.cells=[v]):DN (.agg [a,b,c,d,e,f]) 2 1 6 v=(True,.agg [a,b,v,d,e,f]):=by
 rw[Dv (by decide)];simp [splice,hv]
end
theorem LV.set {e:Nat} {v:AVal} {H:AD} {l:List AVal} {id:Nat} {ob:AObj} (h:LV e v H l) (hne:∀a b c x,v≠ .ref id a b c x):LV e v (hset H id ob) l:=by
 rcases h with h|⟨h0,i,cap,rest,rfl,ho,hc⟩
 ·exact .inl h
 ·exact .inr ⟨h0,i,cap,rest,rfl,by rw[AC _ _ _ _ (fun q=>hne _ _ _ _ (by rw[q]))];exact ho,hc⟩
theorem LV.no {e:Nat} {H:AD} {l:List AVal} {i a b c x:Nat} (h:LV e (.ref i a b c x) H l) (hn:∀e' A,hget H i≠some (.arr e' A)):False:=by
 rcases h with⟨-,t,h,-⟩|⟨-,id,cap,rest,h,ho,-⟩
 ·cases h
 ·cases h;exact hn _ _ ho
abbrev IC (d:Dcl) (vc vr:AVal):List AVal:=[.str d.nm,.int .i64 d.ver,.int .i64 d.sh,.int .i64 d.w,.int .i64 d.h,eIs d.holes,eSys d.syms,eRgs d.regs,vc,vr]
abbrev zB:List AVal:=[.str [],.int .i64 0,.int .i64 0,.int .i64 0,.int .i64 0,.sl .nil [],.sl .nil [],.sl .nil [],.sl .nil [],.sl .nil []]
structure NB (d:Dcl) (vc vr:AVal) (H:AD):Prop where
 h0:hget H 0=some (.box (IC d vc vr))
 h1:hget H 1=some (.box zB)
def bCl (c:DClu):DClu:={c with fam:=0}
def bRu (r:DRul):DRul:={r with fam:=0,set:=0,oth:=0,clue:=0}
def upto {α:Type} (f:α→α) (l:List α) (i:Nat):List α:=(l.take i).map f++l.drop i
theorem C1 {α:Type} (f:α→α) (l:List α) (i:Nat):(upto f l i).length=l.length:=by
 unfold upto
 rw[List.length_append,List.length_map,List.length_take,List.length_drop];omega
theorem O9 {α:Type} (f:α→α) {l:List α} {i:Nat} (h:i<l.length):(upto f l i)[i]?=some l[i]:=by
 unfold upto
 rw[List.getElem?_append_right (by simp;omega)]
 simp [show min i l.length=i by omega,h]
theorem L2 {α:Type} (f:α→α) {l:List α} {i:Nat} (h:i<l.length):(upto f l i).set i (f l[i])=upto f l (i+1):=by
 unfold upto
 have e:((l.take i).map f).length=i:=by rw[List.length_map,List.length_take];omega
 rw[List.set_append_right _ _ (by omega),e,Nat.sub_self,List.drop_eq_getElem_cons h,List.set_cons_zero,List.take_succ_eq_append_getElem h,List.map_append]
 simp
theorem L3 {α:Type} (f:α→α) (l:List α):upto f l l.length=l.map f:=by unfold upto;simp
def RB (d:Dcl):AOut→AD→Nat→Prop:=fun o H' n'=>∃vc vr,o= .ret (.agg (IC d vc vr))∧LV 6 vc H' ((d.clus.map bCl).map BI)∧LV 12 vr H' ((d.ruls.map bRu).map Am)∧∀i a b c e j f g h k,vc= .ref i a b c e→vr= .ref j f g h k→i≠j
abbrev QB (d:Dcl):AExit→AS→Prop:=Cg [.c 2 10 true] (RB d)
section
variable {d:Dcl} {vc vr:AVal} {H:AD} {n:Nat} {X:List (Nat×Bool×AVal)}
theorem NB.ne {id e:Nat} {A:List AVal} (h:NB d vc vr H) (ho:hget H id=some (.arr e A)):id≠0∧id≠1:=by
 refine⟨?_,?_⟩<;>rintro rfl
 ·rw[h.h0]at ho;cases ho
 ·rw[h.h1]at ho;cases ho
theorem NB.set {i:Nat} {ob:AObj} (h:NB d vc vr H) (hi:i≠0∧i≠1):NB d vc vr (hset H i ob):=
 ⟨by rw[AC _ _ _ _ hi.1];exact h.h0,by rw[AC _ _ _ _ hi.2];exact h.h1⟩
theorem Ts (hm:NB d vc vr H) (hvc:LV 6 vc H ((d.clus.map bCl).map BI)) (hvr:LV 12 vr H ((d.ruls.map bRu).map Am)) (hdj:∀i a b c e j f g h k,vc= .ref i a b c e→vr= .ref j f g h k→i≠j):
  kont Tryz.prog tnil (QB d) [.c (sndN 4 c31)] .normal ⟨(1,true,.ptr 0 0)::(2,true,.ptr 1 0)::X,H,n⟩:=by
 have h0:=hm.h0
 have h1:=hm.h1
 rw[AL]
 simp only[eE,eN,Nat.reduceEqDiff,↓reduceIte,Nat.reduceAdd,Al,c31,sndN,sndA,h0,h1]
 have hn1:∀a b c x,vc≠ .ref 1 a b c x∧vr≠ .ref 1 a b c x:=by
  intro a b c x
  refine⟨?_,?_⟩<;>rintro rfl
  ·exact hvc.no (by rw[h1];simp)
  ·exact hvr.no (by rw[h1];simp)
 exact⟨vc,vr,rfl,hvc.set fun a b c x=>(hn1 a b c x).1,hvr.set fun a b c x=>(hn1 a b c x).2,hdj⟩
structure SB where
 i:Nat
 H:AD
def fstA:ACode→ACode
 | .seq a _=>a
 |c=>c
theorem PA (hl:few d.ruls) (hf:Ab H n) (hm:NB d vc vr H) (ho:LV 6 vc H ((d.clus.map bCl).map BI)) (hx:LV 12 vr H (d.ruls.map Am)) (hdj:∀i a b c e j f g h k,vc= .ref i a b c e→vr= .ref j f g h k→i≠j):
  evK Tryz.prog tnil (sndA (fstA (sndN 3 c31))) [.c (sndN 4 c31)] (QB d) ⟨(1,true,.ptr 0 0)::(2,true,.ptr 1 0)::(28,true,.int .i64 d.ruls.length)::(29,true,.int .i64 0)::[],H,n⟩:=by
 have hll:d.ruls.length<1000000000:=hl
 simp only[eE,c31,sndN,sndA,fstA]
 refine AW (fun v:SB=>⟨(1,true,.ptr 0 0)::(2,true,.ptr 1 0)::(28,true,.int .i64 d.ruls.length)::(29,true,.int .i64 v.i)::[],v.H,n⟩) (fun v=>v.i≤d.ruls.length∧Ab v.H n∧NB d vc vr v.H∧LV 6 vc v.H ((d.clus.map bCl).map BI)∧LV 12 vr v.H ((upto bRu d.ruls v.i).map Am)) (fun v=>d.ruls.length-v.i) ⟨0,H⟩ rfl ⟨Nat.zero_le _,hf,hm,ho,by simpa [upto]using hx⟩ ?_
 rintro⟨i,H1⟩ ⟨hi,hfr,hnm,hlo,hlv⟩
 simp only at hi hfr hnm hlo hlv
 by_cases hlt:i<d.ruls.length
 case neg=>
  obtain rfl:i=d.ruls.length:=by omega
  rw[L3]at hlv
  simp only[eE,Nat.reduceEqDiff,↓reduceIte,lt_F hlt]
  rw[AL]
  simp only[eE,eC,Nat.reduceEqDiff,↓reduceIte]
  exact Ts hnm hlo hlv hdj
 have hul:((upto bRu d.ruls i).map Am).length=d.ruls.length:=by rw[List.length_map,C1]
 have e:=AO (k:=i) (by omega)
 rcases hlv with⟨h0,-⟩|⟨-,id,cap,rest,hvx,ho1,hcr⟩
 ·rw[h0]at hul;simp at hul;omega
 rw[hul]at hvx hcr
 subst hvx
 have hid:id<n:=hfr.lt ho1
 have hne:=hnm.ne ho1
 have h0:=hnm.h0
 have hgi:((upto bRu d.ruls i).map Am++rest)[i]?=some (Am d.ruls[i]):=by
  rw[List.getElem?_append_left (by omega),List.getElem?_map,O9 _ hlt];rfl
 have hil:i<((upto bRu d.ruls i).map Am++rest).length:=by rw[List.length_append,hul];omega
 have hse:((upto bRu d.ruls i).map Am++rest).set i (Am (bRu d.ruls[i]))=(upto bRu d.ruls (i+1)).map Am++rest:=by
  rw[List.set_append_left _ _ (by omega),←L2 _ hlt,List.map_set]
 generalize hA:(upto bRu d.ruls i).map Am++rest=A at ho1 hgi hil hse
 generalize hC:d.ruls[i]=c at hgi hse
 have hls:∀x,(i<(A.set i x).length)=True:=fun x=>eq_true (by rw[List.length_set];exact hil)
 have hgs:∀x,(A.set i x)[i]?=some x:=fun x=>List.getElem?_set_self hil
 have hss:∀x y,(A.set i x).set i y=A.set i y:=fun x y=>List.set_set ..
 have z0':(id=0)=False:=eq_false hne.1
 have z1':(id=1)=False:=eq_false hne.2
 simp only[eE,eC,eN,Nat.reduceEqDiff,↓reduceIte,Nat.reduceAdd,Int.reduceEq,Option.getD_some,Int.toNat_natCast,Int.natCast_nonneg,lt_T hlt,h0,IC,ho1,hgi,eq_true hil,hls,hgs,hss,Am,BB,apR3 (v:=.int .i64 0) rfl,apR6 (v:=.int .i64 0) rfl,apR7 (v:=.int .i64 0) rfl,apR11 (v:=.int .i64 0) rfl,AT,e]
 refine .mk ⟨i+1,hset H1 id (.arr 12 (A.set i (Am (bRu c))))⟩ rfl ⟨hlt,hfr.hset (Nat.le_refl _) hid,hnm.set hne,hlo.set (fun a b c x q=>hdj _ _ _ _ _ _ _ _ _ _ q rfl rfl),.inr ⟨?_,id,cap,rest,?_,?_,?_⟩⟩ (by simp only[];omega)
 ·intro q
  have:=congrArg List.length q
  rw[List.length_map,C1,List.length_nil]at this;omega
 ·rw[List.length_map,C1]
 ·simp only[]
  rw[AB,hse]
 ·rw[List.length_map,C1];exact hcr
theorem Tt (hl:few d.ruls) (hf:Ab H n) (hm:NB d vc vr H) (ho:LV 6 vc H ((d.clus.map bCl).map BI)) (hx:LV 12 vr H (d.ruls.map Am)) (hdj:∀i a b c e j f g h k,vc= .ref i a b c e→vr= .ref j f g h k→i≠j):
  kont Tryz.prog tnil (QB d) [.c (sndN 3 c31)] .normal ⟨(1,true,.ptr 0 0)::(2,true,.ptr 1 0)::X,H,n⟩:=by
 have h0:=hm.h0
 rw[AL]
 have hx':=hx
 rcases hx' with⟨h,t,rfl,-⟩|⟨h,id,cap,rest,rfl,-,-⟩
 ·have hz:d.ruls.length=0:=by have:=congrArg List.length h;simpa using this
  have:=PA hl hf hm ho hx hdj
  rw[hz]at this
  simp only[eE,Nat.reduceEqDiff,↓reduceIte,Nat.reduceAdd,c31,sndN,sndA,h0]
  rw[AL]
  exact this
 ·have:=PA hl hf hm ho hx hdj
  simp only[eE,Nat.reduceEqDiff,↓reduceIte,Nat.reduceAdd,c31,sndN,sndA,h0,List.length_map]
  rw[AL]
  exact this
theorem PB (hl2:few d.ruls) (hl:few d.clus) (hf:Ab H n) (hm:NB d vc vr H) (ho:LV 12 vr H (d.ruls.map Am)) (hx:LV 6 vc H (d.clus.map BI)) (hdj:∀i a b c e j f g h k,vc= .ref i a b c e→vr= .ref j f g h k→i≠j):
  evK Tryz.prog tnil (sndA (fstA (sndN 2 c31))) [.c (sndN 3 c31)] (QB d) ⟨(1,true,.ptr 0 0)::(2,true,.ptr 1 0)::(16,true,.int .i64 d.clus.length)::(17,true,.int .i64 0)::[],H,n⟩:=by
 have hll:d.clus.length<1000000000:=hl
 simp only[eE,c31,sndN,sndA,fstA]
 refine AW (fun v:SB=>⟨(1,true,.ptr 0 0)::(2,true,.ptr 1 0)::(16,true,.int .i64 d.clus.length)::(17,true,.int .i64 v.i)::[],v.H,n⟩) (fun v=>v.i≤d.clus.length∧Ab v.H n∧NB d vc vr v.H∧LV 12 vr v.H (d.ruls.map Am)∧LV 6 vc v.H ((upto bCl d.clus v.i).map BI)) (fun v=>d.clus.length-v.i) ⟨0,H⟩ rfl ⟨Nat.zero_le _,hf,hm,ho,by simpa [upto]using hx⟩ ?_
 rintro⟨i,H1⟩ ⟨hi,hfr,hnm,hlo,hlv⟩
 simp only at hi hfr hnm hlo hlv
 by_cases hlt:i<d.clus.length
 case neg=>
  obtain rfl:i=d.clus.length:=by omega
  rw[L3]at hlv
  simp only[eE,Nat.reduceEqDiff,↓reduceIte,lt_F hlt]
  rw[AL]
  simp only[eE,eC,Nat.reduceEqDiff,↓reduceIte]
  exact Tt hl2 hfr hnm hlv hlo hdj
 have hul:((upto bCl d.clus i).map BI).length=d.clus.length:=by rw[List.length_map,C1]
 have e:=AO (k:=i) (by omega)
 rcases hlv with⟨h0,-⟩|⟨-,id,cap,rest,hvx,ho1,hcr⟩
 ·rw[h0]at hul;simp at hul;omega
 rw[hul]at hvx hcr
 subst hvx
 have hid:id<n:=hfr.lt ho1
 have hne:=hnm.ne ho1
 have h0:=hnm.h0
 have hgi:((upto bCl d.clus i).map BI++rest)[i]?=some (BI d.clus[i]):=by
  rw[List.getElem?_append_left (by omega),List.getElem?_map,O9 _ hlt];rfl
 have hil:i<((upto bCl d.clus i).map BI++rest).length:=by rw[List.length_append,hul];omega
 have hse:((upto bCl d.clus i).map BI++rest).set i (BI (bCl d.clus[i]))=(upto bCl d.clus (i+1)).map BI++rest:=by
  rw[List.set_append_left _ _ (by omega),←L2 _ hlt,List.map_set]
 generalize hA:(upto bCl d.clus i).map BI++rest=A at ho1 hgi hil hse
 generalize hC:d.clus[i]=c at hgi hse
 have hls:∀x,(i<(A.set i x).length)=True:=fun x=>eq_true (by rw[List.length_set];exact hil)
 have hgs:∀x,(A.set i x)[i]?=some x:=fun x=>List.getElem?_set_self hil
 have hss:∀x y,(A.set i x).set i y=A.set i y:=fun x y=>List.set_set ..
 have z0':(id=0)=False:=eq_false hne.1
 have z1':(id=1)=False:=eq_false hne.2
 simp only[eE,eC,eN,Nat.reduceEqDiff,↓reduceIte,Nat.reduceAdd,Nat.reduceLeDiff,Int.reduceEq,Option.getD_some,Int.toNat_natCast,Int.natCast_nonneg,lt_T hlt,h0,IC,ho1,hgi,eq_true hil,BI,apS2 (v:=.int .i64 0) rfl,e]
 refine .mk ⟨i+1,hset H1 id (.arr 6 (A.set i (BI (bCl c))))⟩ rfl ⟨hlt,hfr.hset (Nat.le_refl _) hid,hnm.set hne,hlo.set (fun a b c x q=>hdj _ _ _ _ _ _ _ _ _ _ rfl q rfl),.inr ⟨?_,id,cap,rest,?_,?_,?_⟩⟩ (by simp only[];omega)
 ·intro q
  have:=congrArg List.length q
  rw[List.length_map,C1,List.length_nil]at this;omega
 ·rw[List.length_map,C1]
 ·simp only[]
  rw[AB,hse]
 ·rw[List.length_map,C1];exact hcr
theorem I1 (hl2:few d.ruls) (hl:few d.clus) (hf:Ab H n) (hm:NB d vc vr H) (ho:LV 12 vr H (d.ruls.map Am)) (hx:LV 6 vc H (d.clus.map BI)) (hdj:∀i a b c e j f g h k,vc= .ref i a b c e→vr= .ref j f g h k→i≠j):
  kont Tryz.prog tnil (QB d) [.c (sndN 2 c31)] .normal ⟨(1,true,.ptr 0 0)::(2,true,.ptr 1 0)::X,H,n⟩:=by
 have h0:=hm.h0
 rw[AL]
 have hx':=hx
 rcases hx' with⟨h,t,rfl,-⟩|⟨h,id,cap,rest,rfl,-,-⟩
 ·have hz:d.clus.length=0:=by have:=congrArg List.length h;simpa using this
  have:=PB hl2 hl hf hm ho hx hdj
  rw[hz]at this
  simp only[eE,Nat.reduceEqDiff,↓reduceIte,Nat.reduceAdd,Nat.reduceLeDiff,c31,sndN,sndA,h0]
  rw[AL]
  exact this
 ·have:=PB hl2 hl hf hm ho hx hdj
  simp only[eE,Nat.reduceEqDiff,↓reduceIte,Nat.reduceAdd,Nat.reduceLeDiff,c31,sndN,sndA,h0,List.length_map]
  rw[AL]
  exact this
end
section
variable {P:Program} {T:Tab} {b:Nat} {cx:Nat→AVal} {rx:List (Nat×AOp)} {kp:List Nat} {k:List Item} {Q:AExit→AS→Prop} {s:AS}
def Mu (P:Program) (T:Tab) (b:Nat) (cx:Nat→AVal) (d:Option Nat) (r:List (Nat×AOp)) (kp:List Nat) (k:List Item) (Q:AExit→AS→Prop) (s:AS):AOut→AD→Nat→Prop
 | .ret v,H',n'=>A6 P T b cx r kp k Q ({s with H:=H',n:=n'}.put d true v)
 | .pan v,H',n'=>kont P T Q k (.pan v) ⟨[],H',n'⟩
def yldX0 (P:Program) (T:Tab) (b:Nat) (cx:Nat→AVal) (d:Option Nat) (r:List (Nat×AOp)) (kp:List Nat) (k:List Item) (Q:AExit→AS→Prop) (s:AS) (x:Bool) (H':AD) (n':Nat):Prop:=A6 P T b cx r kp k Q ({s with H:=H',n:=n'}.put d true (.bool x))
theorem Jy {d:Option Nat} {f:Opd} {xs:List Opd}:A6 P T b cx ((0,⟨d,none,.call false f xs⟩)::rx) kp k Q s=((lk s.env f).1=true∧oks s.env xs∧Dn P (xs.map (lkv s.env)) s.H s.n (Mu P T b cx d rx kp k Q s) (yldX0 P T b cx d rx kp k Q s) (lkv s.env f)):=by
 simp only[A6,DD,BR,AN,gok,gvb,A5,oks,AOpK.opds,BZ,true_and,forall_const,reduceCtorEq,false_implies,and_true,and_assoc]
 refine congrArg (fun z=>(lk s.env f).1=true∧oks s.env xs∧z) ?_
 generalize lkv s.env f=v
 cases v<;>try rfl
 rename_i ff first cap
 cases ff<;>try rfl
 ·refine congrArg (AP P _ _ s.H s.n) ?_
  funext o H' n'
  cases o with
  |ret v=>simp only[Mu,Eh,true_and];rfl
  |pan v=>rfl
 ·cases first<;>cases cap<;>try rfl
  refine congrArg (Dr P _ _ s.H s.n) ?_
  funext o H' n'
  simp only[yldX0,Eh,true_and];rfl
theorem Mv {a:AVal} {H:AD} {i:Nat} {ob:AObj} (h:hget H i=none):Fi a H (hset H i ob)=True:=eq_true fun j _ hj=>by
 rw[AC _ _ _ _ (by rintro rfl;exact hj h)]
end
theorem t_bare (d:Dcl) (hc:few d.clus) (hr:few d.ruls):AP Tryz.prog 31 [encD d] hnil 0 (RB d):=by
 refine a31 (AF AI.tnil (AE ?_))
 simp only[eE,eN,eX,reduceCtorEq,Nat.reduceEqDiff,↓reduceIte,Nat.reduceAdd,Nat.reduceLeDiff,Nat.reduceLT,Nat.reduceMod,Nat.reduceSub,Nat.reduceDiv,atN,atK,JE,c31,encD,A0]
 refine(TQ d.clus hc).mono fun o H' n' hq=>?_
 rcases hq with⟨h0,rfl,hn,t,rfl,htk⟩|⟨h0,rfl,cap,rest,rfl,rfl,hcr⟩
 ·simp only[eE,eC,eX,Nat.reduceEqDiff,↓reduceIte,Nat.reduceLeDiff,Nat.reduceSub,Nat.reduceDiv,Gf,Jy]
  refine(Ou d.ruls hr).mono fun o H' n2 hq=>?_
  rcases hq with⟨h1,rfl,hn2,t2,rfl,htk2⟩|⟨h1,rfl,cap2,rest2,rfl,rfl,hcr2⟩
  ·simp only[eE,reduceCtorEq,Nat.reduceEqDiff,↓reduceIte,Nat.reduceAdd,Nat.reduceLeDiff,Mu,BV]
   exact I1 (n:=_) hr hc (fun id hid=>by simp only[AA];(repeat rw[if_neg (by omega)]);rfl) ⟨AB ..,by simp only[AA];rfl⟩ (.inl ⟨h1,t2,rfl,htk2⟩) (.inl ⟨h0,t,rfl,htk⟩) (fun i a b c e j f g h k q=>by cases q)
  ·have y0:(n'+2=0)=False:=eq_false (by omega)
   have y1:(n'+2=1)=False:=eq_false (by omega)
   simp only[eE,reduceCtorEq,Nat.reduceEqDiff,↓reduceIte,Nat.reduceAdd,Nat.reduceLeDiff,Mu,BV,y0]
   exact I1 (n:=_) hr hc (fun id hid=>by simp only[AA];(repeat rw[if_neg (by omega)]);rfl) ⟨AB ..,by simp only[AA,y1];rfl⟩ (.inr ⟨h1,_,cap2,rest2,rfl,by simp only[AA];rw[if_neg (by omega),if_neg (by omega),if_pos trivial],hcr2⟩) (.inl ⟨h0,t,rfl,htk⟩) (fun i a b c e j f g h k q=>by cases q)
 ·simp only[eE,eX,reduceCtorEq,Nat.reduceEqDiff,↓reduceIte,Nat.reduceAdd,Nat.reduceLeDiff,Nat.reduceSub,Nat.reduceDiv,List.length_map,Gf,Jy,Mv]
  refine(Ou d.ruls hr).mono fun o H' n2 hq=>?_
  rcases hq with⟨h1,rfl,hn2,t2,rfl,htk2⟩|⟨h1,rfl,cap2,rest2,rfl,rfl,hcr2⟩
  ·simp only[eE,reduceCtorEq,Nat.reduceEqDiff,↓reduceIte,Nat.reduceAdd,Nat.reduceLeDiff,Mu,BV]
   exact I1 (n:=_) hr hc (fun id hid=>by simp only[AA];(repeat rw[if_neg (by omega)]);rfl) ⟨AB ..,by simp only[AA];rfl⟩ (.inl ⟨h1,t2,rfl,htk2⟩) (.inr ⟨h0,4,cap,rest,by rw[List.length_map],by simp only[AA];rfl,hcr⟩) (fun i a b c e j f g h k _ q=>by cases q)
  ·simp only[eE,reduceCtorEq,Nat.reduceEqDiff,↓reduceIte,Nat.reduceAdd,Nat.reduceLeDiff,Mu,BV]
   exact I1 (n:=_) hr hc (fun id hid=>by simp only[AA];(repeat rw[if_neg (by omega)]);rfl) ⟨AB ..,by simp only[AA];rfl⟩ (.inr ⟨h1,_,cap2,rest2,rfl,by simp only[AA];rw[if_neg (by omega),if_neg (by omega),if_pos trivial],hcr2⟩) (.inr ⟨h0,4,cap,rest,by rw[List.length_map],by simp only[AA];rfl,hcr⟩) (fun i a b c e j f g h k q1 q2=>by cases q1;cases q2;decide)
def RB1 (d:Dcl):AOut→AD→Nat→Prop:=fun o H' n'=>∃vc vr,o= .ret (.agg (IC d vc vr))∧LF 6 vc H' ((d.clus.map bCl).map BI)∧LV 12 vr H' ((d.ruls.map bRu).map Am)
def RB2 (d:Dcl):AOut→AD→Nat→Prop:=fun o H' n'=>∃vc vr,o= .ret (.agg (IC d vc vr))∧LF 6 vc H' ((d.clus.map bCl).map BI)∧LF 12 vr H' ((d.ruls.map bRu).map Am)
theorem p31 (d:Dcl) (hc:few d.clus) (hr:few d.ruls):Pur Tryz.prog 31 [encD d] (encD (C6 d)):=by
 refine .mk ⟨Ai 0 d,trivial⟩ (Ai 0 _) ?_
 refine AP.out (R:=RB2 d) (AP.seal (R:=RB1 d) (AP.seal (R:=RB d) (t_bare d hc hr) ?_) ?_) ?_
 ·rintro o H' n' ⟨vc,vr,rfl,h1,h2,h3⟩
  rcases h1 with h1|⟨h0,id,cap,rest,rfl,ho,hc⟩
  ·exact .inl ⟨vc,vr,rfl,.inl h1,h2⟩
  ·refine .inr ⟨id,_,_,ho,_,vr,rfl,.inr ⟨h0,id,cap,rest,rfl,AB ..,hc⟩,h2.set fun a b c x=>?_⟩
   rintro rfl
   exact h3 _ _ _ _ _ _ _ _ _ _ rfl rfl rfl
 ·rintro o H' n' ⟨vc,vr,rfl,h1,h2⟩
  rcases h2 with h2|⟨h0,id,cap,rest,rfl,ho,hc⟩
  ·exact .inl ⟨vc,vr,rfl,h1,.inl h2⟩
  ·refine .inr ⟨id,_,_,ho,vc,_,rfl,?_,.inr ⟨h0,id,cap,rest,rfl,AB ..,hc⟩⟩
   rcases h1 with h1|⟨q0,i2,c2,r2,rfl,o2,hc2⟩
   ·exact .inl h1
   ·refine .inr ⟨q0,i2,c2,r2,rfl,?_,hc2⟩
    rw[AC _ _ _ _ (by rintro rfl;rw[ho]at o2;cases o2)];exact o2
 ·rintro o H' n' ⟨vc,vr,rfl,h1,h2⟩
  refine⟨.ret (encD (C6 d)),⟨_,rfl,Wk.refl _⟩,fun g w e hR q=>?_⟩
  cases e with
  |panicked c=>exact q.elim
  |outgrown=>exact q.elim
  |returned y=>
   obtain⟨us,rfl,p1,p2⟩:=q
   refine⟨us,rfl,?_,p2⟩
   obtain⟨a1,b1,f1,g1,a2,b2,f2,g2,a3,b3,f3,g3,a4,b4,f4,g4,a5,b5,f5,g5,a6,b6,f6,g6,a7,b7,f7,g7,a8,b8,f8,g8,a9,b9,f9,g9,a10,b10,f10,g10,g11⟩:=p1
   exact⟨a1,b1,f1,g1,a2,b2,f2,g2,a3,b3,f3,g3,a4,b4,f4,g4,a5,b5,f5,g5,a6,b6,f6,g6,a7,b7,f7,g7,a8,b8,f8,g8,a9,b9,f9,Ot h1 hR g9,a10,b10,f10,Ot h2 hR g10,g11⟩
end Go.AM
end
section
set_option maxRecDepth 20000
set_option linter.all false
namespace Go.AM
open Go.Proofs Go.Lib
def fewB (d:Dcl):Prop:=few d.clus∧few d.ruls
def Typ:Tab:=tadd 19 s19 (tadd 23 (s2 dKs dI (fun l _=>few l) fun l e=>pdV (Ff e l)) (tadd 31 (s1 dD fewB fun d=>encD (C6 d)) (tadd 16 (s2 dD dD (fun _ b=>FewD b) fun a b=>.bool (decide (a=b))) tnil)))
theorem Typ_ok:AI Tryz.prog Typ:=(((AI.tnil.add (q2 fun a b h=>p16 a b h)).add (q1 fun d h=>p31 d h.1 h.2)).add (q2 fun l e h=>p23 l e h)).add (q1K p19)
theorem Qk (a:List AVal) (H:AD):Typ 19 a H=s19 a H:=rfl
theorem Tu (a:List AVal) (H:AD):Typ 23 a H=s2 dKs dI (fun l _=>few l) (fun l e=>pdV (Ff e l)) a H:=rfl
theorem Typ_b (a:List AVal) (H:AD):Typ 31 a H=s1 dD fewB (fun d=>encD (C6 d)) a H:=rfl
theorem Typ_s (a:List AVal) (H:AD):Typ 16 a H=s2 dD dD (fun _ b=>FewD b) (fun a b=>.bool (decide (a=b))) a H:=rfl
theorem wc_len (l:List Tkn):l.length≤wcT l:=by
 induction l with
 |nil=>exact Nat.zero_le _
 |cons t r ih=>rw[Bm,List.length_cons];have:1≤wc t:=by unfold wc;split<;>(try split)<;>omega
               omega
theorem fewS_D {d:Dcl} (h:FewS d):FewD (C6 d):=by
 have h1:=h.ho
 have h2:=h.sy
 have h3:=h.rg
 have h4:=h.cl
 have h5:=h.ru
 refine⟨show d.holes.length<_ by omega,show d.syms.length<_ by omega,show d.regs.length<_ by omega,fun r hr=>⟨show r.ls.length<_ by have:=(h.rgs r hr).1;omega,fun x hx=>show x.length<_ by have:=(h.rgs r hr).2 x hx;omega⟩,show(d.clus.map _).length<_ by rw[List.length_map];omega,show(d.ruls.map _).length<_ by rw[List.length_map];omega,fun r hr=>?_⟩
 obtain⟨q,hq,rfl⟩:=List.mem_map.1 hr
 exact⟨show q.ns.length<_ by have:=(h.rus q hq).1;omega,show q.os.length<_ by have:=(h.rus q hq).2;omega⟩
theorem bare_D {d:Dcl} (h:FewD d):FewD (C6 d):=by
 have h4:d.clus.length<1000000000:=h.cl
 have h5:d.ruls.length<1000000000:=h.ru
 refine⟨h.ho,h.sy,h.rg,h.rgs,show(d.clus.map _).length<_ by rw[List.length_map];exact h4,show(d.ruls.map _).length<_ by rw[List.length_map];exact h5,fun r hr=>?_⟩
 obtain⟨q,hq,rfl⟩:=List.mem_map.1 hr
 exact h.rus q hq
theorem p14 (d:Dcl) (hd:FewD d) (hwl:(BP opP false d).length≤1000000):Pur Tryz.prog 14 [encD d] (.tup [.str (B5 d).1,.int .i64 (B5 d).2]):=by
 refine .mk ⟨Ai 0 d,trivial⟩ ⟨trivial,trivial,trivial⟩ (a14 (AF Typ_ok (AE ?_)))
 simp only[eE,eN,reduceCtorEq,Nat.reduceEqDiff,↓reduceIte,Nat.reduceAdd,c14,encD,A0]
 have hs0:WS (hset (hset hnil 0 (.box (A0 d))) 4 (pW .nil [])) 6 4 []:=⟨fun id hid=>by simp only[AA];rw[if_neg (by omega),if_neg (by omega)];rfl,.nil,AB ..,.inl rfl,.inr rfl⟩
 refine w_go (w_decl d) (by show([]++_).length≤_;rw[List.nil_append];omega) hs0 fun H1 n1 h1 hs1 hk1=>?_
 rw[List.nil_append]at hs1
 obtain⟨hf,tk,ho,ht,he⟩:=hs1
 have hx:=hk1 0 (.box (A0 d)) (by rw[AC _ _ _ _ (by decide)];exact AB ..) (by decide) (fun e=>by cases e)
 have hne:∀k,(n1+k=0)=False:=fun k=>eq_false (by omega)
 have hfr:=fr1 hf
 have hB:=bare_D hd
 have hb:fewB d:=⟨hd.cl,hd.ru⟩
 generalize hw':BP opP false d=w at*
 have q1:Sr (w.map encK)=True:=eq_true (by unfold Sr;rw[DZ])
 have q2:(tk.esz=4∨w.map encK=[])=True:=eq_true (he.imp id fun q=>by rw[q];rfl)
 have q3:okT w=True:=eq_true (by show w.length≤_;omega)
 have q4:dKs.ok (.sl tk (w.map encK))=True:=Hz Jh he
 have q5:dKs.dec (.sl tk (w.map encK))=w:=Fe Jh
 have q6:few w=True:=eq_true (by show w.length<_;omega)
 have hP:B5 d=Cz w d:=by unfold B5;rw[hw']
 rw[hP]
 unfold Cz
 cases hv:w.all Ad with
 |false=>
  have ht0:Db w= .tup [.str [],.int .i64 100]:=by unfold Db;rw[hv];rfl
  rw[if_neg (by decide)]
  simp only[eE,eC,eN,Nat.reduceEqDiff,↓reduceIte,Nat.reduceAdd,Nat.reduceLT,Int.reduceEq,Bool.not_false,Option.getD_some,List.getElem?_cons_zero,List.getElem?_cons_succ,retK,ho,Qk,s1K,q1,q2,DZ,q3,ht0]
  exact Wk.refl _
 |true=>
  have ht0:Db w= .tup [.str (Mp w),.int .i64 0]:=by unfold Db;rw[hv];rfl
  rw[if_pos rfl]
  cases hr:C5 w with
  |bad r=>
   have hr0:Ff 0 w=⟨dcl0,plc 0 r,150⟩:=by unfold Ff;rw[hr]
   simp only[eE,eC,eN,reduceCtorEq,Nat.reduceEqDiff,↓reduceIte,Nat.reduceAdd,Nat.reduceLT,Int.reduceEq,Bool.not_true,Bool.not_false,Option.getD_some,List.getElem?_cons_zero,List.getElem?_cons_succ,retK,ho,Qk,s1K,q1,q2,DZ,q3,ht0,Tu,s2,q4,q5,q6,By,A9,pdV,hr0,hfr,hne]
   exact Wk.refl _
  |ok x r=>
   have hr0:Ff 0 w=⟨x,0,0⟩:=by unfold Ff;rw[hr]
   by_cases hx2:x=C6 d
   ·have q7:decide (x=C6 d)=true:=decide_eq_true hx2
    simp only[if_pos hx2]
    simp only[eE,eC,eN,Nat.reduceEqDiff,↓reduceIte,Nat.reduceAdd,Nat.reduceLT,Bool.not_true,Option.getD_some,List.getElem?_cons_zero,List.getElem?_cons_succ,retK,ho,Qk,s1K,q1,q2,DZ,q3,ht0,Tu,s2,q4,q5,q6,By,A9,pdV,hr0,hfr,hne,hx,Typ_b,s1,HH,Ec,eq_true hb,Typ_s,eq_true hB,q7]
    exact Wk.refl _
   ·have q7:decide (x=C6 d)=false:=decide_eq_false hx2
    simp only[if_neg hx2]
    simp only[eE,eC,eN,Nat.reduceEqDiff,↓reduceIte,Nat.reduceAdd,Nat.reduceLT,Bool.not_true,Bool.not_false,Option.getD_some,List.getElem?_cons_zero,List.getElem?_cons_succ,retK,ho,Qk,s1K,q1,q2,DZ,q3,ht0,Tu,s2,q4,q5,q6,By,A9,pdV,hr0,hfr,hne,hx,Typ_b,s1,HH,Ec,eq_true hb,Typ_s,eq_true hB,q7]
    exact Wk.refl _
end Go.AM
end
