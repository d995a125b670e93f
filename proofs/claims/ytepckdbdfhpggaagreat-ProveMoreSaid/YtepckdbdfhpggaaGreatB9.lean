/-
  Declarations compared · Declarations compared: regions, rules, all of it · Grids: a list copied, a grid made, a grid che.
  Conditions: none beyond those of its parts.
-/
import Derived.Test.YtepckdbdfhpggaaGreatB8
import Derived.Test.YtepckdbdfhpggaaGreatB6
import Derived.Test.YtepckdbdfhpggaaGreatB5

set_option maxRecDepth 20000
set_option linter.all false
set_option maxHeartbeats 1000000
namespace Go.AM
open Go.Proofs Go.Lib
theorem Dl {a b:Bs}:scmp .neq a b= !decide (a=b):=rfl
theorem FD {a b:Bs}:scmp .eql a b=decide (a=b):=rfl
theorem WX {a b:DSym}:a=b↔a.nm=b.nm/\a.v=b.v:=by cases a;cases b;simp only[DSym.mk.injEq]
theorem WY {a b:DClu}:a=b↔a.nm=b.nm/\a.on=b.on/\a.fam=b.fam/\a.ty=b.ty/\a.lo=b.lo/\a.hi=b.hi:=by cases a;cases b;simp only[DClu.mk.injEq]
theorem WZ {a b:DReg}:a=b↔a.nm=b.nm/\a.ls=b.ls:=by cases a;cases b;simp only[DReg.mk.injEq]
theorem UY (s t:DSym):ceqs [.str s.nm,.int .i64 s.v] [.str t.nm,.int .i64 t.v]=decide (s=t):=by
 rw[XI,Wy,WX];simp [ceqs,ceq]
theorem UZ (s t:DClu):ceqs [.str s.nm,.str s.on,.int .i64 s.fam,.int .i64 s.ty,.int .i64 s.lo,.int .i64 s.hi] [.str t.nm,.str t.on,.int .i64 t.fam,.int .i64 t.ty,.int .i64 t.lo,.int .i64 t.hi]=decide (s=t):=by
 rw[XI,Wy,WY];simp [ceqs,ceq]
theorem Cj {p:Prop} [Decidable p] (h:p):decide p=true:=Xp h
theorem Bz {p:Prop} [Decidable p] (h:¬p):decide p=false:=Xb h
theorem p121 (a b:List Int) (hb:wide b):Pur Tryz.prog 121 [eIs a,eIs b] (.bool (decide (a=b))):=by
 refine .mk ⟨AW 0 a,AW 0 b,trivial⟩ trivial (a121 (AF AH.tnil (AG ?_)))
 by_cases hl:a.length=b.length
 case neg=>
  simp only[eE,eC,eN,reduceCtorEq,Nat.reduceEqDiff,↓reduceIte,Nat.reduceAdd,Wz,W0,c121,FT hl,Wz]
  exact(Xb λe=>hl (by rw[e])).symm
 simp only[eE,eC,eN,reduceCtorEq,Nat.reduceEqDiff,↓reduceIte,Nat.reduceAdd,W7,W0,c121,FU hl]
 refine AV (λi:Nat=>⟨[(0,true,eIs a),(1,true,eIs b),(12,true,.int .i64 a.length),(13,true,.int .i64 i)],hnil,0⟩) (λi=>i<=a.length/\∀j,j<i->a[j]?=b[j]?) (λi=>a.length-i) 0 rfl ⟨X1 _,λj hj=>by omega⟩ ?_
 rintro i ⟨hi,hall⟩
 by_cases hlt:i<a.length
 case neg=>
  simp only[eE,eC,eN,reduceCtorEq,Nat.reduceEqDiff,↓reduceIte,lt_F hlt]
  exact(Xp (Ch hl λj hj=>hall j (by omega))).symm
 have hltb:i<b.length:=by omega
 have hga:=W4 hlt
 have hgb:=W4 hltb
 have e:=AL (k:=i) (by have:b.length<1125899906842624:=hb;omega)
 by_cases hs:a[i]=b[i]
 ·simp only[eE,eC,eN,reduceCtorEq,Nat.reduceEqDiff,↓reduceIte,Int.reduceEq,W7,W2,W3,W5,W0,W6,lt_T hlt,lt_T hltb,hga,hgb,e,Cj hs]
  refine .mk (i+1) rfl ⟨hlt,λj h=>?_⟩ (by omega)
  by_cases q:j=i
  ·subst q;rw[hga,hgb,hs]
  ·exact hall j (by omega)
 ·simp only[eE,eC,eN,reduceCtorEq,Nat.reduceEqDiff,↓reduceIte,Wz,W2,W3,W5,W0,W6,lt_T hlt,lt_T hltb,hga,hgb,Bz hs]
  exact(Xb λq=>hs (by simp [q])).symm
theorem p170 (a b:List Bs) (hb:wide b):Pur Tryz.prog 170 [eSs a,eSs b] (.bool (decide (a=b))):=by
 refine .mk ⟨DI 0 a,DI 0 b,trivial⟩ trivial (a170 (AF AH.tnil (AG ?_)))
 by_cases hl:a.length=b.length
 case neg=>
  simp only[eE,eC,eN,reduceCtorEq,Nat.reduceEqDiff,↓reduceIte,Nat.reduceAdd,Wz,W0,c170,FT hl,Wz]
  exact(Xb λe=>hl (by rw[e])).symm
 simp only[eE,eC,eN,reduceCtorEq,Nat.reduceEqDiff,↓reduceIte,Nat.reduceAdd,W7,W0,c170,FU hl]
 refine AV (λi:Nat=>⟨[(0,true,eSs a),(1,true,eSs b),(12,true,.int .i64 a.length),(13,true,.int .i64 i)],hnil,0⟩) (λi=>i<=a.length/\∀j,j<i->a[j]?=b[j]?) (λi=>a.length-i) 0 rfl ⟨X1 _,λj hj=>by omega⟩ ?_
 rintro i ⟨hi,hall⟩
 by_cases hlt:i<a.length
 case neg=>
  simp only[eE,eC,eN,reduceCtorEq,Nat.reduceEqDiff,↓reduceIte,lt_F hlt]
  exact(Xp (Ch hl λj hj=>hall j (by omega))).symm
 have hltb:i<b.length:=by omega
 have hga:=W4 hlt
 have hgb:=W4 hltb
 have e:=AL (k:=i) (by have:b.length<1125899906842624:=hb;omega)
 by_cases hs:a[i]=b[i]
 ·simp only[eE,eC,eN,reduceCtorEq,Nat.reduceEqDiff,↓reduceIte,Int.reduceEq,W7,W2,W3,W5,W0,W6,lt_T hlt,lt_T hltb,hga,hgb,e,Dl,Cj hs]
  refine .mk (i+1) rfl ⟨hlt,λj h=>?_⟩ (by omega)
  by_cases q:j=i
  ·subst q;rw[hga,hgb,hs]
  ·exact hall j (by omega)
 ·simp only[eE,eC,eN,reduceCtorEq,Nat.reduceEqDiff,↓reduceIte,Wz,W2,W3,W5,W0,W6,lt_T hlt,lt_T hltb,hga,hgb,Dl,Bz hs]
  exact(Xb λq=>hs (by simp [q])).symm
theorem p171 (a b:List DSym) (hb:few b):Pur Tryz.prog 171 [eSys a,eSys b] (.bool (decide (a=b))):=by
 refine .mk ⟨EW 0 a,EW 0 b,trivial⟩ trivial (a171 (AF AH.tnil (AG ?_)))
 by_cases hl:a.length=b.length
 case neg=>
  simp only[eE,eC,eN,reduceCtorEq,Nat.reduceEqDiff,↓reduceIte,Nat.reduceAdd,Wz,W0,c171,FT hl,Wz]
  exact(Xb λe=>hl (by rw[e])).symm
 simp only[eE,eC,eN,reduceCtorEq,Nat.reduceEqDiff,↓reduceIte,Nat.reduceAdd,W7,W0,c171,FU hl]
 refine AV (λi:Nat=>⟨[(0,true,eSys a),(1,true,eSys b),(12,true,.int .i64 a.length),(13,true,.int .i64 i)],hnil,0⟩) (λi=>i<=a.length/\∀j,j<i->a[j]?=b[j]?) (λi=>a.length-i) 0 rfl ⟨X1 _,λj hj=>by omega⟩ ?_
 rintro i ⟨hi,hall⟩
 by_cases hlt:i<a.length
 case neg=>
  simp only[eE,eC,eN,reduceCtorEq,Nat.reduceEqDiff,↓reduceIte,lt_F hlt]
  exact(Xp (Ch hl λj hj=>hall j (by omega))).symm
 have hltb:i<b.length:=by omega
 have hga:=W4 hlt
 have hgb:=W4 hltb
 have e:=AL (k:=i) (by have:b.length<1000000000:=hb;omega)
 by_cases hs:a[i]=b[i]
 ·simp only[eE,eC,eN,reduceCtorEq,Nat.reduceEqDiff,↓reduceIte,Nat.reduceAdd,Int.reduceEq,W7,W2,W3,W5,W0,W6,lt_T hlt,lt_T hltb,hga,hgb,e,UY,cfit,Cj hs]
  refine .mk (i+1) rfl ⟨hlt,λj h=>?_⟩ (by omega)
  by_cases q:j=i
  ·subst q;rw[hga,hgb,hs]
  ·exact hall j (by omega)
 ·simp only[eE,eC,eN,reduceCtorEq,Nat.reduceEqDiff,↓reduceIte,Nat.reduceAdd,Wz,W2,W3,W5,W0,W6,lt_T hlt,lt_T hltb,hga,hgb,UY,cfit,Bz hs]
  exact(Xb λq=>hs (by simp [q])).symm
theorem p173 (a b:List DClu) (hb:few b):Pur Tryz.prog 173 [eCls a,eCls b] (.bool (decide (a=b))):=by
 refine .mk ⟨EX 0 a,EX 0 b,trivial⟩ trivial (a173 (AF AH.tnil (AG ?_)))
 by_cases hl:a.length=b.length
 case neg=>
  simp only[eE,eC,eN,reduceCtorEq,Nat.reduceEqDiff,↓reduceIte,Nat.reduceAdd,Wz,W0,c173,FT hl,Wz]
  exact(Xb λe=>hl (by rw[e])).symm
 simp only[eE,eC,eN,reduceCtorEq,Nat.reduceEqDiff,↓reduceIte,Nat.reduceAdd,W7,W0,c173,FU hl]
 refine AV (λi:Nat=>⟨[(0,true,eCls a),(1,true,eCls b),(12,true,.int .i64 a.length),(13,true,.int .i64 i)],hnil,0⟩) (λi=>i<=a.length/\∀j,j<i->a[j]?=b[j]?) (λi=>a.length-i) 0 rfl ⟨X1 _,λj hj=>by omega⟩ ?_
 rintro i ⟨hi,hall⟩
 by_cases hlt:i<a.length
 case neg=>
  simp only[eE,eC,eN,reduceCtorEq,Nat.reduceEqDiff,↓reduceIte,lt_F hlt]
  exact(Xp (Ch hl λj hj=>hall j (by omega))).symm
 have hltb:i<b.length:=by omega
 have hga:=W4 hlt
 have hgb:=W4 hltb
 have e:=AL (k:=i) (by have:b.length<1000000000:=hb;omega)
 by_cases hs:a[i]=b[i]
 ·simp only[eE,eC,eN,reduceCtorEq,Nat.reduceEqDiff,↓reduceIte,Nat.reduceAdd,Int.reduceEq,W7,W2,W3,W5,W0,W6,lt_T hlt,lt_T hltb,hga,hgb,e,UZ,cfit,Cj hs]
  refine .mk (i+1) rfl ⟨hlt,λj h=>?_⟩ (by omega)
  by_cases q:j=i
  ·subst q;rw[hga,hgb,hs]
  ·exact hall j (by omega)
 ·simp only[eE,eC,eN,reduceCtorEq,Nat.reduceEqDiff,↓reduceIte,Nat.reduceAdd,Wz,W2,W3,W5,W0,W6,lt_T hlt,lt_T hltb,hga,hgb,UZ,cfit,Bz hs]
  exact(Xb λq=>hs (by simp [q])).symm
end Go.AM
namespace Go.AM
open Go.Proofs Go.Lib
def s2f {α β:Type} (cl:Nat) (A:Dc α) (B:Dc β) (c:α->β->Prop) (f:α->β->AVal):List AVal->AB->Prop×AVal:=λa _=>match a with
 |[x,y,.fn (.func k) [] []]=>(k=cl/\A.ok x/\B.ok y/\c (A.dec x) (B.dec y),f (A.dec x) (B.dec y))
 |_=>(False,.tup [])
theorem q2f {α β:Type} {cl:Nat} {A:Dc α} {B:Dc β} {c:α->β->Prop} {f:α->β->AVal} {fid:FuncId} (h:∀x y,c x y->Pur Tryz.prog fid [A.enc x,B.enc y,.fn (.func cl) [] []] (f x y)):∀args H n,(s2f cl A B c f args H).1->Ab Tryz.prog fid args H n (s2f cl A B c f args H).2:=by
 intro args H n hh
 unfold s2f at hh⊢
 split at hh
 ·obtain⟨rfl,h1,h2,h3⟩:=hh
  refine AO.args ((h _ _ h3).quiet H n) ?_
  rintro g vs ⟨v,r,rfl,k1,w,r',rfl,k2,k3⟩
  exact⟨v,_,rfl,A.wk _ h1 _ _ k1,w,_,rfl,B.wk _ h2 _ _ k2,k3⟩
 ·exact hh.elim
theorem FZ (x:List (List Int)):dLl.ok (eLl x)=True:=HZ DJ (.inl rfl)
theorem Dm (x:List (List Int)):dLl.dec (eLl x)=x:=FC DJ
theorem Wa (x:List DSym):dSys.ok (eSys x)=True:=HZ FX (.inl rfl)
theorem TT (x:List DSym):dSys.dec (eSys x)=x:=FC FX
theorem Wb (x:List DReg):dRgs.ok (eRgs x)=True:=HZ EI (.inl rfl)
theorem TU (x:List DReg):dRgs.dec (eRgs x)=x:=FC EI
theorem Wc (x:List DClu):dCls.ok (eCls x)=True:=HZ FY (.inl rfl)
theorem TV (x:List DClu):dCls.dec (eCls x)=x:=FC FY
theorem Wd (x:List DRul):dRus.ok (eRus x)=True:=HZ EJ (.inl rfl)
theorem TW (x:List DRul):dRus.dec (eRus x)=x:=FC EJ
abbrev CF (l:List (List Int)):Prop:=few l/\∀x∈l,wide x
abbrev Kp (r:DReg):Prop:=CF r.ls
abbrev MI (r:DRul):Prop:=wide r.ns/\wide r.os
structure FewD (d:Dcl):Prop where
 ho:few d.holes
 sy:few d.syms
 rg:few d.regs
 rgs:∀r∈d.regs,Kp r
 cl:few d.clus
 ru:few d.ruls
 rus:∀r∈d.ruls,MI r
theorem We {a b:DRul}:a=b↔(((((a.ns=b.ns/\a.os=b.os)/\a.nm=b.nm)/\a.on=b.on)/\a.byN=b.byN)/\a.kind=b.kind/\a.fam=b.fam/\a.set=b.set/\a.oth=b.oth/\a.op=b.op/\a.n=b.n/\a.clue=b.clue):=by
 cases a;cases b;simp only[DRul.mk.injEq]
 constructor
 ·rintro⟨a,b,c,d,e,f,g,h,i,j,k,l⟩;exact⟨⟨⟨⟨⟨e,f⟩,a⟩,b⟩,k⟩,c,d,g,h,i,j,l⟩
 ·rintro⟨⟨⟨⟨⟨e,f⟩,a⟩,b⟩,k⟩,c,d,g,h,i,j,l⟩;exact⟨a,b,c,d,e,f,g,h,i,j,k,l⟩
theorem ceq_7 (a b c d e f g a' b' c' d' e' f' g':Int):ceqs [.int .i64 a,.int .i64 b,.int .i64 c,.int .i64 d,.int .i64 e,.int .i64 f,.int .i64 g] [.int .i64 a',.int .i64 b',.int .i64 c',.int .i64 d',.int .i64 e',.int .i64 f',.int .i64 g']=decide (a=a'/\b=b'/\c=c'/\d=d'/\e=e'/\f=f'/\g=g'):=by
 rw[XI,Wy];simp [ceqs,ceq]
theorem Wf {a b:Dcl}:a=b↔((((((((((a.nm=b.nm/\a.ver=b.ver)/\a.sh=b.sh)/\a.w=b.w)/\a.h=b.h)/\a.holes=b.holes)/\a.syms=b.syms)/\a.regs=b.regs)/\a.clus=b.clus)/\a.ruls=b.ruls)):=by
 cases a;cases b;simp only[Dcl.mk.injEq]
 constructor
 ·rintro⟨a,b,c,d,e,f,g,h,i,j⟩;exact⟨⟨⟨⟨⟨⟨⟨⟨⟨a,b⟩,c⟩,d⟩,e⟩,f⟩,g⟩,h⟩,i⟩,j⟩
 ·rintro⟨⟨⟨⟨⟨⟨⟨⟨⟨a,b⟩,c⟩,d⟩,e⟩,f⟩,g⟩,h⟩,i⟩,j⟩;exact⟨a,b,c,d,e,f,g,h,i,j⟩
def Tci:Tab:=tadd 121 (s2 dIs dIs (λ_ b=>wide b) λa b=>.bool (decide (a=b))) tnil
theorem Tci_ok:AH Tryz.prog Tci:=AH.tnil.add (q2 p121)
theorem Tci_e (a:List AVal) (H:AB):Tci 121 a H=(s2 dIs dIs (λ_ b=>wide b) λa b=>.bool (decide (a=b))) a H:=rfl
theorem p168 (a b:List (List Int)) (hb:few b) (hx:∀x∈b,wide x):Pur Tryz.prog 168 [eLl a,eLl b,.fn (.func 121) [] []] (.bool (decide (a=b))):=by
 refine .mk ⟨Ay 0 a,Ay 0 b,by simp [AVal.under,unders],trivial⟩ trivial (a168 (AF Tci_ok (AG ?_)))
 by_cases hl:a.length=b.length
 case neg=>
  simp only[eE,eC,eN,reduceCtorEq,Nat.reduceEqDiff,↓reduceIte,Nat.reduceAdd,Wz,W0,c168,FT hl,Wz]
  exact(Xb λe=>hl (by rw[e])).symm
 simp only[eE,eC,eN,reduceCtorEq,Nat.reduceEqDiff,↓reduceIte,Nat.reduceAdd,W7,W0,c168,FU hl]
 refine AV (λi:Nat=>⟨[(1,true,eLl b),(2,true,.fn (.func 121) [] []),(15,true,eLl a),(16,true,.int .i64 a.length),(17,true,.int .i64 i)],hnil,0⟩) (λi=>i<=a.length/\∀j,j<i->a[j]?=b[j]?) (λi=>a.length-i) 0 rfl ⟨X1 _,λj hj=>by omega⟩ ?_
 rintro i ⟨hi,hall⟩
 by_cases hlt:i<a.length
 case neg=>
  simp only[eE,eC,eN,Nat.reduceEqDiff,↓reduceIte,lt_F hlt]
  exact(Xp (Ch hl λj hj=>hall j (by omega))).symm
 have hltb:i<b.length:=by omega
 have hga:=W4 hlt
 have hgb:=W4 hltb
 have e:=AL (k:=i) (by have:b.length<1000000000:=hb;omega)
 have hf:=hx _ (X4 hltb)
 by_cases hs:a[i]=b[i]
 ·simp only[eE,eC,eN,Nat.reduceEqDiff,↓reduceIte,Int.reduceEq,W7,W2,W3,W5,W0,W6,lt_T hlt,lt_T hltb,hga,hgb,e,Tci_e,s2,Ax,At,W1 hf,Cj hs]
  refine lpN.drop (i+1) rfl rfl rfl rfl AN.nil (λ_ _ h=>by cases h) ⟨Ay 0 b,by simp [AVal.under,unders],Ay 0 a,trivial,trivial,trivial⟩ ⟨hlt,λj h=>?_⟩ (by omega)
  by_cases q:j=i
  ·subst q;rw[hga,hgb,hs]
  ·exact hall j (by omega)
 ·simp only[eE,eC,eN,Nat.reduceEqDiff,↓reduceIte,Wz,W2,W3,W5,W0,W6,lt_T hlt,lt_T hltb,hga,hgb,Tci_e,s2,Ax,At,W1 hf,Bz hs]
  exact(Xb λq=>hs (by simp [q])).symm
def Tcl:Tab:=tadd 168 (s2f 121 dLl dLl (λ_ b=>CF b) λa b=>.bool (decide (a=b))) tnil
theorem Ua:AH Tryz.prog Tcl:=AH.tnil.add (q2f λa b h=>p168 a b h.1 h.2)
theorem Tcl_e (a:List AVal) (H:AB):Tcl 168 a H=(s2f 121 dLl dLl (λ_ b=>CF b) λa b=>.bool (decide (a=b))) a H:=rfl
theorem p167 (a b:DReg) (hb:Kp b):Pur Tryz.prog 167 [GR a,GR b] (.bool (decide (a=b))):=by
 refine .mk ⟨Dj 0 a,Dj 0 b,trivial⟩ trivial (a167 (AF Ua (AG ?_)))
 simp only[eE,eC,eN,reduceCtorEq,Nat.reduceEqDiff,↓reduceIte,Nat.reduceAdd,Nat.reduceLeDiff,c167,FD,Tcl_e,s2f,FZ,Dm,W1 hb]
 rw[XI]
 simp only[W8,Wy,WZ]
def Tcr:Tab:=tadd 167 (s2 dRg dRg (λ_ b=>Kp b) λa b=>.bool (decide (a=b))) tnil
theorem Tcr_ok:AH Tryz.prog Tcr:=AH.tnil.add (q2 p167)
theorem Tcr_e (a:List AVal) (H:AB):Tcr 167 a H=(s2 dRg dRg (λ_ b=>Kp b) λa b=>.bool (decide (a=b))) a H:=rfl
theorem p172 (a b:List DReg) (hb:few b) (hx:∀x∈b,Kp x):Pur Tryz.prog 172 [eRgs a,eRgs b,.fn (.func 167) [] []] (.bool (decide (a=b))):=by
 refine .mk ⟨Cn 0 a,Cn 0 b,by simp [AVal.under,unders],trivial⟩ trivial (a172 (AF Tcr_ok (AG ?_)))
 by_cases hl:a.length=b.length
 case neg=>
  simp only[eE,eC,eN,reduceCtorEq,Nat.reduceEqDiff,↓reduceIte,Nat.reduceAdd,Wz,W0,c172,FT hl,Wz]
  exact(Xb λe=>hl (by rw[e])).symm
 simp only[eE,eC,eN,reduceCtorEq,Nat.reduceEqDiff,↓reduceIte,Nat.reduceAdd,W7,W0,c172,FU hl]
 refine AV (λi:Nat=>⟨[(1,true,eRgs b),(2,true,.fn (.func 167) [] []),(15,true,eRgs a),(16,true,.int .i64 a.length),(17,true,.int .i64 i)],hnil,0⟩) (λi=>i<=a.length/\∀j,j<i->a[j]?=b[j]?) (λi=>a.length-i) 0 rfl ⟨X1 _,λj hj=>by omega⟩ ?_
 rintro i ⟨hi,hall⟩
 by_cases hlt:i<a.length
 case neg=>
  simp only[eE,eC,eN,Nat.reduceEqDiff,↓reduceIte,lt_F hlt]
  exact(Xp (Ch hl λj hj=>hall j (by omega))).symm
 have hltb:i<b.length:=by omega
 have hga:=W4 hlt
 have hgb:=W4 hltb
 have e:=AL (k:=i) (by have:b.length<1000000000:=hb;omega)
 have hf:=hx _ (X4 hltb)
 by_cases hs:a[i]=b[i]
 ·simp only[eE,eC,eN,Nat.reduceEqDiff,↓reduceIte,Nat.reduceAdd,Int.reduceEq,W7,W2,W3,W5,W0,W6,lt_T hlt,lt_T hltb,hga,hgb,e,Tcr_e,s2,NL,Jj,W1 hf,Cj hs]
  refine lpN.drop (i+1) rfl rfl rfl rfl AN.nil (λ_ _ h=>by cases h) ⟨Cn 0 b,by simp [AVal.under,unders],Cn 0 a,trivial,trivial,trivial⟩ ⟨hlt,λj h=>?_⟩ (by omega)
  by_cases q:j=i
  ·subst q;rw[hga,hgb,hs]
  ·exact hall j (by omega)
 ·simp only[eE,eC,eN,Nat.reduceEqDiff,↓reduceIte,Nat.reduceAdd,Wz,W2,W3,W5,W0,W6,lt_T hlt,lt_T hltb,hga,hgb,Tcr_e,s2,NL,Jj,W1 hf,Bz hs]
  exact(Xb λq=>hs (by simp [q])).symm
def Tcs:Tab:=tadd 170 (s2 dSs dSs (λ_ b=>wide b) λa b=>.bool (decide (a=b))) tnil
theorem Tcs_ok:AH Tryz.prog Tcs:=AH.tnil.add (q2 p170)
theorem Tcs_e (a:List AVal) (H:AB):Tcs 170 a H=(s2 dSs dSs (λ_ b=>wide b) λa b=>.bool (decide (a=b))) a H:=rfl
theorem p169 (a b:DRul) (hb:MI b):Pur Tryz.prog 169 [Bk a,Bk b] (.bool (decide (a=b))):=by
 refine .mk ⟨CE 0 a,CE 0 b,trivial⟩ trivial (a169 (AF Tcs_ok (AG ?_)))
 have h1:=hb.1
 have h2:=hb.2
 simp only[eE,eC,eN,reduceCtorEq,Nat.reduceEqDiff,↓reduceIte,Nat.reduceAdd,Nat.reduceLeDiff,c169,FD,Tcs_e,s2,dSs_ok,WT,W1 h1,W1 h2,ceq_7,cfit]
 rw[XI]
 simp only[W8,Wy,We]
def Tcu:Tab:=tadd 169 (s2 dRu dRu (λ_ b=>MI b) λa b=>.bool (decide (a=b))) tnil
theorem Tcu_ok:AH Tryz.prog Tcu:=AH.tnil.add (q2 p169)
theorem Tcu_e (a:List AVal) (H:AB):Tcu 169 a H=(s2 dRu dRu (λ_ b=>MI b) λa b=>.bool (decide (a=b))) a H:=rfl
theorem p174 (a b:List DRul) (hb:few b) (hx:∀x∈b,MI x):Pur Tryz.prog 174 [eRus a,eRus b,.fn (.func 169) [] []] (.bool (decide (a=b))):=by
 refine .mk ⟨Co 0 a,Co 0 b,by simp [AVal.under,unders],trivial⟩ trivial (a174 (AF Tcu_ok (AG ?_)))
 by_cases hl:a.length=b.length
 case neg=>
  simp only[eE,eC,eN,reduceCtorEq,Nat.reduceEqDiff,↓reduceIte,Nat.reduceAdd,Wz,W0,c174,FT hl,Wz]
  exact(Xb λe=>hl (by rw[e])).symm
 simp only[eE,eC,eN,reduceCtorEq,Nat.reduceEqDiff,↓reduceIte,Nat.reduceAdd,W7,W0,c174,FU hl]
 refine AV (λi:Nat=>⟨[(1,true,eRus b),(2,true,.fn (.func 169) [] []),(15,true,eRus a),(16,true,.int .i64 a.length),(17,true,.int .i64 i)],hnil,0⟩) (λi=>i<=a.length/\∀j,j<i->a[j]?=b[j]?) (λi=>a.length-i) 0 rfl ⟨X1 _,λj hj=>by omega⟩ ?_
 rintro i ⟨hi,hall⟩
 by_cases hlt:i<a.length
 case neg=>
  simp only[eE,eC,eN,Nat.reduceEqDiff,↓reduceIte,lt_F hlt]
  exact(Xp (Ch hl λj hj=>hall j (by omega))).symm
 have hltb:i<b.length:=by omega
 have hga:=W4 hlt
 have hgb:=W4 hltb
 have e:=AL (k:=i) (by have:b.length<1000000000:=hb;omega)
 have hf:=hx _ (X4 hltb)
 by_cases hs:a[i]=b[i]
 ·simp only[eE,eC,eN,Nat.reduceEqDiff,↓reduceIte,Nat.reduceAdd,Int.reduceEq,W7,W2,W3,W5,W0,W6,lt_T hlt,lt_T hltb,hga,hgb,e,Tcu_e,s2,GE,EK,W1 hf,Cj hs]
  refine lpN.drop (i+1) rfl rfl rfl rfl AN.nil (λ_ _ h=>by cases h) ⟨Co 0 b,by simp [AVal.under,unders],Co 0 a,trivial,trivial,trivial⟩ ⟨hlt,λj h=>?_⟩ (by omega)
  by_cases q:j=i
  ·subst q;rw[hga,hgb,hs]
  ·exact hall j (by omega)
 ·simp only[eE,eC,eN,Nat.reduceEqDiff,↓reduceIte,Nat.reduceAdd,Wz,W2,W3,W5,W0,W6,lt_T hlt,lt_T hltb,hga,hgb,Tcu_e,s2,GE,EK,W1 hf,Bz hs]
  exact(Xb λq=>hs (by simp [q])).symm
def Tsa:Tab:=tadd 121 (s2 dIs dIs (λ_ b=>wide b) λa b=>.bool (decide (a=b))) (tadd 171 (s2 dSys dSys (λ_ b=>few b) λa b=>.bool (decide (a=b))) (tadd 172 (s2f 167 dRgs dRgs (λ_ b=>few b/\∀x∈b,Kp x) λa b=>.bool (decide (a=b))) (tadd 173 (s2 dCls dCls (λ_ b=>few b) λa b=>.bool (decide (a=b))) (tadd 174 (s2f 169 dRus dRus (λ_ b=>few b/\∀x∈b,MI x) λa b=>.bool (decide (a=b))) tnil))))
theorem Tsa_ok:AH Tryz.prog Tsa:=((((AH.tnil.add (q2f λa b h=>p174 a b h.1 h.2)).add (q2 p173)).add (q2f λa b h=>p172 a b h.1 h.2)).add (q2 p171)).add (q2 p121)
theorem Tsa_i (a:List AVal) (H:AB):Tsa 121 a H=s2 dIs dIs (λ_ b=>wide b) (λa b=>.bool (decide (a=b))) a H:=rfl
theorem Tsa_s (a:List AVal) (H:AB):Tsa 171 a H=s2 dSys dSys (λ_ b=>few b) (λa b=>.bool (decide (a=b))) a H:=rfl
theorem Tsa_r (a:List AVal) (H:AB):Tsa 172 a H=s2f 167 dRgs dRgs (λ_ b=>few b/\∀x∈b,Kp x) (λa b=>.bool (decide (a=b))) a H:=rfl
theorem Tsa_c (a:List AVal) (H:AB):Tsa 173 a H=s2 dCls dCls (λ_ b=>few b) (λa b=>.bool (decide (a=b))) a H:=rfl
theorem Tsa_u (a:List AVal) (H:AB):Tsa 174 a H=s2f 169 dRus dRus (λ_ b=>few b/\∀x∈b,MI x) (λa b=>.bool (decide (a=b))) a H:=rfl
theorem p122 (a b:Dcl) (hb:FewD b):Pur Tryz.prog 122 [encD a,encD b] (.bool (decide (a=b))):=by
 refine .mk ⟨BQ 0 a,BQ 0 b,trivial⟩ trivial (a122 (AF Tsa_ok (AG ?_)))
 simp only[eE,eC,eN,reduceCtorEq,Nat.reduceEqDiff,↓reduceIte,Nat.reduceAdd,Nat.reduceLeDiff,c122,FD,Tsa_i,Tsa_s,Tsa_r,Tsa_c,Tsa_u,s2,s2f,Ax,At,Wa,TT,Wb,TU,Wc,TV,Wd,TW,W1 (Jd hb.ho),W1 hb.sy,W1 hb.rg,W1 hb.rgs,W1 hb.cl,W1 hb.ru,W1 hb.rus]
 rw[XI]
 simp only[W8,Wy,Wf]
end Go.AM
namespace Go.AM
open Go.Proofs Go.Lib
abbrev AD (sh w h:Int) (holes cells:List Int):List AVal:=[.int .i64 sh,.int .i64 w,.int .i64 h,eIs holes,eIs cells]
abbrev encG (sh w h:Int) (holes cells:List Int):AVal:=.agg (AD sh w h holes cells)
theorem Bm (n:Nat) (sh w h:Int) (holes cells:List Int):(encG sh w h holes cells).under n:=⟨trivial,trivial,trivial,AW n _,AW n _,trivial⟩
def CG (sh w h:Int) (holes:List Int):AVal:=match Aj sh w h holes with
 |some cells=>.tup [encG sh w h holes cells,.int .i64 0]
 |none=>.tup [encG 0 0 0 [] [],.int .i64 130]
theorem MJ (sh w h:Int) (holes:List Int):(CG sh w h holes).under 0:=by
 unfold CG
 split<;>exact⟨Bm 0 ..,trivial,trivial⟩
theorem wk_G {sh w h:Int} {holes cells:List Int} {a b:AVal} {e:Int} (h1:Wk a (eIs holes)) (h2:Wk b (eIs cells)):Wk (.tup [.agg [.int .i64 sh,.int .i64 w,.int .i64 h,a,b],.int .i64 e]) (.tup [encG sh w h holes cells,.int .i64 e]):=
 Wk.tup (.cons (Wk.agg (.cons (Wk.refl _) (.cons (Wk.refl _) (.cons (Wk.refl _) (.cons h1 (.cons h2 .nil)))))) (.cons (Wk.refl _) .nil))
theorem p39 (l:List Int) (hl:few l):Pur Tryz.prog 39 [eIs l] (eIs l):=by
 refine .mk ⟨AW 0 l,trivial⟩ (AW 0 l) (a39 (AF AH.tnil (AG ?_)))
 have a1:(l.length<=35184372088832)=True:=W1 (by have:l.length<1000000000:=hl;omega)
 have a2:An l.length 8=True:=W1 (AX (by have:l.length<1000000000:=hl;omega) (by decide))
 cases l with
 |nil=>
  simp only[eE,eC,eN,reduceCtorEq,↓reduceIte,c39]
  refine⟨?_,?_⟩
  ·simp only[eE,eC,eN,reduceCtorEq,Nat.reduceEqDiff,↓reduceIte,Nat.reduceLT,An,YQ,X1]
   exact Wk.sl (.inl rfl)
  ·simp only[eE,eC,eN,reduceCtorEq,↓reduceIte,Wz]
   exact Wk.sl (.inr rfl)
 |cons x r=>
  rw[X6]at a1 a2
  simp only[eE,eC,eN,reduceCtorEq,Nat.reduceEqDiff,↓reduceIte,Nat.reduceLeDiff,Nat.reduceMul,Nat.reduceLT,W0,c39,eIs,a1,a2]
  exact Wk.sl (.inl rfl)
def Tmk:Tab:=tadd 39 (s1 dIs few λl=>eIs l) (tadd 231 (s2 dIs dI (λl _=>few l/\List.Pairwise (λx y=>x<y) l) λl x=>.tup [.int .i64 (lowB l x),.bool (l.contains x)]) tnil)
theorem Tmk_ok:AH Tryz.prog Tmk:=(AH.tnil.add (q2 λl x h=>p231 l x h.1 h.2)).add (q1 p39)
theorem Tmk_c (a:List AVal) (H:AB):Tmk 39 a H=s1 dIs few (λl=>eIs l) a H:=rfl
theorem Tmk_b (a:List AVal) (H:AB):Tmk 231 a H=s2 dIs dI (λl _=>few l/\List.Pairwise (λx y=>x<y) l) (λl x=>.tup [.int .i64 (lowB l x),.bool (l.contains x)]) a H:=rfl
def posL (holes:List Int) (k:Nat):List Int:=((List.range k).map λ(i:Nat)=>(i:Int)).filter λp=>!holes.contains p
theorem RG (holes:List Int) (k:Nat):posL holes (k+1)=if holes.contains (k:Int)then posL holes k else posL holes k++[(k:Int)]:=by
 unfold posL
 rw[YH,X3,Yb]
 cases h:holes.contains (k:Int)<;>simp only[Xd,Xu,XY,List.filter_nil,h,W7,Wz,Y6,Xl,Xa,Xf]
theorem Wg (holes:List Int) (k:Nat):(posL holes k).length<=k:=by
 have:=XR (λp=>!holes.contains p) ((List.range k).map λ(i:Nat)=>(i:Int))
 simpa [posL]using this
structure VM where
 k:Nat
 tk:Tok
 H:AB
 n:Nat
structure IM (sh w h:Int) (holes:List Int) (m:Nat) (v:VM):Prop where
 hk:v.k<=m
 hn:2<=v.n
 fr:AN v.H v.n
 h0:hget v.H 0=some (.box [.int .i64 sh,.int .i64 w,.int .i64 h,eIs holes,.sl v.tk ((posL holes v.k).map eI)])
 tok:tkG 1 1 v.H v.tk
 es:v.tk.esz=1\/posL holes v.k=[]
theorem p163 (sh w h:Int) (holes:List Int) (hl:few holes):Pur Tryz.prog 163 [.int .i64 sh,.int .i64 w,.int .i64 h,eIs holes] (CG sh w h holes):=by
 refine .mk ⟨trivial,trivial,trivial,AW 0 _,trivial⟩ (MJ sh w h holes) (a163 (AF Tmk_ok (AG ?_)))
 have hE:∀b,(b=true↔¬((sh=1\/sh=2)/\1<=w/\w<=16/\1<=h/\h<=16/\(holes.length:Int)<w*h))->(!decide (sh=1)&& !decide (sh=2)||decide (w<1)||decide (16<w)||decide (h<1)||decide (16<h)||decide (IntKind.wrap .i64 (w*h)<=(holes.length:Int)))=b:=by
  intro b hb
  rw[XI,hb]
  simp only[X9,W8,XK,Wy,XX]
  by_cases hwh:1<=w/\w<=16/\1<=h/\h<=16
  ·have:=wh_le hwh.1 hwh.2.1 hwh.2.2.1 hwh.2.2.2
   rw[A2 (by omega) (by omega)]
   omega
  ·omega
 by_cases hc:(sh=1\/sh=2)/\1<=w/\w<=16/\1<=h/\h<=16/\(holes.length:Int)<w*h
 case neg=>
  have hn:CG sh w h holes= .tup [encG 0 0 0 [] [],.int .i64 130]:=by
   unfold CG Aj
   rw[Ww λq=>hc ⟨q.1,q.2.1,q.2.2.1,q.2.2.2.1,q.2.2.2.2.1,q.2.2.2.2.2.1⟩]
  have hb:=hE true (by simp [hc])
  rw[hn]
  simp only[eE,eC,eN,reduceCtorEq,Nat.reduceEqDiff,↓reduceIte,Nat.reduceAdd,BZ,W0,c163,hb]
  exact wk_G (Wk.sl (.inr rfl)) (Wk.sl (.inr rfl))
 have hb:=hE false (by simp [hc])
 obtain⟨hsh,hw1,hw2,hh1,hh2,hln⟩:=hc
 obtain⟨p1,p2⟩:=wh_le hw1 hw2 hh1 hh2
 have hwh:IntKind.wrap .i64 (w*h)=w*h:=A2 (by omega) (by omega)
 have hG:Aj sh w h holes=if(C9 (-1) holes&&holes.all λp=>decide (p<w*h))=true then some (posL holes (w*h).toNat)else none:=by
  unfold Aj
  by_cases q:(C9 (-1) holes&&holes.all λp=>decide (p<w*h))=true
  ·rw[X0 q]
   rw[W8]at q
   rw[X0 ⟨hsh,hw1,hw2,hh1,hh2,hln,q.1,q.2⟩];rfl
  ·rw[Ww q]
   rw[W8]at q
   rw[Ww λz=>q ⟨z.2.2.2.2.2.2.1,z.2.2.2.2.2.2.2⟩]
 simp only[eE,eC,eN,reduceCtorEq,Nat.reduceEqDiff,↓reduceIte,Nat.reduceAdd,W0,c163,hb]
 refine AV (λv:Nat×Int=>⟨[(0,true,.int .i64 sh),(1,true,.int .i64 w),(2,true,.int .i64 h),(3,true,eIs holes),(8,true,.ptr 0 0),(10,true,.int .i64 v.2),(47,true,eIs holes),(48,true,.int .i64 holes.length),(49,true,.int .i64 v.1)],hset hnil 0 (.box [z0,z0,z0,zs,zs]),2⟩)
  (λv=>v.1<=holes.length/\(C9 (-1) holes&&holes.all λp=>decide (p<w*h))=(C9 v.2 (holes.drop v.1)&&(holes.drop v.1).all λp=>decide (p<w*h))) (λv=>holes.length-v.1) (0,-1) rfl ⟨X1 _,rfl⟩ ?_
 rintro⟨i,last⟩ ⟨hi,he⟩
 simp only at hi he
 by_cases hlt:i<holes.length
 ·have hg:=W4 hlt
  have e:=AL (k:=i) (by have:holes.length<1000000000:=hl;omega)
  rw[Xj hlt,C9,YX]at he
  by_cases hok:last<holes[i]/\holes[i]<w*h
  ·have hd:(decide (holes[i]<=last)||decide (w*h<=holes[i]))=false:=by simp;omega
   simp only[eE,eC,eN,reduceCtorEq,Nat.reduceEqDiff,↓reduceIte,Int.reduceEq,W2,W3,W5,W0,W6,lt_T hlt,hg,e,hwh,hd]
   refine .mk (i+1,holes[i]) rfl ⟨hlt,?_⟩ (by simp only[];omega)
   simp only[]
   rw[he,Xp hok.1,Xp hok.2];simp
  ·have hd:(decide (holes[i]<=last)||decide (w*h<=holes[i]))=true:=by simp;omega
   have hn:CG sh w h holes= .tup [encG 0 0 0 [] [],.int .i64 130]:=by
    unfold CG
    rw[hG,Ww]
    rw[he]
    intro q
    simp only[W8,Wy]at q
    exact hok ⟨q.1.1,q.2.1⟩
   rw[hn]
   simp only[eE,eC,eN,reduceCtorEq,Nat.reduceEqDiff,↓reduceIte,Nat.reduceAdd,BZ,W2,W3,W5,W0,W6,lt_T hlt,hg,hwh,hd]
   exact wk_G (Wk.sl (.inr rfl)) (Wk.sl (.inr rfl))
 have hi':i=holes.length:=by omega
 subst hi'
 rw[Y3]at he
 have hS:Aj sh w h holes=some (posL holes (w*h).toNat):=by rw[hG,X0 (by rw[he];rfl)]
 have hrise:=(Gb hS).2.2.2.2.2.2.2.1
 have hM:CG sh w h holes= .tup [encG sh w h holes (posL holes (w*h).toNat),.int .i64 0]:=by unfold CG;rw[hS]
 rw[hM]
 obtain⟨m,hm⟩:∃m:Nat,w*h=(m:Int):=⟨(w*h).toNat,by omega⟩
 have hmt:(w*h).toNat=m:=by omega
 have hwm:IntKind.wrap .i64 (m:Int)=m:=by rw[<-hm];exact hwh
 rw[hmt]
 simp only[eE,eC,eN,reduceCtorEq,Nat.reduceEqDiff,↓reduceIte,Nat.reduceAdd,Nat.reduceLeDiff,lt_F hlt,Tmk_c,s1,Ax,At,W1 hl,hwm,hm,AJ]
 refine AV (λv:VM=>⟨[(3,true,eIs holes),(8,true,.ptr 0 0),(74,true,.int .i64 m),(75,true,.int .i64 v.k)],v.H,v.n⟩) (IM sh w h holes m) (λv=>m-v.k)
  ⟨0,.nil,hset hnil 0 (.box [.int .i64 sh,.int .i64 w,.int .i64 h,eIs holes,.sl .nil []]),2⟩ rfl ⟨X1 _,Wu _,AN.nil.hset (m:=2) (X1 2) (show 0<2 by decide),rfl,.inl rfl,.inr rfl⟩ ?_
 rintro⟨k,tk,H,n⟩ hI
 have hk:=hI.hk
 have hn:=hI.hn
 have hfr:=hI.fr
 have h0:=hI.h0
 have htk:=hI.tok
 have hes:=hI.es
 simp only at hk hn hfr h0 htk hes
 by_cases hlt:k<m
 ·have e:=AL (k:=k) (by omega)
  have hps:=RG holes k
  cases hin:holes.contains (k:Int)with
  |true=>
   rw[hin,X0 rfl]at hps
   simp only[eE,eC,eN,Nat.reduceEqDiff,↓reduceIte,Nat.reduceAdd,Nat.reduceLT,Int.reduceEq,W7,W2,Wv,Wx,lt_T hlt,Tmk_b,s2,Ax,At,Ci,BT,W1 hl,W1 hrise,hin,e]
   exact .mk ⟨k+1,tk,H,n⟩ rfl ⟨hlt,hn,hfr,by simp only[hps];exact h0,htk,by simp only[hps];exact hes⟩ (by simp only[];omega)
  |false=>
   rw[hin,Ww (by decide)]at hps
   have hpl:=Wg holes k
   have q1:Bi H 1 tk=True:=W1 htk.app
   have q2:((posL holes k).length<=35184372088831)=True:=W1 (by omega)
   have q3:An ((posL holes k).length+1) 8=True:=W1 (AX (by omega) (by decide))
   have kx:hget (AU H tk) 0=some (.box [.int .i64 sh,.int .i64 w,.int .i64 h,eIs holes,.sl tk ((posL holes k).map eI)]):=by rw[Ad htk (.inl (by omega))];exact h0
   have y0:∀j,(n+j=0)=False:=λj=>W9 (by omega)
   simp only[eE,eC,eN,reduceCtorEq,Nat.reduceEqDiff,↓reduceIte,Nat.reduceAdd,Nat.reduceLeDiff,Nat.reduceMul,Nat.reduceLT,Int.reduceEq,Wz,W2,W0,Wv,Wx,lt_T hlt,Tmk_b,s2,Ax,At,Ci,BT,W1 hl,W1 hrise,hin,e,h0,q1,q2,q3,fr1 hfr,kx,y0]
   refine .mk ⟨k+1,.own (n+4) 1,hset (hset (AU H tk) (n+4) .tok) 0 (.box [.int .i64 sh,.int .i64 w,.int .i64 h,eIs holes,.sl (.own (n+4) 1) ((posL holes (k+1)).map eI)]),n+7⟩ ?_ ⟨hlt,by simp only[];omega,((Ag htk hfr).hset (m:=n+7) (by omega) (by omega)).hset (Wu (n+7)) (show 0<n+7 by omega),AC ..,.inr (.inr ⟨n+4,rfl,by omega,by rw[AA _ _ _ _ (by omega)];exact AC ..⟩),.inl rfl⟩ (by simp only[];omega)
   rw[hps,X3];rfl
 obtain rfl:k=m:=by omega
 simp only[eE,eC,eN,Nat.reduceEqDiff,↓reduceIte,Nat.reduceAdd,BZ,lt_F hlt,h0]
 exact wk_G (Wk.refl _) (Wk.sl (hes.imp id λq=>by rw[q];rfl))
def Tgc:Tab:=tadd 163 (λa H=>match a with
 |[.int .i64 sh,.int .i64 w,.int .i64 h,x]=>(dIs.ok x/\few (dIs.dec x),CG sh w h (dIs.dec x))
 |_=>(False,.tup [])) (tadd 121 (s2 dIs dIs (λ_ b=>few b) λa b=>.bool (decide (a=b))) tnil)
theorem Ub:∀args H n,((λ(a:List AVal) (H:AB)=>match a with
 |[.int .i64 sh,.int .i64 w,.int .i64 h,x]=>(dIs.ok x/\few (dIs.dec x),CG sh w h (dIs.dec x))
 |_=>(False,AVal.tup [])) args H).1->Ab Tryz.prog 163 args H n ((λ(a:List AVal) (H:AB)=>match a with
 |[.int .i64 sh,.int .i64 w,.int .i64 h,x]=>(dIs.ok x/\few (dIs.dec x),CG sh w h (dIs.dec x))
 |_=>(False,AVal.tup [])) args H).2:=by
 intro args H n hh
 simp only at hh⊢
 split at hh
 ·obtain⟨h1,h2⟩:=hh
  refine AO.args ((p163 _ _ _ _ h2).quiet H n) ?_
  rintro g vs ⟨v,r,rfl,k1,w,r',rfl,k2,u,r2,rfl,k3,z,r3,rfl,k4,k5⟩
  exact⟨v,_,rfl,k1,w,_,rfl,k2,u,_,rfl,k3,z,_,rfl,dIs.wk _ h1 _ _ k4,k5⟩
 ·exact hh.elim
theorem Tgc_ok:AH Tryz.prog Tgc:=(AH.tnil.add (q2 λa b h=>p121 a b (Jd h))).add Ub
theorem Wh (sh w h:Int) (x:AVal) (H:AB):Tgc 163 [.int .i64 sh,.int .i64 w,.int .i64 h,x] H=(dIs.ok x/\few (dIs.dec x),CG sh w h (dIs.dec x)):=rfl
theorem Tgc_e (a:List AVal) (H:AB):Tgc 121 a H=s2 dIs dIs (λ_ b=>few b) (λa b=>.bool (decide (a=b))) a H:=rfl
def grOK (sh w h:Int) (holes cells:List Int):Bool:=decide (Aj sh w h holes=some cells)
theorem p232 (sh w h:Int) (holes cells:List Int) (hl:few holes) (hc:few cells):Pur Tryz.prog 232 [encG sh w h holes cells] (.int .i64 (if grOK sh w h holes cells=true then 0 else 130)):=by
 refine .mk ⟨Bm 0 ..,trivial⟩ trivial (a232 (AF Tgc_ok (AG ?_)))
 cases hG:Aj sh w h holes with
 |none=>
  have hM:CG sh w h holes= .tup [encG 0 0 0 [] [],.int .i64 130]:=by unfold CG;rw[hG]
  have hk:grOK sh w h holes cells=false:=by unfold grOK;rw[hG];simp
  rw[hk]
  simp only[eE,eC,eN,reduceCtorEq,Nat.reduceEqDiff,↓reduceIte,Nat.reduceAdd,Nat.reduceLeDiff,Nat.reduceLT,Int.reduceEq,W7,Wz,W2,Wv,Wx,c232,Wh,Ax,At,W1 hl,hM,encG]
 |some cs=>
  have hM:CG sh w h holes= .tup [encG sh w h holes cs,.int .i64 0]:=by unfold CG;rw[hG]
  have hk:grOK sh w h holes cells=decide (cs=cells):=by unfold grOK;rw[hG];simp
  rw[hk]
  by_cases hq:cs=cells
  ·simp only[eE,eC,eN,reduceCtorEq,Nat.reduceEqDiff,↓reduceIte,Nat.reduceAdd,Nat.reduceLeDiff,Nat.reduceLT,W7,W2,Wv,Wx,c232,Wh,Tgc_e,s2,Ax,At,W1 hl,hM,encG,W1 hc,Cj hq]
  ·simp only[eE,eC,eN,reduceCtorEq,Nat.reduceEqDiff,↓reduceIte,Nat.reduceAdd,Nat.reduceLeDiff,Nat.reduceLT,W7,Wz,W2,Wv,Wx,c232,Wh,Tgc_e,s2,Ax,At,W1 hl,hM,encG,W1 hc,Bz hq]
end Go.AM
namespace Go.AM
open Go.Proofs Go.Lib
structure Grd where
 sh:Int
 w:Int
 h:Int
 holes:List Int
 cells:List Int
 deriving DecidableEq
abbrev DL (g:Grd):AVal:=encG g.sh g.w g.h g.holes g.cells
def RH:AVal->Grd
 | .agg [.int _ sh,.int _ w,.int _ h,ho,ce]=>⟨sh,w,h,GS ho,GS ce⟩
 |_=>⟨0,0,0,[],[]⟩
theorem Hf (g:Grd):RH (DL g)=g:=by simp only[RH,DJ]
def dGd:Dc Grd:=dWk DL RH
theorem Kq (x:Grd):dGd.ok (DL x)=True:=Ep Hf x
theorem Hg (x:Grd):dGd.dec (DL x)=x:=Hf x
theorem RI {sh w h:Int} {holes cells:List Int}:dGd.ok (encG sh w h holes cells)=True:=Kq ⟨sh,w,h,holes,cells⟩
theorem Kr {sh w h:Int} {holes cells:List Int}:dGd.dec (encG sh w h holes cells)=⟨sh,w,h,holes,cells⟩:=Hg ⟨sh,w,h,holes,cells⟩
abbrev chkV (g:Grd):AVal:=.int .i64 (if grOK g.sh g.w g.h g.holes g.cells=true then 0 else 130)
def Tgr:Tab:=tadd 232 (s1 dGd (λg=>few g.holes/\few g.cells) chkV) (tadd 231 (s2 dIs dI (λl _=>few l/\List.Pairwise (λx y=>x<y) l) λl x=>.tup [.int .i64 (lowB l x),.bool (l.contains x)]) tnil)
theorem Tgr_ok:AH Tryz.prog Tgr:=(AH.tnil.add (q2 λl x h=>p231 l x h.1 h.2)).add (q1 λg h=>p232 g.sh g.w g.h g.holes g.cells h.1 h.2)
theorem Tgr_c (a:List AVal) (H:AB):Tgr 232 a H=s1 dGd (λg=>few g.holes/\few g.cells) chkV a H:=rfl
theorem Wi (a:List AVal) (H:AB):Tgr 231 a H=s2 dIs dI (λl _=>few l/\List.Pairwise (λx y=>x<y) l) (λl x=>.tup [.int .i64 (lowB l x),.bool (l.contains x)]) a H:=rfl
theorem Wks.len {ws us:List AVal} (h:Wks ws us):ws.length=us.length:=by
 induction h with
 |nil=>rfl
 |cons _ _ ih=>simp [ih]
theorem Wks.app {a b c d:List AVal} (h:Wks a b) (k:Wks c d):Wks (a++c) (b++d):=by
 induction h with
 |nil=>exact k
 |cons h1 _ ih=>exact .cons h1 ih
theorem TY {g:Ghost} {e:Nat} {f:Nat->Option Value} {l m:List AVal} (hw:Wks l m):∀o,Stab g e f o l->Stab g e f o m:=by
 induction hw with
 |nil=>exact λ_ _=>trivial
 |cons h1 _ ih=>exact λo ⟨⟨v,q1,q2,q3⟩,h'⟩=>⟨⟨v,h1 _ _ q1,q2,q3⟩,ih _ h'⟩
theorem Wk.slx {t:Tok} {e:Nat} {l m:List AVal} (h:t.esz=e\/l=[]) (hw:Wks l m):Wk (.sl t l) (.sl (.none e) m):=by
 intro g v hv
 have hv:=Wk.sl h g v hv
 rcases hv with⟨h1,rfl,-⟩|⟨-,b,o,cap,⟨sp,rfl,hsp⟩,hc,hst,-⟩
 ·have hl:=hw.len
  subst h1
  have:m=[]:=Xs (by rw[<-hl];rfl)
  subst this
  exact .inl ⟨rfl,rfl,trivial⟩
 ·have hl:=hw.len
  refine .inr ⟨trivial,b,o,cap,⟨sp,by rw[hl],?_⟩,by rw[<-hl];exact hc,TY hw _ hst,trivial⟩
  rcases hsp with q|⟨q,q2⟩
  ·exact .inl q
  ·refine .inr ⟨?_,.inr ⟨e,rfl⟩⟩
   subst q
   exact Xs (by rw[<-hl];rfl)
theorem TZ {cells l:List Int} {p:Int} (hp:List.Pairwise (λx y=>x<y) cells) (hl:∀q∈l,q∈cells) (hc:p∈cells):(B4 cells l).contains (lowB cells p:Int)=l.contains p:=by
 rw[XI,XS,XS]
 unfold B4
 rw[Xg]
 constructor
 ·rintro⟨q,hq,e⟩
  have:=WS hp (hl q hq) hc (by omega)
  rw[<-this];exact hq
 ·exact λh=>⟨p,h,rfl⟩
theorem Kt (cells l:List Int):(B4 cells l).length=l.length:=W0 ..
def rgsV (cells:List Int) (lists:List (List Int)):AVal:=if(decide (lists.length<=64)&&lists.all (EG cells))=true then .tup [eLl (lists.map (B4 cells)),.int .i64 0]else .tup [eLl [],.int .i64 130]
theorem MK:∀{l m:List Int},l.Nodup->(∀q∈l,q∈m)->l.length<=m.length
 |[],_,_,_=>X1 _
 |a::l,m,hd,hs=>by
  obtain⟨h1,h2⟩:=Yo.1 hd
  have ha:=hs a (by simp)
  have ih:=MK (m:=m.erase a) h2 λq hq=>(List.mem_erase_of_ne (λe:q=a=>by subst e;exact h1 hq)).2 (hs q (by simp [hq]))
  rw[List.length_erase_of_mem ha]at ih
  have:=List.length_pos_of_mem ha
  rw[X6];omega
structure VRg where
 i:Nat
 E:List AVal
 tl:Tok
 H:AB
 n:Nat
structure IRg (g:Grd) (lists:List (List Int)) (v:VRg):Prop where
 hi:v.i<=lists.length
 hn:3<=v.n
 fr:AN v.H v.n
 h0:hget v.H 0=some (.box (AD g.sh g.w g.h g.holes g.cells))
 tok:tkG 1 1 v.H v.tl
 es:v.tl.esz=1\/v.E=[]
 hE:Wks v.E (((lists.take v.i).map (B4 g.cells)).map eIs)
 eq:lists.all (EG g.cells)=(lists.drop v.i).all (EG g.cells)
structure VRi where
 j:Nat
 tc:Tok
 H:AB
 n:Nat
structure IRi (g:Grd) (x:List Int) (H0:AB) (n0:Nat) (v:VRi):Prop where
 hj:v.j<=x.length
 hn:n0+2<=v.n
 fr:AN v.H v.n
 hk:∀id,id<n0->hget v.H id=hget H0 id
 hm:hget v.H n0=some (.map (ctEs (B4 g.cells (x.take v.j)) 0) v.j)
 tok:tkG 1 (n0+1) v.H v.tc
 es:v.tc.esz=1\/v.j=0
 sub:∀q∈x.take v.j,q∈g.cells
 eq:HW g.cells [] x=HW g.cells (x.take v.j) (x.drop v.j)
 nd:(x.take v.j).Nodup
theorem p166 (g:Grd) (lists:List (List Int)) (hG:Aj g.sh g.w g.h g.holes=some g.cells) (hh:few g.holes) (hl:CF lists):Pur Tryz.prog 166 [DL g,eLl lists] (rgsV g.cells lists):=by
 refine .mk ⟨Bm 0 ..,Ay 0 _,trivial⟩ (by unfold rgsV;split<;>exact⟨Ay 0 _,trivial,trivial⟩) (a166 (AF Tgr_ok (AG ?_)))
 obtain⟨hr1,hr2,hr3⟩:=BG hG
 have hfc:few g.cells:=show g.cells.length<_ by omega
 have hgo:grOK g.sh g.w g.h g.holes g.cells=true:=by unfold grOK;rw[hG];simp
 by_cases h64:64<lists.length
 ·have hv:rgsV g.cells lists= .tup [eLl [],.int .i64 130]:=by unfold rgsV;rw[Ww];simp;omega
  have l64:((64:Int)<(lists.length:Int))=True:=W1 (by omega)
  rw[hv]
  simp only[eE,eC,eN,reduceCtorEq,Nat.reduceEqDiff,↓reduceIte,Nat.reduceAdd,W7,W0,c166,Tgr_c,s1,RI,Kr,W1 hh,W1 hfc,hgo,l64]
  exact Wk.tup (.cons (Wk.sl (.inr rfl)) (.cons (Wk.refl _) .nil))
 have l64:((64:Int)<(lists.length:Int))=False:=W9 (by omega)
 simp only[eE,eC,eN,reduceCtorEq,Nat.reduceEqDiff,↓reduceIte,Nat.reduceAdd,W7,W0,c166,Tgr_c,s1,RI,Kr,W1 hh,W1 hfc,hgo,l64]
 have hbad:lists.all (EG g.cells)=false->rgsV g.cells lists= .tup [eLl [],.int .i64 130]:=λq=>by unfold rgsV;rw[q,Bool.and_false,Ww (by decide)]
 refine AV (λv:VRg=>⟨[(2,true,.ptr 0 0),(4,true,.sl v.tl v.E),(22,true,eLl lists),(23,true,.int .i64 lists.length),(24,true,.int .i64 v.i)],v.H,v.n⟩) (IRg g lists) (λv=>lists.length-v.i)
  ⟨0,[],.nil,hset hnil 0 (.box (AD g.sh g.w g.h g.holes g.cells)),3⟩ rfl ⟨X1 _,Wu _,AN.nil.hset (m:=3) (X1 3) (show 0<3 by decide),rfl,.inl rfl,.inr rfl,.nil,rfl⟩ ?_
 rintro⟨i,E,tl,H,n⟩ hI
 have hi:=hI.hi
 have hn:=hI.hn
 have hfr:=hI.fr
 have h0:=hI.h0
 have htk:=hI.tok
 have hes:=hI.es
 have hE:=hI.hE
 have heq:=hI.eq
 simp only at hi hn hfr h0 htk hes hE heq
 by_cases hlt:i<lists.length
 case neg=>
  have hi':i=lists.length:=by omega
  subst hi'
  rw[Y3]at heq
  rw[Xx]at hE
  have hv:rgsV g.cells lists= .tup [eLl (lists.map (B4 g.cells)),.int .i64 0]:=by
   unfold rgsV;rw[heq,X0];simp;omega
  rw[hv]
  simp only[eE,eC,eN,Nat.reduceEqDiff,↓reduceIte,lt_F hlt]
  exact Wk.tup (.cons (Wk.slx hes hE) (.cons (Wk.refl _) .nil))
 have hg:=W4 hlt
 have e:=AL (k:=i) (by omega)
 have hxf:=hl.2 _ (X4 hlt)
 have hxe:=map_take (f:=B4 g.cells) hlt
 rw[Xj hlt,YX]at heq
 generalize hx:lists[i]=x at hg hxf heq hxe
 have hxl:x.length<1125899906842624:=hxf
 have hmk:hget (hset H n (.map [] 0)) 0=some (.box (AD g.sh g.w g.h g.holes g.cells)):=by rw[AA _ _ _ _ (by omega)];exact h0
 simp only[eE,eC,eN,Nat.reduceEqDiff,↓reduceIte,xE,W2,W3,W5,W0,W6,lt_T hlt,hg,fr0 hfr]
 refine AV (λv:VRi=>⟨[(2,true,.ptr 0 0),(4,true,.sl tl E),(8,true,.sl v.tc ((B4 g.cells (x.take v.j)).map eI)),(9,true,.mp n),(22,true,eLl lists),(23,true,.int .i64 lists.length),(24,true,.int .i64 i),(29,true,eIs x),(30,true,.int .i64 x.length),(31,true,.int .i64 v.j)],v.H,v.n⟩)
  (IRi g x H n) (λv=>x.length-v.j) ⟨0,.nil,hset H n (.map [] 0),n+2⟩ rfl ⟨X1 _,Wu _,(hfr.hset (m:=n+2) (by omega) (by omega)),λid hid=>AA _ _ _ _ (by omega),AC ..,.inl rfl,.inr rfl,λq hq=>by(simp at hq),rfl,by simp⟩ ?_
 rintro⟨j,tc,H1,n1⟩ hJ
 have hj:=hJ.hj
 have hn1:=hJ.hn
 have hf1:=hJ.fr
 have hk:=hJ.hk
 have hm:=hJ.hm
 have htc:=hJ.tok
 have hec:=hJ.es
 have hsub:=hJ.sub
 have hme:=hJ.eq
 have hnd:=hJ.nd
 simp only at hj hn1 hf1 hk hm htc hec hsub hme hnd
 have hj256:j<=256:=by
  have:=MK hnd hsub
  rw[Xe]at this
  omega
 have h01:hget H1 0=some (.box (AD g.sh g.w g.h g.holes g.cells)):=by rw[hk 0 (by omega)];exact h0
 by_cases hlj:j<x.length
 ·have hgj:=W4 hlj
  have ej:=AL (k:=j) (by omega)
  have htx:=map_take (f:=λp=>(lowB g.cells p:Int)) hlj
  have htk2:x.take (j+1)=x.take j++[x[j]]:=by rw[XA,hgj];rfl
  rw[Xj hlj,HW]at hme
  have hlen:(B4 g.cells (x.take j)).length=j:=by rw[Kt,Xe];omega
  generalize hp:x[j]=p at hgj htx htk2 hme
  have hno:(g.cells.contains p&& !(x.take j).contains p)=false->rgsV g.cells lists= .tup [eLl [],.int .i64 130]:=λq=>hbad (by
   rw[heq,Jg,hme,q];simp)
  cases hin:g.cells.contains p with
  |false=>
   rw[hno (by rw[hin];rfl)]
   simp only[eE,eC,eN,eX,reduceCtorEq,Nat.reduceEqDiff,↓reduceIte,Nat.reduceAdd,Nat.reduceLT,W7,Wz,W2,W3,W5,W0,W6,Wv,Wx,lt_T hlj,hgj,h01,Wi,s2,Ax,At,Ci,BT,W1 hfc,W1 hr1,hin]
   exact Wk.tup (.cons (Wk.sl (.inr rfl)) (.cons (Wk.refl _) .nil))
  |true=>
   have hpm:p∈g.cells:=XS.1 hin
   have hcm:=TZ hr1 hsub hpm
   have hmf:A4 (.int .i64 (lowB g.cells p:Int)) (ctEs (B4 g.cells (x.take j)) 0)=if(x.take j).contains p then some (.bool true)else none:=by rw[MF,hcm]
   cases hmt:(x.take j).contains p with
   |true=>
    rw[hno (by rw[hin,hmt];rfl)]
    rw[hmt,X0 rfl]at hmf
    simp only[eE,eC,eN,eX,Nat.reduceEqDiff,↓reduceIte,Nat.reduceAdd,Nat.reduceLT,W7,xE,W2,W3,W5,W0,W6,Wv,Wx,lt_T hlj,hgj,h01,Wi,s2,Ax,At,Ci,BT,W1 hfc,W1 hr1,hin,hm,hmf,RF,xE,KT.is,B6]
    exact Wk.tup (.cons (Wk.sl (.inr rfl)) (.cons (Wk.refl _) .nil))
   |false=>
    rw[hmt,Ww (by decide)]at hmf
    have hms:=ct_set (l:=B4 g.cells (x.take j)) (x:=(lowB g.cells p:Int)) (by rw[hcm];exact hmt)
    rw[hlen]at hms
    have htm:tkG 1 (n+1) (hset H1 n (.map (ctEs (B4 g.cells (x.take j)++[(lowB g.cells p:Int)]) 0) (j+1))) tc:=htc.set (.inl (by omega))
    have q1:Bi (hset H1 n (.map (ctEs (B4 g.cells (x.take j)++[(lowB g.cells p:Int)]) 0) (j+1))) 1 tc=True:=W1 htm.app
    have q2:(j<=35184372088831)=True:=W1 (by omega)
    have q3:An (j+1) 8=True:=W1 (AX (by omega) (by decide))
    have yn:∀k,(n=n1+k)=False:=λk=>W9 (by omega)
    simp only[eE,eC,eN,eX,reduceCtorEq,Nat.reduceEqDiff,↓reduceIte,Nat.reduceAdd,Nat.reduceLeDiff,Nat.reduceMul,Nat.reduceLT,Int.reduceEq,W7,xE,Yx,Option.isSome_none,W2,W3,W5,W0,W6,Wv,Wx,lt_T hlj,hgj,h01,Wi,s2,Ax,At,Ci,BT,W1 hfc,W1 hr1,hin,hm,hmf,RF,xE,KT.is,B6,ej,hms,q1,q2,q3,hlen,yn,fr1 hf1]
    generalize hG2:hset H1 n (.map (ctEs (B4 g.cells (x.take j)++[(lowB g.cells p:Int)]) 0) (j+1))=H2 at htm
    have hf2:AN H2 n1:=by rw[<-hG2];exact hf1.hset (Wu _) (by omega)
    have hk2:∀id,id<n->hget H2 id=hget H id:=λid hid=>by rw[<-hG2,AA _ _ _ _ (by omega)];exact hk id hid
    have hm2:hget H2 n=some (.map (ctEs (B4 g.cells (x.take j)++[(lowB g.cells p:Int)]) 0) (j+1)):=by rw[<-hG2];exact AC ..
    have hct:B4 g.cells (x.take (j+1))=B4 g.cells (x.take j)++[(lowB g.cells p:Int)]:=htx
    refine .mk ⟨j+1,.own (n1+3) 1,hset (AU H2 tc) (n1+3) .tok,n1+5⟩ ?_ ⟨hlj,by simp only[];omega,(Ag htm hf2).hset (m:=n1+5) (by omega) (by omega),λid hid=>?_,?_,.inr (.inr ⟨n1+3,rfl,by omega,AC ..⟩),.inl rfl,λq hq=>?_,?_,?_⟩ (by simp only[];omega)
    ·rw[hct,X3];rfl
    ·simp only[]
     rw[AA _ _ _ _ (by omega),Ad htm (.inl (by omega))];exact hk2 id hid
    ·simp only[]
     rw[AA _ _ _ _ (by omega),Ad htm (.inl (by omega)),hct];exact hm2
    ·simp only[htk2]at hq
     rcases XB.1 hq with q1|q1
     ·exact hsub q q1
     ·rw[Xh.1 q1];exact hpm
    ·simp only[]
     rw[htk2,hme,hin,hmt];rfl
    ·simp only[]
     rw[htk2,Yi]
     refine⟨hnd,by simp,λa ha b hb e=>?_⟩
     rw[Xh]at hb
     subst hb;subst e
     rw[XS.2 ha]at hmt;cases hmt
 have hj':j=x.length:=by omega
 subst hj'
 rw[Y3,Xx]at hme
 rw[Xx]at hm
 have hlx:(B4 g.cells (x.take x.length)).length=x.length:=by rw[Kt,Xx]
 by_cases hx0:x.length=0
 ·have hno:rgsV g.cells lists= .tup [eLl [],.int .i64 130]:=hbad (by rw[heq,Jg,hx0];simp)
  rw[hno]
  simp only[eE,eC,eN,Nat.reduceEqDiff,↓reduceIte,W0,lt_F hlj,hlx,Cj (show((x.length:Nat):Int)=0 by omega)]
  exact Wk.tup (.cons (Wk.sl (.inr rfl)) (.cons (Wk.refl _) .nil))
 have hEl:E.length<=64:=by
  have:=hE.len
  simp only[W0,Xe]at this
  omega
 have ht1:tkG 1 1 H1 tl:=by
  rcases htk with rfl|rfl|⟨id,rfl,h1,h2⟩
  ·exact .inl rfl
  ·exact .inr (.inl rfl)
  ·exact .inr (.inr ⟨id,rfl,h1,by rw[hk id (hfr.lt h2)];exact h2⟩)
 have q1:Bi H1 1 tl=True:=W1 ht1.app
 have q2:(E.length<=35184372088831)=True:=W1 (by omega)
 have q3:An (E.length+1) 24=True:=W1 (AX (by omega) (by decide))
 simp only[eE,eC,eN,reduceCtorEq,Nat.reduceEqDiff,↓reduceIte,Nat.reduceLeDiff,Nat.reduceMul,Nat.reduceLT,Int.reduceEq,W0,lt_F hlj,hlx,Bz (show ¬((x.length:Nat):Int)=0 by omega),e,q1,q2,q3,fr1 hf1]
 refine .mk ⟨i+1,E++[.sl tc ((B4 g.cells x).map eI)],.own (n1+3) 1,hset (AU H1 tl) (n1+3) .tok,n1+5⟩ ?_ ⟨hlt,by simp only[];omega,(Ag ht1 hf1).hset (m:=n1+5) (by omega) (by omega),?_,.inr (.inr ⟨n1+3,rfl,by omega,AC ..⟩),.inl rfl,?_,?_⟩ (by simp only[];omega)
 ·rw[Xx]
 ·simp only[]
  rw[AA _ _ _ _ (by omega),Ad ht1 (.inl (by omega))];exact h01
 ·simp only[]
  rw[hxe,X3]
  exact hE.app (.cons (Wk.sl (hec.imp id λq=>by rw[Yw.1 q];rfl)) .nil)
 ·simp only[]
  have hok:EG g.cells x=true:=by rw[Jg,hme];simp [HW];omega
  rw[heq,hok,YB]
end Go.AM
namespace Go.AM
open Go.Proofs Go.Lib
def idxP (m:Nat) (p:Nat->Bool):List Int:=((List.range m).filter p).map λ(i:Nat)=>(i:Int)
theorem Fa {m:Nat} {p:Nat->Bool} {x:Int}:x∈idxP m p↔∃i:Nat,i<m/\p i=true/\x=(i:Int):=by
 unfold idxP
 rw[Xg]
 constructor
 ·rintro⟨i,hi,rfl⟩
  rw[Y0,XG]at hi
  exact⟨i,hi.1,hi.2,rfl⟩
 ·rintro⟨i,h1,h2,rfl⟩
  exact⟨i,Y0.2 ⟨XG.2 h1,h2⟩,rfl⟩
theorem NO {m:Nat} {p:Nat->Bool} {i:Nat}:(i:Int)∈idxP m p↔i<m/\p i=true:=by
 rw[Fa]
 constructor
 ·rintro⟨j,h1,h2,h3⟩
  have:i=j:=by omega
  subst this;exact⟨h1,h2⟩
 ·rintro⟨h1,h2⟩;exact⟨i,h1,h2,rfl⟩
theorem Hh (m:Nat) (p:Nat->Bool):List.Pairwise (λx y=>x<y) (idxP m p):=by
 unfold idxP
 rw[List.pairwise_map]
 exact(Z5.sublist List.filter_sublist).imp λq=>by omega
theorem Fb (m:Nat) (p:Nat->Bool):idxP (m+1) p=if p m=true then idxP m p++[(m:Int)]else idxP m p:=by
 unfold idxP
 rw[YH,Yb,X3]
 cases h:p m<;>simp [h]
theorem EY (m:Nat) (p:Nat->Bool):(idxP m p).length<=m:=by
 have:=XR p (List.range m)
 simpa [idxP]using this
theorem Iz {m:Nat} {p q:Nat->Bool} (h:∀i,i<m->p i=q i):idxP m p=idxP m q:=by
 unfold idxP
 rw[Z6 λi hi=>h i (XG.1 hi)]
theorem Ta (m:Nat):idxP m (λ_=>true)=(List.range m).map λ(i:Nat)=>(i:Int):=by
 unfold idxP;rw[YT.2 λ_ _=>rfl]
abbrev Spot:=Int×Int
def Jk (sh w p:Int):Spot:=(if sh=2 then p.tmod w-(p.tdiv w).tdiv 2 else p.tmod w,p.tdiv w)
def AQ (sh w:Int) (cells:List Int):List Spot:=cells.map (Jk sh w)
def EM (sh:Int):List Spot:=(([(1,0),(-1,0),(0,1),(0,-1),(1,-1),(-1,1)]:List Spot)).take (if sh=1 then 4 else 6)
def addP (s d:Spot):Spot:=(s.1+d.1,s.2+d.2)
def Du (S:List Spot) (s:Spot):Option Int:=(S.findIdx? λx=>decide (x=s)).map λ(i:Nat)=>(i:Int)
def nbS (sh:Int) (S:List Spot) (s:Spot):List Int:=idxP S.length λb=>(EM sh).any λd=>decide (S[b]?=some (addP s d))
def nbsS (sh:Int) (S:List Spot):List (List Int):=S.map (nbS sh S)
def Bo (S:List Spot) (f:Spot->Option Int) (n:Int):List Int:=idxP S.length λc=>decide (S[c]?.bind f=some n)
def Ku:List Int:=(List.range 49).map λ(k:Nat)=>(k:Int)-16
def Be (S:List Spot) (f:Spot->Option Int):List (List Int):=(Ku.map (Bo S f)).filter λl=>!l.isEmpty
def Oi (w:Int) (S:List Spot):List (List Int):=
 let a:=Bo S (λs=>if s.1=s.2 then some 0 else none) 0
 let b:=Bo S (λs=>if s.1+s.2=w-1 then some 0 else none) 0
 (if a.isEmpty then[]else[a])++(if b.isEmpty||decide (a=b)then[]else[b])
def famS (sh w h:Int) (S:List Spot) (f:Nat):List (List Int):=
 if f=0 then(idxP S.length λ_=>true).map λc=>[c]
 else if f=1 then Be S λs=>some s.2
 else if f=2 then Be S λs=>some s.1
 else if f=3 then(if sh=2 then Be S λs=>some (s.1+s.2)else if w=h then Oi w S else[])
 else if f=4 then nbsS sh S
 else if f=5 then(List.range S.length).map λ(c:Nat)=>idxP S.length λb=>decide (b=c)||((EM sh).any λd=>decide (S[b]?=(S[c]?).map λs=>addP s d))
 else if f=6 then(List.range S.length).flatMap λ(c:Nat)=>(((nbsS sh S)[c]?.getD []).filter λb=>decide ((c:Int)<b)).map λb=>[(c:Int),b]
 else[(idxP S.length λ_=>true)]
theorem EZ {S:List Spot} (hd:S.Nodup) {s:Spot} {i:Nat}:Du S s=some (i:Int)↔S[i]?=some s:=by
 unfold Du
 constructor
 ·intro h
  obtain⟨j,h1,h2⟩:=XE.1 h
  have:j=i:=by omega
  subst this
  obtain⟨hl,h3,-⟩:=Xi.1 h1
  rw[W4 hl,Y7 h3]
 ·intro h
  obtain⟨hl,h1⟩:=Xm.1 h
  have:S.findIdx? (λx=>decide (x=s))=some i:=by
   rw[Xi]
   refine⟨hl,by simp [h1],λj hj=>?_⟩
   simp only[Wy]
   intro h2
   have:=(Yr.1 hd) j i (by omega) hl hj
   exact this (h2.trans h1.symm)
  rw[this];rfl
theorem Kv {S:List Spot} {s:Spot} {x:Int} (h:Du S s=some x):∃i:Nat,x=(i:Int):=by
 unfold Du at h
 obtain⟨j,-,h2⟩:=XE.1 h
 exact⟨j,h2.symm⟩
theorem I0 {S:List Spot} {s:Spot}:Du S s=none↔s∉S:=by
 unfold Du
 rw[YD,XN]
 simp only[XX]
 exact⟨λh hs=>h s hs rfl,λh x hx e=>h (e▸hx)⟩
def GG (sh:Int) (S:List Spot) (s:Spot):List Int:=(EM sh).filterMap λd=>Du S (addP s d)
theorem ML (sh:Int):(EM sh).Nodup:=by
 unfold EM;split<;>decide
theorem Wj {s a b:Spot} (h:addP s a=addP s b):a=b:=by
 unfold addP at h
 simp only[Prod.mk.injEq]at h
 exact Prod.ext (by omega) (by omega)
theorem MM (sh:Int) {S:List Spot} (hd:S.Nodup) (s:Spot):(GG sh S s).Nodup:=by
 unfold GG
 have h:=ML sh
 generalize EM sh=L at h
 induction L with
 |nil=>simp
 |cons d r ih=>
  obtain⟨h1,h2⟩:=Yo.1 h
  rw[List.filterMap_cons]
  cases he:Du S (addP s d)with
  |none=>exact ih h2
  |some x=>
   refine Yo.2 ⟨λhm=>?_,ih h2⟩
   obtain⟨e,he1,he2⟩:=List.mem_filterMap.1 hm
   obtain⟨i,rfl⟩:=Kv he
   have a:=(EZ hd).1 he
   have b:=(EZ hd).1 he2
   rw[a]at b
   have:=Wj (Option.some.inj b)
   subst this;exact h1 he1
theorem RJ {sh:Int} {S:List Spot} (hd:S.Nodup) {s:Spot} {x:Int}:x∈GG sh S s↔x∈nbS sh S s:=by
 unfold GG nbS
 rw[List.mem_filterMap,Fa]
 constructor
 ·rintro⟨d,hm,he⟩
  obtain⟨i,rfl⟩:=Kv he
  have h:=(EZ hd).1 he
  exact⟨i,(Xm.1 h).1,Yz.2 ⟨d,hm,by simp [h]⟩,rfl⟩
 ·rintro⟨i,hi,ha,rfl⟩
  obtain⟨d,hm,he⟩:=Yz.1 ha
  exact⟨d,hm,(EZ hd).2 (Y7 he)⟩
theorem Hi {l m:List Int} (hd:l.Nodup) (hm:List.Pairwise (λx y=>x<y) m) (h:∀x,x∈l↔x∈m):l.mergeSort leI=m:=by
 refine NK ?_ hm λx=>?_
 ·have h1:=FW l
  have h2:(l.mergeSort leI).Nodup:=(YG l leI).nodup_iff.2 hd
  rw[Yr]at h1⊢
  intro i j hi hj hij
  have a:=h1 i j hi hj hij
  have b:=Yr.1 h2 i j hi hj hij
  have b':¬(l.mergeSort leI)[i]=(l.mergeSort leI)[j]:=b
  omega
 ·rw[(YG l leI).mem_iff];exact h x
theorem Oj (sh:Int) {S:List Spot} (hd:S.Nodup) (s:Spot):(GG sh S s).mergeSort leI=nbS sh S s:=Hi (MM sh hd s) (Hh ..) λx=>RJ hd
theorem NP {S:List Spot} {f:Spot->Option Int} {n:Int} {c:Nat}:(c:Int)∈Bo S f n↔∃s,S[c]?=some s/\f s=some n:=by
 unfold Bo
 rw[NO]
 simp only[Wy,Option.bind_eq_some_iff]
 constructor
 ·exact λh=>h.2
 ·rintro⟨s,h1,h2⟩;exact⟨(Xm.1 h1).1,s,h1,h2⟩
theorem MN {S:List Spot} {f:Spot->Option Int} {n:Int}:(Bo S f n).isEmpty=false↔∃s∈S,f s=some n:=by
 rw[List.isEmpty_eq_false_iff_exists_mem]
 constructor
 ·rintro⟨x,hx⟩
  obtain⟨i,-,-,rfl⟩:=Fa.1 hx
  obtain⟨s,h1,h2⟩:=NP.1 hx
  exact⟨s,Xy h1,h2⟩
 ·rintro⟨s,h1,h2⟩
  obtain⟨i,hi,h3⟩:=Xk.1 h1
  exact⟨(i:Int),NP.2 ⟨s,by rw[W4 hi,h3],h2⟩⟩
theorem RK:List.Pairwise (λx y=>x<y) Ku:=by
 unfold Ku
 rw[List.pairwise_map]
 exact Z5.imp λq=>by omega
theorem Tb {n:Int}:n∈Ku↔ -16<=n/\n<=32:=by
 unfold Ku
 rw[Xg]
 constructor
 ·rintro⟨k,hk,rfl⟩
  have:=XG.1 hk
  omega
 ·intro h
  exact⟨(n+16).toNat,XG.2 (by omega),by omega⟩
theorem Tc {S:List Spot} {f:Spot->Option Int} {K:List Int} (hn:K.Nodup) (hk:∀n,n∈K↔∃s∈S,f s=some n) (hb:∀s∈S,∀n,f s=some n-> -16<=n/\n<=32):(K.mergeSort leI).map (Bo S f)=Be S f:=by
 have h:K.mergeSort leI=Ku.filter λn=>!(Bo S f n).isEmpty:=by
  refine Hi hn (RK.sublist List.filter_sublist) λn=>?_
  rw[hk,Y0,Tb,XK,MN]
  exact⟨λq=>let ⟨s,h1,h2⟩:=q;⟨hb s h1 n h2,q⟩,λq=>q.2⟩
 rw[h,Be,List.filter_map];rfl
theorem Td {sh w p q:Int} (hw:1<=w) (hp:0<=p) (hq:0<=q) (h:Jk sh w p=Jk sh w q):p=q:=by
 unfold Jk at h
 simp only[Prod.mk.injEq]at h
 obtain⟨h1,h2⟩:=h
 have e1:=Int.tmod_add_mul_tdiv p w
 have e2:=Int.tmod_add_mul_tdiv q w
 rw[h2]at h1 e1
 split at h1<;>omega
theorem Hj {sh w:Int} {cells:List Int} (hw:1<=w) (hr:List.Pairwise (λx y=>x<y) cells) (h0:∀p∈cells,0<=p):(AQ sh w cells).Nodup:=by
 unfold AQ
 rw[List.Nodup,List.pairwise_map,Yr]
 intro i j hi hj hij e
 have:=Td hw (h0 _ (X4 hi)) (h0 _ (X4 hj)) e
 have:=Yr.1 hr i j hi hj hij
 omega
end Go.AM
namespace Go.AM
open Go.Proofs Go.Lib
def besS (sh:Int) (a b:Spot):Bool:=(EM sh).any λd=>decide (b=addP a d)
def besR (sh:Int) (a b:Spot):Bool:=
 let dx:=b.1-a.1
 let dy:=b.2-a.2
 if sh=1 then decide (dy=0)&&(decide (dx=1)||decide (dx= -1))||decide (dx=0)&&(decide (dy=1)||decide (dy= -1))
 else decide (dx=1)&&decide (dy=0)||decide (dx= -1)&&decide (dy=0)||decide (dx=0)&&decide (dy=1)||decide (dx=0)&&decide (dy= -1)||decide (dx=1)&&decide (dy= -1)||decide (dx= -1)&&decide (dy=1)
theorem Wl (sh:Int) (a b:Spot):besR sh a b=besS sh a b:=by
 obtain⟨a1,a2⟩:=a
 obtain⟨b1,b2⟩:=b
 rw[XI]
 unfold besR besS EM addP
 by_cases h:sh=1
 ·simp only[X0 h,List.take,List.any_cons,List.any_nil,X9,W8,Wy,Prod.mk.injEq,Xa,or_false]
  omega
 ·simp only[Ww h,List.take,List.any_cons,List.any_nil,X9,W8,Wy,Prod.mk.injEq,Xa,or_false]
  omega
theorem nb_bes (sh:Int) (S:List Spot) (s:Spot):nbS sh S s=idxP S.length λb=>match S[b]? with
  |some t=>besS sh s t
  |none=>false:=by
 unfold nbS
 refine Iz λi hi=>?_
 rw[W4 hi]
 unfold besS
 simp only[Option.some.injEq]
theorem Te (sh:Int) (a:Spot):besS sh a a=false:=by
 rw[<-Wl,YZ]
 intro h
 unfold besR at h
 by_cases h1:sh=1
 ·simp only[X0 h1,X9,W8,Wy]at h;omega
 ·simp only[Ww h1,X9,W8,Wy]at h;omega
end Go.AM
namespace Go.AM
open Go.Proofs Go.Lib
def symI (m:Nat):List Int:=(List.range m).map λ(i:Nat)=>(i:Int)
theorem B0 {m:Nat} {s:Int}:s∈symI m↔0<=s/\s<m:=by
 unfold symI
 rw[Xg]
 constructor
 ·rintro⟨i,hi,rfl⟩
  have:=XG.1 hi
  omega
 ·intro h
  exact⟨s.toNat,XG.2 (by omega),by omega⟩
def Ok (m:Nat) (l:List Int):List Int:=(symI m).filter λs=>!l.contains s
def chsE (m:Nat):Nat->List Int->List (List Int)
 |0,l=>[l]
 |j+1,l=>(Ok m l).flatMap λs=>chsE m j (l++[s])
def chs (m n:Nat):List (List Int):=chsE m n []
def chsR (m:Nat):Nat->List (List Int)
 |0=>[[]]
 |n+1=>(chsR m n).flatMap λl=>(Ok m l).map λs=>l++[s]
theorem Kw (m:Nat):∀(j:Nat) (l:List Int),chsE m (j+1) l=(chsE m j l).flatMap λl'=>(Ok m l').map λs=>l'++[s]
 |0,l=>by simp [chsE,YY,List.map_eq_flatMap]
 |j+1,l=>by
  rw[chsE]
  conv=>rhs;rw[chsE]
  rw[List.flatMap_assoc]
  congr 1
  funext s
  exact Kw m j (l++[s])
theorem RL (m:Nat):∀n,chs m n=chsR m n
 |0=>rfl
 |n+1=>by
  unfold chs
  rw[Kw,chsR,<-RL m n];rfl
theorem NQ {m:Nat}:∀{j:Nat} {l x:List Int},x∈chsE m j l->x.length=l.length+j/\(l.Nodup->(∀s∈l,0<=s/\s<m)->x.Nodup/\∀s∈x,0<=s/\s<m)
 |0,l,x,h=>by
  simp only[chsE,Xh]at h
  subst h;exact⟨rfl,λa b=>⟨a,b⟩⟩
 |j+1,l,x,h=>by
  simp only[chsE,List.mem_flatMap]at h
  obtain⟨s,hs,hx⟩:=h
  obtain⟨h1,h2⟩:=NQ hx
  refine⟨by rw[h1,X8];simp;omega,λhd hr=>?_⟩
  unfold Ok at hs
  rw[Y0,B0,XK,YR,XX]at hs
  refine h2 ?_ ?_
  ·rw[Yi]
   refine⟨hd,by simp,λa ha b hb e=>?_⟩
   rw[Xh]at hb
   subst hb;subst e;exact hs.2 ha
  ·intro t ht
   rcases XB.1 ht with q|q
   ·exact hr t q
   ·rw[Xh]at q;subst q;exact hs.1
theorem Hl {m n:Nat} {x:List Int} (h:x∈chs m n):x.length=n/\x.Nodup/\∀s∈x,0<=s/\s<m:=by
 obtain⟨h1,h2⟩:=NQ h
 obtain⟨h3,h4⟩:=h2 Zi (by simp)
 exact⟨by simpa using h1,h3,h4⟩
def at0 (l:List Int) (i:Int):Int:=l[i.toNat]?.getD 0
def BW (bad:Int->Int->Bool):List Int->Bool
 |[]=>false
 |a::r=>(r.any λb=>decide (0<=a)&&decide (0<=b)&&bad a b)||BW bad r
def cOwn (ls l:List Int):Nat:=(l.filter λs=>decide (0<=s)&&ls.contains s).length
def cOth (ls l:List Int):Nat:=(l.filter λs=>decide (0<=s)&& !ls.contains s).length
def cNon (l:List Int):Nat:=(l.filter λs=>decide (s<0)).length
def absI (a:Int):Int:=max a (-a)
def BN (vals:List Int) (k n:Int) (ls l:List Int):Bool:=
 if k=1 then BW (λa b=>decide (a=b)) l
 else if k=2 then decide (cOwn ls l=0)&&decide (cNon l=0)
 else if k=3 then BW (λa b=>decide (absI (at0 vals a-at0 vals b)<n)) l
 else if k=4 then BW (λa b=>decide (at0 vals b<=at0 vals a)) l
 else if k=6 then decide (n<(cOwn ls l:Int))||decide ((l.length:Int)-n<(cOth ls l:Int))
 else false
def Fc (vals:List Int) (q:Cnd) (letters cells:List Int):Bool:=BN vals q.k q.n (q.ls.map (at0 letters)) (q.cs.map (at0 cells))
def Fd (p:Prm) (letters cells:List Int):Bool:=decide (0<=at0 cells p.c)&& !(p.ls.map (at0 letters)).contains (at0 cells p.c)
def Dn (vals:List Int) (x:Lma) (letters cells:List Int):List Bool:=(x.qs.map λq=>Fc vals q letters cells)++x.ps.map λp=>Fd p letters cells
def Az (vals:List Int) (x:Lma) (letters cells:List Int) (i:Int):Bool:=if i<0 then false else(Dn vals x letters cells)[i.toNat]?.getD false
def A3 (vals:List Int) (x:Lma) (letters cells:List Int):Bool:=(Dn vals x letters cells).all λb=>!b
structure ExtC (a b:List Int):Prop where
 len:a.length=b.length
 le:∀(i:Nat) s,a[i]?=some s->0<=s->b[i]?=some s
 neg:∀s∈a,-1<=s
theorem A5 {l:List Int} {i:Int} (h0:0<=i) (h:i<l.length):l[i.toNat]?=some (at0 l i):=by
 unfold at0
 rw[W4 (by omega)];rfl
inductive Ext2:List Int->List Int->Prop
 |nil:Ext2 [] []
 |cons {a b:Int} {l m:List Int}:(0<=a->b=a)->Ext2 l m->Ext2 (a::l) (b::m)
theorem RM {a b:List Int} (h:ExtC a b):∀{cs:List Int},(∀c∈cs,0<=c/\c<a.length)->Ext2 (cs.map (at0 a)) (cs.map (at0 b))
 |[],_=>.nil
 |c::cs,hc=>by
  refine .cons (λh0=>?_) (RM h λd hd=>hc d (by simp [hd]))
  obtain⟨h1,h2⟩:=hc c (by simp)
  have e:=h.le c.toNat _ (A5 h1 h2) h0
  rw[A5 h1 (by rw[<-h.len];exact h2)]at e
  exact Option.some.inj e
theorem Ext2.length:∀{l m:List Int},Ext2 l m->l.length=m.length
 |_,_,.nil=>rfl
 |_,_,.cons _ t=>by rw[X6,X6,t.length]
theorem Ext2.any {p:Int->Bool}:∀{l m:List Int},Ext2 l m->(l.any λb=>decide (0<=b)&&p b)=true->(m.any λb=>decide (0<=b)&&p b)=true
 |_,_,.nil,h=>h
 |_,_,.cons (a:=a) (b:=b) hh t,h=>by
  rw[List.any_cons,X9]at h⊢
  rcases h with h|h
  ·left
   rw[W8,Wy]at h
   rw[hh h.1,W8,Wy];exact h
  ·exact .inr (t.any h)
theorem Ea {bad:Int->Int->Bool}:∀{l m:List Int},Ext2 l m->BW bad l=true->BW bad m=true
 |_,_,.nil,h=>h
 |_,_,.cons (a:=a) (b:=b) (l:=l) (m:=m) hh t,h=>by
  unfold BW at h⊢
  rw[X9]at h⊢
  rcases h with h|h
  ·left
   by_cases ha:0<=a
   ·rw[hh ha]
    have:=t.any (p:=λc=>bad a c) (by simpa [ha]using h)
    simpa [ha]using this
   ·simp [ha]at h
  ·exact .inr (Ea t h)
theorem NR {ls:List Int}:∀{l m:List Int},Ext2 l m->cOwn ls l<=cOwn ls m
 |_,_,.nil=>Wu _
 |_,_,.cons (a:=a) (b:=b) hh t=>by
  have ih:=NR (ls:=ls) t
  unfold cOwn at ih⊢
  rw[XY,XY]
  by_cases ha:0<=a
  ·rw[hh ha]
   split<;>(try simp only[X6])<;>omega
  ·have h1:(decide (0<=a)&&ls.contains a)=false:=by simp [ha]
   rw[h1]
   simp only[Xa,Xl]
   split<;>(try simp only[X6])<;>omega
theorem NS {ls:List Int}:∀{l m:List Int},Ext2 l m->cOth ls l<=cOth ls m
 |_,_,.nil=>Wu _
 |_,_,.cons (a:=a) (b:=b) hh t=>by
  have ih:=NS (ls:=ls) t
  unfold cOth at ih⊢
  rw[XY,XY]
  by_cases ha:0<=a
  ·rw[hh ha]
   split<;>(try simp only[X6])<;>omega
  ·have h1:(decide (0<=a)&& !ls.contains a)=false:=by simp [ha]
   rw[h1]
   simp only[Xa,Xl]
   split<;>(try simp only[X6])<;>omega
theorem NT:∀{l m:List Int},Ext2 l m->cNon l=0->l=m
 |_,_,.nil,_=>rfl
 |_,_,.cons (a:=a) (b:=b) hh t,h=>by
  unfold cNon at h
  rw[XY]at h
  by_cases ha:a<0
  ·simp [ha]at h
  ·have h1:decide (a<0)=false:=by simp [ha]
   rw[h1]at h
   rw[hh (by omega),NT t h]
theorem Ol {vals:List Int} {k n:Int} {ls l m:List Int} (h:Ext2 l m) (hc:BN vals k n ls l=true):BN vals k n ls m=true:=by
 unfold BN at hc⊢
 have hl:=h.length
 by_cases k1:k=1
 ·rw[X0 k1]at hc⊢;exact Ea h hc
 rw[Ww k1]at hc⊢
 by_cases k2:k=2
 ·rw[X0 k2]at hc⊢
  rw[W8,Wy,Wy]at hc
  rw[<-NT h hc.2];simp [hc]
 rw[Ww k2]at hc⊢
 by_cases k3:k=3
 ·rw[X0 k3]at hc⊢;exact Ea h hc
 rw[Ww k3]at hc⊢
 by_cases k4:k=4
 ·rw[X0 k4]at hc⊢;exact Ea h hc
 rw[Ww k4]at hc⊢
 by_cases k6:k=6
 ·rw[X0 k6]at hc⊢
  rw[X9,Wy,Wy]at hc⊢
  have h1:=NR (ls:=ls) h
  have h2:=NS (ls:=ls) h
  omega
 ·rw[Ww k6]at hc;cases hc
theorem MO {p:Prm} {letters a b:List Int} (h:ExtC a b) (hc:0<=p.c/\p.c<a.length) (hd:Fd p letters a=true):Fd p letters b=true:=by
 unfold Fd at hd⊢
 rw[W8,Wy]at hd
 have e:=h.le p.c.toNat _ (A5 hc.1 hc.2) hd.1
 rw[A5 hc.1 (by rw[<-h.len];exact hc.2)]at e
 rw[Option.some.inj e,W8,Wy];exact hd
end Go.AM
namespace Go.AM
open Go.Proofs Go.Lib
structure Cas where
 k:Int
 a:Int
 deriving DecidableEq
def GH:Int:=2
def DM:Int:=1
def DN (x:Lma) (c:Int):Option Prm:=x.ps.find? λp=>decide (p.c=c)
def Bn (m:Nat) (x:Lma) (letters:List Int) (c:Int):List Int:=match DN x c with
 |none=>symI m
 |some p=>(symI m).filter λs=>(p.ls.map (at0 letters)).contains s
def begC (x:Lma) (letters:List Int):List Int:=(List.replicate x.cs.length (-1)).set x.c.toNat (at0 letters x.l)
def seqT (f:Int->List Cas->Option (List Cas)):List Int->List Cas->Option (List Cas)
 |[],l=>some l
 |s::r,l=>(f s l).bind (seqT f r)
def BU (vals:List Int) (x:Lma) (letters:List Int):Nat->List Int->List Cas->Option (List Cas)
 |_,_,[]=>none
 |f,cells,n::l=>
  if n.k=GH then(if Az vals x letters cells n.a then some l else none)
  else if n.k=DM/\0<=n.a/\n.a<cells.length/\at0 cells n.a<0 then
   match f with
   |0=>none
   |f+1=>seqT (λs l=>BU vals x letters f (cells.set n.a.toNat s) l) (Bn vals.length x letters n.a) l
  else none
def CU (vals:List Int) (x:Lma) (trees:List (List Cas)):Bool:=
 decide ((chs vals.length x.ls.length).length=trees.length)&&(((chs vals.length x.ls.length).zip trees).all λq=>decide (BU vals x q.1 x.cs.length (begC x q.1) q.2=some []))
def tryP (vals:List Int) (x:Lma) (letters:List Int):Nat->Nat->List Int->Bool
 |j,i,cells=>if A3 vals x letters cells then(match j with
   |0=>true
   |j+1=>if(i:Int)=x.c then tryP vals x letters j (i+1) cells else(symI vals.length).any λs=>tryP vals x letters j (i+1) (cells.set i s))
  else false
def C5 (vals:List Int) (x:Lma):Bool:=(chs vals.length x.ls.length).all λletters=>!tryP vals x letters x.cs.length 0 (begC x letters)
structure Refutes (vals:List Int) (x:Lma) (letters c:List Int):Prop where
 len:c.length=x.cs.length
 rng:∀s∈c,0<=s/\s<vals.length
 con:at0 c x.c=at0 letters x.l
 ok:A3 vals x letters c=true
theorem Fv {vals:List Int} {x:Lma} {letters a b:List Int} (hx:OKL x) (h:ExtC a b) (hl:a.length=x.cs.length) {i:Nat} (hi:(Dn vals x letters a)[i]?=some true):(Dn vals x letters b)[i]?=some true:=by
 unfold Dn at hi⊢
 rw[List.getElem?_append]at hi⊢
 simp only[W0]at hi⊢
 split at hi
 ·rename_i hlt
  rw[X0 hlt]
  rw[W6,XE]at hi⊢
  obtain⟨q,h1,h2⟩:=hi
  refine⟨q,h1,?_⟩
  have hq:=Q4 (hx.qs q (Xy h1))
  refine Ol (RM h λc hc=>?_) h2
  have:=X2.1 (Dg hq.cs) c hc
  simp only[W8,Wy]at this
  rw[hl];exact this
 ·rename_i hlt
  rw[Ww hlt]
  rw[W6,XE]at hi⊢
  obtain⟨p,h1,h2⟩:=hi
  refine⟨p,h1,MO h ?_ h2⟩
  have:=X2.1 (Dg hx.pc) p.c (Xg.2 ⟨p,Xy h1,rfl⟩)
  simp only[W8,Wy]at this
  rw[hl];exact this
theorem Om {vals:List Int} {x:Lma} {letters a b:List Int} (hx:OKL x) (h:ExtC a b) (hl:a.length=x.cs.length) (hb:A3 vals x letters b=true):A3 vals x letters a=true:=by
 unfold A3 at hb⊢
 rw[X2]at hb⊢
 intro c hc
 cases c with
 |false=>rfl
 |true=>
  obtain⟨i,hi,h1⟩:=Xk.1 hc
  have h2:=Fv hx h hl (vals:=vals) (letters:=letters) (i:=i) (by rw[W4 hi,h1])
  have:=hb true (Xy h2)
  cases this
theorem RN {a b:List Int} {i:Nat} {s:Int} (h:ExtC a b) (hb:b[i]?=some s) (hs:0<=s) (ha:∀t,a[i]?=some t->t<0):ExtC (a.set i s) b:=by
 have hi:i<b.length:=(Xm.1 hb).1
 refine⟨by rw[XZ];exact h.len,λj t hj h0=>?_,λt ht=>?_⟩
 ·rw[XP]at hj
  split at hj
  ·rename_i e
   subst e
   split at hj
   ·cases hj;exact hb
   ·cases hj
  ·exact h.le j t hj h0
 ·rcases Y5 ht with q|q
  ·exact h.neg t q
  ·omega
theorem Eb (x:Lma) (letters:List Int):(begC x letters).length=x.cs.length:=by unfold begC;simp
theorem RO {vals:List Int} {x:Lma} {letters c:List Int} (hx:OKL x) (hl0:0<=at0 letters x.l) (h:Refutes vals x letters c):ExtC (begC x letters) c:=by
 have hcl:=hx.c
 refine⟨by rw[Eb,h.len],λi s hi h0=>?_,λs hs=>?_⟩
 ·unfold begC at hi
  rw[XP]at hi
  split at hi
  ·rename_i e
   split at hi
   ·cases hi
    have:=A5 (l:=c) (i:=x.c) hcl.1 (by rw[h.len];exact hcl.2)
    rw[<-e,this,h.con]
   ·cases hi
  ·rw[List.getElem?_replicate]at hi
   split at hi
   ·cases hi;omega
   ·cases hi
 ·unfold begC at hs
  rcases Y5 hs with q|q
  ·rw[YW]at q;omega
  ·omega
theorem MP {vals:List Int} {x:Lma} {letters c:List Int} (hx:OKL x) (hok:A3 vals x letters c=true) {i:Int} {s:Int} (hs:at0 c i=s) (h0:0<=s) (hm:s<vals.length):s∈Bn vals.length x letters i:=by
 unfold Bn
 have hsy:s∈symI vals.length:=B0.2 ⟨h0,hm⟩
 split
 ·exact hsy
 ·rename_i p hp
  rw[Y0]
  refine⟨hsy,?_⟩
  unfold DN at hp
  have h1:=List.mem_of_find?_eq_some hp
  have h2:=List.find?_some hp
  simp only[Wy]at h2
  unfold A3 at hok
  have:=X2.1 hok (Fd p letters c) (XB.2 (.inr (Xg.2 ⟨p,h1,rfl⟩)))
  unfold Fd at this
  rw[h2,hs]at this
  simp only[XK,Bool.and_eq_false_iff,XX,Bool.not_eq_false']at this
  exact this.resolve_left λq=>q h0
theorem I1 {vals:List Int} {x:Lma} {letters:List Int} (hx:OKL x):∀(f:Nat) (cells:List Int) (l r:List Cas),BU vals x letters f cells l=some r->cells.length=x.cs.length->∀c,Refutes vals x letters c->¬ExtC cells c
 |f,cells,[],r,h,_,c,hc=>by rw[BU]at h;cases h
 |0,cells,n::l,r,h,hl,c,hc=>by
  intro he
  rw[BU]at h
  split at h
  ·split at h
   ·rename_i hk hcomp
    unfold Az at hcomp
    split at hcomp
    ·cases hcomp
    ·have h1:(Dn vals x letters cells)[n.a.toNat]?=some true:=by
      cases q:(Dn vals x letters cells)[n.a.toNat]? with
      |none=>rw[q]at hcomp;cases hcomp
      |some b=>rw[q]at hcomp;simp only[W2]at hcomp;rw[hcomp]
     have h2:=Fv hx he hl h1
     have:=X2.1 hc.ok true (Xy h2)
     cases this
   ·cases h
  ·split at h<;>cases h
 |f+1,cells,n::l,r,h,hl,c,hc=>by
  intro he
  rw[BU]at h
  split at h
  ·split at h
   ·rename_i hk hcomp
    unfold Az at hcomp
    split at hcomp
    ·cases hcomp
    ·have h1:(Dn vals x letters cells)[n.a.toNat]?=some true:=by
      cases q:(Dn vals x letters cells)[n.a.toNat]? with
      |none=>rw[q]at hcomp;cases hcomp
      |some b=>rw[q]at hcomp;simp only[W2]at hcomp;rw[hcomp]
     have h2:=Fv hx he hl h1
     have:=X2.1 hc.ok true (Xy h2)
     cases this
   ·cases h
  ·split at h
   ·rename_i hk hsp
    obtain⟨-,h0,h1,h2⟩:=hsp
    have hlc:n.a<c.length:=by rw[<-he.len];exact h1
    have hg:=A5 h0 hlc
    have hmem:=Xy hg
    have hr:=hc.rng _ hmem
    have hcon:=MP hx hc.ok (i:=n.a) rfl hr.1 hr.2
    have hseq:∀(ss:List Int) (l r:List Cas),seqT (λs l=>BU vals x letters f (cells.set n.a.toNat s) l) ss l=some r->∀s∈ss,∃l1 r1,BU vals x letters f (cells.set n.a.toNat s) l1=some r1:=by
     intro ss
     induction ss with
     |nil=>intro l r _ s hs;cases hs
     |cons t ss ih=>
      intro l r hq s hs
      rw[seqT]at hq
      obtain⟨l1,q1,q2⟩:=Option.bind_eq_some_iff.1 hq
      rcases Xo.1 hs with e|e
      ·subst e;exact⟨l,l1,q1⟩
      ·exact ih l1 r q2 s e
    obtain⟨l1,r1,ht⟩:=hseq _ _ _ h _ hcon
    refine I1 hx f _ l1 r1 ht (by rw[XZ];exact hl) c hc (RN he hg hr.1 λt ht=>?_)
    have hgc:=A5 h0 h1
    rw[hgc]at ht;cases ht;exact h2
   ·cases h
theorem Cp {vals:List Int} {x:Lma} {letters:List Int} (hx:OKL x) (hl:letters∈chs vals.length x.ls.length):0<=at0 letters x.l/\at0 letters x.l<vals.length:=by
 obtain⟨h1,-,h3⟩:=Hl hl
 exact h3 _ (Xy (A5 hx.l.1 (by rw[h1];exact hx.l.2)))
theorem MQ {vals:List Int} {x:Lma} {trees:List (List Cas)} (hx:OKL x) (h:CU vals x trees=true) {letters:List Int} (hl:letters∈chs vals.length x.ls.length):∀c,¬Refutes vals x letters c:=by
 intro c hc
 unfold CU at h
 rw[W8,Wy,X2]at h
 obtain⟨i,hi,h1⟩:=Xk.1 hl
 have hz:(letters,trees[i]'(by omega))∈(chs vals.length x.ls.length).zip trees:=by
  rw[Xk]
  exact⟨i,by rw[List.length_zip];omega,by rw[List.getElem_zip,h1]⟩
 have:=Y7 (h.2 _ hz)
 exact I1 hx _ _ _ _ this (Eb ..) c hc (RO hx (Cp hx hl).1 hc)
end Go.AM
namespace Go.AM
open Go.Proofs Go.Lib
structure Sofar (vals:List Int) (x:Lma) (letters:List Int) (i:Nat) (cells:List Int):Prop where
 len:cells.length=x.cs.length
 con:at0 cells x.c=at0 letters x.l
 lo:∀(k:Nat) s,cells[k]?=some s->k<i\/(k:Int)=x.c->0<=s/\s<vals.length
 hi:∀(k:Nat) s,cells[k]?=some s->i<=k->(k:Int)≠x.c->s= -1
theorem Kx {vals:List Int} {x:Lma} {letters:List Int} (hx:OKL x) (hl:letters∈chs vals.length x.ls.length):Sofar vals x letters 0 (begC x letters):=by
 have hb:=Cp hx hl
 have hc:=hx.c
 refine⟨Eb ..,?_,λk s hk h=>?_,λk s hk _ hne=>?_⟩
 ·unfold begC at0
  rw[XP,X0 rfl,X0 (by rw[Y1];omega)];rfl
 ·rcases h with h|h
  ·omega
  ·unfold begC at hk
   rw[XP,X0 (by omega)]at hk
   split at hk
   ·cases hk;exact hb
   ·cases hk
 ·unfold begC at hk
  rw[XP,Ww (by omega),List.getElem?_replicate]at hk
  split at hk
  ·cases hk;rfl
  ·cases hk
theorem Kz {vals:List Int} {x:Lma} {letters:List Int} {i:Nat} {cells:List Int} {s:Int} (h:Sofar vals x letters i cells) (hx:OKL x) (hne:(i:Int)≠x.c) (h0:0<=s) (hm:s<vals.length):Sofar vals x letters (i+1) (cells.set i s):=by
 have hc:=hx.c
 refine⟨by rw[XZ];exact h.len,?_,λk t hk hq=>?_,λk t hk hle hq=>?_⟩
 ·have:=h.con
  unfold at0 at this⊢
  rw[XP,Ww (by omega)];exact this
 ·rw[XP]at hk
  split at hk
  ·split at hk
   ·cases hk;exact⟨h0,hm⟩
   ·cases hk
  ·exact h.lo k t hk (by omega)
 ·rw[XP,Ww (by omega)]at hk
  exact h.hi k t hk (by omega) hq
theorem On {vals:List Int} {x:Lma} {letters:List Int} {i:Nat} {cells:List Int} (h:Sofar vals x letters i cells) (he:(i:Int)=x.c):Sofar vals x letters (i+1) cells:=
 ⟨h.len,h.con,λk t hk hq=>h.lo k t hk (by omega),λk t hk hle hq=>h.hi k t hk (by omega) hq⟩
theorem Hm {vals:List Int} {x:Lma} {letters:List Int} {i:Nat} {cells:List Int} (h:Sofar vals x letters i cells):∀s∈cells,-1<=s:=by
 intro s hs
 obtain⟨k,hk,e⟩:=Xk.1 hs
 have hk':cells[k]?=some s:=by rw[W4 hk,e]
 by_cases q:k<i\/(k:Int)=x.c
 ·have:=h.lo k s hk' q;omega
 ·have:=h.hi k s hk' (by omega) (by omega);omega
theorem Jl {vals:List Int} {x:Lma} {letters:List Int} (hx:OKL x):∀(j i:Nat) (cells:List Int),i+j=x.cs.length->Sofar vals x letters i cells->(tryP vals x letters j i cells=true↔∃c,Refutes vals x letters c/\ExtC cells c)
 |0,i,cells,hij,hs=>by
  have hall:∀s∈cells,0<=s/\s<vals.length:=λs hm=>by
   obtain⟨k,hk,e⟩:=Xk.1 hm
   have:=hs.len
   exact hs.lo k s (by rw[W4 hk,e]) (by omega)
  have hfull:∀c,ExtC cells c->c=cells:=λc he=>by
   refine YN λk=>?_
   by_cases hk:k<cells.length
   ·have h1:=W4 hk
    rw[h1]
    exact he.le k _ h1 (hall _ (X4 hk)).1
   ·rw[XU (by have:=he.len;omega),XU (by omega)]
  rw[tryP]
  constructor
  ·intro h
   have hb:A3 vals x letters cells=true:=by
    split at h
    ·assumption
    ·cases h
   exact⟨cells,⟨hs.len,hall,hs.con,hb⟩,rfl,λ_ _ h _=>h,Hm hs⟩
  ·rintro⟨c,hc,he⟩
   have:=hfull c he
   subst this
   rw[X0 hc.ok]
 |j+1,i,cells,hij,hs=>by
  rw[tryP]
  have hmono:∀c,Refutes vals x letters c->ExtC cells c->A3 vals x letters cells=true:=λc hc he=>Om hx he hs.len hc.ok
  by_cases hi:(i:Int)=x.c
  ·have ih:=Jl hx j (i+1) cells (by omega) (On hs hi)
   constructor
   ·intro h
    by_cases hb:A3 vals x letters cells=true
    ·rw[X0 hb]at h
     simp only[X0 hi]at h;exact ih.1 h
    ·rw[Ww hb]at h;cases h
   ·rintro⟨c,hc,he⟩
    rw[X0 (hmono c hc he)]
    simp only[X0 hi]
    exact ih.2 ⟨c,hc,he⟩
  ·have hil:i<cells.length:=by have:=hs.len;omega
   have hg:cells[i]?=some (-1):=by
    have:=W4 hil
    rw[this,hs.hi i _ this (Wu _) hi]
   constructor
   ·intro h
    by_cases hb:A3 vals x letters cells=true
    ·rw[X0 hb]at h
     simp only[Ww hi]at h
     obtain⟨s,hm,h1⟩:=Yz.1 h
     have hr:=B0.1 hm
     obtain⟨c,hc,he⟩:=(Jl hx j (i+1) _ (by omega) (Kz hs hx hi hr.1 hr.2)).1 h1
     refine⟨c,hc,by have:=he.len;rw[XZ]at this;exact this,λk t hk h0=>?_,Hm hs⟩
     by_cases e:i=k
     ·subst e;rw[hg]at hk;cases hk;omega
     ·exact he.le k t (by rw[XP,Ww e];exact hk) h0
    ·rw[Ww hb]at h;cases h
   ·rintro⟨c,hc,he⟩
    rw[X0 (hmono c hc he)]
    simp only[Ww hi]
    have hic:i<c.length:=by rw[<-he.len];exact hil
    have hr:=hc.rng _ (X4 hic)
    rw[Yz]
    refine⟨c[i],B0.2 hr,(Jl hx j (i+1) _ (by omega) (Kz hs hx hi hr.1 hr.2)).2 ⟨c,hc,RN he (W4 hic) hr.1 λt ht=>?_⟩⟩
    rw[hg]at ht;cases ht;omega
theorem RP {vals:List Int} {x:Lma} {letters:List Int} (hx:OKL x) (hl:letters∈chs vals.length x.ls.length):tryP vals x letters x.cs.length 0 (begC x letters)=true↔∃c,Refutes vals x letters c:=by
 rw[Jl hx _ _ _ (XH _) (Kx hx hl)]
 exact⟨λ⟨c,hc,_⟩=>⟨c,hc⟩,λ⟨c,hc⟩=>⟨c,hc,RO hx (Cp hx hl).1 hc⟩⟩
theorem EN {vals:List Int} {x:Lma} (hx:OKL x):C5 vals x=true↔∀letters∈chs vals.length x.ls.length,∀c,¬Refutes vals x letters c:=by
 unfold C5
 rw[X2]
 constructor
 ·intro h letters hl c hc
  have h1:=h letters hl
  rw[XK]at h1
  have:=(RP hx hl).2 ⟨c,hc⟩
  rw[h1]at this;cases this
 ·intro h letters hl
  rw[XK]
  cases q:tryP vals x letters x.cs.length 0 (begC x letters)with
  |false=>rfl
  |true=>
   obtain⟨c,hc⟩:=(RP hx hl).1 q
   exact absurd hc (h letters hl c)
theorem Oo {vals:List Int} {x:Lma} {trees:List (List Cas)} (hx:OKL x) (h:CU vals x trees=true):C5 vals x=true:=
 (EN hx).2 λletters hl c=>MQ hx h hl c
end Go.AM
namespace Go.AM
open Go.Proofs Go.Lib
def DO (vals:List Int) (x:Lma) (letters cells:List Int):Option Nat:=(Dn vals x letters cells).findIdx? λb=>b
def GU (cells:List Int):Option Nat:=cells.findIdx? λs=>decide (s<0)
def catT (f:Int->Option (List Cas)):List Int->Option (List Cas)
 |[]=>some []
 |s::r=>match f s with
  |none=>none
  |some a=>(catT f r).map λb=>a++b
def B1 (vals:List Int) (x:Lma) (letters:List Int):Nat->List Int->Option (List Cas)
 |f,cells=>match DO vals x letters cells with
  |some c=>some [⟨GH,c⟩]
  |none=>match GU cells with
   |none=>none
   |some i=>match f with
    |0=>none
    |f+1=>(catT (λs=>B1 vals x letters f (cells.set i s)) (Bn vals.length x letters i)).map λt=>⟨DM,i⟩::t
theorem I2 {vals:List Int} {x:Lma} {letters cells:List Int} {c:Nat} (h:DO vals x letters cells=some c):Az vals x letters cells c=true:=by
 unfold DO at h
 obtain⟨h1,h2,-⟩:=Xi.1 h
 unfold Az
 rw[Ww (by omega),W3,W4 h1]
 exact h2
theorem Ec {vals:List Int} {x:Lma} {letters cells:List Int}:DO vals x letters cells=none↔A3 vals x letters cells=true:=by
 unfold DO A3
 rw[XN,X2]
 exact⟨λh b hb=>by rw[h b hb];rfl,λh b hb=>by have:=h b hb;rwa[XK]at this⟩
theorem Fe {cells:List Int} {i:Nat} (h:GU cells=some i):∃s,cells[i]?=some s/\s<0:=by
 unfold GU at h
 obtain⟨h1,h2,-⟩:=Xi.1 h
 exact⟨cells[i],W4 h1,Y7 h2⟩
theorem RQ {cells:List Int} (h:GU cells=none):∀s∈cells,0<=s:=by
 unfold GU at h
 rw[XN]at h
 intro s hs
 have:=h s hs
 rw[XX]at this
 omega
theorem Oq {vals:List Int} {x:Lma} {letters:List Int}:∀(f:Nat) (cells:List Int) (t r:List Cas),B1 vals x letters f cells=some t->BU vals x letters f cells (t++r)=some r:=by
 intro f
 induction f with
 |zero=>
  intro cells t r h
  rw[B1]at h
  split at h
  ·rename_i c hc
   cases h
   rw[List.singleton_append,BU,X0 rfl,X0 (I2 hc)]
  ·split at h
   ·cases h
   ·cases h
 |succ f ih=>
  intro cells t r h
  rw[B1]at h
  split at h
  ·rename_i c hc
   cases h
   rw[List.singleton_append,BU,X0 rfl,X0 (I2 hc)]
  ·split at h
   ·cases h
   ·rename_i i hi
    obtain⟨t',h1,rfl⟩:=XE.1 h
    obtain⟨s0,hs0,hneg⟩:=Fe hi
    have hil:=(Xm.1 hs0).1
    have hat:at0 cells (i:Int)<0:=by unfold at0;rw[W3,hs0];exact hneg
    rw[X5,BU,Ww (show ¬DM=GH by decide),X0 ⟨rfl,show(0:Int)<=i by omega,show(i:Int)<cells.length by omega,hat⟩]
    have key:∀(ss:List Int) (t':List Cas),catT (λs=>B1 vals x letters f (cells.set i s)) ss=some t'->seqT (λs l=>BU vals x letters f (cells.set i s) l) ss (t'++r)=some r:=by
     intro ss
     induction ss with
     |nil=>intro t' hq;rw[catT]at hq;cases hq;rfl
     |cons s ss ih2=>
      intro t' hq
      rw[catT]at hq
      cases hg:B1 vals x letters f (cells.set i s)with
      |none=>rw[hg]at hq;cases hq
      |some a=>
       rw[hg]at hq
       obtain⟨b,h3,rfl⟩:=XE.1 hq
       rw[seqT,Xq,ih _ a (b++r) hg]
       exact ih2 b h3
    exact key _ _ h1
structure Some1 (vals:List Int) (x:Lma) (letters cells:List Int):Prop where
 len:cells.length=x.cs.length
 con:at0 cells x.c=at0 letters x.l
 rng:∀s∈cells,-1<=s/\s<vals.length
 let0:0<=at0 letters x.l
theorem Tf {vals:List Int} {x:Lma} {letters:List Int} (hx:OKL x) (hl:letters∈chs vals.length x.ls.length):Some1 vals x letters (begC x letters):=by
 have h:=Kx hx hl
 have hb:=Cp hx hl
 refine⟨h.len,h.con,λs hs=>⟨Hm h s hs,?_⟩,hb.1⟩
 unfold begC at hs
 rcases Y5 hs with q|q
 ·rw[YW]at q;omega
 ·omega
def negs (cells:List Int):Nat:=(cells.filter λs=>decide (s<0)).length
theorem Gd:∀{cells:List Int} {i:Nat} {s t:Int},cells[i]?=some t->t<0->0<=s->negs (cells.set i s)+1=negs cells
 |[],_,_,_,h,_,_=>by cases h
 |a::l,0,s,t,h,ht,hs=>by
  cases h
  unfold negs
  rw[List.set_cons_zero,XY,XY,Ww (by simpa using hs),X0 (by simpa using ht)];rfl
 |a::l,i+1,s,t,h,ht,hs=>by
  have ih:=Gd (cells:=l) (i:=i) (s:=s) (t:=t) (by simpa using h) ht hs
  unfold negs at ih⊢
  rw[List.set_cons_succ,XY,XY]
  split<;>(try simp only[X6])<;>omega
theorem Or {vals:List Int} {x:Lma} {letters:List Int} {i s:Int} (h:s∈Bn vals.length x letters i):0<=s/\s<vals.length:=by
 unfold Bn at h
 split at h
 ·exact B0.1 h
 ·exact B0.1 (Y0.1 h).1
theorem RU {vals:List Int} {x:Lma} {letters:List Int} (hx:OKL x):∀(f:Nat) (cells:List Int),B1 vals x letters f cells=none->negs cells<=f->Some1 vals x letters cells->∃c,Refutes vals x letters c:=by
 have full:∀cells,DO vals x letters cells=none->GU cells=none->Some1 vals x letters cells->∃c,Refutes vals x letters c:=λcells h1 h2 hs=>
  ⟨cells,hs.len,λs hm=>⟨RQ h2 s hm,(hs.rng s hm).2⟩,hs.con,Ec.1 h1⟩
 intro f
 induction f with
 |zero=>
  intro cells h hn hs
  rw[B1]at h
  split at h
  ·cases h
  ·rename_i hc
   cases hf:GU cells with
   |none=>exact full cells hc hf hs
   |some i=>
    obtain⟨s0,hs0,hneg⟩:=Fe hf
    have:s0∈cells.filter λs=>decide (s<0):=Y0.2 ⟨Xy hs0,by simpa using hneg⟩
    have h0:cells.filter (λs=>decide (s<0))=[]:=Xs (by unfold negs at hn;omega)
    rw[h0]at this;cases this
 |succ f ih=>
  intro cells h hn hs
  rw[B1]at h
  split at h
  ·cases h
  ·rename_i hc
   split at h
   ·rename_i hf;exact full cells hc hf hs
   ·rename_i i hi
    rw[YD]at h
    obtain⟨s0,hs0,hneg⟩:=Fe hi
    have hil:=(Xm.1 hs0).1
    have key:∀ss:List Int,(∀s∈ss,0<=s/\s<(vals.length:Int))->catT (λs=>B1 vals x letters f (cells.set i s)) ss=none->∃c,Refutes vals x letters c:=by
     intro ss
     induction ss with
     |nil=>intro _ hq;rw[catT]at hq;cases hq
     |cons s ss ih2=>
      intro hr hq
      have hsr:=hr s (by simp)
      rw[catT]at hq
      cases hg:B1 vals x letters f (cells.set i s)with
      |none=>
       refine ih _ hg (by have:=Gd hs0 hneg hsr.1;omega) ⟨by rw[XZ];exact hs.len,?_,λt ht=>?_,hs.let0⟩
       ·have hcon:=hs.con
        have h0:=hs.let0
        unfold at0 at hcon⊢
        rw[XP]
        by_cases e:i=x.c.toNat
        ·exfalso
         rw[<-e,hs0,W2]at hcon
         unfold at0 at h0
         omega
        ·rw[Ww e];exact hcon
       ·rcases Y5 ht with q|q
        ·exact hs.rng t q
        ·subst q;omega
      |some a=>
       rw[hg]at hq
       exact ih2 (λt ht=>hr t (by simp [ht])) (YD.1 hq)
    exact key _ (λs hm=>Or hm) h
theorem Jm {x:Lma} {letters:List Int}:negs (begC x letters)<=x.cs.length:=by
 unfold negs
 have:=XR (λs=>decide (s<0)) (begC x letters)
 rw[Eb]at this;exact this
def allT (f:List Int->Option (List Cas)):List (List Int)->Option (List (List Cas))
 |[]=>some []
 |l::r=>match f l with
  |none=>none
  |some t=>(allT f r).map λts=>t::ts
def Bf (ts:List (List Cas)):Nat:=(ts.map List.length).sum
def Ff (vals:List Int) (x:Lma):Option (List (List Cas)):=allT (λletters=>B1 vals x letters x.cs.length (begC x letters)) (chs vals.length x.ls.length)
def K0 (vals:List Int) (x:Lma):Except Int (List (List Cas)):=match Ff vals x with
 |none=>.error 320
 |some ts=>if 65536<Bf ts then .error 2 else .ok ts
theorem Hn {f:List Int->Option (List Cas)}:∀{ls:List (List Int)} {ts:List (List Cas)},allT f ls=some ts->ls.length=ts.length/\∀q∈ls.zip ts,f q.1=some q.2
 |[],ts,h=>by rw[allT]at h;cases h;simp
 |l::r,ts,h=>by
  rw[allT]at h
  cases hf:f l with
  |none=>rw[hf]at h;cases h
  |some t=>
   rw[hf]at h
   obtain⟨b,h1,rfl⟩:=XE.1 h
   obtain⟨h2,h3⟩:=Hn h1
   refine⟨by simp [h2],λq hq=>?_⟩
   rw[Yt,Xo]at hq
   rcases hq with rfl|hq
   ·exact hf
   ·exact h3 q hq
theorem K1 {f:List Int->Option (List Cas)}:∀{ls:List (List Int)},allT f ls=none->∃l∈ls,f l=none
 |[],h=>by rw[allT]at h;cases h
 |l::r,h=>by
  rw[allT]at h
  cases hf:f l with
  |none=>exact⟨l,by simp,hf⟩
  |some t=>
   rw[hf]at h
   obtain⟨l',h1,h2⟩:=K1 (YD.1 h)
   exact⟨l',by simp [h1],h2⟩
theorem Ho {vals:List Int} {x:Lma} {ts:List (List Cas)} (h:Ff vals x=some ts):CU vals x ts=true:=by
 obtain⟨h1,h2⟩:=Hn h
 unfold CU
 rw[W8,Wy,X2]
 refine⟨h1,λq hq=>Xp ?_⟩
 have:=Oq _ _ _ [] (h2 q hq)
 rw[Xf]at this;exact this
theorem Ot {vals:List Int} {x:Lma} (hx:OKL x) (h:Ff vals x=none):∃letters∈chs vals.length x.ls.length,∃c,Refutes vals x letters c:=by
 obtain⟨l,hl,hg⟩:=K1 h
 exact⟨l,hl,RU hx _ _ hg Jm (Tf hx hl)⟩
theorem MR {vals:List Int} {x:Lma} (hx:OKL x):(Ff vals x).isSome=C5 vals x:=by
 cases h:Ff vals x with
 |some ts=>rw[Oo hx (Ho h)];rfl
 |none=>
  obtain⟨l,hl,c,hc⟩:=Ot hx h
  cases hs:C5 vals x with
  |false=>rfl
  |true=>exact absurd hc ((EN hx).1 hs l hl c)
def asgP (m:Nat) (x:Lma) (letters:List Int):Nat->Nat->List Int->List (List Int)
 |0,_,cells=>[cells]
 |j+1,i,cells=>((symI m).filter λs=>decide ((i:Int)≠x.c)||decide (s=at0 letters x.l)).flatMap λs=>asgP m x letters j (i+1) (cells.set i s)
def cexP (vals:List Int) (x:Lma):Option (List Int×List Int):=(chs vals.length x.ls.length).findSome? λletters=>((asgP vals.length x letters x.cs.length 0 (List.replicate x.cs.length 0)).find? λc=>A3 vals x letters c).map λc=>(letters,c)
theorem MS {m:Nat} {x:Lma} {letters:List Int}:∀(j i:Nat) (cells c:List Int),i+j=x.cs.length->cells.length=x.cs.length->(∀(k:Nat) s,cells[k]?=some s->k<i->0<=s/\s<(m:Int)/\((k:Int)=x.c->s=at0 letters x.l))->
  (c∈asgP m x letters j i cells↔c.length=x.cs.length/\(∀(k:Nat) s,c[k]?=some s->0<=s/\s<(m:Int)/\((k:Int)=x.c->s=at0 letters x.l))/\∀k,k<i->c[k]?=cells[k]?)
 |0,i,cells,c,hij,hl,hr=>by
  rw[asgP,Xh]
  constructor
  ·rintro rfl
   exact⟨hl,λk s hk=>hr k s hk (by have:=(Xm.1 hk).1;omega),λ_ _=>rfl⟩
  ·rintro⟨h1,-,h3⟩
   refine YN λk=>?_
   by_cases hk:k<i
   ·exact h3 k hk
   ·rw[XU (by omega),XU (by omega)]
 |j+1,i,cells,c,hij,hl,hr=>by
  rw[asgP,List.mem_flatMap]
  have step:∀s,0<=s/\s<(m:Int)->((i:Int)=x.c->s=at0 letters x.l)->∀(k:Nat) t,(cells.set i s)[k]?=some t->k<i+1->0<=t/\t<(m:Int)/\((k:Int)=x.c->t=at0 letters x.l):=by
   intro s h1 h2 k t hk hlt
   rw[XP]at hk
   split at hk
   ·rename_i e
    split at hk
    ·cases hk;subst e;exact⟨h1.1,h1.2,h2⟩
    ·cases hk
   ·exact hr k t hk (by omega)
  constructor
  ·rintro⟨s,hs,hc⟩
   rw[Y0,B0,X9,Wy,Wy]at hs
   obtain⟨h1,h2,h3⟩:=(MS j (i+1) _ c (by omega) (by rw[XZ];exact hl) (step s hs.1 λe=>hs.2.resolve_left λq=>q e)).1 hc
   exact⟨h1,h2,λk hk=>by rw[h3 k (by omega),XP,Ww (by omega)]⟩
  ·rintro⟨h1,h2,h3⟩
   have hic:i<c.length:=by omega
   have hg:=W4 hic
   have hq:=h2 i _ hg
   refine⟨c[i],?_,(MS j (i+1) _ c (by omega) (by rw[XZ];exact hl) (step _ ⟨hq.1,hq.2.1⟩ hq.2.2)).2 ⟨h1,h2,λk hk=>?_⟩⟩
   ·rw[Y0,B0,X9,Wy,Wy]
    refine⟨⟨hq.1,hq.2.1⟩,?_⟩
    by_cases e:(i:Int)=x.c
    ·exact .inr (hq.2.2 e)
    ·exact .inl e
   ·rw[XP]
    split
    ·rename_i e;subst e
     rw[X0 (by omega),hg]
    ·exact h3 k (by omega)
theorem MT {vals:List Int} {x:Lma} {letters c:List Int} (hx:OKL x) (hl:letters∈chs vals.length x.ls.length):Refutes vals x letters c↔c∈asgP vals.length x letters x.cs.length 0 (List.replicate x.cs.length 0)/\A3 vals x letters c=true:=by
 rw[MS _ _ _ _ (XH _) (by simp) (by intro k s _ h;omega)]
 have hxc:=hx.c
 constructor
 ·intro h
  have hg:=A5 (l:=c) hxc.1 (by rw[h.len];exact hxc.2)
  refine⟨⟨h.len,λk s hk=>?_,λk hk=>by omega⟩,h.ok⟩
  have:=h.rng s (Xy hk)
  refine⟨this.1,this.2,λe=>?_⟩
  have e2:x.c.toNat=k:=by omega
  rw[e2,hk]at hg
  rw[Option.some.inj hg,h.con]
 ·rintro⟨⟨h1,h2,-⟩,h3⟩
  have hg:=A5 (l:=c) hxc.1 (by rw[h1];exact hxc.2)
  refine⟨h1,λs hs=>?_,(h2 _ _ hg).2.2 (by omega),h3⟩
  obtain⟨k,hk,e⟩:=Xk.1 hs
  have:=h2 k s (by rw[W4 hk,e])
  exact⟨this.1,this.2.1⟩
theorem Tg {vals:List Int} {x:Lma} {q:List Int×List Int} (hx:OKL x) (h:cexP vals x=some q):q.1∈chs vals.length x.ls.length/\Refutes vals x q.1 q.2:=by
 unfold cexP at h
 obtain⟨letters,hl,h1⟩:=List.exists_of_findSome?_eq_some h
 obtain⟨c,h2,rfl⟩:=XE.1 h1
 exact⟨hl,(MT hx hl).2 ⟨List.mem_of_find?_eq_some h2,List.find?_some h2⟩⟩
theorem NU {vals:List Int} {x:Lma} (hx:OKL x):cexP vals x=none↔C5 vals x=true:=by
 rw[EN hx]
 unfold cexP
 rw[List.findSome?_eq_none_iff]
 constructor
 ·intro h letters hl c hc
  have h1:=YD.1 (h letters hl)
  rw[List.find?_eq_none]at h1
  obtain⟨h2,h3⟩:=(MT hx hl).1 hc
  exact h1 c h2 h3
 ·intro h letters hl
  rw[YD,List.find?_eq_none]
  intro c hc hh
  exact h letters hl c ((MT hx hl).2 ⟨hc,hh⟩)
theorem Ou {vals:List Int} {x y:Lma} (hx:OKL x) (hy:OKL y) (h1:y.cs=x.cs) (h2:y.ls=x.ls) (h3:y.c=x.c) (h4:y.l=x.l) (h5:∀q∈x.qs,q∈y.qs) (h6:∀p∈x.ps,p∈y.ps) (hs:C5 vals x=true):C5 vals y=true:=by
 rw[EN hx]at hs
 rw[EN hy]
 intro letters hl c hc
 rw[h2]at hl
 refine hs letters hl c ⟨by rw[hc.len,h1],hc.rng,by rw[<-h3,<-h4];exact hc.con,?_⟩
 have hok:=hc.ok
 unfold A3 Dn at hok⊢
 rw[X2]at hok⊢
 intro b hb
 refine hok b ?_
 rw[XB,Xg,Xg]at hb⊢
 rcases hb with⟨q,hq,e⟩|⟨p,hp,e⟩
 ·exact .inl ⟨q,h5 q hq,e⟩
 ·exact .inr ⟨p,h6 p hp,e⟩
end Go.AM
namespace Go.AM
open Go.Proofs Go.Lib
mutual
inductive View (H:AB):AVal->AVal->Prop
 |wk {a b:AVal}:Wk b a->View H a b
 |ref {id e off len cap:Nat} {l:List AVal}:hget H id=some (.arr e l)->off+len<=l.length->len<=cap->View H (.sl (.none e) ((l.drop off).take len)) (.ref id e off len cap)
 |ptr {id off:Nat} {cs:List AVal}:hget H id=some (.box cs)->View H (.ep (cs.drop off)) (.ptr id off)
 |agg {us bs:List AVal}:Views H us bs->View H (.agg us) (.agg bs)
 |fn {f:Fn} {us bs cs ds:List AVal}:Views H us bs->Views H cs ds->View H (.fn f us cs) (.fn f bs ds)
inductive Views (H:AB):List AVal->List AVal->Prop
 |nil:Views H [] []
 |cons {a b:AVal} {us bs:List AVal}:View H a b->Views H us bs->Views H (a::us) (b::bs)
end
mutual
def AVal.flat:AVal->Prop
 | .bool _| .int _ _| .str _| .nilp| .nilfn| .nilifc| .nilmp=>True
 | .agg cs=>flats cs
 | .tup cs=>flats cs
 |_=>False
def flats:List AVal->Prop
 |[]=>True
 |a::us=>a.flat/\flats us
end
mutual
theorem NV {g g':Ghost}:∀(a:AVal) (v:Value),a.flat->VRel g a v->VRel g' a v
 | .bool _,_,_,h=>h
 | .int _ _,_,_,h=>h
 | .str _,_,_,h=>h
 | .nilp,_,_,h=>h
 | .nilfn,_,_,h=>h
 | .nilifc,_,_,h=>h
 | .nilmp,_,_,h=>h
 | .agg cs,_,hf,h=>by
  obtain⟨vs,rfl,h1,h2⟩:=h
  exact⟨vs,rfl,flats_rel cs _ hf h1,h2⟩
 | .tup cs,_,hf,h=>by
  obtain⟨vs,rfl,h1⟩:=h
  exact⟨vs,rfl,flats_rel cs _ hf h1⟩
 | .ptr _ _,_,hf,_=>hf.elim
 | .ep _,_,hf,_=>hf.elim
 | .gp _,_,hf,_=>hf.elim
 | .sl _ _,_,hf,_=>hf.elim
 | .ref _ _ _ _ _,_,hf,_=>hf.elim
 | .ap _ _ _ _,_,hf,_=>hf.elim
 | .fn _ _ _,_,hf,_=>hf.elim
 | .ifc _ _,_,hf,_=>hf.elim
 | .mp _,_,hf,_=>hf.elim
 | .up,_,hf,_=>hf.elim
theorem flats_rel {g g':Ghost}:∀(us:List AVal) (vs:List Value),flats us->VRels g us vs->VRels g' us vs
 |[],_,_,h=>h
 |a::us,_,hf,h=>by
  obtain⟨v,r,rfl,h1,h2⟩:=h
  exact⟨v,r,rfl,NV a v hf.1 h1,flats_rel us r hf.2 h2⟩
end
def allσ (w:World):Nat->Nat->Option Value:=λb o=>w.cell? ⟨b,o,none⟩
section
variable {g:Ghost} {H:AB} {n:Nat} {w:World}
theorem Fg (R:Rel g H n w):JH 0 g ⟨λ_=>none,allσ w⟩:=⟨λ_ _ h=>absurd h (Ye _),λb o v h=>R.σw b o v h⟩
mutual
theorem Th (R:Rel g H n w):∀{a b:AVal} {v:Value},View H a b->a.under 0->VRel g b v->VRel ⟨λ_=>none,allσ w⟩ a v
 |a,b,v,.wk h,hu,hv=>VRel.agree (n:=0) (Fg R) a v hu (h g v hv)
 |_,_,v,.ref (id:=id) (e:=e) (off:=off) (len:=len) (cap:=cap) (l:=l) h1 h2 h3,hu,hv=>by
  obtain⟨L,k1,k2,rfl⟩:=hv
  obtain⟨L',c,ty,j1,j2,j3,j4,j5,j6⟩:=R.obj id _ h1
  rw[k1]at j1;cases j1
  have hlen:((l.drop off).take len).length=len:=by simp;omega
  have hst:=Stab.take len _ _ (Stab.drop off _ _ j6)
  rw[XH]at hst
  refine .inr ⟨trivial,L.blk,off*e,cap,⟨none,by rw[hlen],.inl rfl⟩,by rw[hlen];exact h3,?_,trivial⟩
  have hst2:Stab g e (allσ w L.blk) (off*e) ((l.drop off).take len):=Stab.mono (Ghost.le.refl g) (λo x hx=>by
   show w.cell? ⟨L.blk,o,none⟩=some x
   rw[Af j4];exact hx) e _ _ hst
  exact Stab.agree (n:=0) (Fg R) (λo x h=>h) e _ _ hu.2 hst2
 |_,_,v,.ptr (id:=id) (off:=off) (cs:=cs) h1,hu,hv=>by
  obtain⟨L,k1,k2,rfl⟩:=hv
  obtain⟨L',c,ty,j1,j2,j3,j4,j5,j6⟩:=R.obj id _ h1
  rw[k1]at j1;cases j1
  refine⟨L.blk,off,rfl,?_⟩
  have hd:∀(cs:List AVal) (o k:Nat),PStab g (λo=>c[o]?) o cs->PStab g (λo=>c[o]?) (o+k) (cs.drop k):=by
   intro cs
   induction cs with
   |nil=>intro o k _;rw[List.drop_nil];trivial
   |cons a cs ih=>
    intro o k h
    cases k with
    |zero=>exact h
    |succ k=>rw[List.drop_succ_cons,show o+(k+1)=o+1+k by omega];exact ih (o+1) k h.2
  have h2:=hd cs 0 off j6
  rw[XH]at h2
  have h3:PStab g (allσ w L.blk) off (cs.drop off):=PStab.mono (Ghost.le.refl g) (λo x hx=>by
   show w.cell? ⟨L.blk,o,none⟩=some x
   rw[Af j4];exact hx) _ _ h2
  exact PStab.agree (n:=0) (Fg R) (λo x h=>h) _ _ hu h3
 |_,_,v,.agg h,hu,hv=>by
  obtain⟨vs,rfl,h1,h2⟩:=hv
  exact⟨vs,rfl,views_rel R h hu h1,h2⟩
 |_,_,v,.fn h k,hu,hv=>by
  obtain⟨x,c,rfl,h1,h2⟩:=hv
  exact⟨x,c,rfl,views_rel R h hu.1 h1,views_rel R k hu.2 h2⟩
theorem views_rel (R:Rel g H n w):∀{us bs:List AVal} {vs:List Value},Views H us bs->unders 0 us->VRels g bs vs->VRels ⟨λ_=>none,allσ w⟩ us vs
 |_,_,vs,.nil,_,hv=>hv
 |_,_,vs,.cons h t,hu,hv=>by
  obtain⟨v,r,rfl,h1,h2⟩:=hv
  exact⟨v,r,rfl,Th R h hu.1 h1,views_rel R t hu.2 h2⟩
end
end
theorem Pur.viewF {P:Program} {f:FuncId} {args args':List AVal} {r:AVal} {H:AB} (h:Pur P f args r) (hf:∀g g' v,VRel g r v->VRel g' r v) (hv:Views H args args') (n:Nat):Ab P f args' H n r:=by
 obtain⟨ha,hr,hcb,hc⟩:=h
 refine⟨hcb,λg w vs R hvs=>?_⟩
 have R0:Rel ⟨λ_=>none,allσ w⟩ hnil 0 w:=
  {σw:=λb o v h=>h
   obj:=λ_ _ h=>by simp [hget,hnil]at h
   dom:=λ_ _ h=>by simp at h
   hd:=λ_ _ h=>by simp [hget,hnil]at h
   ap:=λ_ _ _ _ _ _ _ h=>by simp [hget,hnil]at h
   un:=λ_ _ _ _ h=>by simp [hget,hnil]at h
   gl:=λi cs h=>PStab.agree (n:=0) (Fg R) (λo x h=>R.σw i o x h) cs 0 (IR i cs h) (R.gl i cs h)
   gz:=R.gz}
 refine(hc _ w vs R0 (views_rel R hv ha hvs)).mono ?_
 rintro e w' ⟨g',out,H',n',⟨v,rfl,hw⟩,he,hR',-,ht⟩
 cases e with
 |panicked c=>exact he.elim
 |outgrown=>exact he.elim
 |returned x=>
  have hx:VRel g' r x:=hw _ _ he
  have keep:∀(b:Nat) ob,w.heap[b]?=some ob->w'.heap[b]?=some ob:=by
   intro b ob hb
   have hk:=ht.kept b ob hb
   cases ob<;>first|exact hk.resolve_left Cr|skip
   obtain⟨c',h1,h2,h3⟩:=hk
   rw[h1]
   congr 2
   exact Array.ext_getElem? λi=>h3 i Cr
  have inH:∀b o v,w.cell? ⟨b,o,none⟩=some v->b<w.heap.size:=by
   intro b o v hc
   unfold World.cell? at hc
   split at hc
   ·rename_i hb;exact(Xc.1 hb).1
   ·cases hc
  let σ2:Nat->Nat->Option Value:=λb o=>if b<w.heap.size then g.σ b o else g'.σ b o
  have old:∀b o v,g.σ b o=some v->σ2 b o=some v:=λb o v hh=>by
   simp only[σ2];rw[X0 (inH b o v (R.σw b o v hh))];exact hh
  have gle:g.le ⟨g.β,σ2⟩:=⟨λ_ _ h=>h,old⟩
  have hcell:∀b o v,b<w.heap.size->w.cell? ⟨b,o,none⟩=some v->w'.cell? ⟨b,o,none⟩=some v:=by
   intro b o v hb hh
   have e1:=Yj hb
   have e2:=keep b _ e1
   unfold World.cell? at hh⊢
   simp only[e1,e2]at hh⊢
   exact hh
  refine⟨⟨g.β,σ2⟩,.ret r,H,n,⟨rfl,rfl,rfl⟩,hf _ _ x hx,?_,Wu _,?_⟩
  ·refine⟨?_,?_,?_,R.hd,R.ap,?_,R.gl.mono gle,hR'.gz⟩
   ·intro b o v hh
    simp only[σ2]at hh
    split at hh
    ·rename_i hb;exact hcell b o v hb (R.σw b o v hh)
    ·exact hR'.σw b o v hh
   ·intro id ob hob
    have ho:=R.obj id ob hob
    cases ob with
    |box cs=>obtain⟨L,c,e,h1,h2,h3,h4,h5,h6⟩:=ho;exact⟨L,c,e,h1,h2,h3,keep _ _ h4,h5,PStab.mono gle (λ_ _ h=>h) cs 0 h6⟩
    |tok=>obtain⟨L,h1,h2⟩:=ho;exact⟨L,h1,λhlt=>let ⟨c,e,h3,h4⟩:=h2 hlt;⟨c,e,keep _ _ h3,h4⟩⟩
    |arr esz l=>obtain⟨L,c,e,h1,h2,h3,h4,h5,h6⟩:=ho;exact⟨L,c,e,h1,h2,h3,keep _ _ h4,h5,Stab.mono gle (λ_ _ h=>h) esz l 0 h6⟩
    |frz esz l=>obtain⟨L,h1,h2,h3⟩:=ho;exact⟨L,h1,h2,Stab.mono gle (λo x hx=>old L.blk o x hx) esz l 0 h3⟩
    |map es c=>obtain⟨L,es',h1,h2,h3,h4,h5⟩:=ho;exact⟨L,es',h1,h2,h3,keep _ _ h4,MRel.mono gle _ _ h5⟩
    |sit s pos=>obtain⟨L,h1,h2,h3,h4⟩:=ho;exact⟨L,h1,h2,h3,keep _ _ h4⟩
    |mit m c seen last=>obtain⟨L,Lm,h1,h2,h3,h4,h5⟩:=ho;exact⟨L,Lm,h1,h2,h3,keep _ _ h4,h5⟩
    |lp x=>obtain⟨L,h1,h2,h3,h4,r,k1,k2,k3,k4,k5,k6,k7,k8⟩:=ho;exact⟨L,h1,h2,h3,h4,r,keep _ _ k1,k2,k3,k4,k5,k6,A8.mono gle k7,k8⟩
    |dead=>trivial
   ·intro id L hL
    exact⟨(R.dom id L hL).1,λhlt=>Yl ((R.dom id L hL).2 hlt) ht.size⟩
   ·intro id ob L o q1 q2 q3 q4 q5
    have hb:=(R.dom id L q3).2 (by omega)
    show σ2 L.blk o=none
    simp only[σ2]
    rw[X0 hb];exact R.un id ob L o q1 q2 q3 q4 q5
  ·refine⟨gle,λ_ _ h=>.inl h,ht.os,ht.tape,ht.output,ht.size,λb ob hb=>by rw[keep b ob hb];exact Kept.same _ _,λ_ _ _ h=>h,λb o v hb h=>.inl ?_⟩
   have h':σ2 b o=some v:=h
   simp only[σ2]at h'
   rw[X0 hb]at h';exact h'
theorem Pur.view {P:Program} {f:FuncId} {args args':List AVal} {r:AVal} {H:AB} (h:Pur P f args r) (hf:r.flat) (hv:Views H args args') (n:Nat):Ab P f args' H n r:=h.viewF (λ_ _ v=>NV r v hf) hv n
end Go.AM
namespace Go.AM
open Go.Proofs Go.Lib
theorem RV {α:Type} {p:α->Bool} {l:List α} {i:Nat} (h:i<l.length) (hp:p l[i]=true) (hn:∀j (hj:j<l.length),j<i->p l[j]=false):l.findIdx? p=some i:=
 Xi.2 ⟨h,hp,λj hj=>by rw[hn j (by omega) hj];decide⟩
theorem RW {α:Type} {p:α->Bool} {l:List α} (hn:∀j (hj:j<l.length),p l[j]=false):l.findIdx? p=none:=
 XN.2 λx hx=>by obtain⟨j,hj,rfl⟩:=Xk.1 hx;exact hn j hj
def idxG {α:Type} [DecidableEq α] (l:List α) (s:α):Int:=match l.findIdx? (λx=>decide (x=s))with
 |some k=>k
 |none=>-1
theorem Uc (l:List Bs) (s:Bs):idxG l s=idxS l s:=rfl
theorem Fh {α:Type} [DecidableEq α] {l:List α} {s:α} {i:Nat} (h:i<l.length) (hp:l[i]=s) (hn:∀j (hj:j<l.length),j<i->l[j]≠s):idxG l s=i:=by
 unfold idxG
 rw[RV h (by simp [hp]) λj hj hji=>by simp [hn j hj hji]]
theorem K3 {α:Type} [DecidableEq α] {l:List α} {s:α} (hn:∀j (hj:j<l.length),l[j]≠s):idxG l s= -1:=by
 unfold idxG
 rw[RW λj hj=>by simp [hn j hj]]
theorem EO {α:Type} [DecidableEq α]:∀{l:List α},Av l=true↔∀j (hj:j<l.length),idxG l l[j]=(j:Int)
 |[]=>by simp [Av]
 |x::r=>by
  have ih:=EO (l:=r)
  simp only[Av,W8,XK]
  constructor
  ·rintro⟨h1,h2⟩ j hj
   cases j with
   |zero=>exact Fh (i:=0) (by simp) rfl λk _ hk=>by omega
   |succ j=>
    have hj':j<r.length:=by simpa using hj
    refine Fh hj rfl λk hk hkj=>?_
    cases k with
    |zero=>
     intro e
     have:(r.any λy=>decide (y=x))=true:=Yz.2 ⟨r[j],X4 hj',by simpa using e.symm⟩
     rw[h1]at this;cases this
    |succ k=>
     intro e
     have hk':k<r.length:=by simpa using hk
     have e':r[k]=r[j]:=by simpa using e
     have q1:=ih.1 h2 k hk'
     have q2:=ih.1 h2 j hj'
     rw[e']at q1;rw[q1]at q2;omega
  ·intro h
   refine⟨?_,ih.2 λj hj=>?_⟩
   ·rw[YE]
    intro y hy e
    obtain⟨j,hj,rfl⟩:=Xk.1 hy
    have e:r[j]=x:=by simpa using e
    have h0:=h 0 (by simp)
    have:=h (j+1) (by simpa using hj)
    simp only[List.getElem_cons_succ,e]at this
    simp only[List.getElem_cons_zero]at h0
    rw[h0]at this
    omega
   ·have:=h (j+1) (by simpa using hj)
    simp only[List.getElem_cons_succ]at this
    unfold idxG at this⊢
    rw[Z3]at this
    by_cases e:x=r[j]
    ·simp [e]at this;omega
    ·rw[show decide (x=r[j])=false by simp [e]]at this
     simp only[Xa,Xl]at this
     cases hq:r.findIdx? (λx=>decide (x=r[j]))with
     |none=>rw[hq]at this;simp at this;omega
     |some k=>rw[hq]at this;simp at this⊢;omega
theorem p109 (l:List Bs) (s:Bs) (hl:few l):Pur Tryz.prog 109 [eSs l,.str s] (eI (idxS l s)):=by
 refine .mk ⟨⟨trivial,DG 0 l⟩,trivial,trivial⟩ trivial (a109 (AF AH.tnil (AG ?_)))
 simp only[eE,eN,reduceCtorEq,Nat.reduceEqDiff,↓reduceIte,Nat.reduceAdd,W0,c109]
 refine AV (λi:Nat=>⟨[(0,true,eSs l),(1,true,.str s),(7,true,.int .i64 l.length),(8,true,.int .i64 i)],hnil,0⟩)
  (λi=>i<=l.length/\∀j (hj:j<l.length),j<i->l[j]≠s) (λi=>l.length-i) 0 rfl ⟨X1 _,λj hj h=>by omega⟩ ?_
 rintro i ⟨hi,hall⟩
 by_cases hlt:i<l.length
 case neg=>
  simp only[eE,eC,eN,reduceCtorEq,Nat.reduceEqDiff,↓reduceIte,lt_F hlt]
  rw[<-Uc,K3 λj hj=>hall j hj (by omega)]
 have hg:=W4 hlt
 have e:=AL (k:=i) (by omega)
 by_cases hs:l[i]=s
 ·simp only[eE,eC,eN,reduceCtorEq,Nat.reduceEqDiff,↓reduceIte,W2,W3,W5,W0,W6,lt_T hlt,hg,FD,hs]
  rw[<-Uc,Fh hlt hs hall]
 ·simp only[eE,eC,eN,reduceCtorEq,Nat.reduceEqDiff,↓reduceIte,Int.reduceEq,W2,W3,W5,W0,W6,lt_T hlt,hg,FD,show(s=l[i])=False from W9 (Ne.symm hs),e]
  refine .mk (i+1) rfl ⟨hlt,λj hj h=>?_⟩ (by omega)
  by_cases q:j=i
  ·subst q;exact hs
  ·exact hall j hj (by omega)
theorem pw63 (l:List Int) (s:Int) (hl:few l):Pur Tryz.prog 63 [eIs l,eI s] (eI (idxG l s)):=by
 refine .mk ⟨⟨trivial,Cg 0 l⟩,trivial,trivial⟩ trivial (a63 (AF AH.tnil (AG ?_)))
 simp only[eE,eN,reduceCtorEq,Nat.reduceEqDiff,↓reduceIte,Nat.reduceAdd,W0,c63]
 refine AV (λi:Nat=>⟨[(0,true,eIs l),(1,true,eI s),(7,true,.int .i64 l.length),(8,true,.int .i64 i)],hnil,0⟩)
  (λi=>i<=l.length/\∀j (hj:j<l.length),j<i->l[j]≠s) (λi=>l.length-i) 0 rfl ⟨X1 _,λj hj h=>by omega⟩ ?_
 rintro i ⟨hi,hall⟩
 by_cases hlt:i<l.length
 case neg=>
  simp only[eE,eC,eN,reduceCtorEq,Nat.reduceEqDiff,↓reduceIte,lt_F hlt]
  rw[K3 λj hj=>hall j hj (by omega)]
 have hg:=W4 hlt
 have e:=AL (k:=i) (by omega)
 by_cases hs:l[i]=s
 ·simp only[eE,eC,eN,reduceCtorEq,Nat.reduceEqDiff,↓reduceIte,W2,W3,W5,W0,W6,lt_T hlt,hg,hs]
  rw[Fh hlt hs hall]
 ·simp only[eE,eC,eN,reduceCtorEq,Nat.reduceEqDiff,↓reduceIte,Int.reduceEq,W2,W3,W5,W0,W6,lt_T hlt,hg,show(s=l[i])=False from W9 (Ne.symm hs),e]
  refine .mk (i+1) rfl ⟨hlt,λj hj h=>?_⟩ (by omega)
  by_cases q:j=i
  ·subst q;exact hs
  ·exact hall j hj (by omega)
structure Vg where
 i:Nat
 tk:Tok
 H:AB
 n:Nat
structure Ig (e len:Nat) (v:Vg):Prop where
 hi:v.i<=len
 fr:AN v.H v.n
 tok:tkG e 0 v.H v.tk
 es:v.tk.esz=e\/v.i=0
theorem RX {l:List Int} {n:Nat}:difI l n=true↔∀j (hj:j<l.length),0<=l[j]/\l[j]<n/\idxG l l[j]=(j:Int):=by
 unfold difI
 rw[W8,X2,EO]
 constructor
 ·rintro⟨h1,h2⟩ j hj
  have:=h1 _ (X4 hj)
  simp only[W8,Wy]at this
  exact⟨this.1,this.2,h2 j hj⟩
 ·intro h
  refine⟨λx hx=>?_,λj hj=>(h j hj).2.2⟩
  obtain⟨j,hj,rfl⟩:=Xk.1 hx
  simp [(h j hj).1,(h j hj).2.1]
theorem RY {l:List Int} {n:Nat} {j:Nat} (hj:j<l.length) (h:¬(0<=l[j]/\l[j]<n/\idxG l l[j]=(j:Int))):difI l n=false:=by
 cases q:difI l n with
 |false=>rfl
 |true=>exact absurd (RX.1 q j hj) h
def TixI:Tab:=tadd 63 (s2 dIs dI (λa _=>few a) λa s=>eI (idxG a s)) tnil
theorem Wm:AH Tryz.prog TixI:=AH.tnil.add (q2 pw63)
theorem RZ (a:List AVal) (H:AB):TixI 63 a H=s2 dIs dI (λa _=>few a) (λa s=>eI (idxG a s)) a H:=rfl
def indN (l:List Int) (n:Nat) (GN:Int):Bool:=difI l n&&decide (GN<=l.length)
theorem p76 (l:List Int) (n:Nat) (GN:Int) (hl:few l):Pur Tryz.prog 76 [eIs l,.int .i64 n,.int .i64 GN] (.bool (indN l n GN)):=by
 refine .mk ⟨⟨trivial,Cg 0 l⟩,trivial,trivial,trivial⟩ trivial (a76 (AF Wm (AG ?_)))
 simp only[eE,eN,reduceCtorEq,Nat.reduceEqDiff,↓reduceIte,Nat.reduceAdd,W0,c76]
 refine AV (λi:Nat=>⟨[(0,true,eIs l),(1,true,.int .i64 n),(2,true,.int .i64 GN),(9,true,eIs l),(10,true,.int .i64 l.length),(11,true,.int .i64 i)],hnil,0⟩)
  (λi=>i<=l.length/\∀j (hj:j<l.length),j<i->0<=l[j]/\l[j]<n/\idxG l l[j]=(j:Int)) (λi=>l.length-i) 0 rfl ⟨X1 _,λj hj h=>by omega⟩ ?_
 rintro i ⟨hi,hall⟩
 by_cases hlt:i<l.length
 case neg=>
  simp only[eE,eC,eN,reduceCtorEq,Nat.reduceEqDiff,↓reduceIte,W0,lt_F hlt]
  unfold indN
  rw[RX.2 λj hj=>hall j hj (by omega)];rfl
 have hg:=W4 hlt
 have e:=AL (k:=i) (by omega)
 by_cases h1:l[i]<0
 ·simp only[eE,eC,eN,reduceCtorEq,Nat.reduceEqDiff,↓reduceIte,W7,W2,W3,W5,W0,W6,lt_T hlt,hg,h1]
  unfold indN
  rw[RY hlt λq=>by omega];rfl
 by_cases h2:(n:Int)<=l[i]
 ·simp only[eE,eC,eN,reduceCtorEq,Nat.reduceEqDiff,↓reduceIte,W7,W2,W3,W5,W0,W6,lt_T hlt,hg,h1,h2]
  unfold indN
  rw[RY hlt λq=>by omega];rfl
 by_cases h3:idxG l l[i]=(i:Int)
 ·simp only[eE,eC,eN,reduceCtorEq,Nat.reduceEqDiff,↓reduceIte,Int.reduceEq,W7,W2,W3,W5,W0,W6,lt_T hlt,hg,h1,h2,RZ,s2,dIs,dI,okL,decL,Df,As,hl,toI,h3,e]
  refine .mk (i+1) rfl ⟨hlt,λj hj h=>?_⟩ (by omega)
  by_cases q:j=i
  ·subst q;exact⟨by omega,by omega,h3⟩
  ·exact hall j hj (by omega)
 ·simp only[eE,eC,eN,reduceCtorEq,Nat.reduceEqDiff,↓reduceIte,Wz,W2,W3,W5,W0,W6,lt_T hlt,hg,h1,h2,RZ,s2,dIs,dI,okL,decL,Df,As,hl,toI,h3]
  unfold indN
  rw[RY hlt λq=>h3 q.2.2];rfl
def Tnm:Tab:=tadd 74 (s1 dS any1 λs=>.bool (CC s)) (tadd 109 (s2 dSs dS (λa _=>few a) λa s=>eI (idxS a s)) tnil)
theorem Tnm_ok:AH Tryz.prog Tnm:=(AH.tnil.add (q2 p109)).add (q1 λs _=>p74 s)
theorem Ra (a:List AVal) (H:AB):Tnm 109 a H=s2 dSs dS (λa _=>few a) (λa s=>eI (idxS a s)) a H:=rfl
theorem Rb (a:List AVal) (H:AB):Tnm 74 a H=s1 dS any1 (λs=>.bool (CC s)) a H:=rfl
theorem Rd {l:List Bs}:(l.all CC&&Av l)=true↔∀j (hj:j<l.length),CC l[j]=true/\idxS l l[j]=(j:Int):=by
 rw[W8,X2,EO]
 constructor
 ·rintro⟨h1,h2⟩ j hj
  exact⟨h1 _ (X4 hj),h2 j hj⟩
 ·intro h
  refine⟨λx hx=>?_,λj hj=>(h j hj).2⟩
  obtain⟨j,hj,rfl⟩:=Xk.1 hx
  exact(h j hj).1
theorem Ud {l:List Bs} {j:Nat} (hj:j<l.length) (h:¬(CC l[j]=true/\idxS l l[j]=(j:Int))):(l.all CC&&Av l)=false:=by
 cases q:(l.all CC&&Av l)with
 |false=>rfl
 |true=>exact absurd (Rd.1 q j hj) h
theorem p75 (l:List Bs) (most:Nat) (hl:few l):Pur Tryz.prog 75 [eSs l,.int .i64 most] (.bool (CR l most)):=by
 refine .mk ⟨⟨trivial,DG 0 l⟩,trivial,trivial⟩ trivial (a75 (AF Tnm_ok (AG ?_)))
 simp only[eE,eN,reduceCtorEq,Nat.reduceEqDiff,↓reduceIte,Nat.reduceAdd,W0,c75]
 refine AV (λi:Nat=>⟨[(0,true,eSs l),(1,true,.int .i64 most),(7,true,eSs l),(8,true,.int .i64 l.length),(9,true,.int .i64 i)],hnil,0⟩)
  (λi=>i<=l.length/\∀j (hj:j<l.length),j<i->CC l[j]=true/\idxS l l[j]=(j:Int)) (λi=>l.length-i) 0 rfl ⟨X1 _,λj hj h=>by omega⟩ ?_
 rintro i ⟨hi,hall⟩
 by_cases hlt:i<l.length
 case neg=>
  simp only[eE,eC,eN,reduceCtorEq,Nat.reduceEqDiff,↓reduceIte,W0,lt_F hlt]
  unfold CR
  rw[Rd.2 λj hj=>hall j hj (by omega)]
  by_cases h1:1<=l.length<;>by_cases h2:l.length<=most<;>simp [h1,h2]<;>omega
 have hg:=W4 hlt
 have e:=AL (k:=i) (by omega)
 by_cases h1:CC l[i]=true
 ·by_cases h3:idxS l l[i]=(i:Int)
  ·simp only[eE,eC,eN,reduceCtorEq,Nat.reduceEqDiff,↓reduceIte,Int.reduceEq,W7,W2,W3,W5,W0,W6,lt_T hlt,hg,Rb,Ra,s1,s2,dSs,dS,okL,decL,isS,toS,C3,hl,h1,h3,e]
   refine .mk (i+1) rfl ⟨hlt,λj hj h=>?_⟩ (by omega)
   by_cases q:j=i
   ·subst q;exact⟨h1,h3⟩
   ·exact hall j hj (by omega)
  ·simp only[eE,eC,eN,reduceCtorEq,Nat.reduceEqDiff,↓reduceIte,W7,Wz,W2,W3,W5,W0,W6,lt_T hlt,hg,Rb,Ra,s1,s2,dSs,dS,okL,decL,isS,toS,C3,hl,h1,h3]
   unfold CR
   rw[Ud hlt λq=>h3 q.2];rfl
 ·have h1':CC l[i]=false:=by simpa using h1
  simp only[eE,eC,eN,reduceCtorEq,Nat.reduceEqDiff,↓reduceIte,W7,Wz,W2,W3,W5,W0,W6,lt_T hlt,hg,Rb,Ra,s1,s2,dSs,dS,okL,decL,isS,toS,C3,hl,h1']
  unfold CR
  rw[Ud hlt λq=>h1 q.1];rfl
end Go.AM
namespace Go.AM
open Go.Proofs Go.Lib
abbrev encQ (q:Cnd):AVal:=.agg [.int .i64 q.k,eIs q.cs,eIs q.ls,.int .i64 q.n]
abbrev encM (p:Prm):AVal:=.agg [.int .i64 p.c,eIs p.ls]
abbrev encL (x:Lma):AVal:=.agg [.str x.nm,.int .i64 x.lv,eSs x.cs,eSs x.ls,.sl (.none 4) (x.qs.map encQ),.sl (.none 2) (x.ps.map encM),.int .i64 x.c,.int .i64 x.l]
theorem DQ (n:Nat) (q:Cnd):(encQ q).under n:=⟨trivial,⟨trivial,Cg n _⟩,⟨trivial,Cg n _⟩,trivial,trivial⟩
theorem Ed (n:Nat) (p:Prm):(encM p).under n:=⟨trivial,⟨trivial,Cg n _⟩,trivial⟩
theorem Ah (n:Nat) (x:Lma):(encL x).under n:=⟨trivial,trivial,⟨trivial,DG n _⟩,⟨trivial,DG n _⟩,⟨trivial,AY (DQ n) _⟩,⟨trivial,AY (Ed n) _⟩,trivial,trivial,trivial⟩
def decQ:AVal->Cnd
 | .agg [.int _ k,c,l,.int _ n]=>⟨k,GS c,GS l,n⟩
 |_=>⟨0,[],[],0⟩
def decM:AVal->Prm
 | .agg [.int _ c,l]=>⟨c,GS l⟩
 |_=>⟨0,[]⟩
def decX:AVal->Lma
 | .agg [.str nm,.int _ lv,cs,ls,qs,ps,.int _ c,.int _ l]=>⟨nm,lv,Oe cs,Oe ls,ID decQ qs,ID decM ps,c,l⟩
 |_=>⟨[],0,[],[],[],[],0,0⟩
theorem Jn (q:Cnd):decQ (encQ q)=q:=by
 simp only[decQ,GS,As]
theorem Jo (p:Prm):decM (encM p)=p:=by
 simp only[decM,GS,As]
theorem Ck (x:Lma):decX (encL x)=x:=by
 simp only[decX,Oe,ID,C3,Bw Jn,Bw Jo]
def dQ:Dc Cnd:=dEx encQ decQ
def dX:Dc Lma:=dEx encL decX
theorem Ti (q:Cnd):dQ.ok (encQ q)=True:=W1 (by show encQ q=encQ (decQ (encQ q));rw[Jn])
theorem NW (q:Cnd):dQ.dec (encQ q)=q:=Jn q
theorem Hp (x:Lma):dX.ok (encL x)=True:=W1 (by show encL x=encL (decX (encL x));rw[Ck])
theorem EP (x:Lma):dX.dec (encL x)=x:=Ck x
def Tcd:Tab:=tadd 76 (s3 dIs dI dI (λa n _=>few a/\0<=n) λa n k=>.bool (indN a n.toNat k)) tnil
theorem Tcd_ok:AH Tryz.prog Tcd:=AH.tnil.add (q3 λa n k h=>by
 obtain⟨j,rfl⟩:∃j:Nat,n=j:=⟨n.toNat,by omega⟩
 exact p76 a j k h.1)
theorem Fi (a:List AVal) (H:AB):Tcd 76 a H=s3 dIs dI dI (λa n _=>few a/\0<=n) (λa n k=>.bool (indN a n.toNat k)) a H:=rfl
theorem Ue {q:Cnd} {nc nl:Nat} (h:(indN q.cs nc 1&&indN q.ls nl 0)=false):CM q nc nl=false:=by
 unfold CM indN at*
 cases h1:difI q.cs nc<;>cases h2:difI q.ls nl<;>simp [h1,h2]at h⊢
 intro q1;omega
theorem Wn {q:Cnd} {nc nl:Nat} (h1:indN q.cs nc 1=true) (h2:indN q.ls nl 0=true):CM q nc nl=(if q.k=1\/q.k=4 then decide (2<=q.cs.length)&&decide (q.ls.length=0)&&decide (q.n=0)
  else if q.k=2 then decide (q.ls.length=1)&&decide (q.n=0)
  else if q.k=3 then decide (q.cs.length=2)&&decide (q.ls.length=0)&&decide (1<=q.n)&&decide (q.n<=99)
  else if q.k=5 then decide (q.cs.length=2)&&decide (q.ls.length=0)&&decide (q.n=0)
  else if q.k=6 then decide (1<=q.ls.length)&&decide (0<=q.n)&&decide (q.n<=q.cs.length)
  else false):=by
 unfold indN at h1 h2
 simp only[W8,Wy]at h1 h2
 unfold CM
 rw[h1.1,h2.1,Xp (by omega:1<=q.cs.length)]
 rfl
theorem p77 (q:Cnd) (nc nl:Nat) (h1:few q.cs) (h2:few q.ls):Pur Tryz.prog 77 [encQ q,.int .i64 nc,.int .i64 nl] (.bool (CM q nc nl)):=by
 refine .mk ⟨DQ 0 q,trivial,trivial,trivial⟩ trivial (a77 (AF Tcd_ok (AG ?_)))
 cases hb1:indN q.cs nc 1 with
 |false=>
  simp only[eE,eC,eN,reduceCtorEq,Nat.reduceEqDiff,↓reduceIte,Nat.reduceAdd,Nat.reduceLeDiff,W7,Wz,W3,W5,c77,Fi,s3,dIs,dI,okL,decL,Df,As,toI,h1,h2,hb1]
  rw[Ue (by rw[hb1];rfl)]
 |true=>
  cases hb2:indN q.ls nl 0 with
  |false=>
   simp only[eE,eC,eN,reduceCtorEq,Nat.reduceEqDiff,↓reduceIte,Nat.reduceAdd,Nat.reduceLeDiff,W7,Wz,W3,W5,c77,Fi,s3,dIs,dI,okL,decL,Df,As,toI,h1,h2,hb1,hb2]
   rw[Ue (by rw[hb1,hb2];rfl)]
  |true=>
   rw[Wn hb1 hb2]
   obtain⟨k,cs,ls,n⟩:=q
   by_cases k1:k=1
   ·subst k1
    simp only[eE,eC,eN,reduceCtorEq,Nat.reduceEqDiff,↓reduceIte,Nat.reduceAdd,Nat.reduceLeDiff,Int.reduceEq,W7,W3,W5,W0,c77,Fi,s3,dIs,dI,okL,decL,Df,As,toI,h1,h2,hb1,hb2]
    exact(by rw[XI];simp only[W8,Wy];omega)
   by_cases k4:k=4
   ·subst k4
    simp only[eE,eC,eN,reduceCtorEq,Nat.reduceEqDiff,↓reduceIte,Nat.reduceAdd,Nat.reduceLeDiff,Int.reduceEq,W7,W3,W5,W0,c77,Fi,s3,dIs,dI,okL,decL,Df,As,toI,h1,h2,hb1,hb2]
    exact(by rw[XI];simp only[W8,Wy];omega)
   by_cases k2:k=2
   ·subst k2
    simp only[eE,eC,eN,reduceCtorEq,Nat.reduceEqDiff,↓reduceIte,Nat.reduceAdd,Nat.reduceLeDiff,Int.reduceEq,W7,W3,W5,W0,c77,Fi,s3,dIs,dI,okL,decL,Df,As,toI,h1,h2,hb1,hb2]
    exact(by rw[XI];simp only[W8,Wy];omega)
   by_cases k3:k=3
   ·subst k3
    simp only[eE,eC,eN,reduceCtorEq,Nat.reduceEqDiff,↓reduceIte,Nat.reduceAdd,Nat.reduceLeDiff,Int.reduceEq,W7,W3,W5,W0,c77,Fi,s3,dIs,dI,okL,decL,Df,As,toI,h1,h2,hb1,hb2]
    exact(by rw[XI];simp only[W8,Wy];omega)
   by_cases k5:k=5
   ·subst k5
    simp only[eE,eC,eN,reduceCtorEq,Nat.reduceEqDiff,↓reduceIte,Nat.reduceAdd,Nat.reduceLeDiff,Int.reduceEq,W7,W3,W5,W0,c77,Fi,s3,dIs,dI,okL,decL,Df,As,toI,h1,h2,hb1,hb2]
    exact(by rw[XI];simp only[W8,Wy];omega)
   by_cases k6:k=6
   ·subst k6
    simp only[eE,eC,eN,reduceCtorEq,Nat.reduceEqDiff,↓reduceIte,Nat.reduceAdd,Nat.reduceLeDiff,Int.reduceEq,W7,W3,W5,W0,c77,Fi,s3,dIs,dI,okL,decL,Df,As,toI,h1,h2,hb1,hb2]
    exact(by rw[XI];simp only[W8,Wy];omega)
   simp only[eE,eC,eN,reduceCtorEq,Nat.reduceEqDiff,↓reduceIte,Nat.reduceAdd,Nat.reduceLeDiff,W7,W3,W5,W0,c77,Fi,s3,dIs,dI,okL,decL,Df,As,toI,h1,h2,hb1,hb2,k1,k2,k3,k4,k5,k6]
end Go.AM
namespace Go.AM
open Go.Proofs Go.Lib
structure FewL (x:Lma):Prop where
 cs:few x.cs
 ls:few x.ls
 qs:few x.qs
 ps:few x.ps
 q:∀q∈x.qs,few q.cs/\few q.ls
 p:∀p∈x.ps,few p.ls
def Tckm:Tab:=tadd 74 (s1 dS any1 λs=>.bool (CC s)) (tadd 75 (s2 dSs dI (λa n=>few a/\0<=n) λa n=>.bool (CR a n.toNat)) (tadd 76 (s3 dIs dI dI (λa n _=>few a/\0<=n) λa n k=>.bool (indN a n.toNat k))
 (tadd 77 (s3 dQ dI dI (λq n m=>(few q.cs/\few q.ls)/\0<=n/\0<=m) λq n m=>.bool (CM q n.toNat m.toNat)) tnil)))
theorem Wo:AH Tryz.prog Tckm:=(((AH.tnil.add (q3 λq n m h=>by
 obtain⟨j,rfl⟩:∃j:Nat,n=j:=⟨n.toNat,by omega⟩
 obtain⟨k,rfl⟩:∃j:Nat,m=j:=⟨m.toNat,by omega⟩
 exact p77 q j k h.1.1 h.1.2)).add (q3 λa n k h=>by
 obtain⟨j,rfl⟩:∃j:Nat,n=j:=⟨n.toNat,by omega⟩
 exact p76 a j k h.1)).add (q2 λa n h=>by
 obtain⟨j,rfl⟩:∃j:Nat,n=j:=⟨n.toNat,by omega⟩
 exact p75 a j h.1)).add (q1 λs _=>p74 s)
theorem Wp (a:List AVal) (H:AB):Tckm 74 a H=s1 dS any1 (λs=>.bool (CC s)) a H:=rfl
theorem Wq (a:List AVal) (H:AB):Tckm 75 a H=s2 dSs dI (λa n=>few a/\0<=n) (λa n=>.bool (CR a n.toNat)) a H:=rfl
theorem Jp (a:List AVal) (H:AB):Tckm 76 a H=s3 dIs dI dI (λa n _=>few a/\0<=n) (λa n k=>.bool (indN a n.toNat k)) a H:=rfl
theorem Wr (a:List AVal) (H:AB):Tckm 77 a H=s3 dQ dI dI (λq n m=>(few q.cs/\few q.ls)/\0<=n/\0<=m) (λq n m=>.bool (CM q n.toNat m.toNat)) a H:=rfl
theorem few1 (c:Int):few [c]=True:=W1 (by show 1<_;decide)
def chk (x:Lma):Int:=if HU x=true then 0 else 300
def hd0 (x:Lma):Bool:=CC x.nm&&decide (1<=x.lv)&&decide (x.lv<=8)&&CR x.cs 4&&CR x.ls 3&&decide ((x.qs.length:Int)<=6)
def hd1 (x:Lma):Bool:=hd0 x&&indN [x.c] x.cs.length 1&&indN [x.l] x.ls.length 1
def cdA (x:Lma) (i:Nat):Bool:=hd1 x&&(x.qs.take i).all λq=>CM q x.cs.length x.ls.length
def prA (x:Lma) (i:Nat):Bool:=cdA x x.qs.length&&(x.ps.take i).all λp=>indN p.ls x.ls.length 1
theorem Tj {x:Lma} {i:Nat} (h:i<x.qs.length):cdA x (i+1)=(cdA x i&&CM x.qs[i] x.cs.length x.ls.length):=by
 unfold cdA;rw[NH h,Bool.and_assoc]
theorem Tk {x:Lma} {i:Nat} (h:i<x.ps.length):prA x (i+1)=(prA x i&&indN x.ps[i].ls x.ls.length 1):=by
 unfold prA;rw[NH h,Bool.and_assoc]
theorem ind1 (c:Int) (n:Nat):indN [c] n 1=difI [c] n:=by unfold indN;simp
theorem Ws (x:Lma):(prA x x.ps.length&&indN (x.ps.map (·.c)) x.cs.length 0)=HU x:=by
 unfold prA cdA hd1 hd0 HU
 rw[ind1,ind1,Xx,Xx]
 have e1:indN (x.ps.map (·.c)) x.cs.length 0=difI (x.ps.map (·.c)) x.cs.length:=by unfold indN;simp
 have e2:(x.ps.all λp=>indN p.ls x.ls.length 1)=x.ps.all λp=>difI p.ls x.ls.length&&decide (1<=p.ls.length):=by
  congr 1;funext p;unfold indN;congr 1;simp;omega
 have e3:decide ((x.qs.length:Int)<=6)=decide (x.qs.length<=6):=by rw[decide_eq_decide];omega
 rw[e1,e2,e3]
abbrev AT (x:Lma):List AVal:=[.str x.nm,.int .i64 x.lv,eSs x.cs,eSs x.ls,.sl (.none 4) (x.qs.map encQ),.sl (.none 2) (x.ps.map encM),.int .i64 x.c,.int .i64 x.l]
structure Vh where
 i:Nat
 H:AB
 n:Nat
structure Ih (len:Nat) (cs:List AVal) (v:Vh):Prop where
 hi:v.i<=len
 fr:AN v.H v.n
 b:hget v.H 0=some (.box cs)
 hn:1<=v.n
structure Ip (len:Nat) (cs:List AVal) (v:Vg):Prop where
 hi:v.i<=len
 fr:AN v.H v.n
 b:hget v.H 0=some (.box cs)
 hn:1<=v.n
 tok:tkG 1 1 v.H v.tk
 es:v.tk.esz=1\/v.i=0
abbrev hp10 (H:AB) (n:Nat) (p:Prm):AB:=hset (hset H (n+2) (.box [.int .i64 0,.sl .nil []])) (n+2) (.box [.int .i64 p.c,eIs p.ls])
theorem p42 (x:Lma) (hx:FewL x):Pur Tryz.prog 42 [encL x] (eI (chk x)):=by
 refine .mk ⟨Ah 0 x,trivial⟩ trivial (a42 (AF Wo (AG ?_)))
 simp only[eE,eC,eN,reduceCtorEq,Nat.reduceEqDiff,↓reduceIte,Nat.reduceAdd,Nat.reduceLeDiff,Nat.reduceMul,Nat.reduceLT,Int.reduceLE,Int.reduceToNat,W3,W5,W0,c42,Wp,Wq,Jp,s1,s2,s3,dS,dSs,dIs,dI,okL,decL,isS,toS,Df,toI,C3,hx.cs,hx.ls,few1]
 refine AV (λv:Vh=>⟨[(1,true,.ptr 0 0),(3,true,.sl .nil []),(4,true,.bool (cdA x v.i)),(58,true,.sl (.none 4) (x.qs.map encQ)),(59,true,.int .i64 x.qs.length),(60,true,.int .i64 v.i)],v.H,v.n⟩) (Ih x.qs.length (AT x)) (λv=>x.qs.length-v.i)
  ⟨0,hset hnil 0 (.box (AT x)),2⟩ (by simp only[cdA,hd1,hd0,Ym,List.all_nil,Bool.and_true];rfl) ⟨X1 _,AN.nil.hset (X1 2) (Nat.zero_lt_succ 1),rfl,Nat.succ_le_succ (X1 1)⟩ ?_
 rintro⟨i,H,n⟩ ⟨hi,hfr,hb,hn⟩
 simp only at hi hfr hb hn
 have z1:(0=n+2)=False:=W9 (by omega)
 have hqn:=hx.qs
 have hpn:=hx.ps
 by_cases hlt:i<x.qs.length
 ·have hg:=W4 hlt
  have e:=AL (k:=i) (by omega)
  have hq:=hx.q _ (X4 hlt)
  generalize hqq:x.qs[i]=q at hg hq
  simp only[eE,eC,eN,reduceCtorEq,Nat.reduceEqDiff,↓reduceIte,Nat.reduceAdd,Nat.reduceLeDiff,Int.reduceEq,W2,W3,W5,W0,W6,lt_T hlt,hg,fr1 hfr,hb,Wr,s3,Ti,NW,dI,Df,toI,hq.1,hq.2,e]
  refine .mk ⟨i+1,hset (hset H (n+2) (.box [.int .i64 0,.sl .nil [],.sl .nil [],.int .i64 0])) (n+2) (.box [.int .i64 q.k,eIs q.cs,eIs q.ls,.int .i64 q.n]),n+4⟩ ?_ ⟨hlt,?_,?_,by simp only[];omega⟩ (by simp only[];omega)
  ·rw[Tj hlt,hqq]
  ·exact(hfr.hset (m:=n+4) (by omega) (by omega)).hset (Wu (n+4)) (show n+2<n+4 by omega)
  ·simp only[]
   rw[AA _ _ _ _ (by omega),AA _ _ _ _ (by omega)];exact hb
 obtain rfl:i=x.qs.length:=by omega
 simp only[eE,eC,eN,Nat.reduceEqDiff,↓reduceIte,Nat.reduceAdd,Nat.reduceLeDiff,W0,lt_F hlt,hb]
 refine AV (λv:Vg=>⟨[(1,true,.ptr 0 0),(3,true,.sl v.tk ((x.ps.take v.i).map λp=>eI p.c)),(4,true,.bool (prA x v.i)),(77,true,.sl (.none 2) (x.ps.map encM)),(78,true,.int .i64 x.ps.length),(79,true,.int .i64 v.i)],v.H,v.n⟩) (Ip x.ps.length (AT x)) (λv=>x.ps.length-v.i)
  ⟨0,.nil,H,n⟩ (by simp only[prA,Ym,List.all_nil,Bool.and_true,Xu];rfl) ⟨X1 _,hfr,hb,hn,.inl rfl,.inr rfl⟩ ?_
 clear hlt hb hfr hn hi z1
 rintro⟨i,tk,H,n⟩ ⟨hi,hfr,hb,hn,htk,hes⟩
 simp only at hi hfr hb hn htk hes
 by_cases hlt:i<x.ps.length
 ·have hg:=W4 hlt
  have e:=AL (k:=i) (by omega)
  have hp:=hx.p _ (X4 hlt)
  generalize hqq:x.ps[i]=p at hg hp
  have z2:(0=n+2)=False:=W9 (by omega)
  have z3:(0=n+4+4)=False:=W9 (by omega)
  have hf2:AN (hp10 H n p) (n+4):=(hfr.hset (m:=n+4) (by omega) (by omega)).hset (Wu (n+4)) (by omega)
  have ht2:tkG 1 1 (hp10 H n p) tk:=(htk.set (.inr (.inr (hfr _ (by omega))))).set (.inr (.inl ⟨_,AC ..⟩))
  have hb2:hget (hp10 H n p) 0=some (.box (AT x)):=by
   rw[AA _ _ _ _ (by omega),AA _ _ _ _ (by omega)];exact hb
  have hb3:hget (hp10 H n p) (n+2)=some (.box [.int .i64 p.c,eIs p.ls]):=AC ..
  have k0:hget (AU (hp10 H n p) tk) 0=some (.box (AT x)):=by rw[Ad ht2 (.inl (by omega))];exact hb2
  have k2:hget (AU (hp10 H n p) tk) (n+2)=some (.box [.int .i64 p.c,eIs p.ls]):=by rw[Ad ht2 (.inr ⟨_,hb3⟩)];exact hb3
  have q1:Bi (hp10 H n p) 1 tk=True:=W1 ht2.app
  have q2:(i<=35184372088831)=True:=W1 (by omega)
  have q3:An (i+1) 8=True:=W1 (AX (by omega) (by decide))
  have ln:((x.ps.take i).map λp=>eI p.c).length=i:=by simp;omega
  have z4:(n+4+4=0)=False:=W9 (by omega)
  have z5:(n+8=n+2)=False:=W9 (by omega)
  have z6:(n+8=0)=False:=W9 (by omega)
  have z7:(n+2=0)=False:=W9 (by omega)
  have h8:=hfr (n+8) (by omega)
  simp only[eE,eC,eN,reduceCtorEq,Nat.reduceEqDiff,↓reduceIte,Nat.reduceAdd,Nat.reduceLeDiff,Nat.reduceMul,Nat.reduceLT,Int.reduceEq,W2,W3,W5,W0,W6,lt_T hlt,hg,fr1 hfr,z4,z5,q1,q2,q3,ln,k0,k2,Jp,s3,dIs,dI,okL,decL,Df,As,toI,hp,e,natE3]
  refine .mk ⟨i+1,.own (n+8) 1,hset (AU (hp10 H n p) tk) (n+8) .tok,n+10⟩ (by rw[Tk hlt,map_take hlt,hqq]) ⟨hlt,(Ag ht2 hf2).hset (m:=n+10) (by omega) (by omega),?_,by simp only[];omega,.inr (.inr ⟨n+8,rfl,by omega,AC ..⟩),.inl rfl⟩ (by simp only[];omega)
  simp only[]
  rw[AA _ _ _ _ (by omega)];exact k0
 obtain rfl:i=x.ps.length:=by omega
 have hc:x.ps.map (λp=>eI p.c)=(x.ps.map (·.c)).map eI:=by rw[YP];rfl
 have hes':(tk.esz=1\/(x.ps.map (·.c)).map eI=[])=True:=W1 (hes.imp id λe=>by rw[Yw.1 e];rfl)
 have hpl:few (x.ps.map (·.c))=True:=W1 (by show(x.ps.map _).length<_;rw[W0];exact hpn)
 have hfin:=Ws x
 cases h1:prA x x.ps.length with
 |false=>
  have hl:HU x=false:=by rw[<-hfin,h1];rfl
  simp only[eE,eC,eN,reduceCtorEq,Nat.reduceEqDiff,↓reduceIte,Nat.reduceAdd,W7,Wz,lt_F hlt]
  unfold chk;rw[Ww (by rw[hl];decide)]
 |true=>
  rw[h1,YB]at hfin
  cases hl:HU x with
  |true=>
   simp only[eE,eC,eN,Nat.reduceEqDiff,↓reduceIte,Nat.reduceAdd,Nat.reduceLeDiff,W7,W3,W5,W0,lt_F hlt,hb,Xx,hc,Jp,s3,dIs,dI,okL,decL,Df,As,toI,hes',hpl,hfin.trans hl]
   unfold chk;rw[X0 hl]
  |false=>
   simp only[eE,eC,eN,Nat.reduceEqDiff,↓reduceIte,Nat.reduceAdd,Nat.reduceLeDiff,W7,Wz,W3,W5,W0,lt_F hlt,hb,Xx,hc,Jp,s3,dIs,dI,okL,decL,Df,As,toI,hes',hpl,hfin.trans hl]
   unfold chk;rw[Ww (by rw[hl];decide)]
end Go.AM
namespace Go.AM
open Go.Proofs Go.Lib
end Go.AM
