/-
  Parts of the proof. Conditions: none.
-/
import Derived.Test.YtncahiacfdihpaaGreatDoorB8
set_option maxRecDepth 20000
set_option linter.all false
set_option maxHeartbeats 1000000
namespace Go.AM
open Go.Lib Go.Proofs Go.Proofs.Tryz
theorem Ao{a b:Bs}:scmp .neq a b= !decide (a=b):=rfl
theorem A3{a b:Bs}:scmp .eql a b=decide (a=b):=rfl
def WQ{a b:Zq}:a=b↔a.nm=b.nm/\a.v=b.v:=by cases a;cases b;simp only[Zq.mk.injEq]
def WR{a b:Zj}:a=b↔a.nm=b.nm/\a.on=b.on/\a.fam=b.fam/\a.ty=b.ty/\a.lo=b.lo/\a.hi=b.hi:=by cases a;cases b;simp only[Zj.mk.injEq]
def WS{a b:Zl}:a=b↔a.nm=b.nm/\a.ls=b.ls:=by cases a;cases b;simp only[Zl.mk.injEq]
def Ix(s t:Zq):ceqs [.str s.nm,.int .i64 s.v] [.str t.nm,.int .i64 t.v]=decide (s=t):=by
 rw[Wt,W9,WQ];simp [ceqs,ceq]
def Iy(s t:Zj):ceqs [.str s.nm,.str s.on,.int .i64 s.fam,.int .i64 s.ty,.int .i64 s.lo,.int .i64 s.hi] [.str t.nm,.str t.on,.int .i64 t.fam,.int .i64 t.ty,.int .i64 t.lo,.int .i64 t.hi]=decide (s=t):=by
 rw[Wt,W9,WR];simp [ceqs,ceq]
def BB{p:Prop}[Decidable p](h:p):decide p=true:=Wv h
def Ax{p:Prop}[Decidable p](h:¬p):decide p=false:=Wp h
def p103(a b:List Int)(hb:wide b):Pur prog 103 [eIs a,eIs b] (.bool (decide (a=b))):=by
 refine .mk ⟨AR 0 a,AR 0 b,trivial⟩ trivial (c103.a (AF AI.tnil (AG ?_)));by_cases hl:a.length=b.length;case neg=>
  simp only[eZ,seval,W6,W0,c103,GN hl,W6];exact(Wp λe=>hl (by rw[e])).symm
 simp only[eZ,seval,W3,W0,c103,GO hl];refine AL (λi:Nat=>⟨[(0,true,eIs a),(1,true,eIs b),(12,true,.int .i64 a.length),(13,true,.int .i64 i)],hnil,0⟩) (λi=>i<=a.length/\∀j,j<i->a[j]?=b[j]?) (λi=>a.length-i) 0 rfl ⟨We _,λj hj=>zo⟩ ?_;rintro i ⟨hi,c8⟩;by_cases c5:i<a.length;case neg=>
  simp only[eZ,seval,lt_F c5];exact(Wv (DZ hl λj hj=>c8 j zo)).symm
 have hltb:i<b.length:=zo
 have hga:=W2 c5;have hgb:=W2 hltb;have e:=AE (k:=i) (by have:b.length<1125899906842624:=hb;omega);by_cases hs:a[i]=b[i]
 ·simp only[eZ,seval,W3,Wm,Wf,Wi,W0,Wq,lt_T c5,lt_T hltb,hga,hgb,e,BB hs];refine .mk (i+1) rfl ⟨c5,λj h=>?_⟩ zo;by_cases q:j=i
  ·subst q;rw[hga,hgb,hs]
  ·exact c8 j zo
 ·simp only[eZ,seval,W6,Wm,Wf,Wi,W0,Wq,lt_T c5,lt_T hltb,hga,hgb,Ax hs];exact(Wp λq=>hs (by simp [q])).symm
def p154(a b:List Bs)(hb:wide b):Pur prog 154 [eSs a,eSs b] (.bool (decide (a=b))):=by
 refine .mk ⟨BS 0 a,BS 0 b,trivial⟩ trivial (c154.a (AF AI.tnil (AG ?_)));by_cases hl:a.length=b.length;case neg=>
  simp only[eZ,seval,W6,W0,c154,GN hl,W6];exact(Wp λe=>hl (by rw[e])).symm
 simp only[eZ,seval,W3,W0,c154,GO hl];refine AL (λi:Nat=>⟨[(0,true,eSs a),(1,true,eSs b),(12,true,.int .i64 a.length),(13,true,.int .i64 i)],hnil,0⟩) (λi=>i<=a.length/\∀j,j<i->a[j]?=b[j]?) (λi=>a.length-i) 0 rfl ⟨We _,λj hj=>zo⟩ ?_;rintro i ⟨hi,c8⟩;by_cases c5:i<a.length;case neg=>
  simp only[eZ,seval,lt_F c5];exact(Wv (DZ hl λj hj=>c8 j zo)).symm
 have hltb:i<b.length:=zo
 have hga:=W2 c5;have hgb:=W2 hltb;have e:=AE (k:=i) (by have:b.length<1125899906842624:=hb;omega);by_cases hs:a[i]=b[i]
 ·simp only[eZ,seval,W3,Wm,Wf,Wi,W0,Wq,lt_T c5,lt_T hltb,hga,hgb,e,Ao,BB hs];refine .mk (i+1) rfl ⟨c5,λj h=>?_⟩ zo;by_cases q:j=i
  ·subst q;rw[hga,hgb,hs]
  ·exact c8 j zo
 ·simp only[eZ,seval,W6,Wm,Wf,Wi,W0,Wq,lt_T c5,lt_T hltb,hga,hgb,Ao,Ax hs];exact(Wp λq=>hs (by simp [q])).symm
def p155(a b:List Zq)(hb:few b):Pur prog 155 [eSys a,eSys b] (.bool (decide (a=b))):=by
 refine .mk ⟨Ev 0 a,Ev 0 b,trivial⟩ trivial (a155 (AF AI.tnil (AG ?_)));by_cases hl:a.length=b.length;case neg=>
  simp only[eZ,seval,W6,W0,c155,GN hl,W6];exact(Wp λe=>hl (by rw[e])).symm
 simp only[eZ,seval,W3,W0,c155,GO hl];refine AL (λi:Nat=>⟨[(0,true,eSys a),(1,true,eSys b),(12,true,.int .i64 a.length),(13,true,.int .i64 i)],hnil,0⟩) (λi=>i<=a.length/\∀j,j<i->a[j]?=b[j]?) (λi=>a.length-i) 0 rfl ⟨We _,λj hj=>zo⟩ ?_;rintro i ⟨hi,c8⟩;by_cases c5:i<a.length;case neg=>
  simp only[eZ,seval,lt_F c5];exact(Wv (DZ hl λj hj=>c8 j zo)).symm
 have hltb:i<b.length:=zo
 have hga:=W2 c5;have hgb:=W2 hltb;have e:=AE (k:=i) (by have:b.length<1000000000:=hb;omega);by_cases hs:a[i]=b[i]
 ·simp only[eZ,seval,W3,Wm,Wf,Wi,W0,Wq,lt_T c5,lt_T hltb,hga,hgb,e,Ix,cfit,BB hs];refine .mk (i+1) rfl ⟨c5,λj h=>?_⟩ zo;by_cases q:j=i
  ·subst q;rw[hga,hgb,hs]
  ·exact c8 j zo
 ·simp only[eZ,seval,W6,Wm,Wf,Wi,W0,Wq,lt_T c5,lt_T hltb,hga,hgb,Ix,cfit,Ax hs];exact(Wp λq=>hs (by simp [q])).symm
def p157(a b:List Zj)(hb:few b):Pur prog 157 [eCls a,eCls b] (.bool (decide (a=b))):=by
 refine .mk ⟨DB 0 a,DB 0 b,trivial⟩ trivial (a157 (AF AI.tnil (AG ?_)));by_cases hl:a.length=b.length;case neg=>
  simp only[eZ,seval,W6,W0,c157,GN hl,W6];exact(Wp λe=>hl (by rw[e])).symm
 simp only[eZ,seval,W3,W0,c157,GO hl];refine AL (λi:Nat=>⟨[(0,true,eCls a),(1,true,eCls b),(12,true,.int .i64 a.length),(13,true,.int .i64 i)],hnil,0⟩) (λi=>i<=a.length/\∀j,j<i->a[j]?=b[j]?) (λi=>a.length-i) 0 rfl ⟨We _,λj hj=>zo⟩ ?_;rintro i ⟨hi,c8⟩;by_cases c5:i<a.length;case neg=>
  simp only[eZ,seval,lt_F c5];exact(Wv (DZ hl λj hj=>c8 j zo)).symm
 have hltb:i<b.length:=zo
 have hga:=W2 c5;have hgb:=W2 hltb;have e:=AE (k:=i) (by have:b.length<1000000000:=hb;omega);by_cases hs:a[i]=b[i]
 ·simp only[eZ,seval,W3,Wm,Wf,Wi,W0,Wq,lt_T c5,lt_T hltb,hga,hgb,e,Iy,cfit,BB hs];refine .mk (i+1) rfl ⟨c5,λj h=>?_⟩ zo;by_cases q:j=i
  ·subst q;rw[hga,hgb,hs]
  ·exact c8 j zo
 ·simp only[eZ,seval,W6,Wm,Wf,Wi,W0,Wq,lt_T c5,lt_T hltb,hga,hgb,Iy,cfit,Ax hs];exact(Wp λq=>hs (by simp [q])).symm
def s2f{α β:Type}(cl:Nat)(A:Dc α)(B:Dc β)(c:α->β->Prop)(f:α->β->Fs):List Fs->AC->Prop×Fs:=λa _=>match a with
 |[x,y,.fn (.func k) [] []]=>(k=cl/\A.ok x/\B.ok y/\c (A.dec x) (B.dec y),f (A.dec x) (B.dec y))
 |_=>(False,.tup [])
def q2f{α β:Type}{cl:Nat}{A:Dc α}{B:Dc β}{c:α->β->Prop}{f:α->β->Fs}{i4:FuncId}(h:∀x y,c x y->Pur prog i4 [A.enc x,B.enc y,.fn (.func cl) [] []] (f x y)):∀args H n,(s2f cl A B c f args H).1->Am prog i4 args H n (s2f cl A B c f args H).2:=by
 intro args H n hh;unfold s2f at hh⊢;split at hh
 ·obtain⟨rfl,h1,h2,h3⟩:=hh;refine AP.args ((h _ _ h3).quiet H n) ?_;rintro g vs ⟨v,r,rfl,k1,w,r',rfl,k2,k3⟩;exact⟨v,_,rfl,A.wk _ h1 _ _ k1,w,_,rfl,B.wk _ h2 _ _ k2,k3⟩
 ·exact hh.elim
def CH(x:List (List Int)):dLl.ok (eLl x)=True:=Hi Ds (.inl rfl)
def Bd(x:List (List Int)):dLl.dec (eLl x)=x:=FP Ds
def WT(x:List Zq):dSys.ok (eSys x)=True:=Hi Fh (.inl rfl)
def Td(x:List Zq):dSys.dec (eSys x)=x:=FP Fh
def WU(x:List Zl):dRgs.ok (eRgs x)=True:=Hi Ej (.inl rfl)
def Te(x:List Zl):dRgs.dec (eRgs x)=x:=FP Ej
def WV(x:List Zj):dCls.ok (eCls x)=True:=Hi Fi (.inl rfl)
def Tf(x:List Zj):dCls.dec (eCls x)=x:=FP Fi
def WW(x:List Zf):dRus.ok (eRus x)=True:=Hi Ek (.inl rfl)
def Tg(x:List Zf):dRus.dec (eRus x)=x:=FP Ek
abbrev Bp(l:List (List Int)):Prop:=few l/\∀x∈l,wide x
abbrev MM(r:Zl):Prop:=Bp r.ls
abbrev Fk(r:Zf):Prop:=wide r.ns/\wide r.os
structure Zh(d:Zo):Prop where
 ho:few d.holes
 sy:few d.syms
 rg:few d.regs
 rgs:∀r∈d.regs,MM r
 cl:few d.clus
 ru:few d.ruls
 rus:∀r∈d.ruls,Fk r
def MN{a b:Zf}:a=b↔(((((a.ns=b.ns/\a.os=b.os)/\a.nm=b.nm)/\a.on=b.on)/\a.byN=b.byN)/\a.kind=b.kind/\a.fam=b.fam/\a.set=b.set/\a.oth=b.oth/\a.op=b.op/\a.n=b.n/\a.clue=b.clue):=by
 cases a;cases b;simp only[Zf.mk.injEq];constructor
 ·rintro⟨a,b,c,d,e,f,g,h,i,j,k,l⟩;exact⟨⟨⟨⟨⟨e,f⟩,a⟩,b⟩,k⟩,c,d,g,h,i,j,l⟩
 ·rintro⟨⟨⟨⟨⟨e,f⟩,a⟩,b⟩,k⟩,c,d,g,h,i,j,l⟩;exact⟨a,b,c,d,e,f,g,h,i,j,k,l⟩
def ceq_7(a b c d e f g a' b' c' d' e' f' g':Int):ceqs [.int .i64 a,.int .i64 b,.int .i64 c,.int .i64 d,.int .i64 e,.int .i64 f,.int .i64 g] [.int .i64 a',.int .i64 b',.int .i64 c',.int .i64 d',.int .i64 e',.int .i64 f',.int .i64 g']=decide (a=a'/\b=b'/\c=c'/\d=d'/\e=e'/\f=f'/\g=g'):=by
 rw[Wt,W9];simp [ceqs,ceq]
def WX{a b:Zo}:a=b↔((((((((((a.nm=b.nm/\a.ver=b.ver)/\a.sh=b.sh)/\a.w=b.w)/\a.h=b.h)/\a.holes=b.holes)/\a.syms=b.syms)/\a.regs=b.regs)/\a.clus=b.clus)/\a.ruls=b.ruls)):=by
 cases a;cases b;simp only[Zo.mk.injEq];constructor
 ·rintro⟨a,b,c,d,e,f,g,h,i,j⟩;exact⟨⟨⟨⟨⟨⟨⟨⟨⟨a,b⟩,c⟩,d⟩,e⟩,f⟩,g⟩,h⟩,i⟩,j⟩
 ·rintro⟨⟨⟨⟨⟨⟨⟨⟨⟨a,b⟩,c⟩,d⟩,e⟩,f⟩,g⟩,h⟩,i⟩,j⟩;exact⟨a,b,c,d,e,f,g,h,i,j⟩
def Tci:Tab:=tadd 103 (s2 dIs dIs (λ_ b=>wide b) λa b=>.bool (decide (a=b))) tnil
def Tci_ok:AI prog Tci:=AI.tnil.add (q2 p103)
def p152(a b:List (List Int))(hb:few b)(hx:∀x∈b,wide x):Pur prog 152 [eLl a,eLl b,.fn (.func 103) [] []] (.bool (decide (a=b))):=by
 refine .mk ⟨Ak 0 a,Ak 0 b,by simp [Fs.under,unders],trivial⟩ trivial (c152.a (AF Tci_ok (AG ?_)));by_cases hl:a.length=b.length;case neg=>
  simp only[eZ,seval,W6,W0,c152,GN hl,W6];exact(Wp λe=>hl (by rw[e])).symm
 simp only[eZ,seval,W3,W0,c152,GO hl];refine AL (λi:Nat=>⟨[(1,true,eLl b),(2,true,.fn (.func 103) [] []),(15,true,eLl a),(16,true,.int .i64 a.length),(17,true,.int .i64 i)],hnil,0⟩) (λi=>i<=a.length/\∀j,j<i->a[j]?=b[j]?) (λi=>a.length-i) 0 rfl ⟨We _,λj hj=>zo⟩ ?_;rintro i ⟨hi,c8⟩;by_cases c5:i<a.length;case neg=>
  simp only[eZ,seval,lt_F c5];exact(Wv (DZ hl λj hj=>c8 j zo)).symm
 have hltb:i<b.length:=zo
 have hga:=W2 c5;have hgb:=W2 hltb;have e:=AE (k:=i) (by have:b.length<1000000000:=hb;omega);have hf:=hx _ (Wn hltb);by_cases hs:a[i]=b[i]
 ·simp only[eZ,seval,W3,Wm,Wf,Wi,W0,Wq,lt_T c5,lt_T hltb,hga,hgb,e,Tci,s2,Ad,AY,W1 hf,BB hs,tadd];refine lpN.drop (i+1) rfl rfl rfl rfl AQ.nil (λ_ _ h=>by cases h) ⟨Ak 0 b,by simp [Fs.under,unders],Ak 0 a,trivial,trivial,trivial⟩ ⟨c5,λj h=>?_⟩ zo;by_cases q:j=i
  ·subst q;rw[hga,hgb,hs]
  ·exact c8 j zo
 ·simp only[eZ,seval,W6,Wm,Wf,Wi,W0,Wq,lt_T c5,lt_T hltb,hga,hgb,Tci,s2,Ad,AY,W1 hf,Ax hs,tadd];exact(Wp λq=>hs (by simp [q])).symm
def Tcl:Tab:=tadd 152 (s2f 103 dLl dLl (λ_ b=>Bp b) λa b=>.bool (decide (a=b))) tnil
def Ud:AI prog Tcl:=AI.tnil.add (q2f λa b h=>p152 a b h.1 h.2)
def p151(a b:Zl)(hb:MM b):Pur prog 151 [Fg a,Fg b] (.bool (decide (a=b))):=by
 refine .mk ⟨Cb 0 a,Cb 0 b,trivial⟩ trivial (c151.a (AF Ud (AG ?_)));simp only[eZ,seval,c151,A3,Tcl,s2f,CH,Bd,W1 hb,tadd];rw[Wt];simp only[W5,W9,WS]
def Tcr:Tab:=tadd 151 (s2 dRg dRg (λ_ b=>MM b) λa b=>.bool (decide (a=b))) tnil
def Tcr_ok:AI prog Tcr:=AI.tnil.add (q2 p151)
def p156(a b:List Zl)(hb:few b)(hx:∀x∈b,MM x):Pur prog 156 [eRgs a,eRgs b,.fn (.func 151) [] []] (.bool (decide (a=b))):=by
 refine .mk ⟨DA 0 a,DA 0 b,by simp [Fs.under,unders],trivial⟩ trivial (c156.a (AF Tcr_ok (AG ?_)));by_cases hl:a.length=b.length;case neg=>
  simp only[eZ,seval,W6,W0,c156,GN hl,W6];exact(Wp λe=>hl (by rw[e])).symm
 simp only[eZ,seval,W3,W0,c156,GO hl];refine AL (λi:Nat=>⟨[(1,true,eRgs b),(2,true,.fn (.func 151) [] []),(15,true,eRgs a),(16,true,.int .i64 a.length),(17,true,.int .i64 i)],hnil,0⟩) (λi=>i<=a.length/\∀j,j<i->a[j]?=b[j]?) (λi=>a.length-i) 0 rfl ⟨We _,λj hj=>zo⟩ ?_;rintro i ⟨hi,c8⟩;by_cases c5:i<a.length;case neg=>
  simp only[eZ,seval,lt_F c5];exact(Wv (DZ hl λj hj=>c8 j zo)).symm
 have hltb:i<b.length:=zo
 have hga:=W2 c5;have hgb:=W2 hltb;have e:=AE (k:=i) (by have:b.length<1000000000:=hb;omega);have hf:=hx _ (Wn hltb);by_cases hs:a[i]=b[i]
 ·simp only[eZ,seval,W3,Wm,Wf,Wi,W0,Wq,lt_T c5,lt_T hltb,hga,hgb,e,Tcr,s2,Iu,F7,W1 hf,BB hs,tadd];refine lpN.drop (i+1) rfl rfl rfl rfl AQ.nil (λ_ _ h=>by cases h) ⟨DA 0 b,by simp [Fs.under,unders],DA 0 a,trivial,trivial,trivial⟩ ⟨c5,λj h=>?_⟩ zo;by_cases q:j=i
  ·subst q;rw[hga,hgb,hs]
  ·exact c8 j zo
 ·simp only[eZ,seval,W6,Wm,Wf,Wi,W0,Wq,lt_T c5,lt_T hltb,hga,hgb,Tcr,s2,Iu,F7,W1 hf,Ax hs,tadd];exact(Wp λq=>hs (by simp [q])).symm
def Tcs:Tab:=tadd 154 (s2 dSs dSs (λ_ b=>wide b) λa b=>.bool (decide (a=b))) tnil
def Tcs_ok:AI prog Tcs:=AI.tnil.add (q2 p154)
def p153(a b:Zf)(hb:Fk b):Pur prog 153 [BT a,BT b] (.bool (decide (a=b))):=by
 refine .mk ⟨Ar 0 a,Ar 0 b,trivial⟩ trivial (a153 (AF Tcs_ok (AG ?_)));have h1:=hb.1;have h2:=hb.2;simp only[eZ,seval,c153,A3,Tcs,s2,Fj,EB,W1 h1,W1 h2,ceq_7,cfit,tadd];rw[Wt];simp only[W5,W9,MN]
def Tcu:Tab:=tadd 153 (s2 dRu dRu (λ_ b=>Fk b) λa b=>.bool (decide (a=b))) tnil
def Tcu_ok:AI prog Tcu:=AI.tnil.add (q2 p153)
def p158(a b:List Zf)(hb:few b)(hx:∀x∈b,Fk x):Pur prog 158 [eRus a,eRus b,.fn (.func 153) [] []] (.bool (decide (a=b))):=by
 refine .mk ⟨CG 0 a,CG 0 b,by simp [Fs.under,unders],trivial⟩ trivial (c158.a (AF Tcu_ok (AG ?_)));by_cases hl:a.length=b.length;case neg=>
  simp only[eZ,seval,W6,W0,c158,GN hl,W6];exact(Wp λe=>hl (by rw[e])).symm
 simp only[eZ,seval,W3,W0,c158,GO hl];refine AL (λi:Nat=>⟨[(1,true,eRus b),(2,true,.fn (.func 153) [] []),(15,true,eRus a),(16,true,.int .i64 a.length),(17,true,.int .i64 i)],hnil,0⟩) (λi=>i<=a.length/\∀j,j<i->a[j]?=b[j]?) (λi=>a.length-i) 0 rfl ⟨We _,λj hj=>zo⟩ ?_;rintro i ⟨hi,c8⟩;by_cases c5:i<a.length;case neg=>
  simp only[eZ,seval,lt_F c5];exact(Wv (DZ hl λj hj=>c8 j zo)).symm
 have hltb:i<b.length:=zo
 have hga:=W2 c5;have hgb:=W2 hltb;have e:=AE (k:=i) (by have:b.length<1000000000:=hb;omega);have hf:=hx _ (Wn hltb);by_cases hs:a[i]=b[i]
 ·simp only[eZ,seval,W3,Wm,Wf,Wi,W0,Wq,lt_T c5,lt_T hltb,hga,hgb,e,Tcu,s2,Bc,A7,W1 hf,BB hs,tadd];refine lpN.drop (i+1) rfl rfl rfl rfl AQ.nil (λ_ _ h=>by cases h) ⟨CG 0 b,by simp [Fs.under,unders],CG 0 a,trivial,trivial,trivial⟩ ⟨c5,λj h=>?_⟩ zo;by_cases q:j=i
  ·subst q;rw[hga,hgb,hs]
  ·exact c8 j zo
 ·simp only[eZ,seval,W6,Wm,Wf,Wi,W0,Wq,lt_T c5,lt_T hltb,hga,hgb,Tcu,s2,Bc,A7,W1 hf,Ax hs,tadd];exact(Wp λq=>hs (by simp [q])).symm
def Tsa:Tab:=tadd 103 (s2 dIs dIs (λ_ b=>wide b) λa b=>.bool (decide (a=b))) (tadd 155 (s2 dSys dSys (λ_ b=>few b) λa b=>.bool (decide (a=b))) (tadd 156 (s2f 151 dRgs dRgs (λ_ b=>few b/\∀x∈b,MM x) λa b=>.bool (decide (a=b))) (tadd 157 (s2 dCls dCls (λ_ b=>few b) λa b=>.bool (decide (a=b))) (tadd 158 (s2f 153 dRus dRus (λ_ b=>few b/\∀x∈b,Fk x) λa b=>.bool (decide (a=b))) tnil))))
def Tsa_ok:AI prog Tsa:=((((AI.tnil.add (q2f λa b h=>p158 a b h.1 h.2)).add (q2 p157)).add (q2f λa b h=>p156 a b h.1 h.2)).add (q2 p155)).add (q2 p103)
def p104(a b:Zo)(hb:Zh b):Pur prog 104 [encD a,encD b] (.bool (decide (a=b))):=by
 refine .mk ⟨Ab 0 a,Ab 0 b,trivial⟩ trivial (c104.a (AF Tsa_ok (AG ?_)));simp only[eZ,seval,c104,A3,Tsa,s2,s2f,Ad,AY,WT,Td,WU,Te,WV,Tf,WW,Tg,W1 (Cg hb.ho),W1 hb.sy,W1 hb.rg,W1 hb.rgs,W1 hb.cl,W1 hb.ru,W1 hb.rus,tadd];rw[Wt];simp only[W5,W9,WX]
abbrev AD(sh w h:Int)(holes cells:List Int):List Fs:=[.int .i64 sh,.int .i64 w,.int .i64 h,eIs holes,eIs cells]
abbrev encG(sh w h:Int)(holes cells:List Int):Fs:=.agg (AD sh w h holes cells)
def Ap(n:Nat)(sh w h:Int)(holes cells:List Int):(encG sh w h holes cells).under n:=⟨trivial,trivial,trivial,AR n _,AR n _,trivial⟩
def BJ(sh w h:Int)(holes:List Int):Fs:=match Ai sh w h holes with
 |some cells=>.tup [encG sh w h holes cells,.int .i64 0]
 |none=>.tup [encG 0 0 0 [] [],.int .i64 130]
def Hn(sh w h:Int)(holes:List Int):(BJ sh w h holes).under 0:=by
 unfold BJ;split<;>exact⟨Ap 0 ..,trivial,trivial⟩
def wk_G{sh w h:Int}{holes cells:List Int}{a b:Fs}{e:Int}(h1:Wk a (eIs holes))(h2:Wk b (eIs cells)):Wk (.tup [.agg [.int .i64 sh,.int .i64 w,.int .i64 h,a,b],.int .i64 e]) (.tup [encG sh w h holes cells,.int .i64 e]):=
 Wk.tup (.cons (Wk.agg (.cons (Wk.refl _) (.cons (Wk.refl _) (.cons (Wk.refl _) (.cons h1 (.cons h2 .nil)))))) (.cons (Wk.refl _) .nil))
def p62(l:List Int)(hl:few l):Pur prog 62 [eIs l] (eIs l):=by
 refine .mk ⟨AR 0 l,trivial⟩ (AR 0 l) (c62.a (AF AI.tnil (AG ?_)));have a1:(l.length<=35184372088832)=True:=W1 (by have:l.length<1000000000:=hl;omega);have a2:Aj l.length 8=True:=W1 (AX (by have:l.length<1000000000:=hl;omega) zd);cases l with
 |nil=>
  simp only[eZ,seval,c62];refine⟨?_,?_⟩
  ·simp only[eZ,seval,Aj,Yv,We];exact Wk.sl (.inl rfl)
  ·simp only[eZ,seval,W6];exact Wk.sl (.inr rfl)
 |cons x r=>
  rw[Ww]at a1 a2;simp only[eZ,seval,W0,c62,eIs,a1,a2];exact Wk.sl (.inl rfl)
def Tmk:Tab:=tadd 62 (s1 dIs few λl=>eIs l) (tadd 218 (s2 dIs dI (λl _=>few l/\List.Pairwise (λx y=>x<y) l) λl x=>.tup [.int .i64 (lowB l x),.bool (l.contains x)]) tnil)
def Tmk_ok:AI prog Tmk:=(AI.tnil.add (q2 λl x h=>p218 l x h.1 h.2)).add (q1 p62)
def posL(holes:List Int)(k:Nat):List Int:=((List.range k).map λ(i:Nat)=>(i:Int)).filter λp=>!holes.contains p
def K4(holes:List Int)(k:Nat):posL holes (k+1)=if holes.contains (k:Int)then posL holes k else posL holes k++[(k:Int)]:=by
 unfold posL;rw[XI,Wh,XW];cases h:holes.contains (k:Int)<;>simp only[Wu,X5,XH,YE,h,W3,W6,Xi,X4,Ws,X2]
def Rd(holes:List Int)(k:Nat):(posL holes k).length<=k:=by
 have:=Xu (λp=>!holes.contains p) ((List.range k).map λ(i:Nat)=>(i:Int));simpa [posL]using this
structure VM where
 k:Nat
 tk:Zu
 H:AC
 n:Nat
structure IM(sh w h:Int)(holes:List Int)(m:Nat)(v:VM):Prop where
 hk:v.k<=m
 hn:2<=v.n
 fr:AQ v.H v.n
 h0:hget v.H 0=some (.box [.int .i64 sh,.int .i64 w,.int .i64 h,eIs holes,.sl v.tk ((posL holes v.k).map eI)])
 tok:tkG 1 1 v.H v.tk
 es:v.tk.esz=1\/posL holes v.k=[]
def p147(sh w h:Int)(holes:List Int)(hl:few holes):Pur prog 147 [.int .i64 sh,.int .i64 w,.int .i64 h,eIs holes] (BJ sh w h holes):=by
 refine .mk ⟨trivial,trivial,trivial,AR 0 _,trivial⟩ (Hn sh w h holes) (c147.a (AF Tmk_ok (AG ?_)));have hE:∀b,(b=true↔¬((sh=1\/sh=2)/\1<=w/\w<=16/\1<=h/\h<=16/\(holes.length:Int)<w*h))->(!decide (sh=1)&& !decide (sh=2)||decide (w<1)||decide (16<w)||decide (h<1)||decide (16<h)||decide (IntKind.wrap .i64 (w*h)<=(holes.length:Int)))=b:=by
  intro b hb;rw[Wt,hb];simp only[Wz,W5,XQ,W9,XN];by_cases hwh:1<=w/\w<=16/\1<=h/\h<=16
  ·have:=WM hwh.1 hwh.2.1 hwh.2.2.1 hwh.2.2.2;rw[Aq zo zo];omega
  ·omega
 by_cases hc:(sh=1\/sh=2)/\1<=w/\w<=16/\1<=h/\h<=16/\(holes.length:Int)<w*h;case neg=>
  have hn:BJ sh w h holes= .tup [encG 0 0 0 [] [],.int .i64 130]:=by
   unfold BJ Ai;rw[W7 λq=>hc ⟨q.1,q.2.1,q.2.2.1,q.2.2.2.1,q.2.2.2.2.1,q.2.2.2.2.2.1⟩]
  have hb:=hE true (by simp [hc]);rw[hn];simp only[eZ,seval,BG,W0,c147,hb];exact wk_G (Wk.sl (.inr rfl)) (Wk.sl (.inr rfl))
 have hb:=hE false (by simp [hc]);obtain⟨hsh,hw1,hw2,hh1,hh2,m9⟩:=hc;obtain⟨p1,p2⟩:=WM hw1 hw2 hh1 hh2;have hwh:IntKind.wrap .i64 (w*h)=w*h:=Aq zo zo;have hG:Ai sh w h holes=if(Bo (-1) holes&&holes.all λp=>decide (p<w*h))=true then some (posL holes (w*h).toNat)else none:=by
  unfold Ai;by_cases q:(Bo (-1) holes&&holes.all λp=>decide (p<w*h))=true
  ·rw[Wg q];rw[W5]at q;rw[Wg ⟨hsh,hw1,hw2,hh1,hh2,m9,q.1,q.2⟩];rfl
  ·rw[W7 q];rw[W5]at q;rw[W7 λz=>q ⟨z.2.2.2.2.2.2.1,z.2.2.2.2.2.2.2⟩]
 simp only[eZ,seval,W0,c147,hb];refine AL (λv:Nat×Int=>⟨[(0,true,.int .i64 sh),(1,true,.int .i64 w),(2,true,.int .i64 h),(3,true,eIs holes),(8,true,.ptr 0 0),(10,true,.int .i64 v.2),(47,true,eIs holes),(48,true,.int .i64 holes.length),(49,true,.int .i64 v.1)],hset hnil 0 (.box [z0,z0,z0,zs,zs]),2⟩)
  (λv=>v.1<=holes.length/\(Bo (-1) holes&&holes.all λp=>decide (p<w*h))=(Bo v.2 (holes.drop v.1)&&(holes.drop v.1).all λp=>decide (p<w*h))) (λv=>holes.length-v.1) (0,-1) rfl ⟨We _,rfl⟩ ?_
 rintro⟨i,last⟩ ⟨hi,he⟩;simp only at hi he;by_cases c5:i<holes.length
 ·have hg:=W2 c5;have e:=AE (k:=i) (by have:holes.length<1000000000:=hl;omega);rw[Wy c5,Bo,Yw]at he;by_cases d9:last<holes[i]/\holes[i]<w*h
  ·have hd:(decide (holes[i]<=last)||decide (w*h<=holes[i]))=false:=by simp;omega
   simp only[eZ,seval,Wm,Wf,Wi,W0,Wq,lt_T c5,hg,e,hwh,hd];refine .mk (i+1,holes[i]) rfl ⟨c5,?_⟩ zp;simp only[];rw[he,Wv d9.1,Wv d9.2];simp
  ·have hd:(decide (holes[i]<=last)||decide (w*h<=holes[i]))=true:=by simp;omega
   have hn:BJ sh w h holes= .tup [encG 0 0 0 [] [],.int .i64 130]:=by
    unfold BJ;rw[hG,W7];rw[he];intro q;simp only[W5,W9]at q;exact d9 ⟨q.1.1,q.2.1⟩
   rw[hn];simp only[eZ,seval,BG,Wm,Wf,Wi,W0,Wq,lt_T c5,hg,hwh,hd];exact wk_G (Wk.sl (.inr rfl)) (Wk.sl (.inr rfl))
 have i5:i=holes.length:=zo
 subst i5;rw[Xc]at he;have hS:Ai sh w h holes=some (posL holes (w*h).toNat):=by rw[hG,Wg (by rw[he];rfl)]
 have hrise:=(Fe hS).2.2.2.2.2.2.2.1;have hM:BJ sh w h holes= .tup [encG sh w h holes (posL holes (w*h).toNat),.int .i64 0]:=by unfold BJ;rw[hS]
 rw[hM];obtain⟨m,hm⟩:∃m:Nat,w*h=(m:Int):=⟨(w*h).toNat,zo⟩;have hmt:(w*h).toNat=m:=zo
 have hwm:IntKind.wrap .i64 (m:Int)=m:=by rw[<-hm];exact hwh
 rw[hmt];simp only[eZ,seval,lt_F c5,Tmk,s1,Ad,AY,W1 hl,hwm,hm,AN,tadd];refine AL (λv:VM=>⟨[(3,true,eIs holes),(8,true,.ptr 0 0),(74,true,.int .i64 m),(75,true,.int .i64 v.k)],v.H,v.n⟩) (IM sh w h holes m) (λv=>m-v.k)
  ⟨0,.nil,hset hnil 0 (.box [.int .i64 sh,.int .i64 w,.int .i64 h,eIs holes,.sl .nil []]),2⟩ rfl ⟨We _,W8 _,AQ.nil.hset (m:=2) (We 2) (show 0<2 by decide),rfl,.inl rfl,.inr rfl⟩ ?_
 rintro⟨k,tk,H,n⟩ hI;have hk:=hI.hk;have hn:=hI.hn;have c6:=hI.fr;have h0:=hI.h0;have c7:=hI.tok;have d7:=hI.es;simp only at hk hn c6 h0 c7 d7;by_cases c5:k<m
 ·have e:=AE (k:=k) zo;have hps:=K4 holes k;cases j9:holes.contains (k:Int)with
  |true=>
   rw[j9,Wg rfl]at hps;simp only[eZ,seval,W3,Wm,XE,Y0,lt_T c5,Tmk,s2,Ad,AY,Aw,Ag,W1 hl,W1 hrise,j9,e,tadd];exact .mk ⟨k+1,tk,H,n⟩ rfl ⟨c5,hn,c6,by simp only[hps];exact h0,c7,by simp only[hps];exact d7⟩ zp
  |false=>
   rw[j9,W7 zd]at hps;have r9:=Rd holes k;have q1:A5 H 1 tk=True:=W1 c7.app;have q2:((posL holes k).length<=35184372088831)=True:=W1 zo;have q3:Aj ((posL holes k).length+1) 8=True:=W1 (AX zo zd);have kx:hget (AO H tk) 0=some (.box [.int .i64 sh,.int .i64 w,.int .i64 h,eIs holes,.sl tk ((posL holes k).map eI)]):=by rw[AV c7 (.inl zo)];exact h0
   have y0:∀j,(n+j=0)=False:=λj=>W4 zo
   simp only[eZ,seval,W6,Wm,W0,XE,Y0,lt_T c5,Tmk,s2,Ad,AY,Aw,Ag,W1 hl,W1 hrise,j9,e,h0,q1,q2,q3,fr1 c6,kx,y0,tadd];refine .mk ⟨k+1,.own (n+4) 1,hset (hset (AO H tk) (n+4) .tok) 0 (.box [.int .i64 sh,.int .i64 w,.int .i64 h,eIs holes,.sl (.own (n+4) 1) ((posL holes (k+1)).map eI)]),n+7⟩ ?_ ⟨c5,zp,((AU c7 c6).hset (m:=n+7) zo zo).hset (W8 (n+7)) (show 0<n+7 by omega),AB ..,.inr (.inr ⟨n+4,rfl,zo,by rw[AA _ _ _ _ zo];exact AB ..⟩),.inl rfl⟩ zp;rw[hps,Wh];rfl
 obtain rfl:k=m:=zo
 simp only[eZ,seval,BG,lt_F c5,h0];exact wk_G (Wk.refl _) (Wk.sl (d7.imp id λq=>by rw[q];rfl))
def Tgc:Tab:=tadd 147 (λa H=>match a with
 |[.int .i64 sh,.int .i64 w,.int .i64 h,x]=>(dIs.ok x/\few (dIs.dec x),BJ sh w h (dIs.dec x))
 |_=>(False,.tup [])) (tadd 103 (s2 dIs dIs (λ_ b=>few b) λa b=>.bool (decide (a=b))) tnil)
theorem Ue:∀args H n,((λ(a:List Fs) (H:AC)=>match a with
 |[.int .i64 sh,.int .i64 w,.int .i64 h,x]=>(dIs.ok x/\few (dIs.dec x),BJ sh w h (dIs.dec x))
 |_=>(False,Fs.tup [])) args H).1->Am prog 147 args H n ((λ(a:List Fs) (H:AC)=>match a with
 |[.int .i64 sh,.int .i64 w,.int .i64 h,x]=>(dIs.ok x/\few (dIs.dec x),BJ sh w h (dIs.dec x))
 |_=>(False,Fs.tup [])) args H).2:=by
 intro args H n hh;simp only at hh⊢;split at hh
 ·obtain⟨h1,h2⟩:=hh;refine AP.args ((p147 _ _ _ _ h2).quiet H n) ?_;rintro g vs ⟨v,r,rfl,k1,w,r',rfl,k2,u,r2,rfl,k3,z,r3,rfl,k4,k5⟩;exact⟨v,_,rfl,k1,w,_,rfl,k2,u,_,rfl,k3,z,_,rfl,dIs.wk _ h1 _ _ k4,k5⟩
 ·exact hh.elim
def Tgc_ok:AI prog Tgc:=(AI.tnil.add (q2 λa b h=>p103 a b (Cg h))).add Ue
def grOK(sh w h:Int)(holes cells:List Int):Bool:=decide (Ai sh w h holes=some cells)
def p219(sh w h:Int)(holes cells:List Int)(hl:few holes)(hc:few cells):Pur prog 219 [encG sh w h holes cells] (.int .i64 (if grOK sh w h holes cells=true then 0 else 130)):=by
 refine .mk ⟨Ap 0 ..,trivial⟩ trivial (c219.a (AF Tgc_ok (AG ?_)));cases hG:Ai sh w h holes with
 |none=>
  have hM:BJ sh w h holes= .tup [encG 0 0 0 [] [],.int .i64 130]:=by unfold BJ;rw[hG]
  have hk:grOK sh w h holes cells=false:=by unfold grOK;rw[hG];simp
  rw[hk];simp only[eZ,seval,W3,W6,Wm,XE,Y0,c219,Tgc,Ad,AY,W1 hl,hM,encG,tadd]
 |some cs=>
  have hM:BJ sh w h holes= .tup [encG sh w h holes cs,.int .i64 0]:=by unfold BJ;rw[hG]
  have hk:grOK sh w h holes cells=decide (cs=cells):=by unfold grOK;rw[hG];simp
  rw[hk];by_cases hq:cs=cells
  ·simp only[eZ,seval,W3,Wm,XE,Y0,c219,Tgc,s2,Ad,AY,W1 hl,hM,encG,W1 hc,BB hq,tadd]
  ·simp only[eZ,seval,W3,W6,Wm,XE,Y0,c219,Tgc,s2,Ad,AY,W1 hl,hM,encG,W1 hc,Ax hq,tadd]
structure Zs where
 sh:Int
 w:Int
 h:Int
 holes:List Int
 cells:List Int
 deriving DecidableEq
abbrev Bz(g:Zs):Fs:=encG g.sh g.w g.h g.holes g.cells
def Re:Fs->Zs
 | .agg [.int _ sh,.int _ w,.int _ h,ho,ce]=>⟨sh,w,h,Gb ho,Gb ce⟩
 |_=>⟨0,0,0,[],[]⟩
def Ho(g:Zs):Re (Bz g)=g:=by simp only[Re,Ds]
def dGd:Dc Zs:=dWk Bz Re
def DO(x:Zs):dGd.ok (Bz x)=True:=Hg Ho x
def CE(x:Zs):dGd.dec (Bz x)=x:=Ho x
def Ez{sh w h:Int}{holes cells:List Int}:dGd.ok (encG sh w h holes cells)=True:=DO ⟨sh,w,h,holes,cells⟩
def Cv{sh w h:Int}{holes cells:List Int}:dGd.dec (encG sh w h holes cells)=⟨sh,w,h,holes,cells⟩:=CE ⟨sh,w,h,holes,cells⟩
abbrev chkV(g:Zs):Fs:=.int .i64 (if grOK g.sh g.w g.h g.holes g.cells=true then 0 else 130)
def Tgr:Tab:=tadd 219 (s1 dGd (λg=>few g.holes/\few g.cells) chkV) (tadd 218 (s2 dIs dI (λl _=>few l/\List.Pairwise (λx y=>x<y) l) λl x=>.tup [.int .i64 (lowB l x),.bool (l.contains x)]) tnil)
def Tgr_ok:AI prog Tgr:=(AI.tnil.add (q2 λl x h=>p218 l x h.1 h.2)).add (q1 λg h=>p219 g.sh g.w g.h g.holes g.cells h.1 h.2)
def Wks.len{ws us:List Fs}(h:Wks ws us):ws.length=us.length:=by
 induction h with
 |nil=>rfl
 |cons _ _ ih=>simp [ih]
def Wks.app{a b c d:List Fs}(h:Wks a b)(k:Wks c d):Wks (a++c) (b++d):=by
 induction h with
 |nil=>exact k
 |cons h1 _ ih=>exact .cons h1 ih
def Th{g:Zb}{e:Nat}{f:Nat->Option Value}{l m:List Fs}(hw:Wks l m):∀o,Stab g e f o l->Stab g e f o m:=by
 induction hw with
 |nil=>exact λ_ _=>trivial
 |cons h1 _ ih=>exact λo ⟨⟨v,q1,q2,q3⟩,h'⟩=>⟨⟨v,h1 _ _ q1,q2,q3⟩,ih _ h'⟩
def Wk.slx{t:Zu}{e:Nat}{l m:List Fs}(h:t.esz=e\/l=[])(hw:Wks l m):Wk (.sl t l) (.sl (.none e) m):=by
 intro g v hv;have hv:=Wk.sl h g v hv;rcases hv with⟨h1,rfl,-⟩|⟨-,b,o,cap,⟨sp,rfl,hsp⟩,hc,hst,-⟩
 ·have hl:=hw.len;subst h1;have:m=[]:=Xg (by rw[<-hl];rfl);subst this;exact .inl ⟨rfl,rfl,trivial⟩
 ·have hl:=hw.len;refine .inr ⟨trivial,b,o,cap,⟨sp,by rw[hl],?_⟩,by rw[<-hl];exact hc,Th hw _ hst,trivial⟩;rcases hsp with q|⟨q,q2⟩
  ·exact .inl q
  ·refine .inr ⟨?_,.inr ⟨e,rfl⟩⟩;subst q;exact Xg (by rw[<-hl];rfl)
def NO{cells l:List Int}{p:Int}(hp:List.Pairwise (λx y=>x<y) cells)(hl:∀q∈l,q∈cells)(hc:p∈cells):(BO cells l).contains (lowB cells p:Int)=l.contains p:=by
 rw[Wt,X6,X6];unfold BO;rw[Xh];constructor
 ·rintro⟨q,hq,e⟩;have:=WN hp (hl q hq) hc zo;rw[<-this];exact hq
 ·exact λh=>⟨p,h,rfl⟩
def Fl(cells l:List Int):(BO cells l).length=l.length:=W0 ..
def rgsV(cells:List Int)(lists:List (List Int)):Fs:=if(decide (lists.length<=64)&&lists.all (Da cells))=true then .tup [eLl (lists.map (BO cells)),.int .i64 0]else .tup [eLl [],.int .i64 130]
theorem Hp:∀{l m:List Int},l.Nodup->(∀q∈l,q∈m)->l.length<=m.length
 |[],_,_,_=>We _
 |a::l,m,hd,hs=>by
  obtain⟨h1,h2⟩:=Yc.1 hd;have ha:=hs a zw;have ih:=Hp (m:=m.erase a) h2 λq hq=>(List.mem_erase_of_ne (λe:q=a=>by subst e;exact h1 hq)).2 (hs q (by simp [hq]))
  rw[List.length_erase_of_mem ha]at ih;have:=List.length_pos_of_mem ha;rw[Ww];omega
structure VRg where
 i:Nat
 E:List Fs
 tl:Zu
 H:AC
 n:Nat
structure IRg(g:Zs)(lists:List (List Int))(v:VRg):Prop where
 hi:v.i<=lists.length
 hn:3<=v.n
 fr:AQ v.H v.n
 h0:hget v.H 0=some (.box (AD g.sh g.w g.h g.holes g.cells))
 tok:tkG 1 1 v.H v.tl
 es:v.tl.esz=1\/v.E=[]
 hE:Wks v.E (((lists.take v.i).map (BO g.cells)).map eIs)
 eq:lists.all (Da g.cells)=(lists.drop v.i).all (Da g.cells)
structure VRi where
 j:Nat
 tc:Zu
 H:AC
 n:Nat
structure IRi(g:Zs)(x:List Int)(H0:AC)(n0:Nat)(v:VRi):Prop where
 hj:v.j<=x.length
 hn:n0+2<=v.n
 fr:AQ v.H v.n
 hk:∀id,id<n0->hget v.H id=hget H0 id
 hm:hget v.H n0=some (.map (ctEs (BO g.cells (x.take v.j)) 0) v.j)
 tok:tkG 1 (n0+1) v.H v.tc
 es:v.tc.esz=1\/v.j=0
 sub:∀q∈x.take v.j,q∈g.cells
 eq:F6 g.cells [] x=F6 g.cells (x.take v.j) (x.drop v.j)
 nd:(x.take v.j).Nodup
def p150(g:Zs)(lists:List (List Int))(hG:Ai g.sh g.w g.h g.holes=some g.cells)(hh:few g.holes)(hl:Bp lists):Pur prog 150 [Bz g,eLl lists] (rgsV g.cells lists):=by
 refine .mk ⟨Ap 0 ..,Ak 0 _,trivial⟩ (by unfold rgsV;split<;>exact⟨Ak 0 _,trivial,trivial⟩) (c150.a (AF Tgr_ok (AG ?_)));obtain⟨hr1,hr2,hr3⟩:=Ay hG;have hfc:few g.cells:=show g.cells.length<_ by omega
 have hgo:grOK g.sh g.w g.h g.holes g.cells=true:=by unfold grOK;rw[hG];simp
 by_cases h64:64<lists.length
 ·have hv:rgsV g.cells lists= .tup [eLl [],.int .i64 130]:=by unfold rgsV;rw[W7];simp;omega
  have l64:((64:Int)<(lists.length:Int))=True:=W1 zo;rw[hv];simp only[eZ,seval,W3,W0,c150,Tgr,s1,Ez,Cv,W1 hh,W1 hfc,hgo,l64,tadd];exact Wk.tup (.cons (Wk.sl (.inr rfl)) (.cons (Wk.refl _) .nil))
 have l64:((64:Int)<(lists.length:Int))=False:=W4 zo;simp only[eZ,seval,W3,W0,c150,Tgr,s1,Ez,Cv,W1 hh,W1 hfc,hgo,l64,tadd];have i6:lists.all (Da g.cells)=false->rgsV g.cells lists= .tup [eLl [],.int .i64 130]:=λq=>by unfold rgsV;rw[q,YA,W7 zd]
 refine AL (λv:VRg=>⟨[(2,true,.ptr 0 0),(4,true,.sl v.tl v.E),(22,true,eLl lists),(23,true,.int .i64 lists.length),(24,true,.int .i64 v.i)],v.H,v.n⟩) (IRg g lists) (λv=>lists.length-v.i)
  ⟨0,[],.nil,hset hnil 0 (.box (AD g.sh g.w g.h g.holes g.cells)),3⟩ rfl ⟨We _,W8 _,AQ.nil.hset (m:=3) (We 3) (show 0<3 by decide),rfl,.inl rfl,.inr rfl,.nil,rfl⟩ ?_
 rintro⟨i,E,tl,H,n⟩ hI;have hi:=hI.hi;have hn:=hI.hn;have c6:=hI.fr;have h0:=hI.h0;have c7:=hI.tok;have d7:=hI.es;have hE:=hI.hE;have heq:=hI.eq;simp only at hi hn c6 h0 c7 d7 hE heq;by_cases c5:i<lists.length;case neg=>
  have i5:i=lists.length:=zo
  subst i5;rw[Xc]at heq;rw[Wj]at hE;have hv:rgsV g.cells lists= .tup [eLl (lists.map (BO g.cells)),.int .i64 0]:=by
   unfold rgsV;rw[heq,Wg];simp;omega
  rw[hv];simp only[eZ,seval,lt_F c5];exact Wk.tup (.cons (Wk.slx d7 hE) (.cons (Wk.refl _) .nil))
 have hg:=W2 c5;have e:=AE (k:=i) zo;have hxf:=hl.2 _ (Wn c5);have hxe:=map_take (f:=BO g.cells) c5;rw[Wy c5,Yw]at heq;generalize hx:lists[i]=x at hg hxf heq hxe;have hxl:x.length<1125899906842624:=hxf;have hmk:hget (hset H n (.map [] 0)) 0=some (.box (AD g.sh g.w g.h g.holes g.cells)):=by rw[AA _ _ _ _ zo];exact h0
 simp only[eZ,seval,xE,Wm,Wf,Wi,W0,Wq,lt_T c5,hg,fr0 c6];refine AL (λv:VRi=>⟨[(2,true,.ptr 0 0),(4,true,.sl tl E),(8,true,.sl v.tc ((BO g.cells (x.take v.j)).map eI)),(9,true,.mp n),(22,true,eLl lists),(23,true,.int .i64 lists.length),(24,true,.int .i64 i),(29,true,eIs x),(30,true,.int .i64 x.length),(31,true,.int .i64 v.j)],v.H,v.n⟩)
  (IRi g x H n) (λv=>x.length-v.j) ⟨0,.nil,hset H n (.map [] 0),n+2⟩ rfl ⟨We _,W8 _,(c6.hset (m:=n+2) zo zo),λid d6=>AA _ _ _ _ zo,AB ..,.inl rfl,.inr rfl,λq hq=>by(simp at hq),rfl,zw⟩ ?_
 rintro⟨j,tc,H1,n1⟩ hJ;have hj:=hJ.hj;have j8:=hJ.hn;have hf1:=hJ.fr;have hk:=hJ.hk;have hm:=hJ.hm;have htc:=hJ.tok;have hec:=hJ.es;have hsub:=hJ.sub;have hme:=hJ.eq;have hnd:=hJ.nd;simp only at hj j8 hf1 hk hm htc hec hsub hme hnd;have hj256:j<=256:=by
  have:=Hp hnd hsub;rw[Wx]at this;omega
 have k9:hget H1 0=some (.box (AD g.sh g.w g.h g.holes g.cells)):=by rw[hk 0 zo];exact h0
 by_cases hlj:j<x.length
 ·have hgj:=W2 hlj;have ej:=AE (k:=j) zo;have htx:=map_take (f:=λp=>(lowB g.cells p:Int)) hlj;have htk2:x.take (j+1)=x.take j++[x[j]]:=by rw[Wl,hgj];rfl
  rw[Wy hlj,F6]at hme;have hlen:(BO g.cells (x.take j)).length=j:=by rw[Fl,Wx];omega
  generalize hp:x[j]=p at hgj htx htk2 hme;have e9:(g.cells.contains p&& !(x.take j).contains p)=false->rgsV g.cells lists= .tup [eLl [],.int .i64 130]:=λq=>i6 (by
   rw[heq,Eu,hme,q];simp)
  cases j9:g.cells.contains p with
  |false=>
   rw[e9 (by rw[j9];rfl)];simp only[eZ,eX,seval,W3,W6,Wm,Wf,Wi,W0,Wq,XE,Y0,lt_T hlj,hgj,k9,Tgr,s2,Ad,AY,Aw,Ag,W1 hfc,W1 hr1,j9,tadd];exact Wk.tup (.cons (Wk.sl (.inr rfl)) (.cons (Wk.refl _) .nil))
  |true=>
   have hpm:p∈g.cells:=X6.1 j9;have hcm:=NO hr1 hsub hpm;have hmf:BN (.int .i64 (lowB g.cells p:Int)) (ctEs (BO g.cells (x.take j)) 0)=if(x.take j).contains p then some (.bool true)else none:=by rw[MJ,hcm]
   cases hmt:(x.take j).contains p with
   |true=>
    rw[e9 (by rw[j9,hmt];rfl)];rw[hmt,Wg rfl]at hmf;simp only[eZ,eX,seval,W3,xE,Wm,Wf,Wi,W0,Wq,XE,Y0,lt_T hlj,hgj,k9,Tgr,s2,Ad,AY,Aw,Ag,W1 hfc,W1 hr1,j9,hm,hmf,Ra,xE,KT.is,CW,tadd];exact Wk.tup (.cons (Wk.sl (.inr rfl)) (.cons (Wk.refl _) .nil))
   |false=>
    rw[hmt,W7 zd]at hmf;have v8:=ct_set (l:=BO g.cells (x.take j)) (x:=(lowB g.cells p:Int)) (by rw[hcm];exact hmt);rw[hlen]at v8;have htm:tkG 1 (n+1) (hset H1 n (.map (ctEs (BO g.cells (x.take j)++[(lowB g.cells p:Int)]) 0) (j+1))) tc:=htc.set (.inl zo);have q1:A5 (hset H1 n (.map (ctEs (BO g.cells (x.take j)++[(lowB g.cells p:Int)]) 0) (j+1))) 1 tc=True:=W1 htm.app;have q2:(j<=35184372088831)=True:=W1 zo;have q3:Aj (j+1) 8=True:=W1 (AX zo zd);have yn:∀k,(n=n1+k)=False:=λk=>W4 zo
    simp only[eZ,eX,seval,W3,xE,Option.getD_none,Option.isSome_none,Wm,Wf,Wi,W0,Wq,XE,Y0,lt_T hlj,hgj,k9,Tgr,s2,Ad,AY,Aw,Ag,W1 hfc,W1 hr1,j9,hm,hmf,Ra,xE,KT.is,CW,ej,v8,q1,q2,q3,hlen,yn,fr1 hf1,tadd];generalize hG2:hset H1 n (.map (ctEs (BO g.cells (x.take j)++[(lowB g.cells p:Int)]) 0) (j+1))=H2 at htm;have l9:AQ H2 n1:=by rw[<-hG2];exact hf1.hset (W8 _) zo
    have j7:∀id,id<n->hget H2 id=hget H id:=λid d6=>by rw[<-hG2,AA _ _ _ _ zo];exact hk id d6
    have u0:hget H2 n=some (.map (ctEs (BO g.cells (x.take j)++[(lowB g.cells p:Int)]) 0) (j+1)):=by rw[<-hG2];exact AB ..
    have s9:BO g.cells (x.take (j+1))=BO g.cells (x.take j)++[(lowB g.cells p:Int)]:=htx;refine .mk ⟨j+1,.own (n1+3) 1,hset (AO H2 tc) (n1+3) .tok,n1+5⟩ ?_ ⟨hlj,zp,(AU htm l9).hset (m:=n1+5) zo zo,λid d6=>?_,?_,.inr (.inr ⟨n1+3,rfl,zo,AB ..⟩),.inl rfl,λq hq=>?_,?_,?_⟩ zp
    ·rw[s9,Wh];rfl
    ·simp only[];rw[AA _ _ _ _ zo,AV htm (.inl zo)];exact j7 id d6
    ·simp only[];rw[AA _ _ _ _ zo,AV htm (.inl zo),s9];exact u0
    ·simp only[htk2]at hq;rcases Xo.1 hq with q1|q1
     ·exact hsub q q1
     ·rw[Xs.1 q1];exact hpm
    ·simp only[];rw[htk2,hme,j9,hmt];rfl
    ·simp only[];rw[htk2,Y1];refine⟨hnd,zw,λa ha b hb e=>?_⟩;rw[Xs]at hb;subst hb;subst e;rw[X6.2 ha]at hmt;cases hmt
 have hj':j=x.length:=zo
 subst hj';rw[Xc,Wj]at hme;rw[Wj]at hm;have hlx:(BO g.cells (x.take x.length)).length=x.length:=by rw[Fl,Wj]
 by_cases hx0:x.length=0
 ·have e9:rgsV g.cells lists= .tup [eLl [],.int .i64 130]:=i6 (by rw[heq,Eu,hx0];simp);rw[e9];simp only[eZ,seval,W0,lt_F hlj,hlx,BB (show((x.length:Nat):Int)=0 by omega)];exact Wk.tup (.cons (Wk.sl (.inr rfl)) (.cons (Wk.refl _) .nil))
 have hEl:E.length<=64:=by
  have:=hE.len;simp only[W0,Wx]at this;omega
 have i7:tkG 1 1 H1 tl:=by
  rcases c7 with rfl|rfl|⟨id,rfl,h1,h2⟩
  ·exact .inl rfl
  ·exact .inr (.inl rfl)
  ·exact .inr (.inr ⟨id,rfl,h1,by rw[hk id (c6.lt h2)];exact h2⟩)
 have q1:A5 H1 1 tl=True:=W1 i7.app;have q2:(E.length<=35184372088831)=True:=W1 zo;have q3:Aj (E.length+1) 24=True:=W1 (AX zo zd);simp only[eZ,seval,W0,lt_F hlj,hlx,Ax (show ¬((x.length:Nat):Int)=0 by omega),e,q1,q2,q3,fr1 hf1];refine .mk ⟨i+1,E++[.sl tc ((BO g.cells x).map eI)],.own (n1+3) 1,hset (AO H1 tl) (n1+3) .tok,n1+5⟩ ?_ ⟨c5,zp,(AU i7 hf1).hset (m:=n1+5) zo zo,?_,.inr (.inr ⟨n1+3,rfl,zo,AB ..⟩),.inl rfl,?_,?_⟩ zp
 ·rw[Wj]
 ·simp only[];rw[AA _ _ _ _ zo,AV i7 (.inl zo)];exact k9
 ·simp only[];rw[hxe,Wh];exact hE.app (.cons (Wk.sl (hec.imp id λq=>by rw[XD.1 q];rfl)) .nil)
 ·simp only[];have d9:Da g.cells x=true:=by rw[Eu,hme];simp [F6];omega
  rw[heq,d9,XU]
section
def idxP(m:Nat)(p:Nat->Bool):List Int:=((List.range m).filter p).map λ(i:Nat)=>(i:Int)
variable {x sh n:Int} {m:Nat} {p:Nat->Bool}
theorem Fm:x∈idxP m p↔∃i:Nat,i<m/\p i=true/\x=(i:Int):=by grind [idxP]
theorem Jh{i:Nat}:(i:Int)∈idxP m p↔i<m/\p i=true:=by grind [Fm]
theorem Hq(m:Nat)(p:Nat->Bool):List.Pairwise (λx y=>x<y) (idxP m p):=by
 unfold idxP;rw[YH];exact(YB.sublist YN).imp λq=>zo
theorem Cm(m:Nat)(p:Nat->Bool):idxP (m+1) p=if p m=true then idxP m p++[(m:Int)]else idxP m p:=by grind [idxP,List.range_succ]
theorem Bt(m:Nat)(p:Nat->Bool):(idxP m p).length<=m:=by grind [idxP]
theorem Cc{q:Nat->Bool}(h:∀i,i<m->p i=q i):idxP m p=idxP m q:=by grind [idxP,List.filter_congr]
theorem NP(m:Nat):idxP m (λ_=>true)=(List.range m).map λ(i:Nat)=>(i:Int):=by
 unfold idxP;rw[Yy.2 λ_ _=>rfl]
abbrev Spot:=Int×Int
def C7(sh w p:Int):Spot:=(if sh=2 then p.tmod w-(p.tdiv w).tdiv 2 else p.tmod w,p.tdiv w)
def AT(sh w:Int)(cells:List Int):List Spot:=cells.map (C7 sh w)
def EJ(sh:Int):List Spot:=(([(1,0),(-1,0),(0,1),(0,-1),(1,-1),(-1,1)]:List Spot)).take (if sh=1 then 4 else 6)
def addP(s d:Spot):Spot:=(s.1+d.1,s.2+d.2)
def EN(S:List Spot)(s:Spot):Option Int:=(S.findIdx? λx=>decide (x=s)).map λ(i:Nat)=>(i:Int)
def nbS(sh:Int)(S:List Spot)(s:Spot):List Int:=idxP S.length λb=>(EJ sh).any λd=>decide (S[b]?=some (addP s d))
def nbsS(sh:Int)(S:List Spot):List (List Int):=S.map (nbS sh S)
def B0(S:List Spot)(f:Spot->Option Int)(n:Int):List Int:=idxP S.length λc=>decide (S[c]?.bind f=some n)
def Ji:List Int:=(List.range 49).map λ(k:Nat)=>(k:Int)-16
def Bg(S:List Spot)(f:Spot->Option Int):List (List Int):=(Ji.map (B0 S f)).filter λl=>!l.isEmpty
def K5(w:Int)(S:List Spot):List (List Int):=
 let a:=B0 S (λs=>if s.1=s.2 then some 0 else none) 0
 let b:=B0 S (λs=>if s.1+s.2=w-1 then some 0 else none) 0
 (if a.isEmpty then[]else[a])++(if b.isEmpty||decide (a=b)then[]else[b])
def famS(sh w h:Int)(S:List Spot)(f:Nat):List (List Int):=
 if f=0 then(idxP S.length λ_=>true).map λc=>[c]
 else if f=1 then Bg S λs=>some s.2
 else if f=2 then Bg S λs=>some s.1
 else if f=3 then(if sh=2 then Bg S λs=>some (s.1+s.2)else if w=h then K5 w S else[])
 else if f=4 then nbsS sh S
 else if f=5 then(List.range S.length).map λ(c:Nat)=>idxP S.length λb=>decide (b=c)||((EJ sh).any λd=>decide (S[b]?=(S[c]?).map λs=>addP s d))
 else if f=6 then(List.range S.length).flatMap λ(c:Nat)=>(((nbsS sh S)[c]?.getD []).filter λb=>decide ((c:Int)<b)).map λb=>[(c:Int),b]
 else[(idxP S.length λ_=>true)]
theorem Ew{S:List Spot}(hd:S.Nodup){s:Spot}{i:Nat}:EN S s=some (i:Int)↔S[i]?=some s:=by
 unfold EN;constructor
 ·intro h;obtain⟨j,h1,h2⟩:=XP.1 h;have:j=i:=zo
  subst this;obtain⟨hl,h3,-⟩:=Xq.1 h1;rw[W2 hl,Xa h3]
 ·intro h;obtain⟨hl,h1⟩:=Xx.1 h;have:S.findIdx? (λx=>decide (x=s))=some i:=by
   rw[Xq];refine⟨hl,by simp [h1],λj hj=>?_⟩;simp only[W9];intro h2;have:=(XR.1 hd) j i zo hl hj;exact this (h2.trans h1.symm)
  rw[this];rfl
theorem K6{S:List Spot}{s:Spot}(h:EN S s=some x):∃i:Nat,x=(i:Int):=by
 unfold EN at h;obtain⟨j,-,h2⟩:=XP.1 h;exact⟨j,h2.symm⟩
theorem Iz{S:List Spot}{s:Spot}:EN S s=none↔s∉S:=by grind [EN,Option.map_eq_none_iff,List.findIdx?_eq_none_iff,decide_eq_false_iff_not]
def GQ(sh:Int)(S:List Spot)(s:Spot):List Int:=(EJ sh).filterMap λd=>EN S (addP s d)
theorem MO(sh:Int):(EJ sh).Nodup:=by
 unfold EJ;split<;>decide
theorem WY{s a b:Spot}(h:addP s a=addP s b):a=b:=by grind [addP,Prod.mk.injEq]
theorem MP(sh:Int){S:List Spot}(hd:S.Nodup)(s:Spot):(GQ sh S s).Nodup:=by
 unfold GQ;have h:=MO sh;generalize EJ sh=L at h;induction L with
 |nil=>simp
 |cons d r ih=>
  obtain⟨h1,h2⟩:=Yc.1 h;rw[List.filterMap_cons];cases he:EN S (addP s d)with
  |none=>exact ih h2
  |some x=>
   refine Yc.2 ⟨λhm=>?_,ih h2⟩;obtain⟨e,he1,he2⟩:=List.mem_filterMap.1 hm;obtain⟨i,rfl⟩:=K6 he;have a:=(Ew hd).1 he;have b:=(Ew hd).1 he2;rw[a]at b;have:=WY (Option.some.inj b);subst this;exact h1 he1
theorem Rf{S:List Spot}(hd:S.Nodup){s:Spot}:x∈GQ sh S s↔x∈nbS sh S s:=by
 unfold GQ nbS;rw[List.mem_filterMap,Fm];constructor
 ·rintro⟨d,hm,he⟩;obtain⟨i,rfl⟩:=K6 he;have h:=(Ew hd).1 he;exact⟨i,(Xx.1 h).1,Yk.2 ⟨d,hm,by simp [h]⟩,rfl⟩
 ·rintro⟨i,hi,ha,rfl⟩;obtain⟨d,hm,he⟩:=Yk.1 ha;exact⟨d,hm,(Ew hd).2 (Xa he)⟩
theorem Hr{l m:List Int}(hd:l.Nodup)(hm:List.Pairwise (λx y=>x<y) m)(h:∀x,x∈l↔x∈m):l.mergeSort leI=m:=by
 refine Jf ?_ hm λx=>?_
 ·have h1:=Fd l;have h2:(l.mergeSort leI).Nodup:=(Yh l leI).nodup_iff.2 hd;rw[XR]at h1⊢;intro i j hi hj hij;have a:=h1 i j hi hj hij;have b:=XR.1 h2 i j hi hj hij;have b':¬(l.mergeSort leI)[i]=(l.mergeSort leI)[j]:=b;omega
 ·rw[(Yh l leI).mem_iff];exact h x
theorem Ol(sh:Int){S:List Spot}(hd:S.Nodup)(s:Spot):(GQ sh S s).mergeSort leI=nbS sh S s:=Hr (MP sh hd s) (Hq ..) λx=>Rf hd
theorem NQ{S:List Spot}{f:Spot->Option Int}{c:Nat}:(c:Int)∈B0 S f n↔∃s,S[c]?=some s/\f s=some n:=by
 unfold B0;rw[Jh];simp only[W9,Option.bind_eq_some_iff];constructor
 ·exact λh=>h.2
 ·grind
theorem MQ{S:List Spot}{f:Spot->Option Int}:(B0 S f n).isEmpty=false↔∃s∈S,f s=some n:=by
 rw[List.isEmpty_eq_false_iff_exists_mem];constructor
 ·rintro⟨x,hx⟩;obtain⟨i,-,-,rfl⟩:=Fm.1 hx;obtain⟨s,h1,h2⟩:=NQ.1 hx;exact⟨s,XB h1,h2⟩
 ·rintro⟨s,h1,h2⟩;obtain⟨i,hi,h3⟩:=X9.1 h1;exact⟨(i:Int),NQ.2 ⟨s,by rw[W2 hi,h3],h2⟩⟩
theorem Rg:List.Pairwise (λx y=>x<y) Ji:=by
 unfold Ji;rw[YH];exact YB.imp λq=>zo
theorem Ti:n∈Ji↔ -16<=n/\n<=32:=by
 unfold Ji;rw[Xh];constructor
 ·rintro⟨k,hk,rfl⟩;have:=Xj.1 hk;omega
 ·intro h;exact⟨(n+16).toNat,Xj.2 zo,zo⟩
theorem Tj{S:List Spot}{f:Spot->Option Int}{K:List Int}(hn:K.Nodup)(hk:∀n,n∈K↔∃s∈S,f s=some n)(hb:∀s∈S,∀n,f s=some n-> -16<=n/\n<=32):(K.mergeSort leI).map (B0 S f)=Bg S f:=by
 have h:K.mergeSort leI=Ji.filter λn=>!(B0 S f n).isEmpty:=by
  refine Hr hn (Rg.sublist YN) λn=>?_
  rw[hk,Y6,Ti,XQ,MQ];exact⟨λq=>let ⟨s,h1,h2⟩:=q;⟨hb s h1 n h2,q⟩,λq=>q.2⟩
 rw[h,Bg,List.filter_map];rfl
theorem Tk{w p q:Int}(hw:1<=w)(hp:0<=p)(hq:0<=q)(h:C7 sh w p=C7 sh w q):p=q:=by
 unfold C7 at h;simp only[Prod.mk.injEq]at h;obtain⟨h1,h2⟩:=h;have e1:=Int.tmod_add_mul_tdiv p w;have e2:=Int.tmod_add_mul_tdiv q w;rw[h2]at h1 e1;split at h1<;>omega
theorem Hs{w:Int}{cells:List Int}(hw:1<=w)(hr:List.Pairwise (λx y=>x<y) cells)(h0:∀p∈cells,0<=p):(AT sh w cells).Nodup:=by
 unfold AT;rw[List.Nodup,YH,XR];intro i j hi hj hij e;have:=Tk hw (h0 _ (Wn hi)) (h0 _ (Wn hj)) e;have:=XR.1 hr i j hi hj hij;omega
end
def besS(sh:Int)(a b:Spot):Bool:=(EJ sh).any λd=>decide (b=addP a d)
def besR(sh:Int)(a b:Spot):Bool:=
 let dx:=b.1-a.1
 let dy:=b.2-a.2
 if sh=1 then decide (dy=0)&&(decide (dx=1)||decide (dx= -1))||decide (dx=0)&&(decide (dy=1)||decide (dy= -1))
 else decide (dx=1)&&decide (dy=0)||decide (dx= -1)&&decide (dy=0)||decide (dx=0)&&decide (dy=1)||decide (dx=0)&&decide (dy= -1)||decide (dx=1)&&decide (dy= -1)||decide (dx= -1)&&decide (dy=1)
def MR(sh:Int)(a b:Spot):besR sh a b=besS sh a b:=by
 obtain⟨a1,a2⟩:=a;obtain⟨b1,b2⟩:=b;rw[Wt];unfold besR besS EJ addP;by_cases h:sh=1
 ·simp only[Wg h,List.take,Z3,List.any_nil,Wz,W5,W9,Prod.mk.injEq,Ws,or_false];omega
 ·simp only[W7 h,List.take,Z3,List.any_nil,Wz,W5,W9,Prod.mk.injEq,Ws,or_false];omega
def Uf(sh:Int)(S:List Spot)(s:Spot):nbS sh S s=idxP S.length λb=>match S[b]? with
  |some t=>besS sh s t
  |none=>false:=by
 unfold nbS;refine Cc λi hi=>?_
 rw[W2 hi];unfold besS;simp only[Option.some.injEq]
def Tl(sh:Int)(a:Spot):besS sh a a=false:=by
 rw[<-MR,Yn];intro h;unfold besR at h;by_cases h1:sh=1
 ·simp_all
 ·simp_all
def Rh{y:Int}(h:0<=y):(y-y.tmod 2).tdiv 2=y.tdiv 2:=by grind
def symI(m:Nat):List Int:=(List.range m).map λ(i:Nat)=>(i:Int)
def Gn{m:Nat}{s:Int}:s∈symI m↔0<=s/\s<m:=by
 unfold symI;rw[Xh];constructor
 ·rintro⟨i,hi,rfl⟩;have:=Xj.1 hi;omega
 ·intro h;exact⟨s.toNat,Xj.2 zo,zo⟩
def K7(m:Nat)(l:List Int):List Int:=(symI m).filter λs=>!l.contains s
def chsE(m:Nat):Nat->List Int->List (List Int)
 |0,l=>[l]
 |j+1,l=>(K7 m l).flatMap λs=>chsE m j (l++[s])
def chs(m n:Nat):List (List Int):=chsE m n []
def chsR(m:Nat):Nat->List (List Int)
 |0=>[[]]
 |n+1=>(chsR m n).flatMap λl=>(K7 m l).map λs=>l++[s]
theorem K8(m:Nat):∀(j:Nat) (l:List Int),chsE m (j+1) l=(chsE m j l).flatMap λl'=>(K7 m l').map λs=>l'++[s]
 |0,l=>by simp [chsE,YF,List.map_eq_flatMap]
 |j+1,l=>by
  rw[chsE];conv=>rhs;rw[chsE]
  rw[List.flatMap_assoc];congr 1;funext s;exact K8 m j (l++[s])
theorem Jj(m:Nat):∀n,chs m n=chsR m n
 |0=>rfl
 |n+1=>by
  unfold chs;rw[K8,chsR,<-Jj m n];rfl
theorem NR{m:Nat}:∀{j:Nat} {l x:List Int},x∈chsE m j l->x.length=l.length+j/\(l.Nodup->(∀s∈l,0<=s/\s<m)->x.Nodup/\∀s∈x,0<=s/\s<m)
 |0,l,x,h=>by
  simp only[chsE,Xs]at h;subst h;exact⟨rfl,λa b=>⟨a,b⟩⟩
 |j+1,l,x,h=>by
  simp only[chsE,List.mem_flatMap]at h;obtain⟨s,hs,hx⟩:=h;obtain⟨h1,h2⟩:=NR hx;refine⟨by rw[h1,Wr];simp;omega,λhd hr=>?_⟩;unfold K7 at hs;rw[Y6,Gn,XQ,Z0,XN]at hs;refine h2 ?_ ?_
  ·grind
  ·grind
def Jk{m n:Nat}{x:List Int}(h:x∈chs m n):x.length=n/\x.Nodup/\∀s∈x,0<=s/\s<m:=by
 obtain⟨h1,h2⟩:=NR h;obtain⟨h3,h4⟩:=h2 Za zw;exact⟨by simpa using h1,h3,h4⟩
def at0(l:List Int)(i:Int):Int:=l[i.toNat]?.getD 0
def A9(bad:Int->Int->Bool):List Int->Bool
 |[]=>false
 |a::r=>(r.any λb=>decide (0<=a)&&decide (0<=b)&&bad a b)||A9 bad r
def cOwn(ls l:List Int):Nat:=(l.filter λs=>decide (0<=s)&&ls.contains s).length
def cOth(ls l:List Int):Nat:=(l.filter λs=>decide (0<=s)&& !ls.contains s).length
def cNon(l:List Int):Nat:=(l.filter λs=>decide (s<0)).length
def absI(a:Int):Int:=max a (-a)
def Bu(vals:List Int)(k n:Int)(ls l:List Int):Bool:=
 if k=1 then A9 (λa b=>decide (a=b)) l
 else if k=2 then decide (cOwn ls l=0)&&decide (cNon l=0)
 else if k=3 then A9 (λa b=>decide (absI (at0 vals a-at0 vals b)<n)) l
 else if k=4 then A9 (λa b=>decide (at0 vals b<=at0 vals a)) l
 else if k=6 then decide (n<(cOwn ls l:Int))||decide ((l.length:Int)-n<(cOth ls l:Int))
 else false
def El(vals:List Int)(q:Cnd)(letters cells:List Int):Bool:=Bu vals q.k q.n (q.ls.map (at0 letters)) (q.cs.map (at0 cells))
def Ri(p:Prm)(letters cells:List Int):Bool:=decide (0<=at0 cells p.c)&& !(p.ls.map (at0 letters)).contains (at0 cells p.c)
def K9(vals:List Int)(x:Zt)(letters cells:List Int):List Bool:=(x.qs.map λq=>El vals q letters cells)++x.ps.map λp=>Ri p letters cells
def CP(vals:List Int)(x:Zt)(letters cells:List Int)(i:Int):Bool:=if i<0 then false else(K9 vals x letters cells)[i.toNat]?.getD false
def NS(vals:List Int)(x:Zt)(letters cells:List Int):Bool:=(K9 vals x letters cells).all λb=>!b
structure ExtC(a b:List Int):Prop where
 len:a.length=b.length
 le:∀(i:Nat) s,a[i]?=some s->0<=s->b[i]?=some s
 neg:∀s∈a,-1<=s
def CQ{l:List Int}{i:Int}(h0:0<=i)(h:i<l.length):l[i.toNat]?=some (at0 l i):=by
 unfold at0;rw[W2 zo];rfl
inductive Ext2:List Int->List Int->Prop
 |nil:Ext2 [] []
 |cons {a b:Int} {l m:List Int}:(0<=a->b=a)->Ext2 l m->Ext2 (a::l) (b::m)
theorem Ext2.any{p:Int->Bool}:∀{l m:List Int},Ext2 l m->(l.any λb=>decide (0<=b)&&p b)=true->(m.any λb=>decide (0<=b)&&p b)=true
 |_,_,.nil,h=>h
 |_,_,.cons (a:=a) (b:=b) hh t,h=>by
  rw[Z3,Wz]at h⊢;rcases h with h|h
  ·simp_all
  ·exact .inr (t.any h)
section
structure Cas where
 k:Int
 a:Int
 deriving DecidableEq
def NT:Int:=2
def NU:Int:=1
def Ht(x:Zt)(c:Int):Option Prm:=x.ps.find? λp=>decide (p.c=c)
def NV(m:Nat)(x:Zt)(letters:List Int)(c:Int):List Int:=match Ht x c with
 |none=>symI m
 |some p=>(symI m).filter λs=>(p.ls.map (at0 letters)).contains s
def begC(x:Zt)(letters:List Int):List Int:=(List.replicate x.cs.length (-1)).set x.c.toNat (at0 letters x.l)
def seqT(f:Int->List Cas->Option (List Cas)):List Int->List Cas->Option (List Cas)
 |[],l=>some l
 |s::r,l=>(f s l).bind (seqT f r)
def Ct(vals:List Int)(x:Zt)(letters:List Int):Nat->List Int->List Cas->Option (List Cas)
 |_,_,[]=>none
 |f,cells,n::l=>
  if n.k=NT then(if CP vals x letters cells n.a then some l else none)
  else if n.k=NU/\0<=n.a/\n.a<cells.length/\at0 cells n.a<0 then
   match f with
   |0=>none
   |f+1=>seqT (λs l=>Ct vals x letters f (cells.set n.a.toNat s) l) (NV vals.length x letters n.a) l
  else none
def GR(vals:List Int)(x:Zt)(trees:List (List Cas)):Bool:=
 decide ((chs vals.length x.ls.length).length=trees.length)&&(((chs vals.length x.ls.length).zip trees).all λq=>decide (Ct vals x q.1 x.cs.length (begC x q.1) q.2=some []))
def tryP(vals:List Int)(x:Zt)(letters:List Int):Nat->Nat->List Int->Bool
 |j,i,cells=>if NS vals x letters cells then(match j with
   |0=>true
   |j+1=>if(i:Int)=x.c then tryP vals x letters j (i+1) cells else(symI vals.length).any λs=>tryP vals x letters j (i+1) (cells.set i s))
  else false
def LC(vals:List Int)(x:Zt):Bool:=(chs vals.length x.ls.length).all λletters=>!tryP vals x letters x.cs.length 0 (begC x letters)
structure Refutes(vals:List Int)(x:Zt)(letters c:List Int):Prop where
 len:c.length=x.cs.length
 rng:∀s∈c,0<=s/\s<vals.length
 con:at0 c x.c=at0 letters x.l
 ok:NS vals x letters c=true
variable {vals letters a b:List Int} {x:Zt}
theorem Jl(x:Zt)(letters:List Int):(begC x letters).length=x.cs.length:=by unfold begC;simp
theorem I0(hx:OKL x)(hl:letters∈chs vals.length x.ls.length):0<=at0 letters x.l/\at0 letters x.l<vals.length:=by
 obtain⟨h1,-,h3⟩:=Jk hl;exact h3 _ (XB (CQ hx.l.1 (by rw[h1];exact hx.l.2)))
end
section
structure Sofar(vals:List Int)(x:Zt)(letters:List Int)(i:Nat)(cells:List Int):Prop where
 len:cells.length=x.cs.length
 con:at0 cells x.c=at0 letters x.l
 lo:∀(k:Nat) s,cells[k]?=some s->k<i\/(k:Int)=x.c->0<=s/\s<vals.length
 hi:∀(k:Nat) s,cells[k]?=some s->i<=k->(k:Int)≠x.c->s= -1
variable {vals letters cells:List Int} {x:Zt} {i:Nat}
end
structure Some1(vals:List Int)(x:Zt)(letters cells:List Int):Prop where
 len:cells.length=x.cs.length
 con:at0 cells x.c=at0 letters x.l
 rng:∀s∈cells,-1<=s/\s<vals.length
 let0:0<=at0 letters x.l
def negs(cells:List Int):Nat:=(cells.filter λs=>decide (s<0)).length
theorem NW:∀{cells:List Int} {i:Nat} {s t:Int},cells[i]?=some t->t<0->0<=s->negs (cells.set i s)+1=negs cells
 |[],_,_,_,h,_,_=>by cases h
 |a::l,0,s,t,h,ht,hs=>by
  cases h;unfold negs;rw[List.set_cons_zero,XH,XH,W7 (by simpa using hs),Wg (by simpa using ht)];rfl
 |a::l,i+1,s,t,h,ht,hs=>by
  have ih:=NW (cells:=l) (i:=i) (s:=s) (t:=t) (by simpa using h) ht hs;unfold negs at ih⊢;rw[List.set_cons_succ,XH,XH];split<;>(try simp only[Ww])<;>omega
def Tm{x:Zt}{letters:List Int}:negs (begC x letters)<=x.cs.length:=by grind [negs,Jl]
mutual
inductive View(H:AC):Fs->Fs->Prop
 |wk {a b:Fs}:Wk b a->View H a b
 |ref {id e off len cap:Nat} {l:List Fs}:hget H id=some (.arr e l)->off+len<=l.length->len<=cap->View H (.sl (.none e) ((l.drop off).take len)) (.ref id e off len cap)
 |ptr {id off:Nat} {cs:List Fs}:hget H id=some (.box cs)->View H (.ep (cs.drop off)) (.ptr id off)
 |pw {id off:Nat} {cs us:List Fs}:hget H id=some (.box cs)->Views H us (cs.drop off)->View H (.ep us) (.ptr id off)
 |agg {us bs:List Fs}:Views H us bs->View H (.agg us) (.agg bs)
 |fn {f:Fn} {us bs cs ds:List Fs}:Views H us bs->Views H cs ds->View H (.fn f us cs) (.fn f bs ds)
inductive Views(H:AC):List Fs->List Fs->Prop
 |nil:Views H [] []
 |cons {a b:Fs} {us bs:List Fs}:View H a b->Views H us bs->Views H (a::us) (b::bs)
end
mutual
def Fs.flat:Fs->Prop
 | .bool _| .int _ _| .str _| .nilp| .nilfn| .nilifc| .nilmp=>True
 | .agg cs=>flats cs
 | .tup cs=>flats cs
 |_=>False
def flats:List Fs->Prop
 |[]=>True
 |a::us=>a.flat/\flats us
end
mutual
theorem NX{g g':Zb}:∀(a:Fs) (v:Value),a.flat->VRel g a v->VRel g' a v
 | .bool _,_,_,h=>h
 | .int _ _,_,_,h=>h
 | .str _,_,_,h=>h
 | .nilp,_,_,h=>h
 | .nilfn,_,_,h=>h
 | .nilifc,_,_,h=>h
 | .nilmp,_,_,h=>h
 | .agg cs,_,hf,h=>by
  obtain⟨vs,rfl,h1,h2⟩:=h;exact⟨vs,rfl,flats_rel cs _ hf h1,h2⟩
 | .tup cs,_,hf,h=>by
  obtain⟨vs,rfl,h1⟩:=h;exact⟨vs,rfl,flats_rel cs _ hf h1⟩
 | .ptr _ _,_,hf,_=>hf.elim
 | .ep _,_,hf,_=>hf.elim
 | .gp _,_,hf,_=>hf.elim
 | .sl _ _,_,hf,_=>hf.elim
 | .ref _ _ _ _ _,_,hf,_=>hf.elim
 | .ap _ _ _ _,_,hf,_=>hf.elim
 | .fn _ _ _,_,hf,_=>hf.elim
 | .ifc _ _,_,hf,_=>hf.elim
 | .mp _,_,hf,_=>hf.elim
 | .up,_,hf,_=>hf.elim
theorem flats_rel{g g':Zb}:∀(us:List Fs) (vs:List Value),flats us->VRels g us vs->VRels g' us vs
 |[],_,_,h=>h
 |a::us,_,hf,h=>by
  obtain⟨v,r,rfl,h1,h2⟩:=h;exact⟨v,r,rfl,NX a v hf.1 h1,flats_rel us r hf.2 h2⟩
end
def allσ(w:World):Nat->Nat->Option Value:=λb o=>w.cell? ⟨b,o,none⟩
section
variable {g:Zb} {H:AC} {n:Nat} {w:World}
theorem Fo(R:Zi g H n w):JK 0 g ⟨λ_=>none,allσ w⟩:=⟨λ_ _ h=>absurd h (Xl _),λb o v h=>R.σw b o v h⟩
theorem I1{f:Nat->Option Value}:∀(cs:List Fs) (o k:Nat),PStab g f o cs->PStab g f (o+k) (cs.drop k)
 |[],o,k,_=>by rw[List.drop_nil];trivial
 |a::cs,o,0,h=>h
 |a::cs,o,k+1,h=>by rw[List.drop_succ_cons,show o+(k+1)=o+1+k by omega];exact I1 cs (o+1) k h.2
mutual
theorem NY(R:Zi g H n w):∀{a b:Fs} {v:Value},View H a b->a.under 0->VRel g b v->VRel ⟨λ_=>none,allσ w⟩ a v
 |a,b,v,.wk h,hu,hv=>VRel.agree (n:=0) (Fo R) a v hu (h g v hv)
 |_,_,v,.ref (id:=id) (e:=e) (off:=off) (len:=len) (cap:=cap) (l:=l) h1 h2 h3,hu,hv=>by
  obtain⟨L,k1,k2,rfl⟩:=hv;obtain⟨L',c,ty,j1,j2,j3,j4,j5,j6⟩:=R.obj id _ h1;rw[k1]at j1;cases j1;have hlen:((l.drop off).take len).length=len:=by simp;omega
  have hst:=Stab.take len _ _ (Stab.drop off _ _ j6);rw[Xm]at hst;refine .inr ⟨trivial,L.blk,off*e,cap,⟨none,by rw[hlen],.inl rfl⟩,by rw[hlen];exact h3,?_,trivial⟩;have hst2:Stab g e (allσ w L.blk) (off*e) ((l.drop off).take len):=Stab.mono (Zb.le.refl g) (λo x hx=>by
   show w.cell? ⟨L.blk,o,none⟩=some x;rw[An j4];exact hx) e _ _ hst
  exact Stab.agree (n:=0) (Fo R) (λo x h=>h) e _ _ hu.2 hst2
 |_,_,v,.ptr (id:=id) (off:=off) (cs:=cs) h1,hu,hv=>by
  obtain⟨L,k1,k2,rfl⟩:=hv;obtain⟨L',c,ty,j1,j2,j3,j4,j5,j6⟩:=R.obj id _ h1;rw[k1]at j1;cases j1;refine⟨L.blk,off,rfl,?_⟩;have hd:∀(cs:List Fs) (o k:Nat),PStab g (λo=>c[o]?) o cs->PStab g (λo=>c[o]?) (o+k) (cs.drop k):=by
   intro cs;induction cs with
   |nil=>intro o k _;rw[List.drop_nil];trivial
   |cons a cs ih=>
    intro o k h;cases k with
    |zero=>exact h
    |succ k=>rw[List.drop_succ_cons,show o+(k+1)=o+1+k by omega];exact ih (o+1) k h.2
  have h2:=hd cs 0 off j6;rw[Xm]at h2;have h3:PStab g (allσ w L.blk) off (cs.drop off):=PStab.mono (Zb.le.refl g) (λo x hx=>by
   show w.cell? ⟨L.blk,o,none⟩=some x;rw[An j4];exact hx) _ _ h2
  exact PStab.agree (n:=0) (Fo R) (λo x h=>h) _ _ hu h3
 |_,_,v,.pw (id:=id) (off:=off) (cs:=cs) h1 hw,hu,hv=>by
  obtain⟨L,k1,k2,rfl⟩:=hv;obtain⟨L',c,ty,j1,j2,j3,j4,j5,j6⟩:=R.obj id _ h1;rw[k1]at j1;cases j1;refine⟨L.blk,off,rfl,?_⟩;have h2:=I1 cs 0 off j6;rw[Xm]at h2;exact pstab_rel R hw hu (PStab.mono (Zb.le.refl g) (λo x hx=>by
   show w.cell? ⟨L.blk,o,none⟩=some x;rw[An j4];exact hx) _ _ h2)
 |_,_,v,.agg h,hu,hv=>by
  obtain⟨vs,rfl,h1,h2⟩:=hv;exact⟨vs,rfl,views_rel R h hu h1,h2⟩
 |_,_,v,.fn h k,hu,hv=>by
  obtain⟨x,c,rfl,h1,h2⟩:=hv;exact⟨x,c,rfl,views_rel R h hu.1 h1,views_rel R k hu.2 h2⟩
theorem views_rel(R:Zi g H n w):∀{us bs:List Fs} {vs:List Value},Views H us bs->unders 0 us->VRels g bs vs->VRels ⟨λ_=>none,allσ w⟩ us vs
 |_,_,vs,.nil,_,hv=>hv
 |_,_,vs,.cons h t,hu,hv=>by
  obtain⟨v,r,rfl,h1,h2⟩:=hv;exact⟨v,r,rfl,NY R h hu.1 h1,views_rel R t hu.2 h2⟩
theorem pstab_rel(R:Zi g H n w):∀{us bs:List Fs} {f:Nat->Option Value} {o:Nat},Views H us bs->unders 0 us->PStab g f o bs->PStab ⟨λ_=>none,allσ w⟩ f o us
 |_,_,f,o,.nil,_,_=>trivial
 |_,_,f,o,.cons h t,hu,hp=>by
  obtain⟨⟨v,h1,h2,h4⟩,h3⟩:=hp;exact⟨⟨v,h1,NY R h hu.1 h2,h4⟩,pstab_rel R t hu.2 h3⟩
end
end
def Pur.viewF{P:Program}{f:FuncId}{args args':List Fs}{r:Fs}{H:AC}(h:Pur P f args r)(hf:∀g g' v,VRel g r v->VRel g' r v)(hv:Views H args args')(n:Nat):Am P f args' H n r:=by
 obtain⟨ha,hr,m6,hc⟩:=h;refine⟨m6,λg w vs R hvs=>?_⟩;have R0:Zi ⟨λ_=>none,allσ w⟩ hnil 0 w:=
  {σw:=λb o v h=>h
   obj:=λ_ _ h=>by simp [hget,hnil]at h
   dom:=λ_ _ h=>by simp at h
   hd:=λ_ _ h=>by simp [hget,hnil]at h
   ap:=λ_ _ _ _ _ _ _ h=>by simp [hget,hnil]at h
   un:=λ_ _ _ _ h=>by simp [hget,hnil]at h
   gl:=λi cs h=>PStab.agree (n:=0) (Fo R) (λo x h=>R.σw i o x h) cs 0 (IL i cs h) (R.gl i cs h)
   gz:=R.gz}
 refine(hc _ w vs R0 (views_rel R hv ha hvs)).mono ?_;rintro e w' ⟨g',out,H',n',⟨v,rfl,hw⟩,he,hR',-,ht⟩;cases e with
 |panicked c=>exact he.elim
 |outgrown=>exact he.elim
 |returned x=>
  have hx:VRel g' r x:=hw _ _ he;have keep:∀(b:Nat) ob,w.heap[b]?=some ob->w'.heap[b]?=some ob:=by
   intro b ob hb;have hk:=ht.kept b ob hb;cases ob<;>first|exact hk.resolve_left DH|skip
   obtain⟨c',h1,h2,h3⟩:=hk;rw[h1];congr 2;exact Array.ext_getElem? λi=>h3 i DH
  have inH:∀b o v,w.cell? ⟨b,o,none⟩=some v->b<w.heap.size:=by
   intro b o v hc;unfold World.cell? at hc;split at hc
   ·rename_i hb;exact(X0.1 hb).1
   ·cases hc
  let σ2:Nat->Nat->Option Value:=λb o=>if b<w.heap.size then g.σ b o else g'.σ b o
  have old:∀b o v,g.σ b o=some v->σ2 b o=some v:=λb o v hh=>by
   simp only[σ2];rw[Wg (inH b o v (R.σw b o v hh))];exact hh
  have gle:g.le ⟨g.β,σ2⟩:=⟨λ_ _ h=>h,old⟩;have hcell:∀b o v,b<w.heap.size->w.cell? ⟨b,o,none⟩=some v->w'.cell? ⟨b,o,none⟩=some v:=by
   intro b o v hb hh;have e1:=Y2 hb;have e2:=keep b _ e1;unfold World.cell? at hh⊢;simp only[e1,e2]at hh⊢;exact hh
  refine⟨⟨g.β,σ2⟩,.ret r,H,n,⟨rfl,rfl,rfl⟩,hf _ _ x hx,?_,W8 _,?_⟩
  ·refine⟨?_,?_,?_,R.hd,R.ap,?_,R.gl.mono gle,hR'.gz⟩
   ·intro b o v hh;simp only[σ2]at hh;split at hh
    ·rename_i hb;exact hcell b o v hb (R.σw b o v hh)
    ·exact hR'.σw b o v hh
   ·intro id ob hob;have ho:=R.obj id ob hob;cases ob with
    |box cs=>obtain⟨L,c,e,h1,h2,h3,h4,h5,h6⟩:=ho;exact⟨L,c,e,h1,h2,h3,keep _ _ h4,h5,PStab.mono gle (λ_ _ h=>h) cs 0 h6⟩
    |tok=>obtain⟨L,h1,h2⟩:=ho;exact⟨L,h1,λc5=>let ⟨c,e,h3,h4⟩:=h2 c5;⟨c,e,keep _ _ h3,h4⟩⟩
    |arr esz l=>obtain⟨L,c,e,h1,h2,h3,h4,h5,h6⟩:=ho;exact⟨L,c,e,h1,h2,h3,keep _ _ h4,h5,Stab.mono gle (λ_ _ h=>h) esz l 0 h6⟩
    |frz esz l=>obtain⟨L,h1,h2,h3⟩:=ho;exact⟨L,h1,h2,Stab.mono gle (λo x hx=>old L.blk o x hx) esz l 0 h3⟩
    |map es c=>obtain⟨L,es',h1,h2,h3,h4,h5⟩:=ho;exact⟨L,es',h1,h2,h3,keep _ _ h4,MRel.mono gle _ _ h5⟩
    |sit s pos=>obtain⟨L,h1,h2,h3,h4⟩:=ho;exact⟨L,h1,h2,h3,keep _ _ h4⟩
    |mit m c seen last=>obtain⟨L,Lm,h1,h2,h3,h4,h5⟩:=ho;exact⟨L,Lm,h1,h2,h3,keep _ _ h4,h5⟩
    |lp x=>obtain⟨L,h1,h2,h3,h4,r,k1,k2,k3,k4,k5,k6,k7,k8⟩:=ho;exact⟨L,h1,h2,h3,h4,r,keep _ _ k1,k2,k3,k4,k5,k6,BU.mono gle k7,k8⟩
    |dead=>trivial
   ·intro id L hL;exact⟨(R.dom id L hL).1,λc5=>Y5 ((R.dom id L hL).2 c5) ht.size⟩
   ·intro id ob L o q1 q2 q3 q4 q5;have hb:=(R.dom id L q3).2 zo;show σ2 L.blk o=none;simp only[σ2];rw[Wg hb];exact R.un id ob L o q1 q2 q3 q4 q5
  ·refine⟨gle,λ_ _ h=>.inl h,ht.os,ht.tape,ht.output,ht.size,λb ob hb=>by rw[keep b ob hb];exact Kept.same _ _,λ_ _ _ h=>h,λb o v hb h=>.inl ?_⟩;have h':σ2 b o=some v:=h;simp only[σ2]at h';rw[Wg hb]at h';exact h'
def Pur.view{P:Program}{f:FuncId}{args args':List Fs}{r:Fs}{H:AC}(h:Pur P f args r)(hf:r.flat)(hv:Views H args args')(n:Nat):Am P f args' H n r:=h.viewF (λ_ _ v=>NX r v hf) hv n
section
variable {α:Type}
theorem Rj{p:α->Bool}{l:List α}{i:Nat}(h:i<l.length)(hp:p l[i]=true)(hn:∀j (hj:j<l.length),j<i->p l[j]=false):l.findIdx? p=some i:=
 Xq.2 ⟨h,hp,λj hj=>by rw[hn j zo hj];decide⟩
theorem Rk{p:α->Bool}{l:List α}(hn:∀j (hj:j<l.length),p l[j]=false):l.findIdx? p=none:=
 Yi.2 λx hx=>by obtain⟨j,hj,rfl⟩:=X9.1 hx;exact hn j hj
def idxG[DecidableEq α](l:List α)(s:α):Int:=match l.findIdx? (λx=>decide (x=s))with
 |some k=>k
 |none=>-1
theorem Ug(l:List Bs)(s:Bs):idxG l s=idxS l s:=rfl
theorem Em[DecidableEq α]{l:List α}{s:α}{i:Nat}(h:i<l.length)(hp:l[i]=s)(hn:∀j (hj:j<l.length),j<i->l[j]≠s):idxG l s=i:=by
 unfold idxG;rw[Rj h (by simp [hp]) λj hj hji=>by simp [hn j hj hji]]
theorem LD[DecidableEq α]{l:List α}{s:α}(hn:∀j (hj:j<l.length),l[j]≠s):idxG l s= -1:=by
 unfold idxG;rw[Rk λj hj=>by simp [hn j hj]]
theorem Db[DecidableEq α]:∀{l:List α},BA l=true↔∀j (hj:j<l.length),idxG l l[j]=(j:Int)
 |[]=>by simp [BA]
 |x::r=>by
  have ih:=Db (l:=r);simp only[BA,W5,XQ];constructor
  ·rintro⟨h1,h2⟩ j hj;cases j with
   |zero=>exact Em (i:=0) zw rfl λk _ hk=>zo
   |succ j=>
    have hj':j<r.length:=by simpa using hj
    refine Em hj rfl λk hk hkj=>?_
    cases k with
    |zero=>
     intro e;have:(r.any λy=>decide (y=x))=true:=Yk.2 ⟨r[j],Wn hj',by simpa using e.symm⟩;rw[h1]at this;cases this
    |succ k=>
     intro e;have hk':k<r.length:=by simpa using hk
     have e':r[k]=r[j]:=by simpa using e
     have q1:=ih.1 h2 k hk';have q2:=ih.1 h2 j hj';rw[e']at q1;rw[q1]at q2;omega
  ·intro h;refine⟨?_,ih.2 λj hj=>?_⟩
   ·rw[YG];intro y hy e;obtain⟨j,hj,rfl⟩:=X9.1 hy;have e:r[j]=x:=by simpa using e
    have h0:=h 0 zw;have:=h (j+1) (by simpa using hj);simp only[List.getElem_cons_succ,e]at this;simp only[List.getElem_cons_zero]at h0;rw[h0]at this;omega
   ·have:=h (j+1) (by simpa using hj);simp only[List.getElem_cons_succ]at this;unfold idxG at this⊢;rw[List.findIdx?_cons]at this;by_cases e:x=r[j]
    ·simp [e]at this;omega
    ·rw[show decide (x=r[j])=false by simp [e]]at this;simp only[Ws,X4]at this;cases hq:r.findIdx? (λx=>decide (x=r[j]))with
     |none=>rw[hq]at this;simp at this;omega
     |some k=>rw[hq]at this;simp at this⊢;omega
theorem p108(l:List Bs)(s:Bs)(hl:few l):Pur prog 108 [eSs l,.str s] (eI (idxS l s)):=by
 refine .mk ⟨⟨trivial,Dq 0 l⟩,trivial,trivial⟩ trivial (c108.a (AF AI.tnil (AG ?_)));simp only[eE,eN,seval,W0,c108];refine AL (λi:Nat=>⟨[(0,true,eSs l),(1,true,.str s),(7,true,.int .i64 l.length),(8,true,.int .i64 i)],hnil,0⟩)
  (λi=>i<=l.length/\∀j (hj:j<l.length),j<i->l[j]≠s) (λi=>l.length-i) 0 rfl ⟨We _,λj hj h=>zo⟩ ?_
 rintro i ⟨hi,c8⟩;by_cases c5:i<l.length;case neg=>
  simp only[eZ,seval,lt_F c5];rw[<-Ug,LD λj hj=>c8 j hj zo]
 have hg:=W2 c5;have e:=AE (k:=i) zo;by_cases hs:l[i]=s
 ·simp only[eZ,seval,Wm,Wf,Wi,W0,Wq,lt_T c5,hg,A3,hs];rw[<-Ug,Em c5 hs c8]
 ·simp only[eZ,seval,Wm,Wf,Wi,W0,Wq,lt_T c5,hg,A3,show(s=l[i])=False from W4 (Ne.symm hs),e];refine .mk (i+1) rfl ⟨c5,λj hj h=>?_⟩ zo;by_cases q:j=i
  ·subst q;exact hs
  ·exact c8 j hj zo
theorem pw64(l:List Int)(s:Int)(hl:few l):Pur prog 64 [eIs l,eI s] (eI (idxG l s)):=by
 refine .mk ⟨⟨trivial,DY 0 l⟩,trivial,trivial⟩ trivial (c64.a (AF AI.tnil (AG ?_)));simp only[eE,eN,seval,W0,c64];refine AL (λi:Nat=>⟨[(0,true,eIs l),(1,true,eI s),(7,true,.int .i64 l.length),(8,true,.int .i64 i)],hnil,0⟩)
  (λi=>i<=l.length/\∀j (hj:j<l.length),j<i->l[j]≠s) (λi=>l.length-i) 0 rfl ⟨We _,λj hj h=>zo⟩ ?_
 rintro i ⟨hi,c8⟩;by_cases c5:i<l.length;case neg=>
  simp only[eZ,seval,lt_F c5];rw[LD λj hj=>c8 j hj zo]
 have hg:=W2 c5;have e:=AE (k:=i) zo;by_cases hs:l[i]=s
 ·simp only[eZ,seval,Wm,Wf,Wi,W0,Wq,lt_T c5,hg,hs];rw[Em c5 hs c8]
 ·simp only[eZ,seval,Wm,Wf,Wi,W0,Wq,lt_T c5,hg,show(s=l[i])=False from W4 (Ne.symm hs),e];refine .mk (i+1) rfl ⟨c5,λj hj h=>?_⟩ zo;by_cases q:j=i
  ·subst q;exact hs
  ·exact c8 j hj zo
structure Vg where
 i:Nat
 tk:Zu
 H:AC
 n:Nat
structure Ig(e len:Nat)(v:Vg):Prop where
 hi:v.i<=len
 fr:AQ v.H v.n
 tok:tkG e 0 v.H v.tk
 es:v.tk.esz=e\/v.i=0
theorem Rl{l:List Int}{n:Nat}:difI l n=true↔∀j (hj:j<l.length),0<=l[j]/\l[j]<n/\idxG l l[j]=(j:Int):=by
 unfold difI;rw[W5,Wo,Db];constructor
 ·rintro⟨h1,h2⟩ j hj;have:=h1 _ (Wn hj);simp only[W5,W9]at this;exact⟨this.1,this.2,h2 j hj⟩
 ·intro h;refine⟨λx hx=>?_,λj hj=>(h j hj).2.2⟩;obtain⟨j,hj,rfl⟩:=X9.1 hx;simp [(h j hj).1,(h j hj).2.1]
theorem NZ{l:List Int}{n:Nat}{j:Nat}(hj:j<l.length)(h:¬(0<=l[j]/\l[j]<n/\idxG l l[j]=(j:Int))):difI l n=false:=by
 cases q:difI l n with
 |false=>rfl
 |true=>exact absurd (Rl.1 q j hj) h
def TixI:Tab:=tadd 64 (s2 dIs dI (λa _=>few a) λa s=>eI (idxG a s)) tnil
theorem WZ:AI prog TixI:=AI.tnil.add (q2 pw64)
def indN(l:List Int)(n:Nat)(GX:Int):Bool:=difI l n&&decide (GX<=l.length)
theorem p68(l:List Int)(n:Nat)(GX:Int)(hl:few l):Pur prog 68 [eIs l,.int .i64 n,.int .i64 GX] (.bool (indN l n GX)):=by
 refine .mk ⟨⟨trivial,DY 0 l⟩,trivial,trivial,trivial⟩ trivial (c68.a (AF WZ (AG ?_)));simp only[eE,eN,seval,W0,c68];refine AL (λi:Nat=>⟨[(0,true,eIs l),(1,true,.int .i64 n),(2,true,.int .i64 GX),(9,true,eIs l),(10,true,.int .i64 l.length),(11,true,.int .i64 i)],hnil,0⟩)
  (λi=>i<=l.length/\∀j (hj:j<l.length),j<i->0<=l[j]/\l[j]<n/\idxG l l[j]=(j:Int)) (λi=>l.length-i) 0 rfl ⟨We _,λj hj h=>zo⟩ ?_
 rintro i ⟨hi,c8⟩;by_cases c5:i<l.length;case neg=>
  simp only[eZ,seval,W0,lt_F c5];unfold indN;rw[Rl.2 λj hj=>c8 j hj zo];rfl
 have hg:=W2 c5;have e:=AE (k:=i) zo;by_cases h1:l[i]<0
 ·simp only[eZ,seval,W3,Wm,Wf,Wi,W0,Wq,lt_T c5,hg,h1];unfold indN;rw[NZ c5 λq=>by omega];rfl
 by_cases h2:(n:Int)<=l[i]
 ·simp only[eZ,seval,W3,Wm,Wf,Wi,W0,Wq,lt_T c5,hg,h1,h2];unfold indN;rw[NZ c5 λq=>by omega];rfl
 by_cases h3:idxG l l[i]=(i:Int)
 ·simp only[eZ,seval,W3,Wm,Wf,Wi,W0,Wq,lt_T c5,hg,h1,h2,TixI,s2,dIs,dI,okL,decL,CR,As,hl,toI,h3,e,tadd];refine .mk (i+1) rfl ⟨c5,λj hj h=>?_⟩ zo;by_cases q:j=i
  ·subst q;exact⟨zo,zo,h3⟩
  ·exact c8 j hj zo
 ·simp only[eZ,seval,W6,Wm,Wf,Wi,W0,Wq,lt_T c5,hg,h1,h2,TixI,s2,dIs,dI,okL,decL,CR,As,hl,toI,h3,tadd];unfold indN;rw[NZ c5 λq=>h3 q.2.2];rfl
def Tnm:Tab:=tadd 66 (s1 dS any1 λs=>.bool (Cr s)) (tadd 108 (s2 dSs dS (λa _=>few a) λa s=>eI (idxS a s)) tnil)
theorem Tnm_ok:AI prog Tnm:=(AI.tnil.add (q2 p108)).add (q1 λs _=>p66 s)
theorem Rm{l:List Bs}:(l.all Cr&&BA l)=true↔∀j (hj:j<l.length),Cr l[j]=true/\idxS l l[j]=(j:Int):=by
 rw[W5,Wo,Db];constructor
 ·rintro⟨h1,h2⟩ j hj;exact⟨h1 _ (Wn hj),h2 j hj⟩
 ·intro h;refine⟨λx hx=>?_,λj hj=>(h j hj).2⟩;obtain⟨j,hj,rfl⟩:=X9.1 hx;exact(h j hj).1
theorem Uh{l:List Bs}{j:Nat}(hj:j<l.length)(h:¬(Cr l[j]=true/\idxS l l[j]=(j:Int))):(l.all Cr&&BA l)=false:=by
 cases q:(l.all Cr&&BA l)with
 |false=>rfl
 |true=>exact absurd (Rm.1 q j hj) h
theorem p67(l:List Bs)(most:Nat)(hl:few l):Pur prog 67 [eSs l,.int .i64 most] (.bool (DN l most)):=by
 refine .mk ⟨⟨trivial,Dq 0 l⟩,trivial,trivial⟩ trivial (c67.a (AF Tnm_ok (AG ?_)));simp only[eE,eN,seval,W0,c67];refine AL (λi:Nat=>⟨[(0,true,eSs l),(1,true,.int .i64 most),(7,true,eSs l),(8,true,.int .i64 l.length),(9,true,.int .i64 i)],hnil,0⟩)
  (λi=>i<=l.length/\∀j (hj:j<l.length),j<i->Cr l[j]=true/\idxS l l[j]=(j:Int)) (λi=>l.length-i) 0 rfl ⟨We _,λj hj h=>zo⟩ ?_
 rintro i ⟨hi,c8⟩;by_cases c5:i<l.length;case neg=>
  simp only[eZ,seval,W0,lt_F c5];unfold DN;rw[Rm.2 λj hj=>c8 j hj zo];by_cases h1:1<=l.length<;>by_cases h2:l.length<=most<;>simp [h1,h2]<;>omega
 have hg:=W2 c5;have e:=AE (k:=i) zo;by_cases h1:Cr l[i]=true
 ·by_cases h3:idxS l l[i]=(i:Int)
  ·simp only[eZ,seval,W3,Wm,Wf,Wi,W0,Wq,lt_T c5,hg,Tnm,s1,s2,dSs,dS,okL,decL,isS,toS,Cf,hl,h1,h3,e,tadd];refine .mk (i+1) rfl ⟨c5,λj hj h=>?_⟩ zo;by_cases q:j=i
   ·subst q;exact⟨h1,h3⟩
   ·exact c8 j hj zo
  ·simp only[eZ,seval,W3,W6,Wm,Wf,Wi,W0,Wq,lt_T c5,hg,Tnm,s1,s2,dSs,dS,okL,decL,isS,toS,Cf,hl,h1,h3,tadd];unfold DN;rw[Uh c5 λq=>h3 q.2];rfl
 ·have h1':Cr l[i]=false:=by simpa using h1
  simp only[eZ,seval,W3,W6,Wm,Wf,Wi,W0,Wq,lt_T c5,hg,Tnm,s1,s2,dSs,dS,okL,decL,isS,toS,Cf,hl,h1',tadd];unfold DN;rw[Uh c5 λq=>h1 q.1];rfl
end
abbrev encQ(q:Cnd):Fs:=.agg [.int .i64 q.k,eIs q.cs,eIs q.ls,.int .i64 q.n]
abbrev encM(p:Prm):Fs:=.agg [.int .i64 p.c,eIs p.ls]
abbrev encL(x:Zt):Fs:=.agg [.str x.nm,.int .i64 x.lv,eSs x.cs,eSs x.ls,.sl (.none 4) (x.qs.map encQ),.sl (.none 2) (x.ps.map encM),.int .i64 x.c,.int .i64 x.l]
def CI(n:Nat)(q:Cnd):(encQ q).under n:=⟨trivial,⟨trivial,DY n _⟩,⟨trivial,DY n _⟩,trivial,trivial⟩
def Om(n:Nat)(p:Prm):(encM p).under n:=⟨trivial,⟨trivial,DY n _⟩,trivial⟩
def Du(n:Nat)(x:Zt):(encL x).under n:=⟨trivial,trivial,⟨trivial,Dq n _⟩,⟨trivial,Dq n _⟩,⟨trivial,Au (CI n) _⟩,⟨trivial,Au (Om n) _⟩,trivial,trivial,trivial⟩
def decQ:Fs->Cnd
 | .agg [.int _ k,c,l,.int _ n]=>⟨k,Gb c,Gb l,n⟩
 |_=>⟨0,[],[],0⟩
def decM:Fs->Prm
 | .agg [.int _ c,l]=>⟨c,Gb l⟩
 |_=>⟨0,[]⟩
def decX:Fs->Zt
 | .agg [.str nm,.int _ lv,cs,ls,qs,ps,.int _ c,.int _ l]=>⟨nm,lv,Oh cs,Oh ls,K1 decQ qs,K1 decM ps,c,l⟩
 |_=>⟨[],0,[],[],[],[],0,0⟩
def Jm(q:Cnd):decQ (encQ q)=q:=by
 simp only[decQ,Gb,As]
def Tn(p:Prm):decM (encM p)=p:=by
 simp only[decM,Gb,As]
def Na(x:Zt):decX (encL x)=x:=by
 simp only[decX,Oh,K1,Cf,Dh Jm,Dh Tn]
def dQ:Dc Cnd:=dEx encQ decQ
def dX:Dc Zt:=dEx encL decX
def Rn(q:Cnd):dQ.ok (encQ q)=True:=W1 (by show encQ q=encQ (decQ (encQ q));rw[Jm])
def LE(q:Cnd):dQ.dec (encQ q)=q:=Jm q
def To(x:Zt):dX.ok (encL x)=True:=W1 (by show encL x=encL (decX (encL x));rw[Na])
def Nb(x:Zt):dX.dec (encL x)=x:=Na x
def Tcd:Tab:=tadd 68 (s3 dIs dI dI (λa n _=>few a/\0<=n) λa n k=>.bool (indN a n.toNat k)) tnil
def Tcd_ok:AI prog Tcd:=AI.tnil.add (q3 λa n k h=>by
 obtain⟨j,rfl⟩:∃j:Nat,n=j:=⟨n.toNat,zo⟩;exact p68 a j k h.1)
def Ui{q:Cnd}{nc nl:Nat}(h:(indN q.cs nc 1&&indN q.ls nl 0)=false):Bk q nc nl=false:=by
 unfold Bk indN at*;cases h1:difI q.cs nc<;>cases h2:difI q.ls nl<;>simp [h1,h2]at h⊢;intro q1;omega
def Wa{q:Cnd}{nc nl:Nat}(h1:indN q.cs nc 1=true)(h2:indN q.ls nl 0=true):Bk q nc nl=(if q.k=1\/q.k=4 then decide (2<=q.cs.length)&&decide (q.ls.length=0)&&decide (q.n=0)
  else if q.k=2 then decide (q.ls.length=1)&&decide (q.n=0)
  else if q.k=3 then decide (q.cs.length=2)&&decide (q.ls.length=0)&&decide (1<=q.n)&&decide (q.n<=99)
  else if q.k=5 then decide (q.cs.length=2)&&decide (q.ls.length=0)&&decide (q.n=0)
  else if q.k=6 then decide (1<=q.ls.length)&&decide (0<=q.n)&&decide (q.n<=q.cs.length)
  else false):=by
 unfold indN at h1 h2;simp only[W5,W9]at h1 h2;unfold Bk;rw[h1.1,h2.1,Wv (by omega:1<=q.cs.length)];rfl
def p69(q:Cnd)(nc nl:Nat)(h1:few q.cs)(h2:few q.ls):Pur prog 69 [encQ q,.int .i64 nc,.int .i64 nl] (.bool (Bk q nc nl)):=by
 refine .mk ⟨CI 0 q,trivial,trivial,trivial⟩ trivial (c69.a (AF Tcd_ok (AG ?_)));cases hb1:indN q.cs nc 1 with
 |false=>
  simp only[eZ,seval,W3,W6,Wf,Wi,c69,Tcd,s3,dIs,dI,okL,decL,CR,As,toI,h1,h2,hb1,tadd];rw[Ui (by rw[hb1];rfl)]
 |true=>
  cases i8:indN q.ls nl 0 with
  |false=>
   simp only[eZ,seval,W3,W6,Wf,Wi,c69,Tcd,s3,dIs,dI,okL,decL,CR,As,toI,h1,h2,hb1,i8,tadd];rw[Ui (by rw[hb1,i8];rfl)]
  |true=>
   rw[Wa hb1 i8];obtain⟨k,cs,ls,n⟩:=q;by_cases k1:k=1
   ·subst k1;simp only[eZ,seval,W3,Wf,Wi,W0,c69,Tcd,s3,dIs,dI,okL,decL,CR,As,toI,h1,h2,hb1,i8,tadd];exact(by rw[Wt];simp only[W5,W9];omega)
   by_cases k4:k=4
   ·subst k4;simp only[eZ,seval,W3,Wf,Wi,W0,c69,Tcd,s3,dIs,dI,okL,decL,CR,As,toI,h1,h2,hb1,i8,tadd];exact(by rw[Wt];simp only[W5,W9];omega)
   by_cases k2:k=2
   ·subst k2;simp only[eZ,seval,W3,Wf,Wi,W0,c69,Tcd,s3,dIs,dI,okL,decL,CR,As,toI,h1,h2,hb1,i8,tadd];exact(by rw[Wt];simp only[W5,W9];omega)
   by_cases k3:k=3
   ·subst k3;simp only[eZ,seval,W3,Wf,Wi,W0,c69,Tcd,s3,dIs,dI,okL,decL,CR,As,toI,h1,h2,hb1,i8,tadd];exact(by rw[Wt];simp only[W5,W9];omega)
   by_cases k5:k=5
   ·subst k5;simp only[eZ,seval,W3,Wf,Wi,W0,c69,Tcd,s3,dIs,dI,okL,decL,CR,As,toI,h1,h2,hb1,i8,tadd];exact(by rw[Wt];simp only[W5,W9];omega)
   by_cases k6:k=6
   ·subst k6;simp only[eZ,seval,W3,Wf,Wi,W0,c69,Tcd,s3,dIs,dI,okL,decL,CR,As,toI,h1,h2,hb1,i8,tadd];exact(by rw[Wt];simp only[W5,W9];omega)
   simp only[eZ,seval,W3,Wf,Wi,W0,c69,Tcd,s3,dIs,dI,okL,decL,CR,As,toI,h1,h2,hb1,i8,k1,k2,k3,k4,k5,k6,tadd]
def Ro{l:List Int}:BA l=true↔∀i j (hi:i<l.length) (hj:j<l.length),j<i->l[j]≠l[i]:=by
 rw[Db];constructor
 ·intro h i j hi hj hji e;have q1:=h i hi;have q2:=h j hj;rw[e]at q2;rw[q1]at q2;omega
 ·intro h j hj;exact Em hj rfl λk hk hkj=>h j k hj hk hkj
def p77(l:List Int)(n:Nat)(hl:few l):Pur prog 77 [eIs l,.int .i64 n] (.bool (difI l n)):=by
 refine .mk ⟨⟨trivial,DY 0 l⟩,trivial,trivial⟩ trivial (c77.a (AF AI.tnil (AG ?_)));have no:∀i (hi:i<l.length),¬(0<=l[i]/\l[i]<n)->difI l n=false:=λi hi q=>NZ hi λk=>q ⟨k.1,k.2.1⟩
 simp only[eE,eN,seval,c77];refine AL (λi:Nat=>⟨[(0,true,eIs l),(1,true,.int .i64 n),(5,true,.int .i64 i)],hnil,0⟩)
  (λi=>i<=l.length/\∀k (hk:k<l.length),k<i->0<=l[k]/\l[k]<n/\∀j (hj:j<l.length),j<k->l[j]≠l[k]) (λi=>l.length-i) 0 rfl ⟨We _,λj hj h=>zo⟩ ?_
 rintro i ⟨hi,c8⟩;by_cases c5:i<l.length;case neg=>
  simp only[eZ,seval,W0,lt_F c5];symm;unfold difI;rw[W5,Wo,Ro];refine⟨λx hx=>?_,λi j hi hj hji=>(c8 i hi zo).2.2 j hj hji⟩;obtain⟨k,hk,rfl⟩:=X9.1 hx;have:=c8 k hk zo;simp [this.1,this.2.1]
 have hg:=W2 c5;have e:=AE (k:=i) zo;by_cases h1:l[i]<0
 ·simp only[eZ,seval,W3,Wm,Wf,Wi,W0,Wq,lt_T c5,hg,h1];rw[no i c5 λq=>by omega]
 by_cases h2:(n:Int)<=l[i]
 ·simp only[eZ,seval,Wm,Wf,Wi,W0,Wq,lt_T c5,hg,h1,h2];rw[no i c5 λq=>by omega]
 simp only[eZ,seval,Wm,Wf,Wi,W0,Wq,lt_T c5,hg,h1,h2];refine AL (λj:Nat=>⟨[(0,true,eIs l),(1,true,.int .i64 n),(5,true,.int .i64 i),(6,true,.int .i64 j)],hnil,0⟩)
  (λj=>j<=i/\∀k (hk:k<l.length),k<j->l[k]≠l[i]) (λj=>i-j) 0 rfl ⟨We _,λj hj h=>zo⟩ ?_
 rintro j ⟨hj,hk⟩;by_cases hji:j<i;case neg=>
  simp only[eZ,seval,lt_F hji,e];refine .mk (i+1) rfl ⟨c5,λk hkl hki=>?_⟩ zo;by_cases q:k=i
  ·subst q;exact⟨zo,zo,λm hm hmk=>hk m hm zo⟩
  ·exact c8 k hkl zo
 have hltj:j<l.length:=zo
 have hgj:=W2 hltj;have e':=AE (k:=j) zo;by_cases hs:l[j]=l[i]
 ·simp only[eZ,seval,Wm,Wf,Wi,W0,Wq,lt_T hji,lt_T c5,lt_T hltj,hg,hgj,hs];cases q:difI l n with
  |false=>rfl
  |true=>
   unfold difI at q;rw[W5]at q;exact absurd hs (Ro.1 q.2 i j c5 hltj hji)
 ·simp only[eZ,seval,Wm,Wf,Wi,W0,Wq,lt_T hji,lt_T c5,lt_T hltj,hg,hgj,hs,e'];refine .mk (j+1) rfl ⟨hji,λk hkl hkj=>?_⟩ zo;by_cases q:k=j
  ·subst q;exact hs
  ·exact hk k hkl zo
def Tzcm:Tab:=tadd 77 (s2 dIs dI (λa n=>few a/\0<=n) λa n=>.bool (difI a n.toNat)) tnil
def Wb:AI prog Tzcm:=AI.tnil.add (q2 λa n h=>by
 obtain⟨j,rfl⟩:∃j:Nat,n=j:=⟨n.toNat,zo⟩;exact p77 a j h.1)
def p43(q:Cnd)(nc nl:Nat)(h1:few q.cs)(h2:few q.ls):Pur prog 43 [encQ q,.int .i64 nc,.int .i64 nl] (.bool (Bk q nc nl)):=by
 refine .mk ⟨CI 0 q,trivial,trivial,trivial⟩ trivial (c43.a (AF Wb (AG ?_)));obtain⟨k,cs,ls,n⟩:=q;cases hb1:difI cs nc with
 |false=>
  simp only[eZ,seval,W3,W6,Wf,Wi,c43,Tzcm,s2,dIs,dI,okL,decL,CR,As,toI,h1,h2,hb1,tadd];unfold Bk;rw[hb1];rfl
 |true=>
  cases i8:difI ls nl with
  |false=>
   simp only[eZ,seval,W3,W6,Wf,Wi,c43,Tzcm,s2,dIs,dI,okL,decL,CR,As,toI,h1,h2,hb1,i8,tadd];unfold Bk;simp only[i8,YA,Ys]
  |true=>
   unfold Bk;simp only[hb1,i8,XU,Bool.and_true];by_cases k1:k=1
   ·subst k1;simp only[eZ,seval,W3,Wf,Wi,W0,c43,Tzcm,s2,dIs,dI,okL,decL,CR,As,toI,h1,h2,hb1,i8,tadd];exact(by rw[Wt];simp only[W5,W9];omega)
   by_cases k4:k=4
   ·subst k4;simp only[eZ,seval,W3,Wf,Wi,W0,c43,Tzcm,s2,dIs,dI,okL,decL,CR,As,toI,h1,h2,hb1,i8,tadd];exact(by rw[Wt];simp only[W5,W9];omega)
   by_cases k2:k=2
   ·subst k2;simp only[eZ,seval,W3,Wf,Wi,W0,c43,Tzcm,s2,dIs,dI,okL,decL,CR,As,toI,h1,h2,hb1,i8,tadd];exact(by rw[Wt];simp only[W5,W9];omega)
   by_cases k3:k=3
   ·subst k3;simp only[eZ,seval,W3,Wf,Wi,W0,c43,Tzcm,s2,dIs,dI,okL,decL,CR,As,toI,h1,h2,hb1,i8,tadd];exact(by rw[Wt];simp only[W5,W9];omega)
   by_cases k5:k=5
   ·subst k5;simp only[eZ,seval,W3,Wf,Wi,W0,c43,Tzcm,s2,dIs,dI,okL,decL,CR,As,toI,h1,h2,hb1,i8,tadd];exact(by rw[Wt];simp only[W5,W9];omega)
   by_cases k6:k=6
   ·subst k6;simp only[eZ,seval,W3,Wf,Wi,W0,c43,Tzcm,s2,dIs,dI,okL,decL,CR,As,toI,h1,h2,hb1,i8,tadd];exact(by rw[Wt];simp only[W5,W9];omega)
   simp only[eZ,seval,W3,Wf,Wi,W0,c43,Tzcm,s2,dIs,dI,okL,decL,CR,As,toI,h1,h2,hb1,i8,k1,k2,k3,k4,k5,k6,tadd]
structure FewL(x:Zt):Prop where
 cs:few x.cs
 ls:few x.ls
 qs:few x.qs
 ps:few x.ps
 q:∀q∈x.qs,few q.cs/\few q.ls
 p:∀p∈x.ps,few p.ls
def Tckm:Tab:=tadd 66 (s1 dS any1 λs=>.bool (Cr s)) (tadd 67 (s2 dSs dI (λa n=>few a/\0<=n) λa n=>.bool (DN a n.toNat)) (tadd 68 (s3 dIs dI dI (λa n _=>few a/\0<=n) λa n k=>.bool (indN a n.toNat k))
 (tadd 69 (s3 dQ dI dI (λq n m=>(few q.cs/\few q.ls)/\0<=n/\0<=m) λq n m=>.bool (Bk q n.toNat m.toNat)) tnil)))
def Wc:AI prog Tckm:=(((AI.tnil.add (q3 λq n m h=>by
 obtain⟨j,rfl⟩:∃j:Nat,n=j:=⟨n.toNat,zo⟩;obtain⟨k,rfl⟩:∃j:Nat,m=j:=⟨m.toNat,zo⟩;exact p69 q j k h.1.1 h.1.2)).add (q3 λa n k h=>by
 obtain⟨j,rfl⟩:∃j:Nat,n=j:=⟨n.toNat,zo⟩;exact p68 a j k h.1)).add (q2 λa n h=>by
 obtain⟨j,rfl⟩:∃j:Nat,n=j:=⟨n.toNat,zo⟩;exact p67 a j h.1)).add (q1 λs _=>p66 s)
def few1(c:Int):few [c]=True:=W1 (by show 1<_;decide)
def chk(x:Zt):Int:=if Ga x=true then 0 else 300
def hd0(x:Zt):Bool:=Cr x.nm&&decide (1<=x.lv)&&decide (x.lv<=8)&&DN x.cs 4&&DN x.ls 3&&decide ((x.qs.length:Int)<=6)
def hd1(x:Zt):Bool:=hd0 x&&indN [x.c] x.cs.length 1&&indN [x.l] x.ls.length 1
def cdA(x:Zt)(i:Nat):Bool:=hd1 x&&(x.qs.take i).all λq=>Bk q x.cs.length x.ls.length
def prA(x:Zt)(i:Nat):Bool:=cdA x x.qs.length&&(x.ps.take i).all λp=>indN p.ls x.ls.length 1
def Tp{x:Zt}{i:Nat}(h:i<x.qs.length):cdA x (i+1)=(cdA x i&&Bk x.qs[i] x.cs.length x.ls.length):=by
 unfold cdA;rw[NI h,Bool.and_assoc]
def Tq{x:Zt}{i:Nat}(h:i<x.ps.length):prA x (i+1)=(prA x i&&indN x.ps[i].ls x.ls.length 1):=by
 unfold prA;rw[NI h,Bool.and_assoc]
def ind1(c:Int)(n:Nat):indN [c] n 1=difI [c] n:=by unfold indN;simp
def Wd(x:Zt):(prA x x.ps.length&&indN (x.ps.map (·.c)) x.cs.length 0)=Ga x:=by
 unfold prA cdA hd1 hd0 Ga;rw[ind1,ind1,Wj,Wj];have e1:indN (x.ps.map (·.c)) x.cs.length 0=difI (x.ps.map (·.c)) x.cs.length:=by unfold indN;simp
 have e2:(x.ps.all λp=>indN p.ls x.ls.length 1)=x.ps.all λp=>difI p.ls x.ls.length&&decide (1<=p.ls.length):=by
  congr 1;funext p;unfold indN;congr 1;simp;omega
 have e3:decide ((x.qs.length:Int)<=6)=decide (x.qs.length<=6):=by rw[decide_eq_decide];omega
 rw[e1,e2,e3]
abbrev BM(x:Zt):List Fs:=[.str x.nm,.int .i64 x.lv,eSs x.cs,eSs x.ls,.sl (.none 4) (x.qs.map encQ),.sl (.none 2) (x.ps.map encM),.int .i64 x.c,.int .i64 x.l]
structure Vh where
 i:Nat
 H:AC
 n:Nat
structure Ih(len:Nat)(cs:List Fs)(v:Vh):Prop where
 hi:v.i<=len
 fr:AQ v.H v.n
 b:hget v.H 0=some (.box cs)
 hn:1<=v.n
structure Ip(len:Nat)(cs:List Fs)(v:Vg):Prop where
 hi:v.i<=len
 fr:AQ v.H v.n
 b:hget v.H 0=some (.box cs)
 hn:1<=v.n
 tok:tkG 1 1 v.H v.tk
 es:v.tk.esz=1\/v.i=0
abbrev hp10(H:AC)(n:Nat)(p:Prm):AC:=hset (hset H (n+2) (.box [.int .i64 0,.sl .nil []])) (n+2) (.box [.int .i64 p.c,eIs p.ls])
def p39(x:Zt)(hx:FewL x):Pur prog 39 [encL x] (eI (chk x)):=by
 refine .mk ⟨Du 0 x,trivial⟩ trivial (c39.a (AF Wc (AG ?_)));simp only[eZ,seval,Wf,Wi,W0,c39,Tckm,s1,s2,s3,dS,dSs,dIs,dI,okL,decL,isS,toS,CR,toI,Cf,hx.cs,hx.ls,few1,tadd];refine AL (λv:Vh=>⟨[(1,true,.ptr 0 0),(3,true,.sl .nil []),(4,true,.bool (cdA x v.i)),(58,true,.sl (.none 4) (x.qs.map encQ)),(59,true,.int .i64 x.qs.length),(60,true,.int .i64 v.i)],v.H,v.n⟩) (Ih x.qs.length (BM x)) (λv=>x.qs.length-v.i)
  ⟨0,hset hnil 0 (.box (BM x)),2⟩ (by simp only[cdA,hd1,hd0,XT,List.all_nil,Bool.and_true];rfl) ⟨We _,AQ.nil.hset (We 2) (Nat.zero_lt_succ 1),rfl,Nat.succ_le_succ (We 1)⟩ ?_
 rintro⟨i,H,n⟩ ⟨hi,c6,hb,hn⟩;simp only at hi c6 hb hn;have z1:(0=n+2)=False:=W4 zo;have hqn:=hx.qs;have hpn:=hx.ps;by_cases c5:i<x.qs.length
 ·have hg:=W2 c5;have e:=AE (k:=i) zo;have hq:=hx.q _ (Wn c5);generalize hqq:x.qs[i]=q at hg hq;simp only[eZ,seval,Wm,Wf,Wi,W0,Wq,lt_T c5,hg,fr1 c6,hb,Tckm,s3,Rn,LE,dI,CR,toI,hq.1,hq.2,e,tadd];refine .mk ⟨i+1,hset (hset H (n+2) (.box [.int .i64 0,.sl .nil [],.sl .nil [],.int .i64 0])) (n+2) (.box [.int .i64 q.k,eIs q.cs,eIs q.ls,.int .i64 q.n]),n+4⟩ ?_ ⟨c5,?_,?_,zp⟩ zp
  ·rw[Tp c5,hqq]
  ·exact(c6.hset (m:=n+4) zo zo).hset (W8 (n+4)) (show n+2<n+4 by omega)
  ·simp only[];rw[AA _ _ _ _ zo,AA _ _ _ _ zo];exact hb
 obtain rfl:i=x.qs.length:=zo
 simp only[eZ,seval,W0,lt_F c5,hb];refine AL (λv:Vg=>⟨[(1,true,.ptr 0 0),(3,true,.sl v.tk ((x.ps.take v.i).map λp=>eI p.c)),(4,true,.bool (prA x v.i)),(77,true,.sl (.none 2) (x.ps.map encM)),(78,true,.int .i64 x.ps.length),(79,true,.int .i64 v.i)],v.H,v.n⟩) (Ip x.ps.length (BM x)) (λv=>x.ps.length-v.i)
  ⟨0,.nil,H,n⟩ (by simp only[prA,XT,List.all_nil,Bool.and_true,X5];rfl) ⟨We _,c6,hb,hn,.inl rfl,.inr rfl⟩ ?_
 clear c5 hb c6 hn hi z1;rintro⟨i,tk,H,n⟩ ⟨hi,c6,hb,hn,c7,d7⟩;simp only at hi c6 hb hn c7 d7;by_cases c5:i<x.ps.length
 ·have hg:=W2 c5;have e:=AE (k:=i) zo;have hp:=hx.p _ (Wn c5);generalize hqq:x.ps[i]=p at hg hp;have z2:(0=n+2)=False:=W4 zo;have z3:(0=n+4+4)=False:=W4 zo;have l9:AQ (hp10 H n p) (n+4):=(c6.hset (m:=n+4) zo zo).hset (W8 (n+4)) zo;have l0:tkG 1 1 (hp10 H n p) tk:=(c7.set (.inr (.inr (c6 _ zo)))).set (.inr (.inl ⟨_,AB ..⟩));have i8:hget (hp10 H n p) 0=some (.box (BM x)):=by
   rw[AA _ _ _ _ zo,AA _ _ _ _ zo];exact hb
  have hb3:hget (hp10 H n p) (n+2)=some (.box [.int .i64 p.c,eIs p.ls]):=AB ..;have k0:hget (AO (hp10 H n p) tk) 0=some (.box (BM x)):=by rw[AV l0 (.inl zo)];exact i8
  have k2:hget (AO (hp10 H n p) tk) (n+2)=some (.box [.int .i64 p.c,eIs p.ls]):=by rw[AV l0 (.inr ⟨_,hb3⟩)];exact hb3
  have q1:A5 (hp10 H n p) 1 tk=True:=W1 l0.app;have q2:(i<=35184372088831)=True:=W1 zo;have q3:Aj (i+1) 8=True:=W1 (AX zo zd);have ln:((x.ps.take i).map λp=>eI p.c).length=i:=by simp;omega
  have z4:(n+4+4=0)=False:=W4 zo;have z5:(n+8=n+2)=False:=W4 zo;have z6:(n+8=0)=False:=W4 zo;have z7:(n+2=0)=False:=W4 zo;have h8:=c6 (n+8) zo;simp only[eZ,seval,Wm,Wf,Wi,W0,Wq,lt_T c5,hg,fr1 c6,z4,z5,q1,q2,q3,ln,k0,k2,Tckm,s3,dIs,dI,okL,decL,CR,As,toI,hp,e,natE3,tadd];refine .mk ⟨i+1,.own (n+8) 1,hset (AO (hp10 H n p) tk) (n+8) .tok,n+10⟩ (by rw[Tq c5,map_take c5,hqq]) ⟨c5,(AU l0 l9).hset (m:=n+10) zo zo,?_,zp,.inr (.inr ⟨n+8,rfl,zo,AB ..⟩),.inl rfl⟩ zp;simp only[];rw[AA _ _ _ _ zo];exact k0
 obtain rfl:i=x.ps.length:=zo
 have hc:x.ps.map (λp=>eI p.c)=(x.ps.map (·.c)).map eI:=by rw[Yo];rfl
 have hes':(tk.esz=1\/(x.ps.map (·.c)).map eI=[])=True:=W1 (d7.imp id λe=>by rw[XD.1 e];rfl);have r9:few (x.ps.map (·.c))=True:=W1 (by show(x.ps.map _).length<_;rw[W0];exact hpn);have hfin:=Wd x;cases h1:prA x x.ps.length with
 |false=>
  have hl:Ga x=false:=by rw[<-hfin,h1];rfl
  simp only[eZ,seval,W3,W6,lt_F c5];unfold chk;rw[W7 (by rw[hl];decide)]
 |true=>
  rw[h1,XU]at hfin;cases hl:Ga x with
  |true=>
   simp only[eZ,seval,W3,Wf,Wi,W0,lt_F c5,hb,Wj,hc,Tckm,s3,dIs,dI,okL,decL,CR,As,toI,hes',r9,hfin.trans hl,tadd];unfold chk;rw[Wg hl]
  |false=>
   simp only[eZ,seval,W3,W6,Wf,Wi,W0,lt_F c5,hb,Wj,hc,Tckm,s3,dIs,dI,okL,decL,CR,As,toI,hes',r9,hfin.trans hl,tadd];unfold chk;rw[W7 (by rw[hl];decide)]
end Go.AM
