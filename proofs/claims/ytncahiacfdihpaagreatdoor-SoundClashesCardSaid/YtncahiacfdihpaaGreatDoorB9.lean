/-
  Parts of the proof. Conditions: none.
-/
import Derived.Test.YtncahiacfdihpaaGreatDoorB8
set_option maxRecDepth 20000
set_option linter.all false
set_option maxHeartbeats 1000000
namespace Go.AM
open Go.Lib Go.Proofs Go.Proofs.Tryz
theorem Ap{a b:Bs}:scmp .neq a b= !decide (a=b):=rfl
theorem A3{a b:Bs}:scmp .eql a b=decide (a=b):=rfl
def Wl{a b:j7}:a=b↔a.nm=b.nm/\a.v=b.v:=by cases a;cases b;simp only[j7.mk.injEq]
def Wm{a b:qw}:a=b↔a.nm=b.nm/\a.on=b.on/\a.fam=b.fam/\a.ty=b.ty/\a.lo=b.lo/\a.hi=b.hi:=by cases a;cases b;simp only[qw.mk.injEq]
def Wn{a b:zj}:a=b↔a.nm=b.nm/\a.ls=b.ls:=by cases a;cases b;simp only[zj.mk.injEq]
def I2(s t:j7):ceqs [.str s.nm,.int .i64 s.v] [.str t.nm,.int .i64 t.v]=decide (s=t):=by
 rw[Xc,W8,Wl];simp [ceqs,ceq]
def I3(s t:qw):ceqs [.str s.nm,.str s.on,.int .i64 s.fam,.int .i64 s.ty,.int .i64 s.lo,.int .i64 s.hi] [.str t.nm,.str t.on,.int .i64 t.fam,.int .i64 t.ty,.int .i64 t.lo,.int .i64 t.hi]=decide (s=t):=by
 rw[Xc,W8,Wm];simp [ceqs,ceq]
def BA{p:Prop}[Decidable p](h:p):decide p=true:=Xf h
def Aw{p:Prop}[Decidable p](h:¬p):decide p=false:=X9 h
def p103(a b:List Int)(hb:wide b):Pur prog 103 [eIs a,eIs b] (.bool (decide (a=b))):=by
 refine .mk ⟨AR 0 a,AR 0 b,trivial⟩ trivial (c103.a (AF AI.tnil (AG ?_)));by_cases hl:a.length=b.length;case neg=>
  simp only[eZ,seval,W7,W0,c103,GP hl,W7];exact(X9 λe=>hl (by rw[e])).symm
 simp only[eZ,seval,W3,W0,c103,GQ hl];refine AL (λi:Nat=>⟨[(0,true,eIs a),(1,true,eIs b),(12,true,.int .i64 a.length),(13,true,.int .i64 i)],hnil,0⟩) (λi=>i<=a.length/\∀j,j<i->a[j]?=b[j]?) (λi=>a.length-i) 0 rfl ⟨Wz _,λj hj=>zo⟩ ?_;rintro i ⟨hi,d6⟩;by_cases c5:i<a.length;case neg=>
  simp only[eZ,seval,lt_F c5];exact(Xf (Dd hl λj hj=>d6 j zo)).symm
 have hltb:i<b.length:=zo
 have hga:=W2 c5;have hgb:=W2 hltb;have e:=AE (k:=i) (by have:b.length<1125899906842624:=hb;omega);by_cases hs:a[i]=b[i]
 ·simp only[eZ,seval,W3,X6,X1,X3,W0,Xa,lt_T c5,lt_T hltb,hga,hgb,e,BA hs];refine .mk (i+1) rfl ⟨c5,λj h=>?_⟩ zo;by_cases q:j=i
  ·subst q;rw[hga,hgb,hs]
  ·exact d6 j zo
 ·simp only[eZ,seval,W7,X6,X1,X3,W0,Xa,lt_T c5,lt_T hltb,hga,hgb,Aw hs];exact(X9 λq=>hs (by simp [q])).symm
def p154(a b:List Bs)(hb:wide b):Pur prog 154 [eSs a,eSs b] (.bool (decide (a=b))):=by
 refine .mk ⟨BT 0 a,BT 0 b,trivial⟩ trivial (c154.a (AF AI.tnil (AG ?_)));by_cases hl:a.length=b.length;case neg=>
  simp only[eZ,seval,W7,W0,c154,GP hl,W7];exact(X9 λe=>hl (by rw[e])).symm
 simp only[eZ,seval,W3,W0,c154,GQ hl];refine AL (λi:Nat=>⟨[(0,true,eSs a),(1,true,eSs b),(12,true,.int .i64 a.length),(13,true,.int .i64 i)],hnil,0⟩) (λi=>i<=a.length/\∀j,j<i->a[j]?=b[j]?) (λi=>a.length-i) 0 rfl ⟨Wz _,λj hj=>zo⟩ ?_;rintro i ⟨hi,d6⟩;by_cases c5:i<a.length;case neg=>
  simp only[eZ,seval,lt_F c5];exact(Xf (Dd hl λj hj=>d6 j zo)).symm
 have hltb:i<b.length:=zo
 have hga:=W2 c5;have hgb:=W2 hltb;have e:=AE (k:=i) (by have:b.length<1125899906842624:=hb;omega);by_cases hs:a[i]=b[i]
 ·simp only[eZ,seval,W3,X6,X1,X3,W0,Xa,lt_T c5,lt_T hltb,hga,hgb,e,Ap,BA hs];refine .mk (i+1) rfl ⟨c5,λj h=>?_⟩ zo;by_cases q:j=i
  ·subst q;rw[hga,hgb,hs]
  ·exact d6 j zo
 ·simp only[eZ,seval,W7,X6,X1,X3,W0,Xa,lt_T c5,lt_T hltb,hga,hgb,Ap,Aw hs];exact(X9 λq=>hs (by simp [q])).symm
def p155(a b:List j7)(hb:few b):Pur prog 155 [eSys a,eSys b] (.bool (decide (a=b))):=by
 refine .mk ⟨Ew 0 a,Ew 0 b,trivial⟩ trivial (a155 (AF AI.tnil (AG ?_)));by_cases hl:a.length=b.length;case neg=>
  simp only[eZ,seval,W7,W0,c155,GP hl,W7];exact(X9 λe=>hl (by rw[e])).symm
 simp only[eZ,seval,W3,W0,c155,GQ hl];refine AL (λi:Nat=>⟨[(0,true,eSys a),(1,true,eSys b),(12,true,.int .i64 a.length),(13,true,.int .i64 i)],hnil,0⟩) (λi=>i<=a.length/\∀j,j<i->a[j]?=b[j]?) (λi=>a.length-i) 0 rfl ⟨Wz _,λj hj=>zo⟩ ?_;rintro i ⟨hi,d6⟩;by_cases c5:i<a.length;case neg=>
  simp only[eZ,seval,lt_F c5];exact(Xf (Dd hl λj hj=>d6 j zo)).symm
 have hltb:i<b.length:=zo
 have hga:=W2 c5;have hgb:=W2 hltb;have e:=AE (k:=i) (by have:b.length<1000000000:=hb;omega);by_cases hs:a[i]=b[i]
 ·simp only[eZ,seval,W3,X6,X1,X3,W0,Xa,lt_T c5,lt_T hltb,hga,hgb,e,I2,cfit,BA hs];refine .mk (i+1) rfl ⟨c5,λj h=>?_⟩ zo;by_cases q:j=i
  ·subst q;rw[hga,hgb,hs]
  ·exact d6 j zo
 ·simp only[eZ,seval,W7,X6,X1,X3,W0,Xa,lt_T c5,lt_T hltb,hga,hgb,I2,cfit,Aw hs];exact(X9 λq=>hs (by simp [q])).symm
def p157(a b:List qw)(hb:few b):Pur prog 157 [eCls a,eCls b] (.bool (decide (a=b))):=by
 refine .mk ⟨DD 0 a,DD 0 b,trivial⟩ trivial (a157 (AF AI.tnil (AG ?_)));by_cases hl:a.length=b.length;case neg=>
  simp only[eZ,seval,W7,W0,c157,GP hl,W7];exact(X9 λe=>hl (by rw[e])).symm
 simp only[eZ,seval,W3,W0,c157,GQ hl];refine AL (λi:Nat=>⟨[(0,true,eCls a),(1,true,eCls b),(12,true,.int .i64 a.length),(13,true,.int .i64 i)],hnil,0⟩) (λi=>i<=a.length/\∀j,j<i->a[j]?=b[j]?) (λi=>a.length-i) 0 rfl ⟨Wz _,λj hj=>zo⟩ ?_;rintro i ⟨hi,d6⟩;by_cases c5:i<a.length;case neg=>
  simp only[eZ,seval,lt_F c5];exact(Xf (Dd hl λj hj=>d6 j zo)).symm
 have hltb:i<b.length:=zo
 have hga:=W2 c5;have hgb:=W2 hltb;have e:=AE (k:=i) (by have:b.length<1000000000:=hb;omega);by_cases hs:a[i]=b[i]
 ·simp only[eZ,seval,W3,X6,X1,X3,W0,Xa,lt_T c5,lt_T hltb,hga,hgb,e,I3,cfit,BA hs];refine .mk (i+1) rfl ⟨c5,λj h=>?_⟩ zo;by_cases q:j=i
  ·subst q;rw[hga,hgb,hs]
  ·exact d6 j zo
 ·simp only[eZ,seval,W7,X6,X1,X3,W0,Xa,lt_T c5,lt_T hltb,hga,hgb,I3,cfit,Aw hs];exact(X9 λq=>hs (by simp [q])).symm
def s2f{α β:Type}(cl:Nat)(A:Dc α)(B:Dc β)(c:α->β->Prop)(f:α->β->Fs):List Fs->AC->Prop×Fs:=λa _=>match a with
 |[x,y,.fn (.func k) [] []]=>(k=cl/\A.ok x/\B.ok y/\c (A.dec x) (B.dec y),f (A.dec x) (B.dec y))
 |_=>(False,.tup [])
def q2f{α β:Type}{cl:Nat}{A:Dc α}{B:Dc β}{c:α->β->Prop}{f:α->β->Fs}{i6:FuncId}(h:∀x y,c x y->Pur prog i6 [A.enc x,B.enc y,.fn (.func cl) [] []] (f x y)):∀args H n,(s2f cl A B c f args H).1->Am prog i6 args H n (s2f cl A B c f args H).2:=by
 intro args H n hh;unfold s2f at hh⊢;split at hh
 ·obtain⟨rfl,h1,h2,h3⟩:=hh;refine AO.args ((h _ _ h3).quiet H n) ?_;rintro g vs ⟨v,r,rfl,k1,w,r',rfl,k2,k3⟩;exact⟨v,_,rfl,A.wk _ h1 _ _ k1,w,_,rfl,B.wk _ h2 _ _ k2,k3⟩
 ·exact hh.elim
def CQ(x:List (List Int)):dLl.ok (eLl x)=True:=Hl Dv (.inl rfl)
def Bm(x:List (List Int)):dLl.dec (eLl x)=x:=FT Dv
def Wo(x:List j7):dSys.ok (eSys x)=True:=Hl Fk (.inl rfl)
def Tv(x:List j7):dSys.dec (eSys x)=x:=FT Fk
def Wp(x:List zj):dRgs.ok (eRgs x)=True:=Hl Ek (.inl rfl)
def Tw(x:List zj):dRgs.dec (eRgs x)=x:=FT Ek
def Wq(x:List qw):dCls.ok (eCls x)=True:=Hl Fl (.inl rfl)
def Tx(x:List qw):dCls.dec (eCls x)=x:=FT Fl
def Wr(x:List qz):dRus.ok (eRus x)=True:=Hl El (.inl rfl)
def Ty(x:List qz):dRus.dec (eRus x)=x:=FT El
abbrev Br(l:List (List Int)):Prop:=few l/\∀x∈l,wide x
abbrev MQ(r:zj):Prop:=Br r.ls
abbrev Fo(r:qz):Prop:=wide r.ns/\wide r.os
structure qk(d:zk):Prop where
 ho:few d.holes
 sy:few d.syms
 rg:few d.regs
 rgs:∀r∈d.regs,MQ r
 cl:few d.clus
 ru:few d.ruls
 rus:∀r∈d.ruls,Fo r
def MR{a b:qz}:a=b↔(((((a.ns=b.ns/\a.os=b.os)/\a.nm=b.nm)/\a.on=b.on)/\a.byN=b.byN)/\a.kind=b.kind/\a.fam=b.fam/\a.set=b.set/\a.oth=b.oth/\a.op=b.op/\a.n=b.n/\a.clue=b.clue):=by
 cases a;cases b;simp only[qz.mk.injEq];constructor
 ·rintro⟨a,b,c,d,e,f,g,h,i,j,k,l⟩;exact⟨⟨⟨⟨⟨e,f⟩,a⟩,b⟩,k⟩,c,d,g,h,i,j,l⟩
 ·rintro⟨⟨⟨⟨⟨e,f⟩,a⟩,b⟩,k⟩,c,d,g,h,i,j,l⟩;exact⟨a,b,c,d,e,f,g,h,i,j,k,l⟩
def ceq_7(a b c d e f g a' b' c' d' e' f' g':Int):ceqs [.int .i64 a,.int .i64 b,.int .i64 c,.int .i64 d,.int .i64 e,.int .i64 f,.int .i64 g] [.int .i64 a',.int .i64 b',.int .i64 c',.int .i64 d',.int .i64 e',.int .i64 f',.int .i64 g']=decide (a=a'/\b=b'/\c=c'/\d=d'/\e=e'/\f=f'/\g=g'):=by
 rw[Xc,W8];simp [ceqs,ceq]
def Ws{a b:zk}:a=b↔((((((((((a.nm=b.nm/\a.ver=b.ver)/\a.sh=b.sh)/\a.w=b.w)/\a.h=b.h)/\a.holes=b.holes)/\a.syms=b.syms)/\a.regs=b.regs)/\a.clus=b.clus)/\a.ruls=b.ruls)):=by
 cases a;cases b;simp only[zk.mk.injEq];constructor
 ·rintro⟨a,b,c,d,e,f,g,h,i,j⟩;exact⟨⟨⟨⟨⟨⟨⟨⟨⟨a,b⟩,c⟩,d⟩,e⟩,f⟩,g⟩,h⟩,i⟩,j⟩
 ·rintro⟨⟨⟨⟨⟨⟨⟨⟨⟨a,b⟩,c⟩,d⟩,e⟩,f⟩,g⟩,h⟩,i⟩,j⟩;exact⟨a,b,c,d,e,f,g,h,i,j⟩
def Tci:Tab:=tadd 103 (s2 dIs dIs (λ_ b=>wide b) λa b=>.bool (decide (a=b))) tnil
def Tci_ok:AI prog Tci:=AI.tnil.add (q2 p103)
def p152(a b:List (List Int))(hb:few b)(hx:∀x∈b,wide x):Pur prog 152 [eLl a,eLl b,.fn (.func 103) [] []] (.bool (decide (a=b))):=by
 refine .mk ⟨Ak 0 a,Ak 0 b,by simp [Fs.under,unders],trivial⟩ trivial (c152.a (AF Tci_ok (AG ?_)));by_cases hl:a.length=b.length;case neg=>
  simp only[eZ,seval,W7,W0,c152,GP hl,W7];exact(X9 λe=>hl (by rw[e])).symm
 simp only[eZ,seval,W3,W0,c152,GQ hl];refine AL (λi:Nat=>⟨[(1,true,eLl b),(2,true,.fn (.func 103) [] []),(15,true,eLl a),(16,true,.int .i64 a.length),(17,true,.int .i64 i)],hnil,0⟩) (λi=>i<=a.length/\∀j,j<i->a[j]?=b[j]?) (λi=>a.length-i) 0 rfl ⟨Wz _,λj hj=>zo⟩ ?_;rintro i ⟨hi,d6⟩;by_cases c5:i<a.length;case neg=>
  simp only[eZ,seval,lt_F c5];exact(Xf (Dd hl λj hj=>d6 j zo)).symm
 have hltb:i<b.length:=zo
 have hga:=W2 c5;have hgb:=W2 hltb;have e:=AE (k:=i) (by have:b.length<1000000000:=hb;omega);have hf:=hx _ (X5 hltb);by_cases hs:a[i]=b[i]
 ·simp only[eZ,seval,W3,X6,X1,X3,W0,Xa,lt_T c5,lt_T hltb,hga,hgb,e,Tci,s2,Ad,AY,W1 hf,BA hs,tadd];refine lpN.drop (i+1) rfl rfl rfl rfl AQ.nil (λ_ _ h=>by cases h) ⟨Ak 0 b,by simp [Fs.under,unders],Ak 0 a,trivial,trivial,trivial⟩ ⟨c5,λj h=>?_⟩ zo;by_cases q:j=i
  ·subst q;rw[hga,hgb,hs]
  ·exact d6 j zo
 ·simp only[eZ,seval,W7,X6,X1,X3,W0,Xa,lt_T c5,lt_T hltb,hga,hgb,Tci,s2,Ad,AY,W1 hf,Aw hs,tadd];exact(X9 λq=>hs (by simp [q])).symm
def Tcl:Tab:=tadd 152 (s2f 103 dLl dLl (λ_ b=>Br b) λa b=>.bool (decide (a=b))) tnil
def Uv:AI prog Tcl:=AI.tnil.add (q2f λa b h=>p152 a b h.1 h.2)
def p151(a b:zj)(hb:MQ b):Pur prog 151 [Fj a,Fj b] (.bool (decide (a=b))):=by
 refine .mk ⟨Cd 0 a,Cd 0 b,trivial⟩ trivial (c151.a (AF Uv (AG ?_)));simp only[eZ,seval,c151,A3,Tcl,s2f,CQ,Bm,W1 hb,tadd];rw[Xc];simp only[W5,W8,Wn]
def Tcr:Tab:=tadd 151 (s2 dRg dRg (λ_ b=>MQ b) λa b=>.bool (decide (a=b))) tnil
def Tcr_ok:AI prog Tcr:=AI.tnil.add (q2 p151)
def p156(a b:List zj)(hb:few b)(hx:∀x∈b,MQ x):Pur prog 156 [eRgs a,eRgs b,.fn (.func 151) [] []] (.bool (decide (a=b))):=by
 refine .mk ⟨DC 0 a,DC 0 b,by simp [Fs.under,unders],trivial⟩ trivial (c156.a (AF Tcr_ok (AG ?_)));by_cases hl:a.length=b.length;case neg=>
  simp only[eZ,seval,W7,W0,c156,GP hl,W7];exact(X9 λe=>hl (by rw[e])).symm
 simp only[eZ,seval,W3,W0,c156,GQ hl];refine AL (λi:Nat=>⟨[(1,true,eRgs b),(2,true,.fn (.func 151) [] []),(15,true,eRgs a),(16,true,.int .i64 a.length),(17,true,.int .i64 i)],hnil,0⟩) (λi=>i<=a.length/\∀j,j<i->a[j]?=b[j]?) (λi=>a.length-i) 0 rfl ⟨Wz _,λj hj=>zo⟩ ?_;rintro i ⟨hi,d6⟩;by_cases c5:i<a.length;case neg=>
  simp only[eZ,seval,lt_F c5];exact(Xf (Dd hl λj hj=>d6 j zo)).symm
 have hltb:i<b.length:=zo
 have hga:=W2 c5;have hgb:=W2 hltb;have e:=AE (k:=i) (by have:b.length<1000000000:=hb;omega);have hf:=hx _ (X5 hltb);by_cases hs:a[i]=b[i]
 ·simp only[eZ,seval,W3,X6,X1,X3,W0,Xa,lt_T c5,lt_T hltb,hga,hgb,e,Tcr,s2,Iz,F9,W1 hf,BA hs,tadd];refine lpN.drop (i+1) rfl rfl rfl rfl AQ.nil (λ_ _ h=>by cases h) ⟨DC 0 b,by simp [Fs.under,unders],DC 0 a,trivial,trivial,trivial⟩ ⟨c5,λj h=>?_⟩ zo;by_cases q:j=i
  ·subst q;rw[hga,hgb,hs]
  ·exact d6 j zo
 ·simp only[eZ,seval,W7,X6,X1,X3,W0,Xa,lt_T c5,lt_T hltb,hga,hgb,Tcr,s2,Iz,F9,W1 hf,Aw hs,tadd];exact(X9 λq=>hs (by simp [q])).symm
def Tcs:Tab:=tadd 154 (s2 dSs dSs (λ_ b=>wide b) λa b=>.bool (decide (a=b))) tnil
def Tcs_ok:AI prog Tcs:=AI.tnil.add (q2 p154)
def p153(a b:qz)(hb:Fo b):Pur prog 153 [BV a,BV b] (.bool (decide (a=b))):=by
 refine .mk ⟨Ar 0 a,Ar 0 b,trivial⟩ trivial (a153 (AF Tcs_ok (AG ?_)));have h1:=hb.1;have h2:=hb.2;simp only[eZ,seval,c153,A3,Tcs,s2,Fm,ED,W1 h1,W1 h2,ceq_7,cfit,tadd];rw[Xc];simp only[W5,W8,MR]
def Tcu:Tab:=tadd 153 (s2 dRu dRu (λ_ b=>Fo b) λa b=>.bool (decide (a=b))) tnil
def Tcu_ok:AI prog Tcu:=AI.tnil.add (q2 p153)
def p158(a b:List qz)(hb:few b)(hx:∀x∈b,Fo x):Pur prog 158 [eRus a,eRus b,.fn (.func 153) [] []] (.bool (decide (a=b))):=by
 refine .mk ⟨CG 0 a,CG 0 b,by simp [Fs.under,unders],trivial⟩ trivial (c158.a (AF Tcu_ok (AG ?_)));by_cases hl:a.length=b.length;case neg=>
  simp only[eZ,seval,W7,W0,c158,GP hl,W7];exact(X9 λe=>hl (by rw[e])).symm
 simp only[eZ,seval,W3,W0,c158,GQ hl];refine AL (λi:Nat=>⟨[(1,true,eRus b),(2,true,.fn (.func 153) [] []),(15,true,eRus a),(16,true,.int .i64 a.length),(17,true,.int .i64 i)],hnil,0⟩) (λi=>i<=a.length/\∀j,j<i->a[j]?=b[j]?) (λi=>a.length-i) 0 rfl ⟨Wz _,λj hj=>zo⟩ ?_;rintro i ⟨hi,d6⟩;by_cases c5:i<a.length;case neg=>
  simp only[eZ,seval,lt_F c5];exact(Xf (Dd hl λj hj=>d6 j zo)).symm
 have hltb:i<b.length:=zo
 have hga:=W2 c5;have hgb:=W2 hltb;have e:=AE (k:=i) (by have:b.length<1000000000:=hb;omega);have hf:=hx _ (X5 hltb);by_cases hs:a[i]=b[i]
 ·simp only[eZ,seval,W3,X6,X1,X3,W0,Xa,lt_T c5,lt_T hltb,hga,hgb,e,Tcu,s2,Bf,A6,W1 hf,BA hs,tadd];refine lpN.drop (i+1) rfl rfl rfl rfl AQ.nil (λ_ _ h=>by cases h) ⟨CG 0 b,by simp [Fs.under,unders],CG 0 a,trivial,trivial,trivial⟩ ⟨c5,λj h=>?_⟩ zo;by_cases q:j=i
  ·subst q;rw[hga,hgb,hs]
  ·exact d6 j zo
 ·simp only[eZ,seval,W7,X6,X1,X3,W0,Xa,lt_T c5,lt_T hltb,hga,hgb,Tcu,s2,Bf,A6,W1 hf,Aw hs,tadd];exact(X9 λq=>hs (by simp [q])).symm
def Tsa:Tab:=tadd 103 (s2 dIs dIs (λ_ b=>wide b) λa b=>.bool (decide (a=b))) (tadd 155 (s2 dSys dSys (λ_ b=>few b) λa b=>.bool (decide (a=b))) (tadd 156 (s2f 151 dRgs dRgs (λ_ b=>few b/\∀x∈b,MQ x) λa b=>.bool (decide (a=b))) (tadd 157 (s2 dCls dCls (λ_ b=>few b) λa b=>.bool (decide (a=b))) (tadd 158 (s2f 153 dRus dRus (λ_ b=>few b/\∀x∈b,Fo x) λa b=>.bool (decide (a=b))) tnil))))
def Tsa_ok:AI prog Tsa:=((((AI.tnil.add (q2f λa b h=>p158 a b h.1 h.2)).add (q2 p157)).add (q2f λa b h=>p156 a b h.1 h.2)).add (q2 p155)).add (q2 p103)
def p104(a b:zk)(hb:qk b):Pur prog 104 [encD a,encD b] (.bool (decide (a=b))):=by
 refine .mk ⟨Ab 0 a,Ab 0 b,trivial⟩ trivial (c104.a (AF Tsa_ok (AG ?_)));simp only[eZ,seval,c104,A3,Tsa,s2,s2f,Ad,AY,Wo,Tv,Wp,Tw,Wq,Tx,Wr,Ty,W1 (Ci hb.ho),W1 hb.sy,W1 hb.rg,W1 hb.rgs,W1 hb.cl,W1 hb.ru,W1 hb.rus,tadd];rw[Xc];simp only[W5,W8,Ws]
abbrev AD(sh w h:Int)(holes cells:List Int):List Fs:=[.int .i64 sh,.int .i64 w,.int .i64 h,eIs holes,eIs cells]
abbrev encG(sh w h:Int)(holes cells:List Int):Fs:=.agg (AD sh w h holes cells)
def Aq(n:Nat)(sh w h:Int)(holes cells:List Int):(encG sh w h holes cells).under n:=⟨trivial,trivial,trivial,AR n _,AR n _,trivial⟩
def BK(sh w h:Int)(holes:List Int):Fs:=match Ai sh w h holes with
 |some cells=>.tup [encG sh w h holes cells,.int .i64 0]
 |none=>.tup [encG 0 0 0 [] [],.int .i64 130]
def Hp(sh w h:Int)(holes:List Int):(BK sh w h holes).under 0:=by
 unfold BK;split<;>exact⟨Aq 0 ..,trivial,trivial⟩
def wk_G{sh w h:Int}{holes cells:List Int}{a b:Fs}{e:Int}(h1:Wk a (eIs holes))(h2:Wk b (eIs cells)):Wk (.tup [.agg [.int .i64 sh,.int .i64 w,.int .i64 h,a,b],.int .i64 e]) (.tup [encG sh w h holes cells,.int .i64 e]):=
 Wk.tup (.cons (Wk.agg (.cons (Wk.refl _) (.cons (Wk.refl _) (.cons (Wk.refl _) (.cons h1 (.cons h2 .nil)))))) (.cons (Wk.refl _) .nil))
def p62(l:List Int)(hl:few l):Pur prog 62 [eIs l] (eIs l):=by
 refine .mk ⟨AR 0 l,trivial⟩ (AR 0 l) (c62.a (AF AI.tnil (AG ?_)));have a1:(l.length<=35184372088832)=True:=W1 (by have:l.length<1000000000:=hl;omega);have a2:Aj l.length 8=True:=W1 (AZ (by have:l.length<1000000000:=hl;omega) zd);cases l with
 |nil=>
  simp only[eZ,seval,c62];refine⟨?_,?_⟩
  ·simp only[eZ,seval,Aj,YR,Wz];exact Wk.sl (.inl rfl)
  ·simp only[eZ,seval,W7];exact Wk.sl (.inr rfl)
 |cons x r=>
  rw[Xe]at a1 a2;simp only[eZ,seval,W0,c62,eIs,a1,a2];exact Wk.sl (.inl rfl)
def Tmk:Tab:=tadd 62 (s1 dIs few λl=>eIs l) (tadd 218 (s2 dIs dI (λl _=>few l/\List.Pairwise (λx y=>x<y) l) λl x=>.tup [.int .i64 (lowB l x),.bool (l.contains x)]) tnil)
def Tmk_ok:AI prog Tmk:=(AI.tnil.add (q2 λl x h=>p218 l x h.1 h.2)).add (q1 p62)
def posL(holes:List Int)(k:Nat):List Int:=((List.range k).map λ(i:Nat)=>(i:Int)).filter λp=>!holes.contains p
def K8(holes:List Int)(k:Nat):posL holes (k+1)=if holes.contains (k:Int)then posL holes k else posL holes k++[(k:Int)]:=by
 unfold posL;rw[Y4,X2,Yr];cases h:holes.contains (k:Int)<;>simp only[Xh,Xp,XA,Zs,h,W3,W7,XG,Xo,Xd,Xn]
def Rs(holes:List Int)(k:Nat):(posL holes k).length<=k:=by
 have:=XU (λp=>!holes.contains p) ((List.range k).map λ(i:Nat)=>(i:Int));simpa [posL]using this
structure VM where
 k:Nat
 tk:jz
 H:AC
 n:Nat
structure IM(sh w h:Int)(holes:List Int)(m:Nat)(v:VM):Prop where
 hk:v.k<=m
 hn:2<=v.n
 fr:AQ v.H v.n
 h0:hget v.H 0=some (.box [.int .i64 sh,.int .i64 w,.int .i64 h,eIs holes,.sl v.tk ((posL holes v.k).map eI)])
 tok:tkG 1 1 v.H v.tk
 es:v.tk.esz=1\/posL holes v.k=[]
def p147(sh w h:Int)(holes:List Int)(hl:few holes):Pur prog 147 [.int .i64 sh,.int .i64 w,.int .i64 h,eIs holes] (BK sh w h holes):=by
 refine .mk ⟨trivial,trivial,trivial,AR 0 _,trivial⟩ (Hp sh w h holes) (c147.a (AF Tmk_ok (AG ?_)));have hE:∀b,(b=true↔¬((sh=1\/sh=2)/\1<=w/\w<=16/\1<=h/\h<=16/\(holes.length:Int)<w*h))->(!decide (sh=1)&& !decide (sh=2)||decide (w<1)||decide (16<w)||decide (h<1)||decide (16<h)||decide (IntKind.wrap .i64 (w*h)<=(holes.length:Int)))=b:=by
  intro b hb;rw[Xc,hb];simp only[Xi,W5,Y9,W8,Ya];by_cases hwh:1<=w/\w<=16/\1<=h/\h<=16
  ·have:=Wg hwh.1 hwh.2.1 hwh.2.2.1 hwh.2.2.2;rw[An zo zo];omega
  ·omega
 by_cases hc:(sh=1\/sh=2)/\1<=w/\w<=16/\1<=h/\h<=16/\(holes.length:Int)<w*h;case neg=>
  have hn:BK sh w h holes= .tup [encG 0 0 0 [] [],.int .i64 130]:=by
   unfold BK Ai;rw[W6 λq=>hc ⟨q.1,q.2.1,q.2.2.1,q.2.2.2.1,q.2.2.2.2.1,q.2.2.2.2.2.1⟩]
  have hb:=hE true (by simp [hc]);rw[hn];simp only[eZ,seval,BH,W0,c147,hb];exact wk_G (Wk.sl (.inr rfl)) (Wk.sl (.inr rfl))
 have hb:=hE false (by simp [hc]);obtain⟨hsh,hw1,hw2,hh1,hh2,s5⟩:=hc;obtain⟨p1,p2⟩:=Wg hw1 hw2 hh1 hh2;have hwh:IntKind.wrap .i64 (w*h)=w*h:=An zo zo;have hG:Ai sh w h holes=if(Bq (-1) holes&&holes.all λp=>decide (p<w*h))=true then some (posL holes (w*h).toNat)else none:=by
  unfold Ai;by_cases q:(Bq (-1) holes&&holes.all λp=>decide (p<w*h))=true
  ·rw[X0 q];rw[W5]at q;rw[X0 ⟨hsh,hw1,hw2,hh1,hh2,s5,q.1,q.2⟩];rfl
  ·rw[W6 q];rw[W5]at q;rw[W6 λz=>q ⟨z.2.2.2.2.2.2.1,z.2.2.2.2.2.2.2⟩]
 simp only[eZ,seval,W0,c147,hb];refine AL (λv:Nat×Int=>⟨[(0,true,.int .i64 sh),(1,true,.int .i64 w),(2,true,.int .i64 h),(3,true,eIs holes),(8,true,.ptr 0 0),(10,true,.int .i64 v.2),(47,true,eIs holes),(48,true,.int .i64 holes.length),(49,true,.int .i64 v.1)],hset hnil 0 (.box [z0,z0,z0,zs,zs]),2⟩)
  (λv=>v.1<=holes.length/\(Bq (-1) holes&&holes.all λp=>decide (p<w*h))=(Bq v.2 (holes.drop v.1)&&(holes.drop v.1).all λp=>decide (p<w*h))) (λv=>holes.length-v.1) (0,-1) rfl ⟨Wz _,rfl⟩ ?_
 rintro⟨i,last⟩ ⟨hi,he⟩;simp only at hi he;by_cases c5:i<holes.length
 ·have hg:=W2 c5;have e:=AE (k:=i) (by have:holes.length<1000000000:=hl;omega);rw[Xj c5,Bq,YA]at he;by_cases i4:last<holes[i]/\holes[i]<w*h
  ·have hd:(decide (holes[i]<=last)||decide (w*h<=holes[i]))=false:=by simp;omega
   simp only[eZ,seval,X6,X1,X3,W0,Xa,lt_T c5,hg,e,hwh,hd];refine .mk (i+1,holes[i]) rfl ⟨c5,?_⟩ zp;simp only[];rw[he,Xf i4.1,Xf i4.2];simp
  ·have hd:(decide (holes[i]<=last)||decide (w*h<=holes[i]))=true:=by simp;omega
   have hn:BK sh w h holes= .tup [encG 0 0 0 [] [],.int .i64 130]:=by
    unfold BK;rw[hG,W6];rw[he];intro q;simp only[W5,W8]at q;exact i4 ⟨q.1.1,q.2.1⟩
   rw[hn];simp only[eZ,seval,BH,X6,X1,X3,W0,Xa,lt_T c5,hg,hwh,hd];exact wk_G (Wk.sl (.inr rfl)) (Wk.sl (.inr rfl))
 have i7:i=holes.length:=zo
 subst i7;rw[Xv]at he;have hS:Ai sh w h holes=some (posL holes (w*h).toNat):=by rw[hG,X0 (by rw[he];rfl)]
 have hrise:=(Fh hS).2.2.2.2.2.2.2.1;have hM:BK sh w h holes= .tup [encG sh w h holes (posL holes (w*h).toNat),.int .i64 0]:=by unfold BK;rw[hS]
 rw[hM];obtain⟨m,hm⟩:∃m:Nat,w*h=(m:Int):=⟨(w*h).toNat,zo⟩;have hmt:(w*h).toNat=m:=zo
 have hwm:IntKind.wrap .i64 (m:Int)=m:=by rw[<-hm];exact hwh
 rw[hmt];simp only[eZ,seval,lt_F c5,Tmk,s1,Ad,AY,W1 hl,hwm,hm,AN,tadd];refine AL (λv:VM=>⟨[(3,true,eIs holes),(8,true,.ptr 0 0),(74,true,.int .i64 m),(75,true,.int .i64 v.k)],v.H,v.n⟩) (IM sh w h holes m) (λv=>m-v.k)
  ⟨0,.nil,hset hnil 0 (.box [.int .i64 sh,.int .i64 w,.int .i64 h,eIs holes,.sl .nil []]),2⟩ rfl ⟨Wz _,W9 _,AQ.nil.hset (m:=2) (Wz 2) (show 0<2 by decide),rfl,.inl rfl,.inr rfl⟩ ?_
 rintro⟨k,tk,H,n⟩ hI;have hk:=hI.hk;have hn:=hI.hn;have c7:=hI.fr;have h0:=hI.h0;have c8:=hI.tok;have d8:=hI.es;simp only at hk hn c7 h0 c8 d8;by_cases c5:k<m
 ·have e:=AE (k:=k) zo;have hps:=K8 holes k;cases l8:holes.contains (k:Int)with
  |true=>
   rw[l8,X0 rfl]at hps;simp only[eZ,seval,W3,X6,Y2,Yi,lt_T c5,Tmk,s2,Ad,AY,A0,Ah,W1 hl,W1 hrise,l8,e,tadd];exact .mk ⟨k+1,tk,H,n⟩ rfl ⟨c5,hn,c7,by simp only[hps];exact h0,c8,by simp only[hps];exact d8⟩ zp
  |false=>
   rw[l8,W6 zd]at hps;have s8:=Rs holes k;have q1:A8 H 1 tk=True:=W1 c8.app;have q2:((posL holes k).length<=35184372088831)=True:=W1 zo;have q3:Aj ((posL holes k).length+1) 8=True:=W1 (AZ zo zd);have kx:hget (AP H tk) 0=some (.box [.int .i64 sh,.int .i64 w,.int .i64 h,eIs holes,.sl tk ((posL holes k).map eI)]):=by rw[AW c8 (.inl zo)];exact h0
   have y0:∀j,(n+j=0)=False:=λj=>W4 zo
   simp only[eZ,seval,W7,X6,W0,Y2,Yi,lt_T c5,Tmk,s2,Ad,AY,A0,Ah,W1 hl,W1 hrise,l8,e,h0,q1,q2,q3,fr1 c7,kx,y0,tadd];refine .mk ⟨k+1,.own (n+4) 1,hset (hset (AP H tk) (n+4) .tok) 0 (.box [.int .i64 sh,.int .i64 w,.int .i64 h,eIs holes,.sl (.own (n+4) 1) ((posL holes (k+1)).map eI)]),n+7⟩ ?_ ⟨c5,zp,((AU c8 c7).hset (m:=n+7) zo zo).hset (W9 (n+7)) (show 0<n+7 by omega),AB ..,.inr (.inr ⟨n+4,rfl,zo,by rw[AA _ _ _ _ zo];exact AB ..⟩),.inl rfl⟩ zp;rw[hps,X2];rfl
 obtain rfl:k=m:=zo
 simp only[eZ,seval,BH,lt_F c5,h0];exact wk_G (Wk.refl _) (Wk.sl (d8.imp id λq=>by rw[q];rfl))
def Tgc:Tab:=tadd 147 (λa H=>match a with
 |[.int .i64 sh,.int .i64 w,.int .i64 h,x]=>(dIs.ok x/\few (dIs.dec x),BK sh w h (dIs.dec x))
 |_=>(False,.tup [])) (tadd 103 (s2 dIs dIs (λ_ b=>few b) λa b=>.bool (decide (a=b))) tnil)
theorem Uw:∀args H n,((λ(a:List Fs) (H:AC)=>match a with
 |[.int .i64 sh,.int .i64 w,.int .i64 h,x]=>(dIs.ok x/\few (dIs.dec x),BK sh w h (dIs.dec x))
 |_=>(False,Fs.tup [])) args H).1->Am prog 147 args H n ((λ(a:List Fs) (H:AC)=>match a with
 |[.int .i64 sh,.int .i64 w,.int .i64 h,x]=>(dIs.ok x/\few (dIs.dec x),BK sh w h (dIs.dec x))
 |_=>(False,Fs.tup [])) args H).2:=by
 intro args H n hh;simp only at hh⊢;split at hh
 ·obtain⟨h1,h2⟩:=hh;refine AO.args ((p147 _ _ _ _ h2).quiet H n) ?_;rintro g vs ⟨v,r,rfl,k1,w,r',rfl,k2,u,r2,rfl,k3,z,r3,rfl,k4,k5⟩;exact⟨v,_,rfl,k1,w,_,rfl,k2,u,_,rfl,k3,z,_,rfl,dIs.wk _ h1 _ _ k4,k5⟩
 ·exact hh.elim
def Tgc_ok:AI prog Tgc:=(AI.tnil.add (q2 λa b h=>p103 a b (Ci h))).add Uw
def grOK(sh w h:Int)(holes cells:List Int):Bool:=decide (Ai sh w h holes=some cells)
def p219(sh w h:Int)(holes cells:List Int)(hl:few holes)(hc:few cells):Pur prog 219 [encG sh w h holes cells] (.int .i64 (if grOK sh w h holes cells=true then 0 else 130)):=by
 refine .mk ⟨Aq 0 ..,trivial⟩ trivial (c219.a (AF Tgc_ok (AG ?_)));cases hG:Ai sh w h holes with
 |none=>
  have hM:BK sh w h holes= .tup [encG 0 0 0 [] [],.int .i64 130]:=by unfold BK;rw[hG]
  have hk:grOK sh w h holes cells=false:=by unfold grOK;rw[hG];simp
  rw[hk];simp only[eZ,seval,W3,W7,X6,Y2,Yi,c219,Tgc,Ad,AY,W1 hl,hM,encG,tadd]
 |some cs=>
  have hM:BK sh w h holes= .tup [encG sh w h holes cs,.int .i64 0]:=by unfold BK;rw[hG]
  have hk:grOK sh w h holes cells=decide (cs=cells):=by unfold grOK;rw[hG];simp
  rw[hk];by_cases hq:cs=cells
  ·simp only[eZ,seval,W3,X6,Y2,Yi,c219,Tgc,s2,Ad,AY,W1 hl,hM,encG,W1 hc,BA hq,tadd]
  ·simp only[eZ,seval,W3,W7,X6,Y2,Yi,c219,Tgc,s2,Ad,AY,W1 hl,hM,encG,W1 hc,Aw hq,tadd]
structure j9 where
 sh:Int
 w:Int
 h:Int
 holes:List Int
 cells:List Int
 deriving DecidableEq
abbrev B0(g:j9):Fs:=encG g.sh g.w g.h g.holes g.cells
def Rt:Fs->j9
 | .agg [.int _ sh,.int _ w,.int _ h,ho,ce]=>⟨sh,w,h,Gd ho,Gd ce⟩
 |_=>⟨0,0,0,[],[]⟩
def Hq(g:j9):Rt (B0 g)=g:=by simp only[Rt,Dv]
def dGd:Dc j9:=dWk B0 Rt
def DQ(x:j9):dGd.ok (B0 x)=True:=Hi Hq x
def CD(x:j9):dGd.dec (B0 x)=x:=Hq x
def E5{sh w h:Int}{holes cells:List Int}:dGd.ok (encG sh w h holes cells)=True:=DQ ⟨sh,w,h,holes,cells⟩
def Cx{sh w h:Int}{holes cells:List Int}:dGd.dec (encG sh w h holes cells)=⟨sh,w,h,holes,cells⟩:=CD ⟨sh,w,h,holes,cells⟩
abbrev chkV(g:j9):Fs:=.int .i64 (if grOK g.sh g.w g.h g.holes g.cells=true then 0 else 130)
def Tgr:Tab:=tadd 219 (s1 dGd (λg=>few g.holes/\few g.cells) chkV) (tadd 218 (s2 dIs dI (λl _=>few l/\List.Pairwise (λx y=>x<y) l) λl x=>.tup [.int .i64 (lowB l x),.bool (l.contains x)]) tnil)
def Tgr_ok:AI prog Tgr:=(AI.tnil.add (q2 λl x h=>p218 l x h.1 h.2)).add (q1 λg h=>p219 g.sh g.w g.h g.holes g.cells h.1 h.2)
def Wks.len{ws us:List Fs}(h:Wks ws us):ws.length=us.length:=by
 induction h with
 |nil=>rfl
 |cons _ _ ih=>simp [ih]
def Wks.app{a b c d:List Fs}(h:Wks a b)(k:Wks c d):Wks (a++c) (b++d):=by
 induction h with
 |nil=>exact k
 |cons h1 _ ih=>exact .cons h1 ih
def Tz{g:Zz}{e:Nat}{f:Nat->Option Value}{l m:List Fs}(hw:Wks l m):∀o,Stab g e f o l->Stab g e f o m:=by
 induction hw with
 |nil=>exact λ_ _=>trivial
 |cons h1 _ ih=>exact λo ⟨⟨v,q1,q2,q3⟩,h'⟩=>⟨⟨v,h1 _ _ q1,q2,q3⟩,ih _ h'⟩
def Wk.slx{t:jz}{e:Nat}{l m:List Fs}(h:t.esz=e\/l=[])(hw:Wks l m):Wk (.sl t l) (.sl (.none e) m):=by
 intro g v hv;have hv:=Wk.sl h g v hv;rcases hv with⟨h1,rfl,-⟩|⟨-,b,o,cap,⟨sp,rfl,hsp⟩,hc,hst,-⟩
 ·have hl:=hw.len;subst h1;have:m=[]:=XD (by rw[<-hl];rfl);subst this;exact .inl ⟨rfl,rfl,trivial⟩
 ·have hl:=hw.len;refine .inr ⟨trivial,b,o,cap,⟨sp,by rw[hl],?_⟩,by rw[<-hl];exact hc,Tz hw _ hst,trivial⟩;rcases hsp with q|⟨q,q2⟩
  ·exact .inl q
  ·refine .inr ⟨?_,.inr ⟨e,rfl⟩⟩;subst q;exact XD (by rw[<-hl];rfl)
def NU{cells l:List Int}{p:Int}(hp:List.Pairwise (λx y=>x<y) cells)(hl:∀q∈l,q∈cells)(hc:p∈cells):(BP cells l).contains (lowB cells p:Int)=l.contains p:=by
 rw[Xc,Xs,Xs];unfold BP;rw[XB];constructor
 ·rintro⟨q,hq,e⟩;have:=Wh hp (hl q hq) hc zo;rw[<-this];exact hq
 ·exact λh=>⟨p,h,rfl⟩
def Fp(cells l:List Int):(BP cells l).length=l.length:=W0 ..
def rgsV(cells:List Int)(lists:List (List Int)):Fs:=if(decide (lists.length<=64)&&lists.all (De cells))=true then .tup [eLl (lists.map (BP cells)),.int .i64 0]else .tup [eLl [],.int .i64 130]
theorem Hr:∀{l m:List Int},l.Nodup->(∀q∈l,q∈m)->l.length<=m.length
 |[],_,_,_=>Wz _
 |a::l,m,hd,hs=>by
  obtain⟨h1,h2⟩:=Ys.1 hd;have ha:=hs a zw;have ih:=Hr (m:=m.erase a) h2 λq hq=>(List.mem_erase_of_ne (λe:q=a=>by subst e;exact h1 hq)).2 (hs q (by simp [hq]))
  rw[List.length_erase_of_mem ha]at ih;have:=List.length_pos_of_mem ha;rw[Xe];omega
structure VRg where
 i:Nat
 E:List Fs
 tl:jz
 H:AC
 n:Nat
structure IRg(g:j9)(lists:List (List Int))(v:VRg):Prop where
 hi:v.i<=lists.length
 hn:3<=v.n
 fr:AQ v.H v.n
 h0:hget v.H 0=some (.box (AD g.sh g.w g.h g.holes g.cells))
 tok:tkG 1 1 v.H v.tl
 es:v.tl.esz=1\/v.E=[]
 hE:Wks v.E (((lists.take v.i).map (BP g.cells)).map eIs)
 eq:lists.all (De g.cells)=(lists.drop v.i).all (De g.cells)
structure VRi where
 j:Nat
 tc:jz
 H:AC
 n:Nat
structure IRi(g:j9)(x:List Int)(H0:AC)(n0:Nat)(v:VRi):Prop where
 hj:v.j<=x.length
 hn:n0+2<=v.n
 fr:AQ v.H v.n
 hk:∀id,id<n0->hget v.H id=hget H0 id
 hm:hget v.H n0=some (.map (ctEs (BP g.cells (x.take v.j)) 0) v.j)
 tok:tkG 1 (n0+1) v.H v.tc
 es:v.tc.esz=1\/v.j=0
 sub:∀q∈x.take v.j,q∈g.cells
 eq:F8 g.cells [] x=F8 g.cells (x.take v.j) (x.drop v.j)
 nd:(x.take v.j).Nodup
def p150(g:j9)(lists:List (List Int))(hG:Ai g.sh g.w g.h g.holes=some g.cells)(hh:few g.holes)(hl:Br lists):Pur prog 150 [B0 g,eLl lists] (rgsV g.cells lists):=by
 refine .mk ⟨Aq 0 ..,Ak 0 _,trivial⟩ (by unfold rgsV;split<;>exact⟨Ak 0 _,trivial,trivial⟩) (c150.a (AF Tgr_ok (AG ?_)));obtain⟨hr1,hr2,hr3⟩:=Ax hG;have hfc:few g.cells:=show g.cells.length<_ by omega
 have hgo:grOK g.sh g.w g.h g.holes g.cells=true:=by unfold grOK;rw[hG];simp
 by_cases h64:64<lists.length
 ·have hv:rgsV g.cells lists= .tup [eLl [],.int .i64 130]:=by unfold rgsV;rw[W6];simp;omega
  have l64:((64:Int)<(lists.length:Int))=True:=W1 zo;rw[hv];simp only[eZ,seval,W3,W0,c150,Tgr,s1,E5,Cx,W1 hh,W1 hfc,hgo,l64,tadd];exact Wk.tup (.cons (Wk.sl (.inr rfl)) (.cons (Wk.refl _) .nil))
 have l64:((64:Int)<(lists.length:Int))=False:=W4 zo;simp only[eZ,seval,W3,W0,c150,Tgr,s1,E5,Cx,W1 hh,W1 hfc,hgo,l64,tadd];have i8:lists.all (De g.cells)=false->rgsV g.cells lists= .tup [eLl [],.int .i64 130]:=λq=>by unfold rgsV;rw[q,YW,W6 zd]
 refine AL (λv:VRg=>⟨[(2,true,.ptr 0 0),(4,true,.sl v.tl v.E),(22,true,eLl lists),(23,true,.int .i64 lists.length),(24,true,.int .i64 v.i)],v.H,v.n⟩) (IRg g lists) (λv=>lists.length-v.i)
  ⟨0,[],.nil,hset hnil 0 (.box (AD g.sh g.w g.h g.holes g.cells)),3⟩ rfl ⟨Wz _,W9 _,AQ.nil.hset (m:=3) (Wz 3) (show 0<3 by decide),rfl,.inl rfl,.inr rfl,.nil,rfl⟩ ?_
 rintro⟨i,E,tl,H,n⟩ hI;have hi:=hI.hi;have hn:=hI.hn;have c7:=hI.fr;have h0:=hI.h0;have c8:=hI.tok;have d8:=hI.es;have hE:=hI.hE;have heq:=hI.eq;simp only at hi hn c7 h0 c8 d8 hE heq;by_cases c5:i<lists.length;case neg=>
  have i7:i=lists.length:=zo
  subst i7;rw[Xv]at heq;rw[X4]at hE;have hv:rgsV g.cells lists= .tup [eLl (lists.map (BP g.cells)),.int .i64 0]:=by
   unfold rgsV;rw[heq,X0];simp;omega
  rw[hv];simp only[eZ,seval,lt_F c5];exact Wk.tup (.cons (Wk.slx d8 hE) (.cons (Wk.refl _) .nil))
 have hg:=W2 c5;have e:=AE (k:=i) zo;have hxf:=hl.2 _ (X5 c5);have hxe:=map_take (f:=BP g.cells) c5;rw[Xj c5,YA]at heq;generalize hx:lists[i]=x at hg hxf heq hxe;have hxl:x.length<1125899906842624:=hxf;have hmk:hget (hset H n (.map [] 0)) 0=some (.box (AD g.sh g.w g.h g.holes g.cells)):=by rw[AA _ _ _ _ zo];exact h0
 simp only[eZ,seval,xE,X6,X1,X3,W0,Xa,lt_T c5,hg,fr0 c7];refine AL (λv:VRi=>⟨[(2,true,.ptr 0 0),(4,true,.sl tl E),(8,true,.sl v.tc ((BP g.cells (x.take v.j)).map eI)),(9,true,.mp n),(22,true,eLl lists),(23,true,.int .i64 lists.length),(24,true,.int .i64 i),(29,true,eIs x),(30,true,.int .i64 x.length),(31,true,.int .i64 v.j)],v.H,v.n⟩)
  (IRi g x H n) (λv=>x.length-v.j) ⟨0,.nil,hset H n (.map [] 0),n+2⟩ rfl ⟨Wz _,W9 _,(c7.hset (m:=n+2) zo zo),λid d7=>AA _ _ _ _ zo,AB ..,.inl rfl,.inr rfl,λq hq=>by(simp at hq),rfl,zw⟩ ?_
 rintro⟨j,tc,H1,n1⟩ hJ;have hj:=hJ.hj;have l5:=hJ.hn;have hf1:=hJ.fr;have hk:=hJ.hk;have hm:=hJ.hm;have htc:=hJ.tok;have hec:=hJ.es;have hsub:=hJ.sub;have hme:=hJ.eq;have hnd:=hJ.nd;simp only at hj l5 hf1 hk hm htc hec hsub hme hnd;have hj256:j<=256:=by
  have:=Hr hnd hsub;rw[Xg]at this;omega
 have l9:hget H1 0=some (.box (AD g.sh g.w g.h g.holes g.cells)):=by rw[hk 0 zo];exact h0
 by_cases hlj:j<x.length
 ·have hgj:=W2 hlj;have ej:=AE (k:=j) zo;have htx:=map_take (f:=λp=>(lowB g.cells p:Int)) hlj;have htk2:x.take (j+1)=x.take j++[x[j]]:=by rw[X7,hgj];rfl
  rw[Xj hlj,F8]at hme;have hlen:(BP g.cells (x.take j)).length=j:=by rw[Fp,Xg];omega
  generalize hp:x[j]=p at hgj htx htk2 hme;have i5:(g.cells.contains p&& !(x.take j).contains p)=false->rgsV g.cells lists= .tup [eLl [],.int .i64 130]:=λq=>i8 (by
   rw[heq,Ev,hme,q];simp)
  cases l8:g.cells.contains p with
  |false=>
   rw[i5 (by rw[l8];rfl)];simp only[eZ,eX,seval,W3,W7,X6,X1,X3,W0,Xa,Y2,Yi,lt_T hlj,hgj,l9,Tgr,s2,Ad,AY,A0,Ah,W1 hfc,W1 hr1,l8,tadd];exact Wk.tup (.cons (Wk.sl (.inr rfl)) (.cons (Wk.refl _) .nil))
  |true=>
   have hpm:p∈g.cells:=Xs.1 l8;have hcm:=NU hr1 hsub hpm;have hmf:BO (.int .i64 (lowB g.cells p:Int)) (ctEs (BP g.cells (x.take j)) 0)=if(x.take j).contains p then some (.bool true)else none:=by rw[MN,hcm]
   cases hmt:(x.take j).contains p with
   |true=>
    rw[i5 (by rw[l8,hmt];rfl)];rw[hmt,X0 rfl]at hmf;simp only[eZ,eX,seval,W3,xE,X6,X1,X3,W0,Xa,Y2,Yi,lt_T hlj,hgj,l9,Tgr,s2,Ad,AY,A0,Ah,W1 hfc,W1 hr1,l8,hm,hmf,Rq,xE,KT.is,CY,tadd];exact Wk.tup (.cons (Wk.sl (.inr rfl)) (.cons (Wk.refl _) .nil))
   |false=>
    rw[hmt,W6 zd]at hmf;have x8:=ct_set (l:=BP g.cells (x.take j)) (x:=(lowB g.cells p:Int)) (by rw[hcm];exact hmt);rw[hlen]at x8;have htm:tkG 1 (n+1) (hset H1 n (.map (ctEs (BP g.cells (x.take j)++[(lowB g.cells p:Int)]) 0) (j+1))) tc:=htc.set (.inl zo);have q1:A8 (hset H1 n (.map (ctEs (BP g.cells (x.take j)++[(lowB g.cells p:Int)]) 0) (j+1))) 1 tc=True:=W1 htm.app;have q2:(j<=35184372088831)=True:=W1 zo;have q3:Aj (j+1) 8=True:=W1 (AZ zo zd);have yn:∀k,(n=n1+k)=False:=λk=>W4 zo
    simp only[eZ,eX,seval,W3,xE,Option.getD_none,Option.isSome_none,X6,X1,X3,W0,Xa,Y2,Yi,lt_T hlj,hgj,l9,Tgr,s2,Ad,AY,A0,Ah,W1 hfc,W1 hr1,l8,hm,hmf,Rq,xE,KT.is,CY,ej,x8,q1,q2,q3,hlen,yn,fr1 hf1,tadd];generalize hG2:hset H1 n (.map (ctEs (BP g.cells (x.take j)++[(lowB g.cells p:Int)]) 0) (j+1))=H2 at htm;have o7:AQ H2 n1:=by rw[<-hG2];exact hf1.hset (W9 _) zo
    have l7:∀id,id<n->hget H2 id=hget H id:=λid d7=>by rw[<-hG2,AA _ _ _ _ zo];exact hk id d7
    have x6:hget H2 n=some (.map (ctEs (BP g.cells (x.take j)++[(lowB g.cells p:Int)]) 0) (j+1)):=by rw[<-hG2];exact AB ..
    have v7:BP g.cells (x.take (j+1))=BP g.cells (x.take j)++[(lowB g.cells p:Int)]:=htx;refine .mk ⟨j+1,.own (n1+3) 1,hset (AP H2 tc) (n1+3) .tok,n1+5⟩ ?_ ⟨hlj,zp,(AU htm o7).hset (m:=n1+5) zo zo,λid d7=>?_,?_,.inr (.inr ⟨n1+3,rfl,zo,AB ..⟩),.inl rfl,λq hq=>?_,?_,?_⟩ zp
    ·rw[v7,X2];rfl
    ·simp only[];rw[AA _ _ _ _ zo,AW htm (.inl zo)];exact l7 id d7
    ·simp only[];rw[AA _ _ _ _ zo,AW htm (.inl zo),v7];exact x6
    ·simp only[htk2]at hq;rcases XO.1 hq with q1|q1
     ·exact hsub q q1
     ·rw[XR.1 q1];exact hpm
    ·simp only[];rw[htk2,hme,l8,hmt];rfl
    ·simp only[];rw[htk2,Yj];refine⟨hnd,zw,λa ha b hb e=>?_⟩;rw[XR]at hb;subst hb;subst e;rw[Xs.2 ha]at hmt;cases hmt
 have hj':j=x.length:=zo
 subst hj';rw[Xv,X4]at hme;rw[X4]at hm;have hlx:(BP g.cells (x.take x.length)).length=x.length:=by rw[Fp,X4]
 by_cases hx0:x.length=0
 ·have i5:rgsV g.cells lists= .tup [eLl [],.int .i64 130]:=i8 (by rw[heq,Ev,hx0];simp);rw[i5];simp only[eZ,seval,W0,lt_F hlj,hlx,BA (show((x.length:Nat):Int)=0 by omega)];exact Wk.tup (.cons (Wk.sl (.inr rfl)) (.cons (Wk.refl _) .nil))
 have hEl:E.length<=64:=by
  have:=hE.len;simp only[W0,Xg]at this;omega
 have i9:tkG 1 1 H1 tl:=by
  rcases c8 with rfl|rfl|⟨id,rfl,h1,h2⟩
  ·exact .inl rfl
  ·exact .inr (.inl rfl)
  ·exact .inr (.inr ⟨id,rfl,h1,by rw[hk id (c7.lt h2)];exact h2⟩)
 have q1:A8 H1 1 tl=True:=W1 i9.app;have q2:(E.length<=35184372088831)=True:=W1 zo;have q3:Aj (E.length+1) 24=True:=W1 (AZ zo zd);simp only[eZ,seval,W0,lt_F hlj,hlx,Aw (show ¬((x.length:Nat):Int)=0 by omega),e,q1,q2,q3,fr1 hf1];refine .mk ⟨i+1,E++[.sl tc ((BP g.cells x).map eI)],.own (n1+3) 1,hset (AP H1 tl) (n1+3) .tok,n1+5⟩ ?_ ⟨c5,zp,(AU i9 hf1).hset (m:=n1+5) zo zo,?_,.inr (.inr ⟨n1+3,rfl,zo,AB ..⟩),.inl rfl,?_,?_⟩ zp
 ·rw[X4]
 ·simp only[];rw[AA _ _ _ _ zo,AW i9 (.inl zo)];exact l9
 ·simp only[];rw[hxe,X2];exact hE.app (.cons (Wk.sl (hec.imp id λq=>by rw[XZ.1 q];rfl)) .nil)
 ·simp only[];have i4:De g.cells x=true:=by rw[Ev,hme];simp [F8];omega
  rw[heq,i4,Yc]
section
def idxP(m:Nat)(p:Nat->Bool):List Int:=((List.range m).filter p).map λ(i:Nat)=>(i:Int)
variable {x sh n:Int} {m:Nat} {p:Nat->Bool}
theorem Fq:x∈idxP m p↔∃i:Nat,i<m/\p i=true/\x=(i:Int):=by grind [idxP]
theorem Jp{i:Nat}:(i:Int)∈idxP m p↔i<m/\p i=true:=by grind [Fq]
theorem Hs(m:Nat)(p:Nat->Bool):List.Pairwise (λx y=>x<y) (idxP m p):=by
 unfold idxP;rw[YT];exact(YY.sublist Z9).imp λq=>zo
theorem Co(m:Nat)(p:Nat->Bool):idxP (m+1) p=if p m=true then idxP m p++[(m:Int)]else idxP m p:=by grind [idxP,List.range_succ]
theorem Bv(m:Nat)(p:Nat->Bool):(idxP m p).length<=m:=by grind [idxP]
theorem Ce{q:Nat->Bool}(h:∀i,i<m->p i=q i):idxP m p=idxP m q:=by grind [idxP,List.filter_congr]
theorem NV(m:Nat):idxP m (λ_=>true)=(List.range m).map λ(i:Nat)=>(i:Int):=by
 unfold idxP;rw[YU.2 λ_ _=>rfl]
abbrev Spot:=Int×Int
def C9(sh w p:Int):Spot:=(if sh=2 then p.tmod w-(p.tdiv w).tdiv 2 else p.tmod w,p.tdiv w)
def AT(sh w:Int)(cells:List Int):List Spot:=cells.map (C9 sh w)
def EM(sh:Int):List Spot:=(([(1,0),(-1,0),(0,1),(0,-1),(1,-1),(-1,1)]:List Spot)).take (if sh=1 then 4 else 6)
def addP(s d:Spot):Spot:=(s.1+d.1,s.2+d.2)
def EP(S:List Spot)(s:Spot):Option Int:=(S.findIdx? λx=>decide (x=s)).map λ(i:Nat)=>(i:Int)
def nbS(sh:Int)(S:List Spot)(s:Spot):List Int:=idxP S.length λb=>(EM sh).any λd=>decide (S[b]?=some (addP s d))
def nbsS(sh:Int)(S:List Spot):List (List Int):=S.map (nbS sh S)
def B1(S:List Spot)(f:Spot->Option Int)(n:Int):List Int:=idxP S.length λc=>decide (S[c]?.bind f=some n)
def Jq:List Int:=(List.range 49).map λ(k:Nat)=>(k:Int)-16
def Bi(S:List Spot)(f:Spot->Option Int):List (List Int):=(Jq.map (B1 S f)).filter λl=>!l.isEmpty
def K9(w:Int)(S:List Spot):List (List Int):=
 let a:=B1 S (λs=>if s.1=s.2 then some 0 else none) 0
 let b:=B1 S (λs=>if s.1+s.2=w-1 then some 0 else none) 0
 (if a.isEmpty then[]else[a])++(if b.isEmpty||decide (a=b)then[]else[b])
def famS(sh w h:Int)(S:List Spot)(f:Nat):List (List Int):=
 if f=0 then(idxP S.length λ_=>true).map λc=>[c]
 else if f=1 then Bi S λs=>some s.2
 else if f=2 then Bi S λs=>some s.1
 else if f=3 then(if sh=2 then Bi S λs=>some (s.1+s.2)else if w=h then K9 w S else[])
 else if f=4 then nbsS sh S
 else if f=5 then(List.range S.length).map λ(c:Nat)=>idxP S.length λb=>decide (b=c)||((EM sh).any λd=>decide (S[b]?=(S[c]?).map λs=>addP s d))
 else if f=6 then(List.range S.length).flatMap λ(c:Nat)=>(((nbsS sh S)[c]?.getD []).filter λb=>decide ((c:Int)<b)).map λb=>[(c:Int),b]
 else[(idxP S.length λ_=>true)]
theorem Ex{S:List Spot}(hd:S.Nodup){s:Spot}{i:Nat}:EP S s=some (i:Int)↔S[i]?=some s:=by
 unfold EP;constructor
 ·intro h;obtain⟨j,h1,h2⟩:=Yd.1 h;have:j=i:=zo
  subst this;obtain⟨hl,h3,-⟩:=XP.1 h1;rw[W2 hl,Xu h3]
 ·intro h;obtain⟨hl,h1⟩:=XW.1 h;have:S.findIdx? (λx=>decide (x=s))=some i:=by
   rw[XP];refine⟨hl,by simp [h1],λj hj=>?_⟩;simp only[W8];intro h2;have:=(Ye.1 hd) j i zo hl hj;exact this (h2.trans h1.symm)
  rw[this];rfl
theorem LC{S:List Spot}{s:Spot}(h:EP S s=some x):∃i:Nat,x=(i:Int):=by
 unfold EP at h;obtain⟨j,-,h2⟩:=Yd.1 h;exact⟨j,h2.symm⟩
theorem I4{S:List Spot}{s:Spot}:EP S s=none↔s∉S:=by grind [EP,Option.map_eq_none_iff,List.findIdx?_eq_none_iff,decide_eq_false_iff_not]
def GS(sh:Int)(S:List Spot)(s:Spot):List Int:=(EM sh).filterMap λd=>EP S (addP s d)
theorem MS(sh:Int):(EM sh).Nodup:=by
 unfold EM;split<;>decide
theorem Wt{s a b:Spot}(h:addP s a=addP s b):a=b:=by grind [addP,Prod.mk.injEq]
theorem MT(sh:Int){S:List Spot}(hd:S.Nodup)(s:Spot):(GS sh S s).Nodup:=by
 unfold GS;have h:=MS sh;generalize EM sh=L at h;induction L with
 |nil=>simp
 |cons d r ih=>
  obtain⟨h1,h2⟩:=Ys.1 h;rw[List.filterMap_cons];cases he:EP S (addP s d)with
  |none=>exact ih h2
  |some x=>
   refine Ys.2 ⟨λhm=>?_,ih h2⟩;obtain⟨e,he1,he2⟩:=List.mem_filterMap.1 hm;obtain⟨i,rfl⟩:=LC he;have a:=(Ex hd).1 he;have b:=(Ex hd).1 he2;rw[a]at b;have:=Wt (Option.some.inj b);subst this;exact h1 he1
theorem Ru{S:List Spot}(hd:S.Nodup){s:Spot}:x∈GS sh S s↔x∈nbS sh S s:=by
 unfold GS nbS;rw[List.mem_filterMap,Fq];constructor
 ·rintro⟨d,hm,he⟩;obtain⟨i,rfl⟩:=LC he;have h:=(Ex hd).1 he;exact⟨i,(XW.1 h).1,Yy.2 ⟨d,hm,by simp [h]⟩,rfl⟩
 ·rintro⟨i,hi,ha,rfl⟩;obtain⟨d,hm,he⟩:=Yy.1 ha;exact⟨d,hm,(Ex hd).2 (Xu he)⟩
theorem Ht{l m:List Int}(hd:l.Nodup)(hm:List.Pairwise (λx y=>x<y) m)(h:∀x,x∈l↔x∈m):l.mergeSort leI=m:=by
 refine Jn ?_ hm λx=>?_
 ·have h1:=Fg l;have h2:(l.mergeSort leI).Nodup:=(YF l leI).nodup_iff.2 hd;rw[Ye]at h1⊢;intro i j hi hj hij;have a:=h1 i j hi hj hij;have b:=Ye.1 h2 i j hi hj hij;have b':¬(l.mergeSort leI)[i]=(l.mergeSort leI)[j]:=b;omega
 ·rw[(YF l leI).mem_iff];exact h x
theorem Ow(sh:Int){S:List Spot}(hd:S.Nodup)(s:Spot):(GS sh S s).mergeSort leI=nbS sh S s:=Ht (MT sh hd s) (Hs ..) λx=>Ru hd
theorem NW{S:List Spot}{f:Spot->Option Int}{c:Nat}:(c:Int)∈B1 S f n↔∃s,S[c]?=some s/\f s=some n:=by
 unfold B1;rw[Jp];simp only[W8,Option.bind_eq_some_iff];constructor
 ·exact λh=>h.2
 ·grind
theorem MU{S:List Spot}{f:Spot->Option Int}:(B1 S f n).isEmpty=false↔∃s∈S,f s=some n:=by
 rw[List.isEmpty_eq_false_iff_exists_mem];constructor
 ·rintro⟨x,hx⟩;obtain⟨i,-,-,rfl⟩:=Fq.1 hx;obtain⟨s,h1,h2⟩:=NW.1 hx;exact⟨s,Xw h1,h2⟩
 ·rintro⟨s,h1,h2⟩;obtain⟨i,hi,h3⟩:=Xq.1 h1;exact⟨(i:Int),NW.2 ⟨s,by rw[W2 hi,h3],h2⟩⟩
theorem Rv:List.Pairwise (λx y=>x<y) Jq:=by
 unfold Jq;rw[YT];exact YY.imp λq=>zo
theorem T0:n∈Jq↔ -16<=n/\n<=32:=by
 unfold Jq;rw[XB];constructor
 ·rintro⟨k,hk,rfl⟩;have:=XH.1 hk;omega
 ·intro h;exact⟨(n+16).toNat,XH.2 zo,zo⟩
theorem T5{S:List Spot}{f:Spot->Option Int}{K:List Int}(hn:K.Nodup)(hk:∀n,n∈K↔∃s∈S,f s=some n)(hb:∀s∈S,∀n,f s=some n-> -16<=n/\n<=32):(K.mergeSort leI).map (B1 S f)=Bi S f:=by
 have h:K.mergeSort leI=Jq.filter λn=>!(B1 S f n).isEmpty:=by
  refine Ht hn (Rv.sublist Z9) λn=>?_
  rw[hk,Yn,T0,Y9,MU];exact⟨λq=>let ⟨s,h1,h2⟩:=q;⟨hb s h1 n h2,q⟩,λq=>q.2⟩
 rw[h,Bi,List.filter_map];rfl
theorem T6{w p q:Int}(hw:1<=w)(hp:0<=p)(hq:0<=q)(h:C9 sh w p=C9 sh w q):p=q:=by
 unfold C9 at h;simp only[Prod.mk.injEq]at h;obtain⟨h1,h2⟩:=h;have e1:=Int.tmod_add_mul_tdiv p w;have e2:=Int.tmod_add_mul_tdiv q w;rw[h2]at h1 e1;split at h1<;>omega
theorem Hu{w:Int}{cells:List Int}(hw:1<=w)(hr:List.Pairwise (λx y=>x<y) cells)(h0:∀p∈cells,0<=p):(AT sh w cells).Nodup:=by
 unfold AT;rw[List.Nodup,YT,Ye];intro i j hi hj hij e;have:=T6 hw (h0 _ (X5 hi)) (h0 _ (X5 hj)) e;have:=Ye.1 hr i j hi hj hij;omega
end
def besS(sh:Int)(a b:Spot):Bool:=(EM sh).any λd=>decide (b=addP a d)
def besR(sh:Int)(a b:Spot):Bool:=
 let dx:=b.1-a.1
 let dy:=b.2-a.2
 if sh=1 then decide (dy=0)&&(decide (dx=1)||decide (dx= -1))||decide (dx=0)&&(decide (dy=1)||decide (dy= -1))
 else decide (dx=1)&&decide (dy=0)||decide (dx= -1)&&decide (dy=0)||decide (dx=0)&&decide (dy=1)||decide (dx=0)&&decide (dy= -1)||decide (dx=1)&&decide (dy= -1)||decide (dx= -1)&&decide (dy=1)
def MV(sh:Int)(a b:Spot):besR sh a b=besS sh a b:=by
 obtain⟨a1,a2⟩:=a;obtain⟨b1,b2⟩:=b;rw[Xc];unfold besR besS EM addP;by_cases h:sh=1
 ·simp only[X0 h,List.take,Za,List.any_nil,Xi,W5,W8,Prod.mk.injEq,Xd,or_false];omega
 ·simp only[W6 h,List.take,Za,List.any_nil,Xi,W5,W8,Prod.mk.injEq,Xd,or_false];omega
def Ux(sh:Int)(S:List Spot)(s:Spot):nbS sh S s=idxP S.length λb=>match S[b]? with
  |some t=>besS sh s t
  |none=>false:=by
 unfold nbS;refine Ce λi hi=>?_
 rw[W2 hi];unfold besS;simp only[Option.some.injEq]
def T7(sh:Int)(a:Spot):besS sh a a=false:=by
 rw[<-MV,YL];intro h;unfold besR at h;by_cases h1:sh=1
 ·simp_all
 ·simp_all
def Rw{y:Int}(h:0<=y):(y-y.tmod 2).tdiv 2=y.tdiv 2:=by grind
def symI(m:Nat):List Int:=(List.range m).map λ(i:Nat)=>(i:Int)
def Gq{m:Nat}{s:Int}:s∈symI m↔0<=s/\s<m:=by
 unfold symI;rw[XB];constructor
 ·rintro⟨i,hi,rfl⟩;have:=XH.1 hi;omega
 ·intro h;exact⟨s.toNat,XH.2 zo,zo⟩
def Ox(m:Nat)(l:List Int):List Int:=(symI m).filter λs=>!l.contains s
def chsE(m:Nat):Nat->List Int->List (List Int)
 |0,l=>[l]
 |j+1,l=>(Ox m l).flatMap λs=>chsE m j (l++[s])
def chs(m n:Nat):List (List Int):=chsE m n []
def chsR(m:Nat):Nat->List (List Int)
 |0=>[[]]
 |n+1=>(chsR m n).flatMap λl=>(Ox m l).map λs=>l++[s]
theorem LD(m:Nat):∀(j:Nat) (l:List Int),chsE m (j+1) l=(chsE m j l).flatMap λl'=>(Ox m l').map λs=>l'++[s]
 |0,l=>by simp [chsE,Z0,List.map_eq_flatMap]
 |j+1,l=>by
  rw[chsE];conv=>rhs;rw[chsE]
  rw[List.flatMap_assoc];congr 1;funext s;exact LD m j (l++[s])
theorem Rx(m:Nat):∀n,chs m n=chsR m n
 |0=>rfl
 |n+1=>by
  unfold chs;rw[LD,chsR,<-Rx m n];rfl
theorem NX{m:Nat}:∀{j:Nat} {l x:List Int},x∈chsE m j l->x.length=l.length+j/\(l.Nodup->(∀s∈l,0<=s/\s<m)->x.Nodup/\∀s∈x,0<=s/\s<m)
 |0,l,x,h=>by
  simp only[chsE,XR]at h;subst h;exact⟨rfl,λa b=>⟨a,b⟩⟩
 |j+1,l,x,h=>by
  simp only[chsE,List.mem_flatMap]at h;obtain⟨s,hs,hx⟩:=h;obtain⟨h1,h2⟩:=NX hx;refine⟨by rw[h1,Xb];simp;omega,λhd hr=>?_⟩;unfold Ox at hs;rw[Yn,Gq,Y9,Zm,Ya]at hs;refine h2 ?_ ?_
  ·grind
  ·grind
def Ry{m n:Nat}{x:List Int}(h:x∈chs m n):x.length=n/\x.Nodup/\∀s∈x,0<=s/\s<m:=by
 obtain⟨h1,h2⟩:=NX h;obtain⟨h3,h4⟩:=h2 Zx zw;exact⟨by simpa using h1,h3,h4⟩
def at0(l:List Int)(i:Int):Int:=l[i.toNat]?.getD 0
def Au(bad:Int->Int->Bool):List Int->Bool
 |[]=>false
 |a::r=>(r.any λb=>decide (0<=a)&&decide (0<=b)&&bad a b)||Au bad r
def cOwn(ls l:List Int):Nat:=(l.filter λs=>decide (0<=s)&&ls.contains s).length
def cOth(ls l:List Int):Nat:=(l.filter λs=>decide (0<=s)&& !ls.contains s).length
def cNon(l:List Int):Nat:=(l.filter λs=>decide (s<0)).length
def absI(a:Int):Int:=max a (-a)
def BU(vals:List Int)(k n:Int)(ls l:List Int):Bool:=
 if k=1 then Au (λa b=>decide (a=b)) l
 else if k=2 then decide (cOwn ls l=0)&&decide (cNon l=0)
 else if k=3 then Au (λa b=>decide (absI (at0 vals a-at0 vals b)<n)) l
 else if k=4 then Au (λa b=>decide (at0 vals b<=at0 vals a)) l
 else if k=6 then decide (n<(cOwn ls l:Int))||decide ((l.length:Int)-n<(cOth ls l:Int))
 else false
def CV(vals:List Int)(q:Cnd)(letters cells:List Int):Bool:=BU vals q.k q.n (q.ls.map (at0 letters)) (q.cs.map (at0 cells))
def Rz(p:Prm)(letters cells:List Int):Bool:=decide (0<=at0 cells p.c)&& !(p.ls.map (at0 letters)).contains (at0 cells p.c)
def LE(vals:List Int)(x:jq)(letters cells:List Int):List Bool:=(x.qs.map λq=>CV vals q letters cells)++x.ps.map λp=>Rz p letters cells
def CR(vals:List Int)(x:jq)(letters cells:List Int)(i:Int):Bool:=if i<0 then false else(LE vals x letters cells)[i.toNat]?.getD false
def NY(vals:List Int)(x:jq)(letters cells:List Int):Bool:=(LE vals x letters cells).all λb=>!b
structure ExtC(a b:List Int):Prop where
 len:a.length=b.length
 le:∀(i:Nat) s,a[i]?=some s->0<=s->b[i]?=some s
 neg:∀s∈a,-1<=s
def BE{l:List Int}{i:Int}(h0:0<=i)(h:i<l.length):l[i.toNat]?=some (at0 l i):=by
 unfold at0;rw[W2 zo];rfl
inductive Ext2:List Int->List Int->Prop
 |nil:Ext2 [] []
 |cons {a b:Int} {l m:List Int}:(0<=a->b=a)->Ext2 l m->Ext2 (a::l) (b::m)
theorem R5{a b:List Int}(h:ExtC a b):∀{cs:List Int},(∀c∈cs,0<=c/\c<a.length)->Ext2 (cs.map (at0 a)) (cs.map (at0 b))
 |[],_=>.nil
 |c::cs,hc=>by
  refine .cons (λh0=>?_) (R5 h λd hd=>hc d (by simp [hd]));obtain⟨h1,h2⟩:=hc c zw;have e:=h.le c.toNat _ (BE h1 h2) h0;rw[BE h1 (by rw[<-h.len];exact h2)]at e;exact Option.some.inj e
theorem Ext2.length:∀{l m:List Int},Ext2 l m->l.length=m.length
 |_,_,.nil=>rfl
 |_,_,.cons _ t=>by rw[Xe,Xe,t.length]
theorem Ext2.any{p:Int->Bool}:∀{l m:List Int},Ext2 l m->(l.any λb=>decide (0<=b)&&p b)=true->(m.any λb=>decide (0<=b)&&p b)=true
 |_,_,.nil,h=>h
 |_,_,.cons (a:=a) (b:=b) hh t,h=>by
  rw[Za,Xi]at h⊢;rcases h with h|h
  ·simp_all
  ·exact .inr (t.any h)
theorem Ey{bad:Int->Int->Bool}:∀{l m:List Int},Ext2 l m->Au bad l=true->Au bad m=true
 |_,_,.nil,h=>h
 |_,_,.cons (a:=a) (b:=b) (l:=l) (m:=m) hh t,h=>by
  unfold Au at h⊢;rw[Xi]at h⊢;rcases h with h|h
  ·left;by_cases ha:0<=a
   ·rw[hh ha];have:=t.any (p:=λc=>bad a c) (by simpa [ha]using h);simpa [ha]using this
   ·simp [ha]at h
  ·exact .inr (Ey t h)
theorem NZ{ls:List Int}:∀{l m:List Int},Ext2 l m->cOwn ls l<=cOwn ls m
 |_,_,.nil=>W9 _
 |_,_,.cons (a:=a) (b:=b) hh t=>by
  have ih:=NZ (ls:=ls) t;unfold cOwn at ih⊢;rw[XA,XA];by_cases ha:0<=a
  ·rw[hh ha];split<;>(try simp only[Xe])<;>omega
  ·grind
theorem Na{ls:List Int}:∀{l m:List Int},Ext2 l m->cOth ls l<=cOth ls m
 |_,_,.nil=>W9 _
 |_,_,.cons (a:=a) (b:=b) hh t=>by
  have ih:=Na (ls:=ls) t;unfold cOth at ih⊢;rw[XA,XA];by_cases ha:0<=a
  ·rw[hh ha];split<;>(try simp only[Xe])<;>omega
  ·grind
theorem Nb:∀{l m:List Int},Ext2 l m->cNon l=0->l=m
 |_,_,.nil,_=>rfl
 |_,_,.cons (a:=a) (b:=b) hh t,h=>by
  unfold cNon at h;rw[XA]at h;by_cases ha:a<0
  ·simp [ha]at h
  ·have h1:decide (a<0)=false:=by simp [ha]
   rw[h1]at h;rw[hh zo,Nb t h]
def Oy{vals:List Int}{k n:Int}{ls l m:List Int}(h:Ext2 l m)(hc:BU vals k n ls l=true):BU vals k n ls m=true:=by
 unfold BU at hc⊢;have hl:=h.length;by_cases k1:k=1
 ·rw[X0 k1]at hc⊢;exact Ey h hc
 rw[W6 k1]at hc⊢;by_cases k2:k=2
 ·rw[X0 k2]at hc⊢;rw[W5,W8,W8]at hc;rw[<-Nb h hc.2];simp [hc]
 rw[W6 k2]at hc⊢;by_cases k3:k=3
 ·rw[X0 k3]at hc⊢;exact Ey h hc
 rw[W6 k3]at hc⊢;by_cases k4:k=4
 ·rw[X0 k4]at hc⊢;exact Ey h hc
 rw[W6 k4]at hc⊢;by_cases k6:k=6
 ·rw[X0 k6]at hc⊢;rw[Xi,W8,W8]at hc⊢;have h1:=NZ (ls:=ls) h;have h2:=Na (ls:=ls) h;omega
 ·rw[W6 k6]at hc;cases hc
section
structure Cas where
 k:Int
 a:Int
 deriving DecidableEq
def Nc:Int:=2
def Nd:Int:=1
def Hv(x:jq)(c:Int):Option Prm:=x.ps.find? λp=>decide (p.c=c)
def Nf(m:Nat)(x:jq)(letters:List Int)(c:Int):List Int:=match Hv x c with
 |none=>symI m
 |some p=>(symI m).filter λs=>(p.ls.map (at0 letters)).contains s
def begC(x:jq)(letters:List Int):List Int:=(List.replicate x.cs.length (-1)).set x.c.toNat (at0 letters x.l)
def seqT(f:Int->List Cas->Option (List Cas)):List Int->List Cas->Option (List Cas)
 |[],l=>some l
 |s::r,l=>(f s l).bind (seqT f r)
def Cv(vals:List Int)(x:jq)(letters:List Int):Nat->List Int->List Cas->Option (List Cas)
 |_,_,[]=>none
 |f,cells,n::l=>
  if n.k=Nc then(if CR vals x letters cells n.a then some l else none)
  else if n.k=Nd/\0<=n.a/\n.a<cells.length/\at0 cells n.a<0 then
   match f with
   |0=>none
   |f+1=>seqT (λs l=>Cv vals x letters f (cells.set n.a.toNat s) l) (Nf vals.length x letters n.a) l
  else none
def GT(vals:List Int)(x:jq)(trees:List (List Cas)):Bool:=
 decide ((chs vals.length x.ls.length).length=trees.length)&&(((chs vals.length x.ls.length).zip trees).all λq=>decide (Cv vals x q.1 x.cs.length (begC x q.1) q.2=some []))
def tryP(vals:List Int)(x:jq)(letters:List Int):Nat->Nat->List Int->Bool
 |j,i,cells=>if NY vals x letters cells then(match j with
   |0=>true
   |j+1=>if(i:Int)=x.c then tryP vals x letters j (i+1) cells else(symI vals.length).any λs=>tryP vals x letters j (i+1) (cells.set i s))
  else false
def LG(vals:List Int)(x:jq):Bool:=(chs vals.length x.ls.length).all λletters=>!tryP vals x letters x.cs.length 0 (begC x letters)
structure Refutes(vals:List Int)(x:jq)(letters c:List Int):Prop where
 len:c.length=x.cs.length
 rng:∀s∈c,0<=s/\s<vals.length
 con:at0 c x.c=at0 letters x.l
 ok:NY vals x letters c=true
variable {vals letters a b:List Int} {x:jq}
theorem Jr(x:jq)(letters:List Int):(begC x letters).length=x.cs.length:=by unfold begC;simp
theorem I5(hx:OKL x)(hl:letters∈chs vals.length x.ls.length):0<=at0 letters x.l/\at0 letters x.l<vals.length:=by
 obtain⟨h1,-,h3⟩:=Ry hl;exact h3 _ (Xw (BE hx.l.1 (by rw[h1];exact hx.l.2)))
end
section
structure Sofar(vals:List Int)(x:jq)(letters:List Int)(i:Nat)(cells:List Int):Prop where
 len:cells.length=x.cs.length
 con:at0 cells x.c=at0 letters x.l
 lo:∀(k:Nat) s,cells[k]?=some s->k<i\/(k:Int)=x.c->0<=s/\s<vals.length
 hi:∀(k:Nat) s,cells[k]?=some s->i<=k->(k:Int)≠x.c->s= -1
variable {vals letters cells:List Int} {x:jq} {i:Nat}
end
structure Some1(vals:List Int)(x:jq)(letters cells:List Int):Prop where
 len:cells.length=x.cs.length
 con:at0 cells x.c=at0 letters x.l
 rng:∀s∈cells,-1<=s/\s<vals.length
 let0:0<=at0 letters x.l
def negs(cells:List Int):Nat:=(cells.filter λs=>decide (s<0)).length
theorem Ng:∀{cells:List Int} {i:Nat} {s t:Int},cells[i]?=some t->t<0->0<=s->negs (cells.set i s)+1=negs cells
 |[],_,_,_,h,_,_=>by cases h
 |a::l,0,s,t,h,ht,hs=>by
  cases h;unfold negs;rw[List.set_cons_zero,XA,XA,W6 (by simpa using hs),X0 (by simpa using ht)];rfl
 |a::l,i+1,s,t,h,ht,hs=>by
  have ih:=Ng (cells:=l) (i:=i) (s:=s) (t:=t) (by simpa using h) ht hs;unfold negs at ih⊢;rw[List.set_cons_succ,XA,XA];split<;>(try simp only[Xe])<;>omega
def T8{x:jq}{letters:List Int}:negs (begC x letters)<=x.cs.length:=by grind [negs,Jr]
mutual
inductive View(H:AC):Fs->Fs->Prop
 |wk {a b:Fs}:Wk b a->View H a b
 |ref {id e off len cap:Nat} {l:List Fs}:hget H id=some (.arr e l)->off+len<=l.length->len<=cap->View H (.sl (.none e) ((l.drop off).take len)) (.ref id e off len cap)
 |ptr {id off:Nat} {cs:List Fs}:hget H id=some (.box cs)->View H (.ep (cs.drop off)) (.ptr id off)
 |pw {id off:Nat} {cs us:List Fs}:hget H id=some (.box cs)->Views H us (cs.drop off)->View H (.ep us) (.ptr id off)
 |agg {us bs:List Fs}:Views H us bs->View H (.agg us) (.agg bs)
 |fn {f:Fn} {us bs cs ds:List Fs}:Views H us bs->Views H cs ds->View H (.fn f us cs) (.fn f bs ds)
inductive Views(H:AC):List Fs->List Fs->Prop
 |nil:Views H [] []
 |cons {a b:Fs} {us bs:List Fs}:View H a b->Views H us bs->Views H (a::us) (b::bs)
end
mutual
def Fs.flat:Fs->Prop
 | .bool _| .int _ _| .str _| .nilp| .nilfn| .nilifc| .nilmp=>True
 | .agg cs=>flats cs
 | .tup cs=>flats cs
 |_=>False
def flats:List Fs->Prop
 |[]=>True
 |a::us=>a.flat/\flats us
end
mutual
theorem Nh{g g':Zz}:∀(a:Fs) (v:Value),a.flat->VRel g a v->VRel g' a v
 | .bool _,_,_,h=>h
 | .int _ _,_,_,h=>h
 | .str _,_,_,h=>h
 | .nilp,_,_,h=>h
 | .nilfn,_,_,h=>h
 | .nilifc,_,_,h=>h
 | .nilmp,_,_,h=>h
 | .agg cs,_,hf,h=>by
  obtain⟨vs,rfl,h1,h2⟩:=h;exact⟨vs,rfl,flats_rel cs _ hf h1,h2⟩
 | .tup cs,_,hf,h=>by
  obtain⟨vs,rfl,h1⟩:=h;exact⟨vs,rfl,flats_rel cs _ hf h1⟩
 | .ptr _ _,_,hf,_=>hf.elim
 | .ep _,_,hf,_=>hf.elim
 | .gp _,_,hf,_=>hf.elim
 | .sl _ _,_,hf,_=>hf.elim
 | .ref _ _ _ _ _,_,hf,_=>hf.elim
 | .ap _ _ _ _,_,hf,_=>hf.elim
 | .fn _ _ _,_,hf,_=>hf.elim
 | .ifc _ _,_,hf,_=>hf.elim
 | .mp _,_,hf,_=>hf.elim
 | .up,_,hf,_=>hf.elim
theorem flats_rel{g g':Zz}:∀(us:List Fs) (vs:List Value),flats us->VRels g us vs->VRels g' us vs
 |[],_,_,h=>h
 |a::us,_,hf,h=>by
  obtain⟨v,r,rfl,h1,h2⟩:=h;exact⟨v,r,rfl,Nh a v hf.1 h1,flats_rel us r hf.2 h2⟩
end
def allσ(w:World):Nat->Nat->Option Value:=λb o=>w.cell? ⟨b,o,none⟩
section
variable {g:Zz} {H:AC} {n:Nat} {w:World}
theorem Ft(R:qv g H n w):JS 0 g ⟨λ_=>none,allσ w⟩:=⟨λ_ _ h=>absurd h (XK _),λb o v h=>R.σw b o v h⟩
theorem I7{f:Nat->Option Value}:∀(cs:List Fs) (o k:Nat),PStab g f o cs->PStab g f (o+k) (cs.drop k)
 |[],o,k,_=>by rw[List.drop_nil];trivial
 |a::cs,o,0,h=>h
 |a::cs,o,k+1,h=>by rw[List.drop_succ_cons,show o+(k+1)=o+1+k by omega];exact I7 cs (o+1) k h.2
mutual
theorem Ni(R:qv g H n w):∀{a b:Fs} {v:Value},View H a b->a.under 0->VRel g b v->VRel ⟨λ_=>none,allσ w⟩ a v
 |a,b,v,.wk h,hu,hv=>VRel.agree (n:=0) (Ft R) a v hu (h g v hv)
 |_,_,v,.ref (id:=id) (e:=e) (off:=off) (len:=len) (cap:=cap) (l:=l) h1 h2 h3,hu,hv=>by
  obtain⟨L,k1,k2,rfl⟩:=hv;obtain⟨L',c,ty,j1,j2,j3,j4,j5,j6⟩:=R.obj id _ h1;rw[k1]at j1;cases j1;have hlen:((l.drop off).take len).length=len:=by simp;omega
  have hst:=Stab.take len _ _ (Stab.drop off _ _ j6);rw[XM]at hst;refine .inr ⟨trivial,L.blk,off*e,cap,⟨none,by rw[hlen],.inl rfl⟩,by rw[hlen];exact h3,?_,trivial⟩;have hst2:Stab g e (allσ w L.blk) (off*e) ((l.drop off).take len):=Stab.mono (Zz.le.refl g) (λo x hx=>by
   show w.cell? ⟨L.blk,o,none⟩=some x;rw[Ao j4];exact hx) e _ _ hst
  exact Stab.agree (n:=0) (Ft R) (λo x h=>h) e _ _ hu.2 hst2
 |_,_,v,.ptr (id:=id) (off:=off) (cs:=cs) h1,hu,hv=>by
  obtain⟨L,k1,k2,rfl⟩:=hv;obtain⟨L',c,ty,j1,j2,j3,j4,j5,j6⟩:=R.obj id _ h1;rw[k1]at j1;cases j1;refine⟨L.blk,off,rfl,?_⟩;have hd:∀(cs:List Fs) (o k:Nat),PStab g (λo=>c[o]?) o cs->PStab g (λo=>c[o]?) (o+k) (cs.drop k):=by
   intro cs;induction cs with
   |nil=>intro o k _;rw[List.drop_nil];trivial
   |cons a cs ih=>
    intro o k h;cases k with
    |zero=>exact h
    |succ k=>rw[List.drop_succ_cons,show o+(k+1)=o+1+k by omega];exact ih (o+1) k h.2
  have h2:=hd cs 0 off j6;rw[XM]at h2;have h3:PStab g (allσ w L.blk) off (cs.drop off):=PStab.mono (Zz.le.refl g) (λo x hx=>by
   show w.cell? ⟨L.blk,o,none⟩=some x;rw[Ao j4];exact hx) _ _ h2
  exact PStab.agree (n:=0) (Ft R) (λo x h=>h) _ _ hu h3
 |_,_,v,.pw (id:=id) (off:=off) (cs:=cs) h1 hw,hu,hv=>by
  obtain⟨L,k1,k2,rfl⟩:=hv;obtain⟨L',c,ty,j1,j2,j3,j4,j5,j6⟩:=R.obj id _ h1;rw[k1]at j1;cases j1;refine⟨L.blk,off,rfl,?_⟩;have h2:=I7 cs 0 off j6;rw[XM]at h2;exact pstab_rel R hw hu (PStab.mono (Zz.le.refl g) (λo x hx=>by
   show w.cell? ⟨L.blk,o,none⟩=some x;rw[Ao j4];exact hx) _ _ h2)
 |_,_,v,.agg h,hu,hv=>by
  obtain⟨vs,rfl,h1,h2⟩:=hv;exact⟨vs,rfl,views_rel R h hu h1,h2⟩
 |_,_,v,.fn h k,hu,hv=>by
  obtain⟨x,c,rfl,h1,h2⟩:=hv;exact⟨x,c,rfl,views_rel R h hu.1 h1,views_rel R k hu.2 h2⟩
theorem views_rel(R:qv g H n w):∀{us bs:List Fs} {vs:List Value},Views H us bs->unders 0 us->VRels g bs vs->VRels ⟨λ_=>none,allσ w⟩ us vs
 |_,_,vs,.nil,_,hv=>hv
 |_,_,vs,.cons h t,hu,hv=>by
  obtain⟨v,r,rfl,h1,h2⟩:=hv;exact⟨v,r,rfl,Ni R h hu.1 h1,views_rel R t hu.2 h2⟩
theorem pstab_rel(R:qv g H n w):∀{us bs:List Fs} {f:Nat->Option Value} {o:Nat},Views H us bs->unders 0 us->PStab g f o bs->PStab ⟨λ_=>none,allσ w⟩ f o us
 |_,_,f,o,.nil,_,_=>trivial
 |_,_,f,o,.cons h t,hu,hp=>by
  obtain⟨⟨v,h1,h2,h4⟩,h3⟩:=hp;exact⟨⟨v,h1,Ni R h hu.1 h2,h4⟩,pstab_rel R t hu.2 h3⟩
end
end
def Pur.viewF{P:Program}{f:FuncId}{args args':List Fs}{r:Fs}{H:AC}(h:Pur P f args r)(hf:∀g g' v,VRel g r v->VRel g' r v)(hv:Views H args args')(n:Nat):Am P f args' H n r:=by
 obtain⟨ha,hr,o9,hc⟩:=h;refine⟨o9,λg w vs R hvs=>?_⟩;have R0:qv ⟨λ_=>none,allσ w⟩ hnil 0 w:=
  {σw:=λb o v h=>h
   obj:=λ_ _ h=>by simp [hget,hnil]at h
   dom:=λ_ _ h=>by simp at h
   hd:=λ_ _ h=>by simp [hget,hnil]at h
   ap:=λ_ _ _ _ _ _ _ h=>by simp [hget,hnil]at h
   un:=λ_ _ _ _ h=>by simp [hget,hnil]at h
   gl:=λi cs h=>PStab.agree (n:=0) (Ft R) (λo x h=>R.σw i o x h) cs 0 (IS i cs h) (R.gl i cs h)
   gz:=R.gz}
 refine(hc _ w vs R0 (views_rel R hv ha hvs)).mono ?_;rintro e w' ⟨g',out,H',n',⟨v,rfl,hw⟩,he,hR',-,ht⟩;cases e with
 |panicked c=>exact he.elim
 |outgrown=>exact he.elim
 |returned x=>
  have hx:VRel g' r x:=hw _ _ he;have keep:∀(b:Nat) ob,w.heap[b]?=some ob->w'.heap[b]?=some ob:=by
   intro b ob hb;have hk:=ht.kept b ob hb;cases ob<;>first|exact hk.resolve_left DH|skip
   obtain⟨c',h1,h2,h3⟩:=hk;rw[h1];congr 2;exact Array.ext_getElem? λi=>h3 i DH
  have inH:∀b o v,w.cell? ⟨b,o,none⟩=some v->b<w.heap.size:=by
   intro b o v hc;unfold World.cell? at hc;split at hc
   ·rename_i hb;exact(Xk.1 hb).1
   ·cases hc
  let σ2:Nat->Nat->Option Value:=λb o=>if b<w.heap.size then g.σ b o else g'.σ b o
  have old:∀b o v,g.σ b o=some v->σ2 b o=some v:=λb o v hh=>by
   simp only[σ2];rw[X0 (inH b o v (R.σw b o v hh))];exact hh
  have gle:g.le ⟨g.β,σ2⟩:=⟨λ_ _ h=>h,old⟩;have hcell:∀b o v,b<w.heap.size->w.cell? ⟨b,o,none⟩=some v->w'.cell? ⟨b,o,none⟩=some v:=by
   intro b o v hb hh;have e1:=Yk hb;have e2:=keep b _ e1;unfold World.cell? at hh⊢;simp only[e1,e2]at hh⊢;exact hh
  refine⟨⟨g.β,σ2⟩,.ret r,H,n,⟨rfl,rfl,rfl⟩,hf _ _ x hx,?_,W9 _,?_⟩
  ·refine⟨?_,?_,?_,R.hd,R.ap,?_,R.gl.mono gle,hR'.gz⟩
   ·intro b o v hh;simp only[σ2]at hh;split at hh
    ·rename_i hb;exact hcell b o v hb (R.σw b o v hh)
    ·exact hR'.σw b o v hh
   ·intro id ob hob;have ho:=R.obj id ob hob;cases ob with
    |box cs=>obtain⟨L,c,e,h1,h2,h3,h4,h5,h6⟩:=ho;exact⟨L,c,e,h1,h2,h3,keep _ _ h4,h5,PStab.mono gle (λ_ _ h=>h) cs 0 h6⟩
    |tok=>obtain⟨L,h1,h2⟩:=ho;exact⟨L,h1,λc5=>let ⟨c,e,h3,h4⟩:=h2 c5;⟨c,e,keep _ _ h3,h4⟩⟩
    |arr esz l=>obtain⟨L,c,e,h1,h2,h3,h4,h5,h6⟩:=ho;exact⟨L,c,e,h1,h2,h3,keep _ _ h4,h5,Stab.mono gle (λ_ _ h=>h) esz l 0 h6⟩
    |frz esz l=>obtain⟨L,h1,h2,h3⟩:=ho;exact⟨L,h1,h2,Stab.mono gle (λo x hx=>old L.blk o x hx) esz l 0 h3⟩
    |map es c=>obtain⟨L,es',h1,h2,h3,h4,h5⟩:=ho;exact⟨L,es',h1,h2,h3,keep _ _ h4,MRel.mono gle _ _ h5⟩
    |sit s pos=>obtain⟨L,h1,h2,h3,h4⟩:=ho;exact⟨L,h1,h2,h3,keep _ _ h4⟩
    |mit m c seen last=>obtain⟨L,Lm,h1,h2,h3,h4,h5⟩:=ho;exact⟨L,Lm,h1,h2,h3,keep _ _ h4,h5⟩
    |lp x=>obtain⟨L,h1,h2,h3,h4,r,k1,k2,k3,k4,k5,k6,k7,k8⟩:=ho;exact⟨L,h1,h2,h3,h4,r,keep _ _ k1,k2,k3,k4,k5,k6,BW.mono gle k7,k8⟩
    |dead=>trivial
   ·intro id L hL;exact⟨(R.dom id L hL).1,λc5=>Ym ((R.dom id L hL).2 c5) ht.size⟩
   ·intro id ob L o q1 q2 q3 q4 q5;have hb:=(R.dom id L q3).2 zo;show σ2 L.blk o=none;simp only[σ2];rw[X0 hb];exact R.un id ob L o q1 q2 q3 q4 q5
  ·refine⟨gle,λ_ _ h=>.inl h,ht.os,ht.tape,ht.output,ht.size,λb ob hb=>by rw[keep b ob hb];exact Kept.same _ _,λ_ _ _ h=>h,λb o v hb h=>.inl ?_⟩;have h':σ2 b o=some v:=h;simp only[σ2]at h';rw[X0 hb]at h';exact h'
def Pur.view{P:Program}{f:FuncId}{args args':List Fs}{r:Fs}{H:AC}(h:Pur P f args r)(hf:r.flat)(hv:Views H args args')(n:Nat):Am P f args' H n r:=h.viewF (λ_ _ v=>Nh r v hf) hv n
section
variable {α:Type}
theorem R6{p:α->Bool}{l:List α}{i:Nat}(h:i<l.length)(hp:p l[i]=true)(hn:∀j (hj:j<l.length),j<i->p l[j]=false):l.findIdx? p=some i:=
 XP.2 ⟨h,hp,λj hj=>by rw[hn j zo hj];decide⟩
theorem R7{p:α->Bool}{l:List α}(hn:∀j (hj:j<l.length),p l[j]=false):l.findIdx? p=none:=
 YG.2 λx hx=>by obtain⟨j,hj,rfl⟩:=Xq.1 hx;exact hn j hj
def idxG[DecidableEq α](l:List α)(s:α):Int:=match l.findIdx? (λx=>decide (x=s))with
 |some k=>k
 |none=>-1
theorem Uy(l:List Bs)(s:Bs):idxG l s=idxS l s:=rfl
theorem Em[DecidableEq α]{l:List α}{s:α}{i:Nat}(h:i<l.length)(hp:l[i]=s)(hn:∀j (hj:j<l.length),j<i->l[j]≠s):idxG l s=i:=by
 unfold idxG;rw[R6 h (by simp [hp]) λj hj hji=>by simp [hn j hj hji]]
theorem LH[DecidableEq α]{l:List α}{s:α}(hn:∀j (hj:j<l.length),l[j]≠s):idxG l s= -1:=by
 unfold idxG;rw[R7 λj hj=>by simp [hn j hj]]
theorem Df[DecidableEq α]:∀{l:List α},A9 l=true↔∀j (hj:j<l.length),idxG l l[j]=(j:Int)
 |[]=>by simp [A9]
 |x::r=>by
  have ih:=Df (l:=r);simp only[A9,W5,Y9];constructor
  ·rintro⟨h1,h2⟩ j hj;cases j with
   |zero=>exact Em (i:=0) zw rfl λk _ hk=>zo
   |succ j=>
    have hj':j<r.length:=by simpa using hj
    refine Em hj rfl λk hk hkj=>?_
    cases k with
    |zero=>
     intro e;have:(r.any λy=>decide (y=x))=true:=Yy.2 ⟨r[j],X5 hj',by simpa using e.symm⟩;rw[h1]at this;cases this
    |succ k=>
     intro e;have hk':k<r.length:=by simpa using hk
     have e':r[k]=r[j]:=by simpa using e
     have q1:=ih.1 h2 k hk';have q2:=ih.1 h2 j hj';rw[e']at q1;rw[q1]at q2;omega
  ·intro h;refine⟨?_,ih.2 λj hj=>?_⟩
   ·rw[YD];intro y hy e;obtain⟨j,hj,rfl⟩:=Xq.1 hy;have e:r[j]=x:=by simpa using e
    have h0:=h 0 zw;have:=h (j+1) (by simpa using hj);simp only[List.getElem_cons_succ,e]at this;simp only[List.getElem_cons_zero]at h0;rw[h0]at this;omega
   ·have:=h (j+1) (by simpa using hj);simp only[List.getElem_cons_succ]at this;unfold idxG at this⊢;rw[List.findIdx?_cons]at this;by_cases e:x=r[j]
    ·simp [e]at this;omega
    ·rw[show decide (x=r[j])=false by simp [e]]at this;simp only[Xd,Xo]at this;cases hq:r.findIdx? (λx=>decide (x=r[j]))with
     |none=>rw[hq]at this;simp at this;omega
     |some k=>rw[hq]at this;simp at this⊢;omega
theorem p108(l:List Bs)(s:Bs)(hl:few l):Pur prog 108 [eSs l,.str s] (eI (idxS l s)):=by
 refine .mk ⟨⟨trivial,Dt 0 l⟩,trivial,trivial⟩ trivial (c108.a (AF AI.tnil (AG ?_)));simp only[eE,eN,seval,W0,c108];refine AL (λi:Nat=>⟨[(0,true,eSs l),(1,true,.str s),(7,true,.int .i64 l.length),(8,true,.int .i64 i)],hnil,0⟩)
  (λi=>i<=l.length/\∀j (hj:j<l.length),j<i->l[j]≠s) (λi=>l.length-i) 0 rfl ⟨Wz _,λj hj h=>zo⟩ ?_
 rintro i ⟨hi,d6⟩;by_cases c5:i<l.length;case neg=>
  simp only[eZ,seval,lt_F c5];rw[<-Uy,LH λj hj=>d6 j hj zo]
 have hg:=W2 c5;have e:=AE (k:=i) zo;by_cases hs:l[i]=s
 ·simp only[eZ,seval,X6,X1,X3,W0,Xa,lt_T c5,hg,A3,hs];rw[<-Uy,Em c5 hs d6]
 ·simp only[eZ,seval,X6,X1,X3,W0,Xa,lt_T c5,hg,A3,show(s=l[i])=False from W4 (Ne.symm hs),e];refine .mk (i+1) rfl ⟨c5,λj hj h=>?_⟩ zo;by_cases q:j=i
  ·subst q;exact hs
  ·exact d6 j hj zo
theorem pw64(l:List Int)(s:Int)(hl:few l):Pur prog 64 [eIs l,eI s] (eI (idxG l s)):=by
 refine .mk ⟨⟨trivial,Db 0 l⟩,trivial,trivial⟩ trivial (c64.a (AF AI.tnil (AG ?_)));simp only[eE,eN,seval,W0,c64];refine AL (λi:Nat=>⟨[(0,true,eIs l),(1,true,eI s),(7,true,.int .i64 l.length),(8,true,.int .i64 i)],hnil,0⟩)
  (λi=>i<=l.length/\∀j (hj:j<l.length),j<i->l[j]≠s) (λi=>l.length-i) 0 rfl ⟨Wz _,λj hj h=>zo⟩ ?_
 rintro i ⟨hi,d6⟩;by_cases c5:i<l.length;case neg=>
  simp only[eZ,seval,lt_F c5];rw[LH λj hj=>d6 j hj zo]
 have hg:=W2 c5;have e:=AE (k:=i) zo;by_cases hs:l[i]=s
 ·simp only[eZ,seval,X6,X1,X3,W0,Xa,lt_T c5,hg,hs];rw[Em c5 hs d6]
 ·simp only[eZ,seval,X6,X1,X3,W0,Xa,lt_T c5,hg,show(s=l[i])=False from W4 (Ne.symm hs),e];refine .mk (i+1) rfl ⟨c5,λj hj h=>?_⟩ zo;by_cases q:j=i
  ·subst q;exact hs
  ·exact d6 j hj zo
structure Vg where
 i:Nat
 tk:jz
 H:AC
 n:Nat
structure Ig(e len:Nat)(v:Vg):Prop where
 hi:v.i<=len
 fr:AQ v.H v.n
 tok:tkG e 0 v.H v.tk
 es:v.tk.esz=e\/v.i=0
theorem R8{l:List Int}{n:Nat}:difI l n=true↔∀j (hj:j<l.length),0<=l[j]/\l[j]<n/\idxG l l[j]=(j:Int):=by
 unfold difI;rw[W5,X8,Df];constructor
 ·rintro⟨h1,h2⟩ j hj;have:=h1 _ (X5 hj);simp only[W5,W8]at this;exact⟨this.1,this.2,h2 j hj⟩
 ·intro h;refine⟨λx hx=>?_,λj hj=>(h j hj).2.2⟩;obtain⟨j,hj,rfl⟩:=Xq.1 hx;simp [(h j hj).1,(h j hj).2.1]
theorem Nj{l:List Int}{n:Nat}{j:Nat}(hj:j<l.length)(h:¬(0<=l[j]/\l[j]<n/\idxG l l[j]=(j:Int))):difI l n=false:=by
 cases q:difI l n with
 |false=>rfl
 |true=>exact absurd (R8.1 q j hj) h
def TixI:Tab:=tadd 64 (s2 dIs dI (λa _=>few a) λa s=>eI (idxG a s)) tnil
theorem Wu:AI prog TixI:=AI.tnil.add (q2 pw64)
def indN(l:List Int)(n:Nat)(GZ:Int):Bool:=difI l n&&decide (GZ<=l.length)
theorem p68(l:List Int)(n:Nat)(GZ:Int)(hl:few l):Pur prog 68 [eIs l,.int .i64 n,.int .i64 GZ] (.bool (indN l n GZ)):=by
 refine .mk ⟨⟨trivial,Db 0 l⟩,trivial,trivial,trivial⟩ trivial (c68.a (AF Wu (AG ?_)));simp only[eE,eN,seval,W0,c68];refine AL (λi:Nat=>⟨[(0,true,eIs l),(1,true,.int .i64 n),(2,true,.int .i64 GZ),(9,true,eIs l),(10,true,.int .i64 l.length),(11,true,.int .i64 i)],hnil,0⟩)
  (λi=>i<=l.length/\∀j (hj:j<l.length),j<i->0<=l[j]/\l[j]<n/\idxG l l[j]=(j:Int)) (λi=>l.length-i) 0 rfl ⟨Wz _,λj hj h=>zo⟩ ?_
 rintro i ⟨hi,d6⟩;by_cases c5:i<l.length;case neg=>
  simp only[eZ,seval,W0,lt_F c5];unfold indN;rw[R8.2 λj hj=>d6 j hj zo];rfl
 have hg:=W2 c5;have e:=AE (k:=i) zo;by_cases h1:l[i]<0
 ·simp only[eZ,seval,W3,X6,X1,X3,W0,Xa,lt_T c5,hg,h1];unfold indN;rw[Nj c5 λq=>by omega];rfl
 by_cases h2:(n:Int)<=l[i]
 ·simp only[eZ,seval,W3,X6,X1,X3,W0,Xa,lt_T c5,hg,h1,h2];unfold indN;rw[Nj c5 λq=>by omega];rfl
 by_cases h3:idxG l l[i]=(i:Int)
 ·simp only[eZ,seval,W3,X6,X1,X3,W0,Xa,lt_T c5,hg,h1,h2,TixI,s2,dIs,dI,okL,decL,CS,As,hl,toI,h3,e,tadd];refine .mk (i+1) rfl ⟨c5,λj hj h=>?_⟩ zo;by_cases q:j=i
  ·subst q;exact⟨zo,zo,h3⟩
  ·exact d6 j hj zo
 ·simp only[eZ,seval,W7,X6,X1,X3,W0,Xa,lt_T c5,hg,h1,h2,TixI,s2,dIs,dI,okL,decL,CS,As,hl,toI,h3,tadd];unfold indN;rw[Nj c5 λq=>h3 q.2.2];rfl
def Tnm:Tab:=tadd 66 (s1 dS any1 λs=>.bool (Ct s)) (tadd 108 (s2 dSs dS (λa _=>few a) λa s=>eI (idxS a s)) tnil)
theorem Tnm_ok:AI prog Tnm:=(AI.tnil.add (q2 p108)).add (q1 λs _=>p66 s)
theorem R9{l:List Bs}:(l.all Ct&&A9 l)=true↔∀j (hj:j<l.length),Ct l[j]=true/\idxS l l[j]=(j:Int):=by
 rw[W5,X8,Df];constructor
 ·rintro⟨h1,h2⟩ j hj;exact⟨h1 _ (X5 hj),h2 j hj⟩
 ·intro h;refine⟨λx hx=>?_,λj hj=>(h j hj).2⟩;obtain⟨j,hj,rfl⟩:=Xq.1 hx;exact(h j hj).1
theorem Uz{l:List Bs}{j:Nat}(hj:j<l.length)(h:¬(Ct l[j]=true/\idxS l l[j]=(j:Int))):(l.all Ct&&A9 l)=false:=by
 cases q:(l.all Ct&&A9 l)with
 |false=>rfl
 |true=>exact absurd (R9.1 q j hj) h
theorem p67(l:List Bs)(most:Nat)(hl:few l):Pur prog 67 [eSs l,.int .i64 most] (.bool (DN l most)):=by
 refine .mk ⟨⟨trivial,Dt 0 l⟩,trivial,trivial⟩ trivial (c67.a (AF Tnm_ok (AG ?_)));simp only[eE,eN,seval,W0,c67];refine AL (λi:Nat=>⟨[(0,true,eSs l),(1,true,.int .i64 most),(7,true,eSs l),(8,true,.int .i64 l.length),(9,true,.int .i64 i)],hnil,0⟩)
  (λi=>i<=l.length/\∀j (hj:j<l.length),j<i->Ct l[j]=true/\idxS l l[j]=(j:Int)) (λi=>l.length-i) 0 rfl ⟨Wz _,λj hj h=>zo⟩ ?_
 rintro i ⟨hi,d6⟩;by_cases c5:i<l.length;case neg=>
  simp only[eZ,seval,W0,lt_F c5];unfold DN;rw[R9.2 λj hj=>d6 j hj zo];by_cases h1:1<=l.length<;>by_cases h2:l.length<=most<;>simp [h1,h2]<;>omega
 have hg:=W2 c5;have e:=AE (k:=i) zo;by_cases h1:Ct l[i]=true
 ·by_cases h3:idxS l l[i]=(i:Int)
  ·simp only[eZ,seval,W3,X6,X1,X3,W0,Xa,lt_T c5,hg,Tnm,s1,s2,dSs,dS,okL,decL,isS,toS,Cg,hl,h1,h3,e,tadd];refine .mk (i+1) rfl ⟨c5,λj hj h=>?_⟩ zo;by_cases q:j=i
   ·subst q;exact⟨h1,h3⟩
   ·exact d6 j hj zo
  ·simp only[eZ,seval,W3,W7,X6,X1,X3,W0,Xa,lt_T c5,hg,Tnm,s1,s2,dSs,dS,okL,decL,isS,toS,Cg,hl,h1,h3,tadd];unfold DN;rw[Uz c5 λq=>h3 q.2];rfl
 ·have h1':Ct l[i]=false:=by simpa using h1
  simp only[eZ,seval,W3,W7,X6,X1,X3,W0,Xa,lt_T c5,hg,Tnm,s1,s2,dSs,dS,okL,decL,isS,toS,Cg,hl,h1',tadd];unfold DN;rw[Uz c5 λq=>h1 q.1];rfl
end
abbrev encQ(q:Cnd):Fs:=.agg [.int .i64 q.k,eIs q.cs,eIs q.ls,.int .i64 q.n]
abbrev encM(p:Prm):Fs:=.agg [.int .i64 p.c,eIs p.ls]
abbrev encL(x:jq):Fs:=.agg [.str x.nm,.int .i64 x.lv,eSs x.cs,eSs x.ls,.sl (.none 4) (x.qs.map encQ),.sl (.none 2) (x.ps.map encM),.int .i64 x.c,.int .i64 x.l]
def B3(n:Nat)(q:Cnd):(encQ q).under n:=⟨trivial,⟨trivial,Db n _⟩,⟨trivial,Db n _⟩,trivial,trivial⟩
def Oz(n:Nat)(p:Prm):(encM p).under n:=⟨trivial,⟨trivial,Db n _⟩,trivial⟩
def Dx(n:Nat)(x:jq):(encL x).under n:=⟨trivial,trivial,⟨trivial,Dt n _⟩,⟨trivial,Dt n _⟩,⟨trivial,BC (B3 n) _⟩,⟨trivial,BC (Oz n) _⟩,trivial,trivial,trivial⟩
def decQ:Fs->Cnd
 | .agg [.int _ k,c,l,.int _ n]=>⟨k,Gd c,Gd l,n⟩
 |_=>⟨0,[],[],0⟩
def decM:Fs->Prm
 | .agg [.int _ c,l]=>⟨c,Gd l⟩
 |_=>⟨0,[]⟩
def decX:Fs->jq
 | .agg [.str nm,.int _ lv,cs,ls,qs,ps,.int _ c,.int _ l]=>⟨nm,lv,Or cs,Or ls,K6 decQ qs,K6 decM ps,c,l⟩
 |_=>⟨[],0,[],[],[],[],0,0⟩
def Js(q:Cnd):decQ (encQ q)=q:=by
 simp only[decQ,Gd,As]
def T9(p:Prm):decM (encM p)=p:=by
 simp only[decM,Gd,As]
def Nk(x:jq):decX (encL x)=x:=by
 simp only[decX,Or,K6,Cg,Dk Js,Dk T9]
def dQ:Dc Cnd:=dEx encQ decQ
def dX:Dc jq:=dEx encL decX
def SA(q:Cnd):dQ.ok (encQ q)=True:=W1 (by show encQ q=encQ (decQ (encQ q));rw[Js])
def LI(q:Cnd):dQ.dec (encQ q)=q:=Js q
def UA(x:jq):dX.ok (encL x)=True:=W1 (by show encL x=encL (decX (encL x));rw[Nk])
def Nl(x:jq):dX.dec (encL x)=x:=Nk x
def Tcd:Tab:=tadd 68 (s3 dIs dI dI (λa n _=>few a/\0<=n) λa n k=>.bool (indN a n.toNat k)) tnil
def Tcd_ok:AI prog Tcd:=AI.tnil.add (q3 λa n k h=>by
 obtain⟨j,rfl⟩:∃j:Nat,n=j:=⟨n.toNat,zo⟩;exact p68 a j k h.1)
def U0{q:Cnd}{nc nl:Nat}(h:(indN q.cs nc 1&&indN q.ls nl 0)=false):Bc q nc nl=false:=by
 unfold Bc indN at*;cases h1:difI q.cs nc<;>cases h2:difI q.ls nl<;>simp [h1,h2]at h⊢;intro q1;omega
def Wv{q:Cnd}{nc nl:Nat}(h1:indN q.cs nc 1=true)(h2:indN q.ls nl 0=true):Bc q nc nl=(if q.k=1\/q.k=4 then decide (2<=q.cs.length)&&decide (q.ls.length=0)&&decide (q.n=0)
  else if q.k=2 then decide (q.ls.length=1)&&decide (q.n=0)
  else if q.k=3 then decide (q.cs.length=2)&&decide (q.ls.length=0)&&decide (1<=q.n)&&decide (q.n<=99)
  else if q.k=5 then decide (q.cs.length=2)&&decide (q.ls.length=0)&&decide (q.n=0)
  else if q.k=6 then decide (1<=q.ls.length)&&decide (0<=q.n)&&decide (q.n<=q.cs.length)
  else false):=by
 unfold indN at h1 h2;simp only[W5,W8]at h1 h2;unfold Bc;rw[h1.1,h2.1,Xf (by omega:1<=q.cs.length)];rfl
def p69(q:Cnd)(nc nl:Nat)(h1:few q.cs)(h2:few q.ls):Pur prog 69 [encQ q,.int .i64 nc,.int .i64 nl] (.bool (Bc q nc nl)):=by
 refine .mk ⟨B3 0 q,trivial,trivial,trivial⟩ trivial (c69.a (AF Tcd_ok (AG ?_)));cases hb1:indN q.cs nc 1 with
 |false=>
  simp only[eZ,seval,W3,W7,X1,X3,c69,Tcd,s3,dIs,dI,okL,decL,CS,As,toI,h1,h2,hb1,tadd];rw[U0 (by rw[hb1];rfl)]
 |true=>
  cases k9:indN q.ls nl 0 with
  |false=>
   simp only[eZ,seval,W3,W7,X1,X3,c69,Tcd,s3,dIs,dI,okL,decL,CS,As,toI,h1,h2,hb1,k9,tadd];rw[U0 (by rw[hb1,k9];rfl)]
  |true=>
   rw[Wv hb1 k9];obtain⟨k,cs,ls,n⟩:=q;by_cases k1:k=1
   ·subst k1;simp only[eZ,seval,W3,X1,X3,W0,c69,Tcd,s3,dIs,dI,okL,decL,CS,As,toI,h1,h2,hb1,k9,tadd];exact(by rw[Xc];simp only[W5,W8];omega)
   by_cases k4:k=4
   ·subst k4;simp only[eZ,seval,W3,X1,X3,W0,c69,Tcd,s3,dIs,dI,okL,decL,CS,As,toI,h1,h2,hb1,k9,tadd];exact(by rw[Xc];simp only[W5,W8];omega)
   by_cases k2:k=2
   ·subst k2;simp only[eZ,seval,W3,X1,X3,W0,c69,Tcd,s3,dIs,dI,okL,decL,CS,As,toI,h1,h2,hb1,k9,tadd];exact(by rw[Xc];simp only[W5,W8];omega)
   by_cases k3:k=3
   ·subst k3;simp only[eZ,seval,W3,X1,X3,W0,c69,Tcd,s3,dIs,dI,okL,decL,CS,As,toI,h1,h2,hb1,k9,tadd];exact(by rw[Xc];simp only[W5,W8];omega)
   by_cases k5:k=5
   ·subst k5;simp only[eZ,seval,W3,X1,X3,W0,c69,Tcd,s3,dIs,dI,okL,decL,CS,As,toI,h1,h2,hb1,k9,tadd];exact(by rw[Xc];simp only[W5,W8];omega)
   by_cases k6:k=6
   ·subst k6;simp only[eZ,seval,W3,X1,X3,W0,c69,Tcd,s3,dIs,dI,okL,decL,CS,As,toI,h1,h2,hb1,k9,tadd];exact(by rw[Xc];simp only[W5,W8];omega)
   simp only[eZ,seval,W3,X1,X3,W0,c69,Tcd,s3,dIs,dI,okL,decL,CS,As,toI,h1,h2,hb1,k9,k1,k2,k3,k4,k5,k6,tadd]
def SB{l:List Int}:A9 l=true↔∀i j (hi:i<l.length) (hj:j<l.length),j<i->l[j]≠l[i]:=by
 rw[Df];constructor
 ·intro h i j hi hj hji e;have q1:=h i hi;have q2:=h j hj;rw[e]at q2;rw[q1]at q2;omega
 ·intro h j hj;exact Em hj rfl λk hk hkj=>h j k hj hk hkj
def p77(l:List Int)(n:Nat)(hl:few l):Pur prog 77 [eIs l,.int .i64 n] (.bool (difI l n)):=by
 refine .mk ⟨⟨trivial,Db 0 l⟩,trivial,trivial⟩ trivial (c77.a (AF AI.tnil (AG ?_)));have no:∀i (hi:i<l.length),¬(0<=l[i]/\l[i]<n)->difI l n=false:=λi hi q=>Nj hi λk=>q ⟨k.1,k.2.1⟩
 simp only[eE,eN,seval,c77];refine AL (λi:Nat=>⟨[(0,true,eIs l),(1,true,.int .i64 n),(5,true,.int .i64 i)],hnil,0⟩)
  (λi=>i<=l.length/\∀k (hk:k<l.length),k<i->0<=l[k]/\l[k]<n/\∀j (hj:j<l.length),j<k->l[j]≠l[k]) (λi=>l.length-i) 0 rfl ⟨Wz _,λj hj h=>zo⟩ ?_
 rintro i ⟨hi,d6⟩;by_cases c5:i<l.length;case neg=>
  simp only[eZ,seval,W0,lt_F c5];symm;unfold difI;rw[W5,X8,SB];refine⟨λx hx=>?_,λi j hi hj hji=>(d6 i hi zo).2.2 j hj hji⟩;obtain⟨k,hk,rfl⟩:=Xq.1 hx;have:=d6 k hk zo;simp [this.1,this.2.1]
 have hg:=W2 c5;have e:=AE (k:=i) zo;by_cases h1:l[i]<0
 ·simp only[eZ,seval,W3,X6,X1,X3,W0,Xa,lt_T c5,hg,h1];rw[no i c5 λq=>by omega]
 by_cases h2:(n:Int)<=l[i]
 ·simp only[eZ,seval,X6,X1,X3,W0,Xa,lt_T c5,hg,h1,h2];rw[no i c5 λq=>by omega]
 simp only[eZ,seval,X6,X1,X3,W0,Xa,lt_T c5,hg,h1,h2];refine AL (λj:Nat=>⟨[(0,true,eIs l),(1,true,.int .i64 n),(5,true,.int .i64 i),(6,true,.int .i64 j)],hnil,0⟩)
  (λj=>j<=i/\∀k (hk:k<l.length),k<j->l[k]≠l[i]) (λj=>i-j) 0 rfl ⟨Wz _,λj hj h=>zo⟩ ?_
 rintro j ⟨hj,hk⟩;by_cases hji:j<i;case neg=>
  simp only[eZ,seval,lt_F hji,e];refine .mk (i+1) rfl ⟨c5,λk hkl hki=>?_⟩ zo;by_cases q:k=i
  ·subst q;exact⟨zo,zo,λm hm hmk=>hk m hm zo⟩
  ·exact d6 k hkl zo
 have hltj:j<l.length:=zo
 have hgj:=W2 hltj;have e':=AE (k:=j) zo;by_cases hs:l[j]=l[i]
 ·simp only[eZ,seval,X6,X1,X3,W0,Xa,lt_T hji,lt_T c5,lt_T hltj,hg,hgj,hs];cases q:difI l n with
  |false=>rfl
  |true=>
   unfold difI at q;rw[W5]at q;exact absurd hs (SB.1 q.2 i j c5 hltj hji)
 ·simp only[eZ,seval,X6,X1,X3,W0,Xa,lt_T hji,lt_T c5,lt_T hltj,hg,hgj,hs,e'];refine .mk (j+1) rfl ⟨hji,λk hkl hkj=>?_⟩ zo;by_cases q:k=j
  ·subst q;exact hs
  ·exact hk k hkl zo
def Tzcm:Tab:=tadd 77 (s2 dIs dI (λa n=>few a/\0<=n) λa n=>.bool (difI a n.toNat)) tnil
def Ww:AI prog Tzcm:=AI.tnil.add (q2 λa n h=>by
 obtain⟨j,rfl⟩:∃j:Nat,n=j:=⟨n.toNat,zo⟩;exact p77 a j h.1)
def p43(q:Cnd)(nc nl:Nat)(h1:few q.cs)(h2:few q.ls):Pur prog 43 [encQ q,.int .i64 nc,.int .i64 nl] (.bool (Bc q nc nl)):=by
 refine .mk ⟨B3 0 q,trivial,trivial,trivial⟩ trivial (c43.a (AF Ww (AG ?_)));obtain⟨k,cs,ls,n⟩:=q;cases hb1:difI cs nc with
 |false=>
  simp only[eZ,seval,W3,W7,X1,X3,c43,Tzcm,s2,dIs,dI,okL,decL,CS,As,toI,h1,h2,hb1,tadd];unfold Bc;rw[hb1];rfl
 |true=>
  cases k9:difI ls nl with
  |false=>
   simp only[eZ,seval,W3,W7,X1,X3,c43,Tzcm,s2,dIs,dI,okL,decL,CS,As,toI,h1,h2,hb1,k9,tadd];unfold Bc;simp only[k9,YW,YC]
  |true=>
   unfold Bc;simp only[hb1,k9,Yc,Zp];by_cases k1:k=1
   ·subst k1;simp only[eZ,seval,W3,X1,X3,W0,c43,Tzcm,s2,dIs,dI,okL,decL,CS,As,toI,h1,h2,hb1,k9,tadd];exact(by rw[Xc];simp only[W5,W8];omega)
   by_cases k4:k=4
   ·subst k4;simp only[eZ,seval,W3,X1,X3,W0,c43,Tzcm,s2,dIs,dI,okL,decL,CS,As,toI,h1,h2,hb1,k9,tadd];exact(by rw[Xc];simp only[W5,W8];omega)
   by_cases k2:k=2
   ·subst k2;simp only[eZ,seval,W3,X1,X3,W0,c43,Tzcm,s2,dIs,dI,okL,decL,CS,As,toI,h1,h2,hb1,k9,tadd];exact(by rw[Xc];simp only[W5,W8];omega)
   by_cases k3:k=3
   ·subst k3;simp only[eZ,seval,W3,X1,X3,W0,c43,Tzcm,s2,dIs,dI,okL,decL,CS,As,toI,h1,h2,hb1,k9,tadd];exact(by rw[Xc];simp only[W5,W8];omega)
   by_cases k5:k=5
   ·subst k5;simp only[eZ,seval,W3,X1,X3,W0,c43,Tzcm,s2,dIs,dI,okL,decL,CS,As,toI,h1,h2,hb1,k9,tadd];exact(by rw[Xc];simp only[W5,W8];omega)
   by_cases k6:k=6
   ·subst k6;simp only[eZ,seval,W3,X1,X3,W0,c43,Tzcm,s2,dIs,dI,okL,decL,CS,As,toI,h1,h2,hb1,k9,tadd];exact(by rw[Xc];simp only[W5,W8];omega)
   simp only[eZ,seval,W3,X1,X3,W0,c43,Tzcm,s2,dIs,dI,okL,decL,CS,As,toI,h1,h2,hb1,k9,k1,k2,k3,k4,k5,k6,tadd]
structure FewL(x:jq):Prop where
 cs:few x.cs
 ls:few x.ls
 qs:few x.qs
 ps:few x.ps
 q:∀q∈x.qs,few q.cs/\few q.ls
 p:∀p∈x.ps,few p.ls
def Tckm:Tab:=tadd 66 (s1 dS any1 λs=>.bool (Ct s)) (tadd 67 (s2 dSs dI (λa n=>few a/\0<=n) λa n=>.bool (DN a n.toNat)) (tadd 68 (s3 dIs dI dI (λa n _=>few a/\0<=n) λa n k=>.bool (indN a n.toNat k))
 (tadd 69 (s3 dQ dI dI (λq n m=>(few q.cs/\few q.ls)/\0<=n/\0<=m) λq n m=>.bool (Bc q n.toNat m.toNat)) tnil)))
def Wx:AI prog Tckm:=(((AI.tnil.add (q3 λq n m h=>by
 obtain⟨j,rfl⟩:∃j:Nat,n=j:=⟨n.toNat,zo⟩;obtain⟨k,rfl⟩:∃j:Nat,m=j:=⟨m.toNat,zo⟩;exact p69 q j k h.1.1 h.1.2)).add (q3 λa n k h=>by
 obtain⟨j,rfl⟩:∃j:Nat,n=j:=⟨n.toNat,zo⟩;exact p68 a j k h.1)).add (q2 λa n h=>by
 obtain⟨j,rfl⟩:∃j:Nat,n=j:=⟨n.toNat,zo⟩;exact p67 a j h.1)).add (q1 λs _=>p66 s)
def few1(c:Int):few [c]=True:=W1 (by show 1<_;decide)
def chk(x:jq):Int:=if Gc x=true then 0 else 300
def hd0(x:jq):Bool:=Ct x.nm&&decide (1<=x.lv)&&decide (x.lv<=8)&&DN x.cs 4&&DN x.ls 3&&decide ((x.qs.length:Int)<=6)
def hd1(x:jq):Bool:=hd0 x&&indN [x.c] x.cs.length 1&&indN [x.l] x.ls.length 1
def cdA(x:jq)(i:Nat):Bool:=hd1 x&&(x.qs.take i).all λq=>Bc q x.cs.length x.ls.length
def prA(x:jq)(i:Nat):Bool:=cdA x x.qs.length&&(x.ps.take i).all λp=>indN p.ls x.ls.length 1
def UB{x:jq}{i:Nat}(h:i<x.qs.length):cdA x (i+1)=(cdA x i&&Bc x.qs[i] x.cs.length x.ls.length):=by
 unfold cdA;rw[NO h,Zy]
def UC{x:jq}{i:Nat}(h:i<x.ps.length):prA x (i+1)=(prA x i&&indN x.ps[i].ls x.ls.length 1):=by
 unfold prA;rw[NO h,Zy]
def ind1(c:Int)(n:Nat):indN [c] n 1=difI [c] n:=by unfold indN;simp
def Wy(x:jq):(prA x x.ps.length&&indN (x.ps.map (·.c)) x.cs.length 0)=Gc x:=by
 unfold prA cdA hd1 hd0 Gc;rw[ind1,ind1,X4,X4];have e1:indN (x.ps.map (·.c)) x.cs.length 0=difI (x.ps.map (·.c)) x.cs.length:=by unfold indN;simp
 have e2:(x.ps.all λp=>indN p.ls x.ls.length 1)=x.ps.all λp=>difI p.ls x.ls.length&&decide (1<=p.ls.length):=by
  congr 1;funext p;unfold indN;congr 1;simp;omega
 have e3:decide ((x.qs.length:Int)<=6)=decide (x.qs.length<=6):=by rw[decide_eq_decide];omega
 rw[e1,e2,e3]
abbrev BN(x:jq):List Fs:=[.str x.nm,.int .i64 x.lv,eSs x.cs,eSs x.ls,.sl (.none 4) (x.qs.map encQ),.sl (.none 2) (x.ps.map encM),.int .i64 x.c,.int .i64 x.l]
structure Vh where
 i:Nat
 H:AC
 n:Nat
structure Ih(len:Nat)(cs:List Fs)(v:Vh):Prop where
 hi:v.i<=len
 fr:AQ v.H v.n
 b:hget v.H 0=some (.box cs)
 hn:1<=v.n
structure Ip(len:Nat)(cs:List Fs)(v:Vg):Prop where
 hi:v.i<=len
 fr:AQ v.H v.n
 b:hget v.H 0=some (.box cs)
 hn:1<=v.n
 tok:tkG 1 1 v.H v.tk
 es:v.tk.esz=1\/v.i=0
abbrev hp10(H:AC)(n:Nat)(p:Prm):AC:=hset (hset H (n+2) (.box [.int .i64 0,.sl .nil []])) (n+2) (.box [.int .i64 p.c,eIs p.ls])
def p39(x:jq)(hx:FewL x):Pur prog 39 [encL x] (eI (chk x)):=by
 refine .mk ⟨Dx 0 x,trivial⟩ trivial (c39.a (AF Wx (AG ?_)));simp only[eZ,seval,X1,X3,W0,c39,Tckm,s1,s2,s3,dS,dSs,dIs,dI,okL,decL,isS,toS,CS,toI,Cg,hx.cs,hx.ls,few1,tadd];refine AL (λv:Vh=>⟨[(1,true,.ptr 0 0),(3,true,.sl .nil []),(4,true,.bool (cdA x v.i)),(58,true,.sl (.none 4) (x.qs.map encQ)),(59,true,.int .i64 x.qs.length),(60,true,.int .i64 v.i)],v.H,v.n⟩) (Ih x.qs.length (BN x)) (λv=>x.qs.length-v.i)
  ⟨0,hset hnil 0 (.box (BN x)),2⟩ (by simp only[cdA,hd1,hd0,Y5,List.all_nil,Zp];rfl) ⟨Wz _,AQ.nil.hset (Wz 2) (Nat.zero_lt_succ 1),rfl,Nat.succ_le_succ (Wz 1)⟩ ?_
 rintro⟨i,H,n⟩ ⟨hi,c7,hb,hn⟩;simp only at hi c7 hb hn;have z1:(0=n+2)=False:=W4 zo;have hqn:=hx.qs;have hpn:=hx.ps;by_cases c5:i<x.qs.length
 ·have hg:=W2 c5;have e:=AE (k:=i) zo;have hq:=hx.q _ (X5 c5);generalize hqq:x.qs[i]=q at hg hq;simp only[eZ,seval,X6,X1,X3,W0,Xa,lt_T c5,hg,fr1 c7,hb,Tckm,s3,SA,LI,dI,CS,toI,hq.1,hq.2,e,tadd];refine .mk ⟨i+1,hset (hset H (n+2) (.box [.int .i64 0,.sl .nil [],.sl .nil [],.int .i64 0])) (n+2) (.box [.int .i64 q.k,eIs q.cs,eIs q.ls,.int .i64 q.n]),n+4⟩ ?_ ⟨c5,?_,?_,zp⟩ zp
  ·rw[UB c5,hqq]
  ·exact(c7.hset (m:=n+4) zo zo).hset (W9 (n+4)) (show n+2<n+4 by omega)
  ·simp only[];rw[AA _ _ _ _ zo,AA _ _ _ _ zo];exact hb
 obtain rfl:i=x.qs.length:=zo
 simp only[eZ,seval,W0,lt_F c5,hb];refine AL (λv:Vg=>⟨[(1,true,.ptr 0 0),(3,true,.sl v.tk ((x.ps.take v.i).map λp=>eI p.c)),(4,true,.bool (prA x v.i)),(77,true,.sl (.none 2) (x.ps.map encM)),(78,true,.int .i64 x.ps.length),(79,true,.int .i64 v.i)],v.H,v.n⟩) (Ip x.ps.length (BN x)) (λv=>x.ps.length-v.i)
  ⟨0,.nil,H,n⟩ (by simp only[prA,Y5,List.all_nil,Zp,Xp];rfl) ⟨Wz _,c7,hb,hn,.inl rfl,.inr rfl⟩ ?_
 clear c5 hb c7 hn hi z1;rintro⟨i,tk,H,n⟩ ⟨hi,c7,hb,hn,c8,d8⟩;simp only at hi c7 hb hn c8 d8;by_cases c5:i<x.ps.length
 ·have hg:=W2 c5;have e:=AE (k:=i) zo;have hp:=hx.p _ (X5 c5);generalize hqq:x.ps[i]=p at hg hp;have z2:(0=n+2)=False:=W4 zo;have z3:(0=n+4+4)=False:=W4 zo;have o7:AQ (hp10 H n p) (n+4):=(c7.hset (m:=n+4) zo zo).hset (W9 (n+4)) zo;have m4:tkG 1 1 (hp10 H n p) tk:=(c8.set (.inr (.inr (c7 _ zo)))).set (.inr (.inl ⟨_,AB ..⟩));have k9:hget (hp10 H n p) 0=some (.box (BN x)):=by
   rw[AA _ _ _ _ zo,AA _ _ _ _ zo];exact hb
  have hb3:hget (hp10 H n p) (n+2)=some (.box [.int .i64 p.c,eIs p.ls]):=AB ..;have k0:hget (AP (hp10 H n p) tk) 0=some (.box (BN x)):=by rw[AW m4 (.inl zo)];exact k9
  have k2:hget (AP (hp10 H n p) tk) (n+2)=some (.box [.int .i64 p.c,eIs p.ls]):=by rw[AW m4 (.inr ⟨_,hb3⟩)];exact hb3
  have q1:A8 (hp10 H n p) 1 tk=True:=W1 m4.app;have q2:(i<=35184372088831)=True:=W1 zo;have q3:Aj (i+1) 8=True:=W1 (AZ zo zd);have ln:((x.ps.take i).map λp=>eI p.c).length=i:=by simp;omega
  have z4:(n+4+4=0)=False:=W4 zo;have z5:(n+8=n+2)=False:=W4 zo;have z6:(n+8=0)=False:=W4 zo;have z7:(n+2=0)=False:=W4 zo;have h8:=c7 (n+8) zo;simp only[eZ,seval,X6,X1,X3,W0,Xa,lt_T c5,hg,fr1 c7,z4,z5,q1,q2,q3,ln,k0,k2,Tckm,s3,dIs,dI,okL,decL,CS,As,toI,hp,e,natE3,tadd];refine .mk ⟨i+1,.own (n+8) 1,hset (AP (hp10 H n p) tk) (n+8) .tok,n+10⟩ (by rw[UC c5,map_take c5,hqq]) ⟨c5,(AU m4 o7).hset (m:=n+10) zo zo,?_,zp,.inr (.inr ⟨n+8,rfl,zo,AB ..⟩),.inl rfl⟩ zp;simp only[];rw[AA _ _ _ _ zo];exact k0
 obtain rfl:i=x.ps.length:=zo
 have hc:x.ps.map (λp=>eI p.c)=(x.ps.map (·.c)).map eI:=by rw[YM];rfl
 have hes':(tk.esz=1\/(x.ps.map (·.c)).map eI=[])=True:=W1 (d8.imp id λe=>by rw[XZ.1 e];rfl);have s8:few (x.ps.map (·.c))=True:=W1 (by show(x.ps.map _).length<_;rw[W0];exact hpn);have hfin:=Wy x;cases h1:prA x x.ps.length with
 |false=>
  have hl:Gc x=false:=by rw[<-hfin,h1];rfl
  simp only[eZ,seval,W3,W7,lt_F c5];unfold chk;rw[W6 (by rw[hl];decide)]
 |true=>
  rw[h1,Yc]at hfin;cases hl:Gc x with
  |true=>
   simp only[eZ,seval,W3,X1,X3,W0,lt_F c5,hb,X4,hc,Tckm,s3,dIs,dI,okL,decL,CS,As,toI,hes',s8,hfin.trans hl,tadd];unfold chk;rw[X0 hl]
  |false=>
   simp only[eZ,seval,W3,W7,X1,X3,W0,lt_F c5,hb,X4,hc,Tckm,s3,dIs,dI,okL,decL,CS,As,toI,hes',s8,hfin.trans hl,tadd];unfold chk;rw[W6 (by rw[hl];decide)]
end Go.AM
