/-
  Parts of the proof. Conditions: none.
-/
import Derived.Test.YtncahiacfdihpaaGreatDoorB8
set_option maxRecDepth 20000
set_option linter.all false
set_option maxHeartbeats 1000000
namespace Go.AM
open Go.Lib Go.Proofs Go.Proofs.Tryz
theorem Ap{a b:Bs}:scmp .neq a b= !decide (a=b):=rfl
theorem Aw{a b:Bs}:scmp .eql a b=decide (a=b):=rfl
def Wp{a b:j8}:a=b↔a.nm=b.nm/\a.v=b.v:=by cases a;cases b;simp only[j8.mk.injEq]
def Wq{a b:z8}:a=b↔a.nm=b.nm/\a.on=b.on/\a.fam=b.fam/\a.ty=b.ty/\a.lo=b.lo/\a.hi=b.hi:=by cases a;cases b;simp only[z8.mk.injEq]
def Wr{a b:zx}:a=b↔a.nm=b.nm/\a.ls=b.ls:=by cases a;cases b;simp only[zx.mk.injEq]
def JE(s t:j8):ceqs [.str s.nm,.int .i64 s.v] [.str t.nm,.int .i64 t.v]=decide (s=t):=by
 rw[Xg,X1,Wp];simp [ceqs,ceq]
def JF(s t:z8):ceqs [.str s.nm,.str s.on,.int .i64 s.fam,.int .i64 s.ty,.int .i64 s.lo,.int .i64 s.hi] [.str t.nm,.str t.on,.int .i64 t.fam,.int .i64 t.ty,.int .i64 t.lo,.int .i64 t.hi]=decide (s=t):=by
 rw[Xg,X1,Wq];simp [ceqs,ceq]
def BB{p:Prop}[Decidable p](h:p):decide p=true:=Xi h
def Ax{p:Prop}[Decidable p](h:¬p):decide p=false:=Xe h
def p103(a b:List Int)(hb:wide b):Pur prog 103 [eIs a,eIs b] (.bool (decide (a=b))):=by
 refine .mk ⟨AU 0 a,AU 0 b,trivial⟩ trivial (c103.a (AF AH.tnil (AG ?_)));by_cases hl:a.length=b.length;case neg=>
  simp only[eZ,seval,W8,W3,c103,Gc hl,W8];exact(Xe λe=>hl (by rw[e])).symm
 simp only[eZ,seval,W6,W3,c103,Gd hl];refine AL (λi:Nat=>⟨[(0,true,eIs a),(1,true,eIs b),(12,true,.int .i64 a.length),(13,true,.int .i64 i)],hnil,0⟩) (λi=>i<=a.length/\∀j,j<i->a[j]?=b[j]?) (λi=>a.length-i) 0 rfl ⟨X3 _,λj hj=>zo⟩ ?_;rintro i ⟨hi,c7⟩;by_cases c6:i<a.length;case neg=>
  simp only[eZ,seval,lt_F c6];exact(Xi (Df hl λj hj=>c7 j zo)).symm
 have hltb:i<b.length:=zo
 have hga:=W5 c6;have hgb:=W5 hltb;have e:=AE (k:=i) (by have:b.length<1125899906842624:=hb;omega);by_cases hs:a[i]=b[i]
 ·simp only[eZ,seval,W6,X8,X4,X5,W3,Xc,lt_T c6,lt_T hltb,hga,hgb,e,BB hs];refine .mk (i+1) rfl ⟨c6,λj h=>?_⟩ zo;by_cases q:j=i
  ·subst q;rw[hga,hgb,hs]
  ·exact c7 j zo
 ·simp only[eZ,seval,W8,X8,X4,X5,W3,Xc,lt_T c6,lt_T hltb,hga,hgb,Ax hs];exact(Xe λq=>hs (by simp [q])).symm
def p154(a b:List Bs)(hb:wide b):Pur prog 154 [eSs a,eSs b] (.bool (decide (a=b))):=by
 refine .mk ⟨BS 0 a,BS 0 b,trivial⟩ trivial (c154.a (AF AH.tnil (AG ?_)));by_cases hl:a.length=b.length;case neg=>
  simp only[eZ,seval,W8,W3,c154,Gc hl,W8];exact(Xe λe=>hl (by rw[e])).symm
 simp only[eZ,seval,W6,W3,c154,Gd hl];refine AL (λi:Nat=>⟨[(0,true,eSs a),(1,true,eSs b),(12,true,.int .i64 a.length),(13,true,.int .i64 i)],hnil,0⟩) (λi=>i<=a.length/\∀j,j<i->a[j]?=b[j]?) (λi=>a.length-i) 0 rfl ⟨X3 _,λj hj=>zo⟩ ?_;rintro i ⟨hi,c7⟩;by_cases c6:i<a.length;case neg=>
  simp only[eZ,seval,lt_F c6];exact(Xi (Df hl λj hj=>c7 j zo)).symm
 have hltb:i<b.length:=zo
 have hga:=W5 c6;have hgb:=W5 hltb;have e:=AE (k:=i) (by have:b.length<1125899906842624:=hb;omega);by_cases hs:a[i]=b[i]
 ·simp only[eZ,seval,W6,X8,X4,X5,W3,Xc,lt_T c6,lt_T hltb,hga,hgb,e,Ap,BB hs];refine .mk (i+1) rfl ⟨c6,λj h=>?_⟩ zo;by_cases q:j=i
  ·subst q;rw[hga,hgb,hs]
  ·exact c7 j zo
 ·simp only[eZ,seval,W8,X8,X4,X5,W3,Xc,lt_T c6,lt_T hltb,hga,hgb,Ap,Ax hs];exact(Xe λq=>hs (by simp [q])).symm
def p155(a b:List j8)(hb:few b):Pur prog 155 [eSys a,eSys b] (.bool (decide (a=b))):=by
 refine .mk ⟨Ex 0 a,Ex 0 b,trivial⟩ trivial (a155 (AF AH.tnil (AG ?_)));by_cases hl:a.length=b.length;case neg=>
  simp only[eZ,seval,W8,W3,c155,Gc hl,W8];exact(Xe λe=>hl (by rw[e])).symm
 simp only[eZ,seval,W6,W3,c155,Gd hl];refine AL (λi:Nat=>⟨[(0,true,eSys a),(1,true,eSys b),(12,true,.int .i64 a.length),(13,true,.int .i64 i)],hnil,0⟩) (λi=>i<=a.length/\∀j,j<i->a[j]?=b[j]?) (λi=>a.length-i) 0 rfl ⟨X3 _,λj hj=>zo⟩ ?_;rintro i ⟨hi,c7⟩;by_cases c6:i<a.length;case neg=>
  simp only[eZ,seval,lt_F c6];exact(Xi (Df hl λj hj=>c7 j zo)).symm
 have hltb:i<b.length:=zo
 have hga:=W5 c6;have hgb:=W5 hltb;have e:=AE (k:=i) (by have:b.length<1000000000:=hb;omega);by_cases hs:a[i]=b[i]
 ·simp only[eZ,seval,W6,X8,X4,X5,W3,Xc,lt_T c6,lt_T hltb,hga,hgb,e,JE,cfit,BB hs];refine .mk (i+1) rfl ⟨c6,λj h=>?_⟩ zo;by_cases q:j=i
  ·subst q;rw[hga,hgb,hs]
  ·exact c7 j zo
 ·simp only[eZ,seval,W8,X8,X4,X5,W3,Xc,lt_T c6,lt_T hltb,hga,hgb,JE,cfit,Ax hs];exact(Xe λq=>hs (by simp [q])).symm
def p157(a b:List z8)(hb:few b):Pur prog 157 [eCls a,eCls b] (.bool (decide (a=b))):=by
 refine .mk ⟨DG 0 a,DG 0 b,trivial⟩ trivial (a157 (AF AH.tnil (AG ?_)));by_cases hl:a.length=b.length;case neg=>
  simp only[eZ,seval,W8,W3,c157,Gc hl,W8];exact(Xe λe=>hl (by rw[e])).symm
 simp only[eZ,seval,W6,W3,c157,Gd hl];refine AL (λi:Nat=>⟨[(0,true,eCls a),(1,true,eCls b),(12,true,.int .i64 a.length),(13,true,.int .i64 i)],hnil,0⟩) (λi=>i<=a.length/\∀j,j<i->a[j]?=b[j]?) (λi=>a.length-i) 0 rfl ⟨X3 _,λj hj=>zo⟩ ?_;rintro i ⟨hi,c7⟩;by_cases c6:i<a.length;case neg=>
  simp only[eZ,seval,lt_F c6];exact(Xi (Df hl λj hj=>c7 j zo)).symm
 have hltb:i<b.length:=zo
 have hga:=W5 c6;have hgb:=W5 hltb;have e:=AE (k:=i) (by have:b.length<1000000000:=hb;omega);by_cases hs:a[i]=b[i]
 ·simp only[eZ,seval,W6,X8,X4,X5,W3,Xc,lt_T c6,lt_T hltb,hga,hgb,e,JF,cfit,BB hs];refine .mk (i+1) rfl ⟨c6,λj h=>?_⟩ zo;by_cases q:j=i
  ·subst q;rw[hga,hgb,hs]
  ·exact c7 j zo
 ·simp only[eZ,seval,W8,X8,X4,X5,W3,Xc,lt_T c6,lt_T hltb,hga,hgb,JF,cfit,Ax hs];exact(Xe λq=>hs (by simp [q])).symm
def s2f{α β:Type}(cl:Nat)(A:Dc α)(B:Dc β)(c:α->β->Prop)(f:α->β->Fs):List Fs->AC->Prop×Fs:=λa _=>match a with
 |[x,y,.fn (.func k) [] []]=>(k=cl/\A.ok x/\B.ok y/\c (A.dec x) (B.dec y),f (A.dec x) (B.dec y))
 |_=>(False,.tup [])
def q2f{α β:Type}{cl:Nat}{A:Dc α}{B:Dc β}{c:α->β->Prop}{f:α->β->Fs}{i5:FuncId}(h:∀x y,c x y->Pur prog i5 [A.enc x,B.enc y,.fn (.func cl) [] []] (f x y)):∀args H n,(s2f cl A B c f args H).1->An prog i5 args H n (s2f cl A B c f args H).2:=by
 intro args H n hh;unfold s2f at hh⊢;split at hh
 ·obtain⟨rfl,h1,h2,h3⟩:=hh;refine AP.args ((h _ _ h3).quiet H n) ?_;rintro g vs ⟨v,r,rfl,k1,w,r',rfl,k2,k3⟩;exact⟨v,_,rfl,A.wk _ h1 _ _ k1,w,_,rfl,B.wk _ h2 _ _ k2,k3⟩
 ·exact hh.elim
def CU(x:List (List Int)):dLl.ok (eLl x)=True:=Hy Dv (.inl rfl)
def Bm(x:List (List Int)):dLl.dec (eLl x)=x:=Fb Dv
def Ws(x:List j8):dSys.ok (eSys x)=True:=Hy Fv (.inl rfl)
def UB(x:List j8):dSys.dec (eSys x)=x:=Fb Fv
def Wt(x:List zx):dRgs.ok (eRgs x)=True:=Hy Em (.inl rfl)
def UC(x:List zx):dRgs.dec (eRgs x)=x:=Fb Em
def Wu(x:List z8):dCls.ok (eCls x)=True:=Hy Fw (.inl rfl)
def UD(x:List z8):dCls.dec (eCls x)=x:=Fb Fw
def Wv(x:List qj):dRus.ok (eRus x)=True:=Hy En (.inl rfl)
def UE(x:List qj):dRus.dec (eRus x)=x:=Fb En
abbrev Bt(l:List (List Int)):Prop:=few l/\∀x∈l,wide x
abbrev MX(r:zx):Prop:=Bt r.ls
abbrev Fy(r:qj):Prop:=wide r.ns/\wide r.os
structure qk(d:zy):Prop where
 ho:few d.holes
 sy:few d.syms
 rg:few d.regs
 rgs:∀r∈d.regs,MX r
 cl:few d.clus
 ru:few d.ruls
 rus:∀r∈d.ruls,Fy r
def MY{a b:qj}:a=b↔(((((a.ns=b.ns/\a.os=b.os)/\a.nm=b.nm)/\a.on=b.on)/\a.byN=b.byN)/\a.kind=b.kind/\a.fam=b.fam/\a.set=b.set/\a.oth=b.oth/\a.op=b.op/\a.n=b.n/\a.clue=b.clue):=by
 cases a;cases b;simp only[qj.mk.injEq];constructor
 ·rintro⟨a,b,c,d,e,f,g,h,i,j,k,l⟩;exact⟨⟨⟨⟨⟨e,f⟩,a⟩,b⟩,k⟩,c,d,g,h,i,j,l⟩
 ·rintro⟨⟨⟨⟨⟨e,f⟩,a⟩,b⟩,k⟩,c,d,g,h,i,j,l⟩;exact⟨a,b,c,d,e,f,g,h,i,j,k,l⟩
def ceq_7(a b c d e f g a' b' c' d' e' f' g':Int):ceqs [.int .i64 a,.int .i64 b,.int .i64 c,.int .i64 d,.int .i64 e,.int .i64 f,.int .i64 g] [.int .i64 a',.int .i64 b',.int .i64 c',.int .i64 d',.int .i64 e',.int .i64 f',.int .i64 g']=decide (a=a'/\b=b'/\c=c'/\d=d'/\e=e'/\f=f'/\g=g'):=by
 rw[Xg,X1];simp [ceqs,ceq]
def Ww{a b:zy}:a=b↔((((((((((a.nm=b.nm/\a.ver=b.ver)/\a.sh=b.sh)/\a.w=b.w)/\a.h=b.h)/\a.holes=b.holes)/\a.syms=b.syms)/\a.regs=b.regs)/\a.clus=b.clus)/\a.ruls=b.ruls)):=by
 cases a;cases b;simp only[zy.mk.injEq];constructor
 ·rintro⟨a,b,c,d,e,f,g,h,i,j⟩;exact⟨⟨⟨⟨⟨⟨⟨⟨⟨a,b⟩,c⟩,d⟩,e⟩,f⟩,g⟩,h⟩,i⟩,j⟩
 ·rintro⟨⟨⟨⟨⟨⟨⟨⟨⟨a,b⟩,c⟩,d⟩,e⟩,f⟩,g⟩,h⟩,i⟩,j⟩;exact⟨a,b,c,d,e,f,g,h,i,j⟩
def Tci:Tab:=tadd 103 (s2 dIs dIs (λ_ b=>wide b) λa b=>.bool (decide (a=b))) tnil
def Tci_ok:AH prog Tci:=AH.tnil.add (q2 p103)
def p152(a b:List (List Int))(hb:few b)(hx:∀x∈b,wide x):Pur prog 152 [eLl a,eLl b,.fn (.func 103) [] []] (.bool (decide (a=b))):=by
 refine .mk ⟨Ak 0 a,Ak 0 b,by simp [Fs.under,unders],trivial⟩ trivial (c152.a (AF Tci_ok (AG ?_)));by_cases hl:a.length=b.length;case neg=>
  simp only[eZ,seval,W8,W3,c152,Gc hl,W8];exact(Xe λe=>hl (by rw[e])).symm
 simp only[eZ,seval,W6,W3,c152,Gd hl];refine AL (λi:Nat=>⟨[(1,true,eLl b),(2,true,.fn (.func 103) [] []),(15,true,eLl a),(16,true,.int .i64 a.length),(17,true,.int .i64 i)],hnil,0⟩) (λi=>i<=a.length/\∀j,j<i->a[j]?=b[j]?) (λi=>a.length-i) 0 rfl ⟨X3 _,λj hj=>zo⟩ ?_;rintro i ⟨hi,c7⟩;by_cases c6:i<a.length;case neg=>
  simp only[eZ,seval,lt_F c6];exact(Xi (Df hl λj hj=>c7 j zo)).symm
 have hltb:i<b.length:=zo
 have hga:=W5 c6;have hgb:=W5 hltb;have e:=AE (k:=i) (by have:b.length<1000000000:=hb;omega);have hf:=hx _ (Xa hltb);by_cases hs:a[i]=b[i]
 ·simp only[eZ,seval,W6,X8,X4,X5,W3,Xc,lt_T c6,lt_T hltb,hga,hgb,e,Tci,s2,Af,AZ,W4 hf,BB hs,tadd];refine lpN.drop (i+1) rfl rfl rfl rfl AQ.nil (λ_ _ h=>by cases h) ⟨Ak 0 b,by simp [Fs.under,unders],Ak 0 a,trivial,trivial,trivial⟩ ⟨c6,λj h=>?_⟩ zo;by_cases q:j=i
  ·subst q;rw[hga,hgb,hs]
  ·exact c7 j zo
 ·simp only[eZ,seval,W8,X8,X4,X5,W3,Xc,lt_T c6,lt_T hltb,hga,hgb,Tci,s2,Af,AZ,W4 hf,Ax hs,tadd];exact(Xe λq=>hs (by simp [q])).symm
def Tcl:Tab:=tadd 152 (s2f 103 dLl dLl (λ_ b=>Bt b) λa b=>.bool (decide (a=b))) tnil
def U6:AH prog Tcl:=AH.tnil.add (q2f λa b h=>p152 a b h.1 h.2)
def p151(a b:zx)(hb:MX b):Pur prog 151 [Fu a,Fu b] (.bool (decide (a=b))):=by
 refine .mk ⟨Cf 0 a,Cf 0 b,trivial⟩ trivial (c151.a (AF U6 (AG ?_)));simp only[eZ,seval,c151,Aw,Tcl,s2f,CU,Bm,W4 hb,tadd];rw[Xg];simp only[W7,X1,Wr]
def Tcr:Tab:=tadd 151 (s2 dRg dRg (λ_ b=>MX b) λa b=>.bool (decide (a=b))) tnil
def Tcr_ok:AH prog Tcr:=AH.tnil.add (q2 p151)
def p156(a b:List zx)(hb:few b)(hx:∀x∈b,MX x):Pur prog 156 [eRgs a,eRgs b,.fn (.func 151) [] []] (.bool (decide (a=b))):=by
 refine .mk ⟨DF 0 a,DF 0 b,by simp [Fs.under,unders],trivial⟩ trivial (c156.a (AF Tcr_ok (AG ?_)));by_cases hl:a.length=b.length;case neg=>
  simp only[eZ,seval,W8,W3,c156,Gc hl,W8];exact(Xe λe=>hl (by rw[e])).symm
 simp only[eZ,seval,W6,W3,c156,Gd hl];refine AL (λi:Nat=>⟨[(1,true,eRgs b),(2,true,.fn (.func 151) [] []),(15,true,eRgs a),(16,true,.int .i64 a.length),(17,true,.int .i64 i)],hnil,0⟩) (λi=>i<=a.length/\∀j,j<i->a[j]?=b[j]?) (λi=>a.length-i) 0 rfl ⟨X3 _,λj hj=>zo⟩ ?_;rintro i ⟨hi,c7⟩;by_cases c6:i<a.length;case neg=>
  simp only[eZ,seval,lt_F c6];exact(Xi (Df hl λj hj=>c7 j zo)).symm
 have hltb:i<b.length:=zo
 have hga:=W5 c6;have hgb:=W5 hltb;have e:=AE (k:=i) (by have:b.length<1000000000:=hb;omega);have hf:=hx _ (Xa hltb);by_cases hs:a[i]=b[i]
 ·simp only[eZ,seval,W6,X8,X4,X5,W3,Xc,lt_T c6,lt_T hltb,hga,hgb,e,Tcr,s2,JB,GK,W4 hf,BB hs,tadd];refine lpN.drop (i+1) rfl rfl rfl rfl AQ.nil (λ_ _ h=>by cases h) ⟨DF 0 b,by simp [Fs.under,unders],DF 0 a,trivial,trivial,trivial⟩ ⟨c6,λj h=>?_⟩ zo;by_cases q:j=i
  ·subst q;rw[hga,hgb,hs]
  ·exact c7 j zo
 ·simp only[eZ,seval,W8,X8,X4,X5,W3,Xc,lt_T c6,lt_T hltb,hga,hgb,Tcr,s2,JB,GK,W4 hf,Ax hs,tadd];exact(Xe λq=>hs (by simp [q])).symm
def Tcs:Tab:=tadd 154 (s2 dSs dSs (λ_ b=>wide b) λa b=>.bool (decide (a=b))) tnil
def Tcs_ok:AH prog Tcs:=AH.tnil.add (q2 p154)
def p153(a b:qj)(hb:Fy b):Pur prog 153 [BT a,BT b] (.bool (decide (a=b))):=by
 refine .mk ⟨As 0 a,As 0 b,trivial⟩ trivial (a153 (AF Tcs_ok (AG ?_)));have h1:=hb.1;have h2:=hb.2;simp only[eZ,seval,c153,Aw,Tcs,s2,Fx,EE,W4 h1,W4 h2,ceq_7,cfit,tadd];rw[Xg];simp only[W7,X1,MY]
def Tcu:Tab:=tadd 153 (s2 dRu dRu (λ_ b=>Fy b) λa b=>.bool (decide (a=b))) tnil
def Tcu_ok:AH prog Tcu:=AH.tnil.add (q2 p153)
def p158(a b:List qj)(hb:few b)(hx:∀x∈b,Fy x):Pur prog 158 [eRus a,eRus b,.fn (.func 153) [] []] (.bool (decide (a=b))):=by
 refine .mk ⟨CM 0 a,CM 0 b,by simp [Fs.under,unders],trivial⟩ trivial (c158.a (AF Tcu_ok (AG ?_)));by_cases hl:a.length=b.length;case neg=>
  simp only[eZ,seval,W8,W3,c158,Gc hl,W8];exact(Xe λe=>hl (by rw[e])).symm
 simp only[eZ,seval,W6,W3,c158,Gd hl];refine AL (λi:Nat=>⟨[(1,true,eRus b),(2,true,.fn (.func 153) [] []),(15,true,eRus a),(16,true,.int .i64 a.length),(17,true,.int .i64 i)],hnil,0⟩) (λi=>i<=a.length/\∀j,j<i->a[j]?=b[j]?) (λi=>a.length-i) 0 rfl ⟨X3 _,λj hj=>zo⟩ ?_;rintro i ⟨hi,c7⟩;by_cases c6:i<a.length;case neg=>
  simp only[eZ,seval,lt_F c6];exact(Xi (Df hl λj hj=>c7 j zo)).symm
 have hltb:i<b.length:=zo
 have hga:=W5 c6;have hgb:=W5 hltb;have e:=AE (k:=i) (by have:b.length<1000000000:=hb;omega);have hf:=hx _ (Xa hltb);by_cases hs:a[i]=b[i]
 ·simp only[eZ,seval,W6,X8,X4,X5,W3,Xc,lt_T c6,lt_T hltb,hga,hgb,e,Tcu,s2,Bc,A8,W4 hf,BB hs,tadd];refine lpN.drop (i+1) rfl rfl rfl rfl AQ.nil (λ_ _ h=>by cases h) ⟨CM 0 b,by simp [Fs.under,unders],CM 0 a,trivial,trivial,trivial⟩ ⟨c6,λj h=>?_⟩ zo;by_cases q:j=i
  ·subst q;rw[hga,hgb,hs]
  ·exact c7 j zo
 ·simp only[eZ,seval,W8,X8,X4,X5,W3,Xc,lt_T c6,lt_T hltb,hga,hgb,Tcu,s2,Bc,A8,W4 hf,Ax hs,tadd];exact(Xe λq=>hs (by simp [q])).symm
def Tsa:Tab:=tadd 103 (s2 dIs dIs (λ_ b=>wide b) λa b=>.bool (decide (a=b))) (tadd 155 (s2 dSys dSys (λ_ b=>few b) λa b=>.bool (decide (a=b))) (tadd 156 (s2f 151 dRgs dRgs (λ_ b=>few b/\∀x∈b,MX x) λa b=>.bool (decide (a=b))) (tadd 157 (s2 dCls dCls (λ_ b=>few b) λa b=>.bool (decide (a=b))) (tadd 158 (s2f 153 dRus dRus (λ_ b=>few b/\∀x∈b,Fy x) λa b=>.bool (decide (a=b))) tnil))))
def Tsa_ok:AH prog Tsa:=((((AH.tnil.add (q2f λa b h=>p158 a b h.1 h.2)).add (q2 p157)).add (q2f λa b h=>p156 a b h.1 h.2)).add (q2 p155)).add (q2 p103)
def p104(a b:zy)(hb:qk b):Pur prog 104 [encD a,encD b] (.bool (decide (a=b))):=by
 refine .mk ⟨Ab 0 a,Ab 0 b,trivial⟩ trivial (c104.a (AF Tsa_ok (AG ?_)));simp only[eZ,seval,c104,Aw,Tsa,s2,s2f,Af,AZ,Ws,UB,Wt,UC,Wu,UD,Wv,UE,W4 (Cm hb.ho),W4 hb.sy,W4 hb.rg,W4 hb.rgs,W4 hb.cl,W4 hb.ru,W4 hb.rus,tadd];rw[Xg];simp only[W7,X1,Ww]
abbrev AD(sh w h:Int)(holes cells:List Int):List Fs:=[.int .i64 sh,.int .i64 w,.int .i64 h,eIs holes,eIs cells]
abbrev encG(sh w h:Int)(holes cells:List Int):Fs:=.agg (AD sh w h holes cells)
def Ar(n:Nat)(sh w h:Int)(holes cells:List Int):(encG sh w h holes cells).under n:=⟨trivial,trivial,trivial,AU n _,AU n _,trivial⟩
def BK(sh w h:Int)(holes:List Int):Fs:=match Ah sh w h holes with
 |some cells=>.tup [encG sh w h holes cells,.int .i64 0]
 |none=>.tup [encG 0 0 0 [] [],.int .i64 130]
def IA(sh w h:Int)(holes:List Int):(BK sh w h holes).under 0:=by
 unfold BK;split<;>exact⟨Ar 0 ..,trivial,trivial⟩
def wk_G{sh w h:Int}{holes cells:List Int}{a b:Fs}{e:Int}(h1:Wk a (eIs holes))(h2:Wk b (eIs cells)):Wk (.tup [.agg [.int .i64 sh,.int .i64 w,.int .i64 h,a,b],.int .i64 e]) (.tup [encG sh w h holes cells,.int .i64 e]):=
 Wk.tup (.cons (Wk.agg (.cons (Wk.refl _) (.cons (Wk.refl _) (.cons (Wk.refl _) (.cons h1 (.cons h2 .nil)))))) (.cons (Wk.refl _) .nil))
def p62(l:List Int)(hl:few l):Pur prog 62 [eIs l] (eIs l):=by
 refine .mk ⟨AU 0 l,trivial⟩ (AU 0 l) (c62.a (AF AH.tnil (AG ?_)));have a1:(l.length<=35184372088832)=True:=W4 (by have:l.length<1000000000:=hl;omega);have a2:Aj l.length 8=True:=W4 (AY (by have:l.length<1000000000:=hl;omega) zd);cases l with
 |nil=>
  simp only[eZ,seval,c62];refine⟨?_,?_⟩
  ·simp only[eZ,seval,Aj,YY,X3];exact Wk.sl (.inl rfl)
  ·simp only[eZ,seval,W8];exact Wk.sl (.inr rfl)
 |cons x r=>
  rw[Xj]at a1 a2;simp only[eZ,seval,W3,c62,eIs,a1,a2];exact Wk.sl (.inl rfl)
def Tmk:Tab:=tadd 62 (s1 dIs few λl=>eIs l) (tadd 218 (s2 dIs dI (λl _=>few l/\List.Pairwise (λx y=>x<y) l) λl x=>.tup [.int .i64 (lowB l x),.bool (l.contains x)]) tnil)
def Tmk_ok:AH prog Tmk:=(AH.tnil.add (q2 λl x h=>p218 l x h.1 h.2)).add (q1 p62)
def posL(holes:List Int)(k:Nat):List Int:=((List.range k).map λ(i:Nat)=>(i:Int)).filter λp=>!holes.contains p
def LO(holes:List Int)(k:Nat):posL holes (k+1)=if holes.contains (k:Int)then posL holes k else posL holes k++[(k:Int)]:=by
 unfold posL;rw[Ya,X7,Yy];cases h:holes.contains (k:Int)<;>simp only[Xl,Xu,XO,Zv,h,W6,W8,XJ,Xt,Xh,Xs]
def SA(holes:List Int)(k:Nat):(posL holes k).length<=k:=by
 have:=XW (λp=>!holes.contains p) ((List.range k).map λ(i:Nat)=>(i:Int));simpa [posL]using this
structure VM where
 k:Nat
 tk:jj
 H:AC
 n:Nat
structure IM(sh w h:Int)(holes:List Int)(m:Nat)(v:VM):Prop where
 hk:v.k<=m
 hn:2<=v.n
 fr:AQ v.H v.n
 h0:hget v.H 0=some (.box [.int .i64 sh,.int .i64 w,.int .i64 h,eIs holes,.sl v.tk ((posL holes v.k).map eI)])
 tok:tkG 1 1 v.H v.tk
 es:v.tk.esz=1\/posL holes v.k=[]
def p147(sh w h:Int)(holes:List Int)(hl:few holes):Pur prog 147 [.int .i64 sh,.int .i64 w,.int .i64 h,eIs holes] (BK sh w h holes):=by
 refine .mk ⟨trivial,trivial,trivial,AU 0 _,trivial⟩ (IA sh w h holes) (c147.a (AF Tmk_ok (AG ?_)));have hE:∀b,(b=true↔¬((sh=1\/sh=2)/\1<=w/\w<=16/\1<=h/\h<=16/\(holes.length:Int)<w*h))->(!decide (sh=1)&& !decide (sh=2)||decide (w<1)||decide (16<w)||decide (h<1)||decide (16<h)||decide (IntKind.wrap .i64 (w*h)<=(holes.length:Int)))=b:=by
  intro b hb;rw[Xg,hb];simp only[Xk,W7,Y1,X1,XU];by_cases hwh:1<=w/\w<=16/\1<=h/\h<=16
  ·have:=Wl hwh.1 hwh.2.1 hwh.2.2.1 hwh.2.2.2;rw[Aq zo zo];omega
  ·omega
 by_cases hc:(sh=1\/sh=2)/\1<=w/\w<=16/\1<=h/\h<=16/\(holes.length:Int)<w*h;case neg=>
  have hn:BK sh w h holes= .tup [encG 0 0 0 [] [],.int .i64 130]:=by
   unfold BK Ah;rw[X0 λq=>hc ⟨q.1,q.2.1,q.2.2.1,q.2.2.2.1,q.2.2.2.2.1,q.2.2.2.2.2.1⟩]
  have hb:=hE true (by simp [hc]);rw[hn];simp only[eZ,seval,BI,W3,c147,hb];exact wk_G (Wk.sl (.inr rfl)) (Wk.sl (.inr rfl))
 have hb:=hE false (by simp [hc]);obtain⟨hsh,hw1,hw2,hh1,hh2,o9⟩:=hc;obtain⟨p1,p2⟩:=Wl hw1 hw2 hh1 hh2;have hwh:IntKind.wrap .i64 (w*h)=w*h:=Aq zo zo;have hG:Ah sh w h holes=if(Br (-1) holes&&holes.all λp=>decide (p<w*h))=true then some (posL holes (w*h).toNat)else none:=by
  unfold Ah;by_cases q:(Br (-1) holes&&holes.all λp=>decide (p<w*h))=true
  ·rw[X6 q];rw[W7]at q;rw[X6 ⟨hsh,hw1,hw2,hh1,hh2,o9,q.1,q.2⟩];rfl
  ·rw[X0 q];rw[W7]at q;rw[X0 λz=>q ⟨z.2.2.2.2.2.2.1,z.2.2.2.2.2.2.2⟩]
 simp only[eZ,seval,W3,c147,hb];refine AL (λv:Nat×Int=>⟨[(0,true,.int .i64 sh),(1,true,.int .i64 w),(2,true,.int .i64 h),(3,true,eIs holes),(8,true,.ptr 0 0),(10,true,.int .i64 v.2),(47,true,eIs holes),(48,true,.int .i64 holes.length),(49,true,.int .i64 v.1)],hset hnil 0 (.box [z0,z0,z0,zs,zs]),2⟩)
  (λv=>v.1<=holes.length/\(Br (-1) holes&&holes.all λp=>decide (p<w*h))=(Br v.2 (holes.drop v.1)&&(holes.drop v.1).all λp=>decide (p<w*h))) (λv=>holes.length-v.1) (0,-1) rfl ⟨X3 _,rfl⟩ ?_
 rintro⟨i,last⟩ ⟨hi,he⟩;simp only at hi he;by_cases c6:i<holes.length
 ·have hg:=W5 c6;have e:=AE (k:=i) (by have:holes.length<1000000000:=hl;omega);rw[Xm c6,Br,Z0]at he;by_cases e9:last<holes[i]/\holes[i]<w*h
  ·have hd:(decide (holes[i]<=last)||decide (w*h<=holes[i]))=false:=by simp;omega
   simp only[eZ,seval,X8,X4,X5,W3,Xc,lt_T c6,hg,e,hwh,hd];refine .mk (i+1,holes[i]) rfl ⟨c6,?_⟩ zp;simp only[];rw[he,Xi e9.1,Xi e9.2];simp
  ·have hd:(decide (holes[i]<=last)||decide (w*h<=holes[i]))=true:=by simp;omega
   have hn:BK sh w h holes= .tup [encG 0 0 0 [] [],.int .i64 130]:=by
    unfold BK;rw[hG,X0];rw[he];intro q;simp only[W7,X1]at q;exact e9 ⟨q.1.1,q.2.1⟩
   rw[hn];simp only[eZ,seval,BI,X8,X4,X5,W3,Xc,lt_T c6,hg,hwh,hd];exact wk_G (Wk.sl (.inr rfl)) (Wk.sl (.inr rfl))
 have i6:i=holes.length:=zo
 subst i6;rw[Xy]at he;have hS:Ah sh w h holes=some (posL holes (w*h).toNat):=by rw[hG,X6 (by rw[he];rfl)]
 have hrise:=(Fq hS).2.2.2.2.2.2.2.1;have hM:BK sh w h holes= .tup [encG sh w h holes (posL holes (w*h).toNat),.int .i64 0]:=by unfold BK;rw[hS]
 rw[hM];obtain⟨m,hm⟩:∃m:Nat,w*h=(m:Int):=⟨(w*h).toNat,zo⟩;have hmt:(w*h).toNat=m:=zo
 have hwm:IntKind.wrap .i64 (m:Int)=m:=by rw[<-hm];exact hwh
 rw[hmt];simp only[eZ,seval,lt_F c6,Tmk,s1,Af,AZ,W4 hl,hwm,hm,AO,tadd];refine AL (λv:VM=>⟨[(3,true,eIs holes),(8,true,.ptr 0 0),(74,true,.int .i64 m),(75,true,.int .i64 v.k)],v.H,v.n⟩) (IM sh w h holes m) (λv=>m-v.k)
  ⟨0,.nil,hset hnil 0 (.box [.int .i64 sh,.int .i64 w,.int .i64 h,eIs holes,.sl .nil []]),2⟩ rfl ⟨X3 _,X2 _,AQ.nil.hset (m:=2) (X3 2) (show 0<2 by decide),rfl,.inl rfl,.inr rfl⟩ ?_
 rintro⟨k,tk,H,n⟩ hI;have hk:=hI.hk;have hn:=hI.hn;have c8:=hI.fr;have h0:=hI.h0;have d6:=hI.tok;have d8:=hI.es;simp only at hk hn c8 h0 d6 d8;by_cases c6:k<m
 ·have e:=AE (k:=k) zo;have hps:=LO holes k;cases l7:holes.contains (k:Int)with
  |true=>
   rw[l7,X6 rfl]at hps;simp only[eZ,seval,W6,X8,Y8,Yp,lt_T c6,Tmk,s2,Af,AZ,A3,Ai,W4 hl,W4 hrise,l7,e,tadd];exact .mk ⟨k+1,tk,H,n⟩ rfl ⟨c6,hn,c8,by simp only[hps];exact h0,d6,by simp only[hps];exact d8⟩ zp
  |false=>
   rw[l7,X0 zd]at hps;have t5:=SA holes k;have q1:A6 H 1 tk=True:=W4 d6.app;have q2:((posL holes k).length<=35184372088831)=True:=W4 zo;have q3:Aj ((posL holes k).length+1) 8=True:=W4 (AY zo zd);have kx:hget (AN H tk) 0=some (.box [.int .i64 sh,.int .i64 w,.int .i64 h,eIs holes,.sl tk ((posL holes k).map eI)]):=by rw[AW d6 (.inl zo)];exact h0
   have y0:∀j,(n+j=0)=False:=λj=>W9 zo
   simp only[eZ,seval,W8,X8,W3,Y8,Yp,lt_T c6,Tmk,s2,Af,AZ,A3,Ai,W4 hl,W4 hrise,l7,e,h0,q1,q2,q3,fr1 c8,kx,y0,tadd];refine .mk ⟨k+1,.own (n+4) 1,hset (hset (AN H tk) (n+4) .tok) 0 (.box [.int .i64 sh,.int .i64 w,.int .i64 h,eIs holes,.sl (.own (n+4) 1) ((posL holes (k+1)).map eI)]),n+7⟩ ?_ ⟨c6,zp,((AT d6 c8).hset (m:=n+7) zo zo).hset (X2 (n+7)) (show 0<n+7 by omega),AB ..,.inr (.inr ⟨n+4,rfl,zo,by rw[AA _ _ _ _ zo];exact AB ..⟩),.inl rfl⟩ zp;rw[hps,X7];rfl
 obtain rfl:k=m:=zo
 simp only[eZ,seval,BI,lt_F c6,h0];exact wk_G (Wk.refl _) (Wk.sl (d8.imp id λq=>by rw[q];rfl))
def Tgc:Tab:=tadd 147 (λa H=>match a with
 |[.int .i64 sh,.int .i64 w,.int .i64 h,x]=>(dIs.ok x/\few (dIs.dec x),BK sh w h (dIs.dec x))
 |_=>(False,.tup [])) (tadd 103 (s2 dIs dIs (λ_ b=>few b) λa b=>.bool (decide (a=b))) tnil)
theorem U7:∀args H n,((λ(a:List Fs) (H:AC)=>match a with
 |[.int .i64 sh,.int .i64 w,.int .i64 h,x]=>(dIs.ok x/\few (dIs.dec x),BK sh w h (dIs.dec x))
 |_=>(False,Fs.tup [])) args H).1->An prog 147 args H n ((λ(a:List Fs) (H:AC)=>match a with
 |[.int .i64 sh,.int .i64 w,.int .i64 h,x]=>(dIs.ok x/\few (dIs.dec x),BK sh w h (dIs.dec x))
 |_=>(False,Fs.tup [])) args H).2:=by
 intro args H n hh;simp only at hh⊢;split at hh
 ·obtain⟨h1,h2⟩:=hh;refine AP.args ((p147 _ _ _ _ h2).quiet H n) ?_;rintro g vs ⟨v,r,rfl,k1,w,r',rfl,k2,u,r2,rfl,k3,z,r3,rfl,k4,k5⟩;exact⟨v,_,rfl,k1,w,_,rfl,k2,u,_,rfl,k3,z,_,rfl,dIs.wk _ h1 _ _ k4,k5⟩
 ·exact hh.elim
def Tgc_ok:AH prog Tgc:=(AH.tnil.add (q2 λa b h=>p103 a b (Cm h))).add U7
def grOK(sh w h:Int)(holes cells:List Int):Bool:=decide (Ah sh w h holes=some cells)
def p219(sh w h:Int)(holes cells:List Int)(hl:few holes)(hc:few cells):Pur prog 219 [encG sh w h holes cells] (.int .i64 (if grOK sh w h holes cells=true then 0 else 130)):=by
 refine .mk ⟨Ar 0 ..,trivial⟩ trivial (c219.a (AF Tgc_ok (AG ?_)));cases hG:Ah sh w h holes with
 |none=>
  have hM:BK sh w h holes= .tup [encG 0 0 0 [] [],.int .i64 130]:=by unfold BK;rw[hG]
  have hk:grOK sh w h holes cells=false:=by unfold grOK;rw[hG];simp
  rw[hk];simp only[eZ,seval,W6,W8,X8,Y8,Yp,c219,Tgc,Af,AZ,W4 hl,hM,encG,tadd]
 |some cs=>
  have hM:BK sh w h holes= .tup [encG sh w h holes cs,.int .i64 0]:=by unfold BK;rw[hG]
  have hk:grOK sh w h holes cells=decide (cs=cells):=by unfold grOK;rw[hG];simp
  rw[hk];by_cases hq:cs=cells
  ·simp only[eZ,seval,W6,X8,Y8,Yp,c219,Tgc,s2,Af,AZ,W4 hl,hM,encG,W4 hc,BB hq,tadd]
  ·simp only[eZ,seval,W6,W8,X8,Y8,Yp,c219,Tgc,s2,Af,AZ,W4 hl,hM,encG,W4 hc,Ax hq,tadd]
structure jz where
 sh:Int
 w:Int
 h:Int
 holes:List Int
 cells:List Int
 deriving DecidableEq
abbrev B5(g:jz):Fs:=encG g.sh g.w g.h g.holes g.cells
def SB:Fs->jz
 | .agg [.int _ sh,.int _ w,.int _ h,ho,ce]=>⟨sh,w,h,Gr ho,Gr ce⟩
 |_=>⟨0,0,0,[],[]⟩
def IB(g:jz):SB (B5 g)=g:=by simp only[SB,Dv]
def dGd:Dc jz:=dWk B5 SB
def DT(x:jz):dGd.ok (B5 x)=True:=Ge IB x
def CI(x:jz):dGd.dec (B5 x)=x:=IB x
def E9{sh w h:Int}{holes cells:List Int}:dGd.ok (encG sh w h holes cells)=True:=DT ⟨sh,w,h,holes,cells⟩
def Cz{sh w h:Int}{holes cells:List Int}:dGd.dec (encG sh w h holes cells)=⟨sh,w,h,holes,cells⟩:=CI ⟨sh,w,h,holes,cells⟩
abbrev chkV(g:jz):Fs:=.int .i64 (if grOK g.sh g.w g.h g.holes g.cells=true then 0 else 130)
def Tgr:Tab:=tadd 219 (s1 dGd (λg=>few g.holes/\few g.cells) chkV) (tadd 218 (s2 dIs dI (λl _=>few l/\List.Pairwise (λx y=>x<y) l) λl x=>.tup [.int .i64 (lowB l x),.bool (l.contains x)]) tnil)
def Tgr_ok:AH prog Tgr:=(AH.tnil.add (q2 λl x h=>p218 l x h.1 h.2)).add (q1 λg h=>p219 g.sh g.w g.h g.holes g.cells h.1 h.2)
def Wks.len{ws us:List Fs}(h:Wks ws us):ws.length=us.length:=by
 induction h with
 |nil=>rfl
 |cons _ _ ih=>simp [ih]
def Wks.app{a b c d:List Fs}(h:Wks a b)(k:Wks c d):Wks (a++c) (b++d):=by
 induction h with
 |nil=>exact k
 |cons h1 _ ih=>exact .cons h1 ih
def UF{g:q8}{e:Nat}{f:Nat->Option Value}{l m:List Fs}(hw:Wks l m):∀o,Stab g e f o l->Stab g e f o m:=by
 induction hw with
 |nil=>exact λ_ _=>trivial
 |cons h1 _ ih=>exact λo ⟨⟨v,q1,q2,q3⟩,h'⟩=>⟨⟨v,h1 _ _ q1,q2,q3⟩,ih _ h'⟩
def Wk.slx{t:jj}{e:Nat}{l m:List Fs}(h:t.esz=e\/l=[])(hw:Wks l m):Wk (.sl t l) (.sl (.none e) m):=by
 intro g v hv;have hv:=Wk.sl h g v hv;rcases hv with⟨h1,rfl,-⟩|⟨-,b,o,cap,⟨sp,rfl,hsp⟩,hc,hst,-⟩
 ·have hl:=hw.len;subst h1;have:m=[]:=XI (by rw[<-hl];rfl);subst this;exact .inl ⟨rfl,rfl,trivial⟩
 ·have hl:=hw.len;refine .inr ⟨trivial,b,o,cap,⟨sp,by rw[hl],?_⟩,by rw[<-hl];exact hc,UF hw _ hst,trivial⟩;rcases hsp with q|⟨q,q2⟩
  ·exact .inl q
  ·refine .inr ⟨?_,.inr ⟨e,rfl⟩⟩;subst q;exact XI (by rw[<-hl];rfl)
def Nk{cells l:List Int}{p:Int}(hp:List.Pairwise (λx y=>x<y) cells)(hl:∀q∈l,q∈cells)(hc:p∈cells):(BO cells l).contains (lowB cells p:Int)=l.contains p:=by
 rw[Xg,Xz,Xz];unfold BO;rw[XH];constructor
 ·rintro⟨q,hq,e⟩;have:=Wm hp (hl q hq) hc zo;rw[<-this];exact hq
 ·exact λh=>⟨p,h,rfl⟩
def Fz(cells l:List Int):(BO cells l).length=l.length:=W3 ..
def rgsV(cells:List Int)(lists:List (List Int)):Fs:=if(decide (lists.length<=64)&&lists.all (Dg cells))=true then .tup [eLl (lists.map (BO cells)),.int .i64 0]else .tup [eLl [],.int .i64 130]
theorem IC:∀{l m:List Int},l.Nodup->(∀q∈l,q∈m)->l.length<=m.length
 |[],_,_,_=>X3 _
 |a::l,m,hd,hs=>by
  obtain⟨h1,h2⟩:=YD.1 hd;have ha:=hs a zw;have ih:=IC (m:=m.erase a) h2 λq hq=>(List.mem_erase_of_ne (λe:q=a=>by subst e;exact h1 hq)).2 (hs q (by simp [hq]))
  rw[List.length_erase_of_mem ha]at ih;have:=List.length_pos_of_mem ha;rw[Xj];omega
structure VRg where
 i:Nat
 E:List Fs
 tl:jj
 H:AC
 n:Nat
structure IRg(g:jz)(lists:List (List Int))(v:VRg):Prop where
 hi:v.i<=lists.length
 hn:3<=v.n
 fr:AQ v.H v.n
 h0:hget v.H 0=some (.box (AD g.sh g.w g.h g.holes g.cells))
 tok:tkG 1 1 v.H v.tl
 es:v.tl.esz=1\/v.E=[]
 hE:Wks v.E (((lists.take v.i).map (BO g.cells)).map eIs)
 eq:lists.all (Dg g.cells)=(lists.drop v.i).all (Dg g.cells)
structure VRi where
 j:Nat
 tc:jj
 H:AC
 n:Nat
structure IRi(g:jz)(x:List Int)(H0:AC)(n0:Nat)(v:VRi):Prop where
 hj:v.j<=x.length
 hn:n0+2<=v.n
 fr:AQ v.H v.n
 hk:∀id,id<n0->hget v.H id=hget H0 id
 hm:hget v.H n0=some (.map (ctEs (BO g.cells (x.take v.j)) 0) v.j)
 tok:tkG 1 (n0+1) v.H v.tc
 es:v.tc.esz=1\/v.j=0
 sub:∀q∈x.take v.j,q∈g.cells
 eq:GJ g.cells [] x=GJ g.cells (x.take v.j) (x.drop v.j)
 nd:(x.take v.j).Nodup
def p150(g:jz)(lists:List (List Int))(hG:Ah g.sh g.w g.h g.holes=some g.cells)(hh:few g.holes)(hl:Bt lists):Pur prog 150 [B5 g,eLl lists] (rgsV g.cells lists):=by
 refine .mk ⟨Ar 0 ..,Ak 0 _,trivial⟩ (by unfold rgsV;split<;>exact⟨Ak 0 _,trivial,trivial⟩) (c150.a (AF Tgr_ok (AG ?_)));obtain⟨hr1,hr2,hr3⟩:=Ay hG;have hfc:few g.cells:=show g.cells.length<_ by omega
 have hgo:grOK g.sh g.w g.h g.holes g.cells=true:=by unfold grOK;rw[hG];simp
 by_cases h64:64<lists.length
 ·have hv:rgsV g.cells lists= .tup [eLl [],.int .i64 130]:=by unfold rgsV;rw[X0];simp;omega
  have l64:((64:Int)<(lists.length:Int))=True:=W4 zo;rw[hv];simp only[eZ,seval,W6,W3,c150,Tgr,s1,E9,Cz,W4 hh,W4 hfc,hgo,l64,tadd];exact Wk.tup (.cons (Wk.sl (.inr rfl)) (.cons (Wk.refl _) .nil))
 have l64:((64:Int)<(lists.length:Int))=False:=W9 zo;simp only[eZ,seval,W6,W3,c150,Tgr,s1,E9,Cz,W4 hh,W4 hfc,hgo,l64,tadd];have i7:lists.all (Dg g.cells)=false->rgsV g.cells lists= .tup [eLl [],.int .i64 130]:=λq=>by unfold rgsV;rw[q,YT,X0 zd]
 refine AL (λv:VRg=>⟨[(2,true,.ptr 0 0),(4,true,.sl v.tl v.E),(22,true,eLl lists),(23,true,.int .i64 lists.length),(24,true,.int .i64 v.i)],v.H,v.n⟩) (IRg g lists) (λv=>lists.length-v.i)
  ⟨0,[],.nil,hset hnil 0 (.box (AD g.sh g.w g.h g.holes g.cells)),3⟩ rfl ⟨X3 _,X2 _,AQ.nil.hset (m:=3) (X3 3) (show 0<3 by decide),rfl,.inl rfl,.inr rfl,.nil,rfl⟩ ?_
 rintro⟨i,E,tl,H,n⟩ hI;have hi:=hI.hi;have hn:=hI.hn;have c8:=hI.fr;have h0:=hI.h0;have d6:=hI.tok;have d8:=hI.es;have hE:=hI.hE;have heq:=hI.eq;simp only at hi hn c8 h0 d6 d8 hE heq;by_cases c6:i<lists.length;case neg=>
  have i6:i=lists.length:=zo
  subst i6;rw[Xy]at heq;rw[Xb]at hE;have hv:rgsV g.cells lists= .tup [eLl (lists.map (BO g.cells)),.int .i64 0]:=by
   unfold rgsV;rw[heq,X6];simp;omega
  rw[hv];simp only[eZ,seval,lt_F c6];exact Wk.tup (.cons (Wk.slx d8 hE) (.cons (Wk.refl _) .nil))
 have hg:=W5 c6;have e:=AE (k:=i) zo;have hxf:=hl.2 _ (Xa c6);have hxe:=map_take (f:=BO g.cells) c6;rw[Xm c6,Z0]at heq;generalize hx:lists[i]=x at hg hxf heq hxe;have hxl:x.length<1125899906842624:=hxf;have hmk:hget (hset H n (.map [] 0)) 0=some (.box (AD g.sh g.w g.h g.holes g.cells)):=by rw[AA _ _ _ _ zo];exact h0
 simp only[eZ,seval,xE,X8,X4,X5,W3,Xc,lt_T c6,hg,fr0 c8];refine AL (λv:VRi=>⟨[(2,true,.ptr 0 0),(4,true,.sl tl E),(8,true,.sl v.tc ((BO g.cells (x.take v.j)).map eI)),(9,true,.mp n),(22,true,eLl lists),(23,true,.int .i64 lists.length),(24,true,.int .i64 i),(29,true,eIs x),(30,true,.int .i64 x.length),(31,true,.int .i64 v.j)],v.H,v.n⟩)
  (IRi g x H n) (λv=>x.length-v.j) ⟨0,.nil,hset H n (.map [] 0),n+2⟩ rfl ⟨X3 _,X2 _,(c8.hset (m:=n+2) zo zo),λid d7=>AA _ _ _ _ zo,AB ..,.inl rfl,.inr rfl,λq hq=>by(simp at hq),rfl,zw⟩ ?_
 rintro⟨j,tc,H1,n1⟩ hJ;have hj:=hJ.hj;have l6:=hJ.hn;have hf1:=hJ.fr;have hk:=hJ.hk;have hm:=hJ.hm;have htc:=hJ.tok;have hec:=hJ.es;have hsub:=hJ.sub;have hme:=hJ.eq;have hnd:=hJ.nd;simp only at hj l6 hf1 hk hm htc hec hsub hme hnd;have hj256:j<=256:=by
  have:=IC hnd hsub;rw[Xp]at this;omega
 have l8:hget H1 0=some (.box (AD g.sh g.w g.h g.holes g.cells)):=by rw[hk 0 zo];exact h0
 by_cases hlj:j<x.length
 ·have hgj:=W5 hlj;have ej:=AE (k:=j) zo;have htx:=map_take (f:=λp=>(lowB g.cells p:Int)) hlj;have htk2:x.take (j+1)=x.take j++[x[j]]:=by rw[Xd,hgj];rfl
  rw[Xm hlj,GJ]at hme;have hlen:(BO g.cells (x.take j)).length=j:=by rw[Fz,Xp];omega
  generalize hp:x[j]=p at hgj htx htk2 hme;have i4:(g.cells.contains p&& !(x.take j).contains p)=false->rgsV g.cells lists= .tup [eLl [],.int .i64 130]:=λq=>i7 (by
   rw[heq,Ew,hme,q];simp)
  cases l7:g.cells.contains p with
  |false=>
   rw[i4 (by rw[l7];rfl)];simp only[eZ,eX,seval,W6,W8,X8,X4,X5,W3,Xc,Y8,Yp,lt_T hlj,hgj,l8,Tgr,s2,Af,AZ,A3,Ai,W4 hfc,W4 hr1,l7,tadd];exact Wk.tup (.cons (Wk.sl (.inr rfl)) (.cons (Wk.refl _) .nil))
  |true=>
   have hpm:p∈g.cells:=Xz.1 l7;have hcm:=Nk hr1 hsub hpm;have hmf:BN (.int .i64 (lowB g.cells p:Int)) (ctEs (BO g.cells (x.take j)) 0)=if(x.take j).contains p then some (.bool true)else none:=by rw[MU,hcm]
   cases hmt:(x.take j).contains p with
   |true=>
    rw[i4 (by rw[l7,hmt];rfl)];rw[hmt,X6 rfl]at hmf;simp only[eZ,eX,seval,W6,xE,X8,X4,X5,W3,Xc,Y8,Yp,lt_T hlj,hgj,l8,Tgr,s2,Af,AZ,A3,Ai,W4 hfc,W4 hr1,l7,hm,hmf,R8,xE,KT.is,CZ,tadd];exact Wk.tup (.cons (Wk.sl (.inr rfl)) (.cons (Wk.refl _) .nil))
   |false=>
    rw[hmt,X0 zd]at hmf;have x5:=ct_set (l:=BO g.cells (x.take j)) (x:=(lowB g.cells p:Int)) (by rw[hcm];exact hmt);rw[hlen]at x5;have htm:tkG 1 (n+1) (hset H1 n (.map (ctEs (BO g.cells (x.take j)++[(lowB g.cells p:Int)]) 0) (j+1))) tc:=htc.set (.inl zo);have q1:A6 (hset H1 n (.map (ctEs (BO g.cells (x.take j)++[(lowB g.cells p:Int)]) 0) (j+1))) 1 tc=True:=W4 htm.app;have q2:(j<=35184372088831)=True:=W4 zo;have q3:Aj (j+1) 8=True:=W4 (AY zo zd);have yn:∀k,(n=n1+k)=False:=λk=>W9 zo
    simp only[eZ,eX,seval,W6,xE,Option.getD_none,Option.isSome_none,X8,X4,X5,W3,Xc,Y8,Yp,lt_T hlj,hgj,l8,Tgr,s2,Af,AZ,A3,Ai,W4 hfc,W4 hr1,l7,hm,hmf,R8,xE,KT.is,CZ,ej,x5,q1,q2,q3,hlen,yn,fr1 hf1,tadd];generalize hG2:hset H1 n (.map (ctEs (BO g.cells (x.take j)++[(lowB g.cells p:Int)]) 0) (j+1))=H2 at htm;have m7:AQ H2 n1:=by rw[<-hG2];exact hf1.hset (X2 _) zo
    have l5:∀id,id<n->hget H2 id=hget H id:=λid d7=>by rw[<-hG2,AA _ _ _ _ zo];exact hk id d7
    have w8:hget H2 n=some (.map (ctEs (BO g.cells (x.take j)++[(lowB g.cells p:Int)]) 0) (j+1)):=by rw[<-hG2];exact AB ..
    have x7:BO g.cells (x.take (j+1))=BO g.cells (x.take j)++[(lowB g.cells p:Int)]:=htx;refine .mk ⟨j+1,.own (n1+3) 1,hset (AN H2 tc) (n1+3) .tok,n1+5⟩ ?_ ⟨hlj,zp,(AT htm m7).hset (m:=n1+5) zo zo,λid d7=>?_,?_,.inr (.inr ⟨n1+3,rfl,zo,AB ..⟩),.inl rfl,λq hq=>?_,?_,?_⟩ zp
    ·rw[x7,X7];rfl
    ·simp only[];rw[AA _ _ _ _ zo,AW htm (.inl zo)];exact l5 id d7
    ·simp only[];rw[AA _ _ _ _ zo,AW htm (.inl zo),x7];exact w8
    ·simp only[htk2]at hq;rcases XV.1 hq with q1|q1
     ·exact hsub q q1
     ·rw[Yg.1 q1];exact hpm
    ·simp only[];rw[htk2,hme,l7,hmt];rfl
    ·simp only[];rw[htk2,YO];refine⟨hnd,zw,λa ha b hb e=>?_⟩;rw[Yg]at hb;subst hb;subst e;rw[Xz.2 ha]at hmt;cases hmt
 have hj':j=x.length:=zo
 subst hj';rw[Xy,Xb]at hme;rw[Xb]at hm;have hlx:(BO g.cells (x.take x.length)).length=x.length:=by rw[Fz,Xb]
 by_cases hx0:x.length=0
 ·have i4:rgsV g.cells lists= .tup [eLl [],.int .i64 130]:=i7 (by rw[heq,Ew,hx0];simp);rw[i4];simp only[eZ,seval,W3,lt_F hlj,hlx,BB (show((x.length:Nat):Int)=0 by omega)];exact Wk.tup (.cons (Wk.sl (.inr rfl)) (.cons (Wk.refl _) .nil))
 have hEl:E.length<=64:=by
  have:=hE.len;simp only[W3,Xp]at this;omega
 have i8:tkG 1 1 H1 tl:=by
  rcases d6 with rfl|rfl|⟨id,rfl,h1,h2⟩
  ·exact .inl rfl
  ·exact .inr (.inl rfl)
  ·exact .inr (.inr ⟨id,rfl,h1,by rw[hk id (c8.lt h2)];exact h2⟩)
 have q1:A6 H1 1 tl=True:=W4 i8.app;have q2:(E.length<=35184372088831)=True:=W4 zo;have q3:Aj (E.length+1) 24=True:=W4 (AY zo zd);simp only[eZ,seval,W3,lt_F hlj,hlx,Ax (show ¬((x.length:Nat):Int)=0 by omega),e,q1,q2,q3,fr1 hf1];refine .mk ⟨i+1,E++[.sl tc ((BO g.cells x).map eI)],.own (n1+3) 1,hset (AN H1 tl) (n1+3) .tok,n1+5⟩ ?_ ⟨c6,zp,(AT i8 hf1).hset (m:=n1+5) zo zo,?_,.inr (.inr ⟨n1+3,rfl,zo,AB ..⟩),.inl rfl,?_,?_⟩ zp
 ·rw[Xb]
 ·simp only[];rw[AA _ _ _ _ zo,AW i8 (.inl zo)];exact l8
 ·simp only[];rw[hxe,X7];exact hE.app (.cons (Wk.sl (hec.imp id λq=>by rw[Y7.1 q];rfl)) .nil)
 ·simp only[];have e9:Dg g.cells x=true:=by rw[Ew,hme];simp [GJ];omega
  rw[heq,e9,XY]
section
def idxP(m:Nat)(p:Nat->Bool):List Int:=((List.range m).filter p).map λ(i:Nat)=>(i:Int)
variable {x sh n:Int} {m:Nat} {p:Nat->Bool}
theorem F2:x∈idxP m p↔∃i:Nat,i<m/\p i=true/\x=(i:Int):=by grind [idxP]
theorem Jy{i:Nat}:(i:Int)∈idxP m p↔i<m/\p i=true:=by grind [F2]
theorem ID(m:Nat)(p:Nat->Bool):List.Pairwise (λx y=>x<y) (idxP m p):=by
 unfold idxP;rw[Z7];exact(Z3.sublist Zd).imp λq=>zo
theorem Cr(m:Nat)(p:Nat->Bool):idxP (m+1) p=if p m=true then idxP m p++[(m:Int)]else idxP m p:=by grind [idxP,List.range_succ]
theorem Bx(m:Nat)(p:Nat->Bool):(idxP m p).length<=m:=by grind [idxP]
theorem Cg{q:Nat->Bool}(h:∀i,i<m->p i=q i):idxP m p=idxP m q:=by grind [idxP,List.filter_congr]
theorem Nl(m:Nat):idxP m (λ_=>true)=(List.range m).map λ(i:Nat)=>(i:Int):=by
 unfold idxP;rw[Z1.2 λ_ _=>rfl]
abbrev Spot:=Int×Int
def DB(sh w p:Int):Spot:=(if sh=2 then p.tmod w-(p.tdiv w).tdiv 2 else p.tmod w,p.tdiv w)
def AR(sh w:Int)(cells:List Int):List Spot:=cells.map (DB sh w)
def EM(sh:Int):List Spot:=(([(1,0),(-1,0),(0,1),(0,-1),(1,-1),(-1,1)]:List Spot)).take (if sh=1 then 4 else 6)
def addP(s d:Spot):Spot:=(s.1+d.1,s.2+d.2)
def EP(S:List Spot)(s:Spot):Option Int:=(S.findIdx? λx=>decide (x=s)).map λ(i:Nat)=>(i:Int)
def nbS(sh:Int)(S:List Spot)(s:Spot):List Int:=idxP S.length λb=>(EM sh).any λd=>decide (S[b]?=some (addP s d))
def nbsS(sh:Int)(S:List Spot):List (List Int):=S.map (nbS sh S)
def B6(S:List Spot)(f:Spot->Option Int)(n:Int):List Int:=idxP S.length λc=>decide (S[c]?.bind f=some n)
def Jz:List Int:=(List.range 49).map λ(k:Nat)=>(k:Int)-16
def Bi(S:List Spot)(f:Spot->Option Int):List (List Int):=(Jz.map (B6 S f)).filter λl=>!l.isEmpty
def LP(w:Int)(S:List Spot):List (List Int):=
 let a:=B6 S (λs=>if s.1=s.2 then some 0 else none) 0
 let b:=B6 S (λs=>if s.1+s.2=w-1 then some 0 else none) 0
 (if a.isEmpty then[]else[a])++(if b.isEmpty||decide (a=b)then[]else[b])
def famS(sh w h:Int)(S:List Spot)(f:Nat):List (List Int):=
 if f=0 then(idxP S.length λ_=>true).map λc=>[c]
 else if f=1 then Bi S λs=>some s.2
 else if f=2 then Bi S λs=>some s.1
 else if f=3 then(if sh=2 then Bi S λs=>some (s.1+s.2)else if w=h then LP w S else[])
 else if f=4 then nbsS sh S
 else if f=5 then(List.range S.length).map λ(c:Nat)=>idxP S.length λb=>decide (b=c)||((EM sh).any λd=>decide (S[b]?=(S[c]?).map λs=>addP s d))
 else if f=6 then(List.range S.length).flatMap λ(c:Nat)=>(((nbsS sh S)[c]?.getD []).filter λb=>decide ((c:Int)<b)).map λb=>[(c:Int),b]
 else[(idxP S.length λ_=>true)]
theorem Ey{S:List Spot}(hd:S.Nodup){s:Spot}{i:Nat}:EP S s=some (i:Int)↔S[i]?=some s:=by
 unfold EP;constructor
 ·intro h;obtain⟨j,h1,h2⟩:=Y6.1 h;have:j=i:=zo
  subst this;obtain⟨hl,h3,-⟩:=Yb.1 h1;rw[W5 hl,Xv h3]
 ·intro h;obtain⟨hl,h1⟩:=XR.1 h;have:S.findIdx? (λx=>decide (x=s))=some i:=by
   rw[Yb];refine⟨hl,by simp [h1],λj hj=>?_⟩;simp only[X1];intro h2;have:=(Yh.1 hd) j i zo hl hj;exact this (h2.trans h1.symm)
  rw[this];rfl
theorem LQ{S:List Spot}{s:Spot}(h:EP S s=some x):∃i:Nat,x=(i:Int):=by
 unfold EP at h;obtain⟨j,-,h2⟩:=Y6.1 h;exact⟨j,h2.symm⟩
theorem JG{S:List Spot}{s:Spot}:EP S s=none↔s∉S:=by grind [EP,Option.map_eq_none_iff,List.findIdx?_eq_none_iff,decide_eq_false_iff_not]
def Gg(sh:Int)(S:List Spot)(s:Spot):List Int:=(EM sh).filterMap λd=>EP S (addP s d)
theorem MZ(sh:Int):(EM sh).Nodup:=by
 unfold EM;split<;>decide
theorem Wx{s a b:Spot}(h:addP s a=addP s b):a=b:=by grind [addP,Prod.mk.injEq]
theorem Ma(sh:Int){S:List Spot}(hd:S.Nodup)(s:Spot):(Gg sh S s).Nodup:=by
 unfold Gg;have h:=MZ sh;generalize EM sh=L at h;induction L with
 |nil=>simp
 |cons d r ih=>
  obtain⟨h1,h2⟩:=YD.1 h;rw[List.filterMap_cons];cases he:EP S (addP s d)with
  |none=>exact ih h2
  |some x=>
   refine YD.2 ⟨λhm=>?_,ih h2⟩;obtain⟨e,he1,he2⟩:=List.mem_filterMap.1 hm;obtain⟨i,rfl⟩:=LQ he;have a:=(Ey hd).1 he;have b:=(Ey hd).1 he2;rw[a]at b;have:=Wx (Option.some.inj b);subst this;exact h1 he1
theorem SC{S:List Spot}(hd:S.Nodup){s:Spot}:x∈Gg sh S s↔x∈nbS sh S s:=by
 unfold Gg nbS;rw[List.mem_filterMap,F2];constructor
 ·rintro⟨d,hm,he⟩;obtain⟨i,rfl⟩:=LQ he;have h:=(Ey hd).1 he;exact⟨i,(XR.1 h).1,YS.2 ⟨d,hm,by simp [h]⟩,rfl⟩
 ·rintro⟨i,hi,ha,rfl⟩;obtain⟨d,hm,he⟩:=YS.1 ha;exact⟨d,hm,(Ey hd).2 (Xv he)⟩
theorem IE{l m:List Int}(hd:l.Nodup)(hm:List.Pairwise (λx y=>x<y) m)(h:∀x,x∈l↔x∈m):l.mergeSort leI=m:=by
 refine Jw ?_ hm λx=>?_
 ·have h1:=Fp l;have h2:(l.mergeSort leI).Nodup:=(YI l leI).nodup_iff.2 hd;rw[Yh]at h1⊢;intro i j hi hj hij;have a:=h1 i j hi hj hij;have b:=Yh.1 h2 i j hi hj hij;have b':¬(l.mergeSort leI)[i]=(l.mergeSort leI)[j]:=b;omega
 ·rw[(YI l leI).mem_iff];exact h x
theorem O7(sh:Int){S:List Spot}(hd:S.Nodup)(s:Spot):(Gg sh S s).mergeSort leI=nbS sh S s:=IE (Ma sh hd s) (ID ..) λx=>SC hd
theorem Nm{S:List Spot}{f:Spot->Option Int}{c:Nat}:(c:Int)∈B6 S f n↔∃s,S[c]?=some s/\f s=some n:=by
 unfold B6;rw[Jy];simp only[X1,Option.bind_eq_some_iff];constructor
 ·exact λh=>h.2
 ·grind
theorem Mb{S:List Spot}{f:Spot->Option Int}:(B6 S f n).isEmpty=false↔∃s∈S,f s=some n:=by
 rw[List.isEmpty_eq_false_iff_exists_mem];constructor
 ·rintro⟨x,hx⟩;obtain⟨i,-,-,rfl⟩:=F2.1 hx;obtain⟨s,h1,h2⟩:=Nm.1 hx;exact⟨s,XE h1,h2⟩
 ·rintro⟨s,h1,h2⟩;obtain⟨i,hi,h3⟩:=Xn.1 h1;exact⟨(i:Int),Nm.2 ⟨s,by rw[W5 hi,h3],h2⟩⟩
theorem SD:List.Pairwise (λx y=>x<y) Jz:=by
 unfold Jz;rw[Z7];exact Z3.imp λq=>zo
theorem UG:n∈Jz↔ -16<=n/\n<=32:=by
 unfold Jz;rw[XH];constructor
 ·rintro⟨k,hk,rfl⟩;have:=XK.1 hk;omega
 ·intro h;exact⟨(n+16).toNat,XK.2 zo,zo⟩
theorem UH{S:List Spot}{f:Spot->Option Int}{K:List Int}(hn:K.Nodup)(hk:∀n,n∈K↔∃s∈S,f s=some n)(hb:∀s∈S,∀n,f s=some n-> -16<=n/\n<=32):(K.mergeSort leI).map (B6 S f)=Bi S f:=by
 have h:K.mergeSort leI=Jz.filter λn=>!(B6 S f n).isEmpty:=by
  refine IE hn (SD.sublist Zd) λn=>?_
  rw[hk,Ym,UG,Y1,Mb];exact⟨λq=>let ⟨s,h1,h2⟩:=q;⟨hb s h1 n h2,q⟩,λq=>q.2⟩
 rw[h,Bi,List.filter_map];rfl
theorem UI{w p q:Int}(hw:1<=w)(hp:0<=p)(hq:0<=q)(h:DB sh w p=DB sh w q):p=q:=by
 unfold DB at h;simp only[Prod.mk.injEq]at h;obtain⟨h1,h2⟩:=h;have e1:=Int.tmod_add_mul_tdiv p w;have e2:=Int.tmod_add_mul_tdiv q w;rw[h2]at h1 e1;split at h1<;>omega
theorem IF{w:Int}{cells:List Int}(hw:1<=w)(hr:List.Pairwise (λx y=>x<y) cells)(h0:∀p∈cells,0<=p):(AR sh w cells).Nodup:=by
 unfold AR;rw[List.Nodup,Z7,Yh];intro i j hi hj hij e;have:=UI hw (h0 _ (Xa hi)) (h0 _ (Xa hj)) e;have:=Yh.1 hr i j hi hj hij;omega
end
def besS(sh:Int)(a b:Spot):Bool:=(EM sh).any λd=>decide (b=addP a d)
def besR(sh:Int)(a b:Spot):Bool:=
 let dx:=b.1-a.1
 let dy:=b.2-a.2
 if sh=1 then decide (dy=0)&&(decide (dx=1)||decide (dx= -1))||decide (dx=0)&&(decide (dy=1)||decide (dy= -1))
 else decide (dx=1)&&decide (dy=0)||decide (dx= -1)&&decide (dy=0)||decide (dx=0)&&decide (dy=1)||decide (dx=0)&&decide (dy= -1)||decide (dx=1)&&decide (dy= -1)||decide (dx= -1)&&decide (dy=1)
def Mc(sh:Int)(a b:Spot):besR sh a b=besS sh a b:=by
 obtain⟨a1,a2⟩:=a;obtain⟨b1,b2⟩:=b;rw[Xg];unfold besR besS EM addP;by_cases h:sh=1
 ·simp only[X6 h,List.take,Zr,List.any_nil,Xk,W7,X1,Prod.mk.injEq,Xh,Zy];omega
 ·simp only[X0 h,List.take,Zr,List.any_nil,Xk,W7,X1,Prod.mk.injEq,Xh,Zy];omega
def U8(sh:Int)(S:List Spot)(s:Spot):nbS sh S s=idxP S.length λb=>match S[b]? with
  |some t=>besS sh s t
  |none=>false:=by
 unfold nbS;refine Cg λi hi=>?_
 rw[W5 hi];unfold besS;simp only[Option.some.injEq]
def UJ(sh:Int)(a:Spot):besS sh a a=false:=by
 rw[<-Mc,YZ];intro h;unfold besR at h;by_cases h1:sh=1
 ·simp_all
 ·simp_all
def SE{y:Int}(h:0<=y):(y-y.tmod 2).tdiv 2=y.tdiv 2:=by grind
def symI(m:Nat):List Int:=(List.range m).map λ(i:Nat)=>(i:Int)
def EG{m:Nat}{s:Int}:s∈symI m↔0<=s/\s<m:=by
 unfold symI;rw[XH];constructor
 ·rintro⟨i,hi,rfl⟩;have:=XK.1 hi;omega
 ·intro h;exact⟨s.toNat,XK.2 zo,zo⟩
def O8(m:Nat)(l:List Int):List Int:=(symI m).filter λs=>!l.contains s
def chsE(m:Nat):Nat->List Int->List (List Int)
 |0,l=>[l]
 |j+1,l=>(O8 m l).flatMap λs=>chsE m j (l++[s])
def chs(m n:Nat):List (List Int):=chsE m n []
def chsR(m:Nat):Nat->List (List Int)
 |0=>[[]]
 |n+1=>(chsR m n).flatMap λl=>(O8 m l).map λs=>l++[s]
theorem LR(m:Nat):∀(j:Nat) (l:List Int),chsE m (j+1) l=(chsE m j l).flatMap λl'=>(O8 m l').map λs=>l'++[s]
 |0,l=>by simp [chsE,Z6,List.map_eq_flatMap]
 |j+1,l=>by
  rw[chsE];conv=>rhs;rw[chsE]
  rw[List.flatMap_assoc];congr 1;funext s;exact LR m j (l++[s])
theorem SF(m:Nat):∀n,chs m n=chsR m n
 |0=>rfl
 |n+1=>by
  unfold chs;rw[LR,chsR,<-SF m n];rfl
theorem Nn{m:Nat}:∀{j:Nat} {l x:List Int},x∈chsE m j l->x.length=l.length+j/\(l.Nodup->(∀s∈l,0<=s/\s<m)->x.Nodup/\∀s∈x,0<=s/\s<m)
 |0,l,x,h=>by
  simp only[chsE,Yg]at h;subst h;exact⟨rfl,λa b=>⟨a,b⟩⟩
 |j+1,l,x,h=>by
  simp only[chsE,List.mem_flatMap]at h;obtain⟨s,hs,hx⟩:=h;obtain⟨h1,h2⟩:=Nn hx;refine⟨by rw[h1,Xf];simp;omega,λhd hr=>?_⟩;unfold O8 at hs;rw[Ym,EG,Y1,Zo,XU]at hs;refine h2 ?_ ?_
  ·grind
  ·grind
def J0{m n:Nat}{x:List Int}(h:x∈chs m n):x.length=n/\x.Nodup/\∀s∈x,0<=s/\s<m:=by
 obtain⟨h1,h2⟩:=Nn h;obtain⟨h3,h4⟩:=h2 ZB zw;exact⟨by simpa using h1,h3,h4⟩
def at0(l:List Int)(i:Int):Int:=l[i.toNat]?.getD 0
def A5(bad:Int->Int->Bool):List Int->Bool
 |[]=>false
 |a::r=>(r.any λb=>decide (0<=a)&&decide (0<=b)&&bad a b)||A5 bad r
def cOwn(ls l:List Int):Nat:=(l.filter λs=>decide (0<=s)&&ls.contains s).length
def cOth(ls l:List Int):Nat:=(l.filter λs=>decide (0<=s)&& !ls.contains s).length
def cNon(l:List Int):Nat:=(l.filter λs=>decide (s<0)).length
def absI(a:Int):Int:=max a (-a)
def Bd(vals:List Int)(k n:Int)(ls l:List Int):Bool:=
 if k=1 then A5 (λa b=>decide (a=b)) l
 else if k=2 then decide (cOwn ls l=0)&&decide (cNon l=0)
 else if k=3 then A5 (λa b=>decide (absI (at0 vals a-at0 vals b)<n)) l
 else if k=4 then A5 (λa b=>decide (at0 vals b<=at0 vals a)) l
 else if k=6 then decide (n<(cOwn ls l:Int))||decide ((l.length:Int)-n<(cOth ls l:Int))
 else false
def F4(vals:List Int)(q:Cnd)(letters cells:List Int):Bool:=Bd vals q.k q.n (q.ls.map (at0 letters)) (q.cs.map (at0 cells))
def Eo(p:Prm)(letters cells:List Int):Bool:=decide (0<=at0 cells p.c)&& !(p.ls.map (at0 letters)).contains (at0 cells p.c)
def Fc(vals:List Int)(x:jq)(letters cells:List Int):List Bool:=(x.qs.map λq=>F4 vals q letters cells)++x.ps.map λp=>Eo p letters cells
def Bp(vals:List Int)(x:jq)(letters cells:List Int)(i:Int):Bool:=if i<0 then false else(Fc vals x letters cells)[i.toNat]?.getD false
def CW(vals:List Int)(x:jq)(letters cells:List Int):Bool:=(Fc vals x letters cells).all λb=>!b
structure ExtC(a b:List Int):Prop where
 len:a.length=b.length
 le:∀(i:Nat) s,a[i]?=some s->0<=s->b[i]?=some s
 neg:∀s∈a,-1<=s
def BG{l:List Int}{i:Int}(h0:0<=i)(h:i<l.length):l[i.toNat]?=some (at0 l i):=by
 unfold at0;rw[W5 zo];rfl
inductive Ext2:List Int->List Int->Prop
 |nil:Ext2 [] []
 |cons {a b:Int} {l m:List Int}:(0<=a->b=a)->Ext2 l m->Ext2 (a::l) (b::m)
theorem SG{a b:List Int}(h:ExtC a b):∀{cs:List Int},(∀c∈cs,0<=c/\c<a.length)->Ext2 (cs.map (at0 a)) (cs.map (at0 b))
 |[],_=>.nil
 |c::cs,hc=>by
  refine .cons (λh0=>?_) (SG h λd hd=>hc d (by simp [hd]));obtain⟨h1,h2⟩:=hc c zw;have e:=h.le c.toNat _ (BG h1 h2) h0;rw[BG h1 (by rw[<-h.len];exact h2)]at e;exact Option.some.inj e
theorem Ext2.length:∀{l m:List Int},Ext2 l m->l.length=m.length
 |_,_,.nil=>rfl
 |_,_,.cons _ t=>by rw[Xj,Xj,t.length]
theorem Ext2.any{p:Int->Bool}:∀{l m:List Int},Ext2 l m->(l.any λb=>decide (0<=b)&&p b)=true->(m.any λb=>decide (0<=b)&&p b)=true
 |_,_,.nil,h=>h
 |_,_,.cons (a:=a) (b:=b) hh t,h=>by
  rw[Zr,Xk]at h⊢;rcases h with h|h
  ·simp_all
  ·exact .inr (t.any h)
theorem Ez{bad:Int->Int->Bool}:∀{l m:List Int},Ext2 l m->A5 bad l=true->A5 bad m=true
 |_,_,.nil,h=>h
 |_,_,.cons (a:=a) (b:=b) (l:=l) (m:=m) hh t,h=>by
  unfold A5 at h⊢;rw[Xk]at h⊢;rcases h with h|h
  ·left;by_cases ha:0<=a
   ·rw[hh ha];have:=t.any (p:=λc=>bad a c) (by simpa [ha]using h);simpa [ha]using this
   ·simp [ha]at h
  ·exact .inr (Ez t h)
theorem No{ls:List Int}:∀{l m:List Int},Ext2 l m->cOwn ls l<=cOwn ls m
 |_,_,.nil=>X2 _
 |_,_,.cons (a:=a) (b:=b) hh t=>by
  have ih:=No (ls:=ls) t;unfold cOwn at ih⊢;rw[XO,XO];by_cases ha:0<=a
  ·rw[hh ha];split<;>(try simp only[Xj])<;>omega
  ·grind
theorem Np{ls:List Int}:∀{l m:List Int},Ext2 l m->cOth ls l<=cOth ls m
 |_,_,.nil=>X2 _
 |_,_,.cons (a:=a) (b:=b) hh t=>by
  have ih:=Np (ls:=ls) t;unfold cOth at ih⊢;rw[XO,XO];by_cases ha:0<=a
  ·rw[hh ha];split<;>(try simp only[Xj])<;>omega
  ·grind
theorem Nq:∀{l m:List Int},Ext2 l m->cNon l=0->l=m
 |_,_,.nil,_=>rfl
 |_,_,.cons (a:=a) (b:=b) hh t,h=>by
  unfold cNon at h;rw[XO]at h;by_cases ha:a<0
  ·simp [ha]at h
  ·have h1:decide (a<0)=false:=by simp [ha]
   rw[h1]at h;rw[hh zo,Nq t h]
def O9{vals:List Int}{k n:Int}{ls l m:List Int}(h:Ext2 l m)(hc:Bd vals k n ls l=true):Bd vals k n ls m=true:=by
 unfold Bd at hc⊢;have hl:=h.length;by_cases k1:k=1
 ·rw[X6 k1]at hc⊢;exact Ez h hc
 rw[X0 k1]at hc⊢;by_cases k2:k=2
 ·rw[X6 k2]at hc⊢;rw[W7,X1,X1]at hc;rw[<-Nq h hc.2];simp [hc]
 rw[X0 k2]at hc⊢;by_cases k3:k=3
 ·rw[X6 k3]at hc⊢;exact Ez h hc
 rw[X0 k3]at hc⊢;by_cases k4:k=4
 ·rw[X6 k4]at hc⊢;exact Ez h hc
 rw[X0 k4]at hc⊢;by_cases k6:k=6
 ·rw[X6 k6]at hc⊢;rw[Xk,X1,X1]at hc⊢;have h1:=No (ls:=ls) h;have h2:=Np (ls:=ls) h;omega
 ·rw[X0 k6]at hc;cases hc
def Md{p:Prm}{letters a b:List Int}(h:ExtC a b)(hc:0<=p.c/\p.c<a.length)(hd:Eo p letters a=true):Eo p letters b=true:=by
 unfold Eo at hd⊢;rw[W7,X1]at hd;have e:=h.le p.c.toNat _ (BG hc.1 hc.2) hd.1;rw[BG hc.1 (by rw[<-h.len];exact hc.2)]at e;rw[Option.some.inj e,W7,X1];exact hd
section
structure jx where
 k:Int
 a:Int
 deriving DecidableEq
def Nr:Int:=2
def Ns:Int:=1
def Gh(x:jq)(c:Int):Option Prm:=x.ps.find? λp=>decide (p.c=c)
def JH(m:Nat)(x:jq)(letters:List Int)(c:Int):List Int:=match Gh x c with
 |none=>symI m
 |some p=>(symI m).filter λs=>(p.ls.map (at0 letters)).contains s
def begC(x:jq)(letters:List Int):List Int:=(List.replicate x.cs.length (-1)).set x.c.toNat (at0 letters x.l)
def seqT(f:Int->List jx->Option (List jx)):List Int->List jx->Option (List jx)
 |[],l=>some l
 |s::r,l=>(f s l).bind (seqT f r)
def CJ(vals:List Int)(x:jq)(letters:List Int):Nat->List Int->List jx->Option (List jx)
 |_,_,[]=>none
 |f,cells,n::l=>
  if n.k=Nr then(if Bp vals x letters cells n.a then some l else none)
  else if n.k=Ns/\0<=n.a/\n.a<cells.length/\at0 cells n.a<0 then
   match f with
   |0=>none
   |f+1=>seqT (λs l=>CJ vals x letters f (cells.set n.a.toNat s) l) (JH vals.length x letters n.a) l
  else none
def Cs(vals:List Int)(x:jq)(trees:List (List jx)):Bool:=
 decide ((chs vals.length x.ls.length).length=trees.length)&&(((chs vals.length x.ls.length).zip trees).all λq=>decide (CJ vals x q.1 x.cs.length (begC x q.1) q.2=some []))
def tryP(vals:List Int)(x:jq)(letters:List Int):Nat->Nat->List Int->Bool
 |j,i,cells=>if CW vals x letters cells then(match j with
   |0=>true
   |j+1=>if(i:Int)=x.c then tryP vals x letters j (i+1) cells else(symI vals.length).any λs=>tryP vals x letters j (i+1) (cells.set i s))
  else false
def FG(vals:List Int)(x:jq):Bool:=(chs vals.length x.ls.length).all λletters=>!tryP vals x letters x.cs.length 0 (begC x letters)
structure Refutes(vals:List Int)(x:jq)(letters c:List Int):Prop where
 len:c.length=x.cs.length
 rng:∀s∈c,0<=s/\s<vals.length
 con:at0 c x.c=at0 letters x.l
 ok:CW vals x letters c=true
variable {vals letters a b:List Int} {x:jq}
theorem GL(hx:OKL x)(h:ExtC a b)(hl:a.length=x.cs.length){i:Nat}(hi:(Fc vals x letters a)[i]?=some true):(Fc vals x letters b)[i]?=some true:=by
 unfold Fc at hi⊢;rw[List.getElem?_append]at hi⊢;simp only[W3]at hi⊢;split at hi
 ·rename_i c6;rw[X6 c6];rw[Xc,Y6]at hi⊢;obtain⟨q,h1,h2⟩:=hi;refine⟨q,h1,?_⟩;have hq:=Ro (hx.qs q (XE h1));refine O9 (SG h λc hc=>?_) h2;have:=X9.1 (FZ hq.cs) c hc;simp only[W7,X1]at this;rw[hl];exact this
 ·rename_i c6;rw[X0 c6];rw[Xc,Y6]at hi⊢;obtain⟨p,h1,h2⟩:=hi;refine⟨p,h1,Md h ?_ h2⟩;have:=X9.1 (FZ hx.pc) p.c (XH.2 ⟨p,XE h1,rfl⟩);simp only[W7,X1]at this;rw[hl];exact this
theorem PA(hx:OKL x)(h:ExtC a b)(hl:a.length=x.cs.length)(hb:CW vals x letters b=true):CW vals x letters a=true:=by
 unfold CW at hb⊢;rw[X9]at hb⊢;intro c hc;cases c with
 |false=>rfl
 |true=>
  obtain⟨i,hi,h1⟩:=Xn.1 hc;have h2:=GL hx h hl (vals:=vals) (letters:=letters) (i:=i) (by rw[W5 hi,h1]);have:=hb true (XE h2);cases this
theorem SH{i:Nat}{s:Int}(h:ExtC a b)(hb:b[i]?=some s)(hs:0<=s)(ha:∀t,a[i]?=some t->t<0):ExtC (a.set i s) b:=by
 have hi:i<b.length:=(XR.1 hb).1;refine⟨by rw[YC];exact h.len,λj t hj h0=>?_,λt ht=>?_⟩
 ·rw[Yq]at hj;split at hj
  ·rename_i e;subst e;split at hj
   ·cases hj;exact hb
   ·cases hj
  ·exact h.le j t hj h0
 ·rcases YX ht with q|q
  ·exact h.neg t q
  ·omega
theorem E4(x:jq)(letters:List Int):(begC x letters).length=x.cs.length:=by unfold begC;simp
theorem SI{c:List Int}(hx:OKL x)(hl0:0<=at0 letters x.l)(h:Refutes vals x letters c):ExtC (begC x letters) c:=by
 have m8:=hx.c;refine⟨by rw[E4,h.len],λi s hi h0=>?_,λs hs=>?_⟩
 ·unfold begC at hi;rw[Yq]at hi;split at hi
  ·rename_i e;split at hi
   ·cases hi;have:=BG (l:=c) (i:=x.c) m8.1 (by rw[h.len];exact m8.2);rw[<-e,this,h.con]
   ·cases hi
  ·grind
 ·grind [begC]
theorem Me{c:List Int}(hx:OKL x)(e9:CW vals x letters c=true){i:Int}{s:Int}(hs:at0 c i=s)(h0:0<=s)(hm:s<vals.length):s∈JH vals.length x letters i:=by
 unfold JH;have hsy:s∈symI vals.length:=EG.2 ⟨h0,hm⟩;split
 ·exact hsy
 ·rename_i p hp;rw[Ym];refine⟨hsy,?_⟩;unfold Gh at hp;have h1:=List.mem_of_find?_eq_some hp;have h2:=List.find?_some hp;simp only[X1]at h2;unfold CW at e9;have:=X9.1 e9 (Eo p letters c) (XV.2 (.inr (XH.2 ⟨p,h1,rfl⟩)));unfold Eo at this;rw[h2,hs]at this;simp only[Y1,Z4,XU,YE]at this;exact this.resolve_left λq=>q h0
theorem JI(hx:OKL x):∀(f:Nat) (cells:List Int) (l r:List jx),CJ vals x letters f cells l=some r->cells.length=x.cs.length->∀c,Refutes vals x letters c->¬ExtC cells c
 |f,cells,[],r,h,_,c,hc=>by rw[CJ]at h;cases h
 |0,cells,n::l,r,h,hl,c,hc=>by
  intro he;rw[CJ]at h;split at h
  ·split at h
   ·rename_i hk hcomp;unfold Bp at hcomp;split at hcomp
    ·cases hcomp
    ·have h1:(Fc vals x letters cells)[n.a.toNat]?=some true:=by
      cases q:(Fc vals x letters cells)[n.a.toNat]? with
      |none=>rw[q]at hcomp;cases hcomp
      |some b=>rw[q]at hcomp;simp only[X8]at hcomp;rw[hcomp]
     have h2:=GL hx he hl h1;have:=X9.1 hc.ok true (XE h2);cases this
   ·cases h
  ·split at h<;>cases h
 |f+1,cells,n::l,r,h,hl,c,hc=>by
  intro he;rw[CJ]at h;split at h
  ·split at h
   ·rename_i hk hcomp;unfold Bp at hcomp;split at hcomp
    ·cases hcomp
    ·have h1:(Fc vals x letters cells)[n.a.toNat]?=some true:=by
      cases q:(Fc vals x letters cells)[n.a.toNat]? with
      |none=>rw[q]at hcomp;cases hcomp
      |some b=>rw[q]at hcomp;simp only[X8]at hcomp;rw[hcomp]
     have h2:=GL hx he hl h1;have:=X9.1 hc.ok true (XE h2);cases this
   ·cases h
  ·split at h
   ·rename_i hk hsp;obtain⟨-,h0,h1,h2⟩:=hsp;have m9:n.a<c.length:=by rw[<-he.len];exact h1
    have hg:=BG h0 m9;have hmem:=XE hg;have hr:=hc.rng _ hmem;have hcon:=Me hx hc.ok (i:=n.a) rfl hr.1 hr.2;have hseq:∀(ss:List Int) (l r:List jx),seqT (λs l=>CJ vals x letters f (cells.set n.a.toNat s) l) ss l=some r->∀s∈ss,∃l1 r1,CJ vals x letters f (cells.set n.a.toNat s) l1=some r1:=by
     intro ss;induction ss with
     |nil=>intro l r _ s hs;cases hs
     |cons t ss ih=>
      intro l r hq s hs;rw[seqT]at hq;obtain⟨l1,q1,q2⟩:=Option.bind_eq_some_iff.1 hq;rcases Xw.1 hs with e|e
      ·subst e;exact⟨l,l1,q1⟩
      ·exact ih l1 r q2 s e
    obtain⟨l1,r1,ht⟩:=hseq _ _ _ h _ hcon;refine JI hx f _ l1 r1 ht (by rw[YC];exact hl) c hc (SH he hg hr.1 λt ht=>?_);have hgc:=BG h0 h1;rw[hgc]at ht;cases ht;exact h2
   ·cases h
theorem Dx(hx:OKL x)(hl:letters∈chs vals.length x.ls.length):0<=at0 letters x.l/\at0 letters x.l<vals.length:=by
 obtain⟨h1,-,h3⟩:=J0 hl;exact h3 _ (XE (BG hx.l.1 (by rw[h1];exact hx.l.2)))
theorem Mf{trees:List (List jx)}(hx:OKL x)(h:Cs vals x trees=true)(hl:letters∈chs vals.length x.ls.length):∀c,¬Refutes vals x letters c:=by
 intro c hc;unfold Cs at h;rw[W7,X1,X9]at h;obtain⟨i,hi,h1⟩:=Xn.1 hl;have hz:(letters,trees[i]'zo)∈(chs vals.length x.ls.length).zip trees:=by grind [List.mem_iff_getElem,List.length_zip]
 have:=Xv (h.2 _ hz);exact JI hx _ _ _ _ this (E4 ..) c hc (SI hx (Dx hx hl).1 hc)
end
section
structure Sofar(vals:List Int)(x:jq)(letters:List Int)(i:Nat)(cells:List Int):Prop where
 len:cells.length=x.cs.length
 con:at0 cells x.c=at0 letters x.l
 lo:∀(k:Nat) s,cells[k]?=some s->k<i\/(k:Int)=x.c->0<=s/\s<vals.length
 hi:∀(k:Nat) s,cells[k]?=some s->i<=k->(k:Int)≠x.c->s= -1
variable {vals letters cells:List Int} {x:jq} {i:Nat}
theorem SJ(hx:OKL x)(hl:letters∈chs vals.length x.ls.length):Sofar vals x letters 0 (begC x letters):=by
 have hb:=Dx hx hl;have hc:=hx.c;refine⟨E4 ..,?_,λk s hk h=>?_,λk s hk _ d9=>?_⟩
 ·unfold begC at0;rw[Yq,X6 rfl,X6 (by rw[Yn];omega)];rfl
 ·rcases h with h|h
  ·omega
  ·unfold begC at hk;rw[Yq,X6 zo]at hk;split at hk
   ·cases hk;exact hb
   ·cases hk
 ·unfold begC at hk;rw[Yq,X0 zo,List.getElem?_replicate]at hk;split at hk
  ·cases hk;rfl
  ·cases hk
theorem LS{s:Int}(h:Sofar vals x letters i cells)(hx:OKL x)(d9:(i:Int)≠x.c)(h0:0<=s)(hm:s<vals.length):Sofar vals x letters (i+1) (cells.set i s):=by
 have hc:=hx.c;refine⟨by rw[YC];exact h.len,?_,λk t hk hq=>?_,λk t hk hle hq=>?_⟩
 ·have:=h.con;unfold at0 at this⊢;rw[Yq,X0 zo];exact this
 ·rw[Yq]at hk;split at hk
  ·split at hk
   ·cases hk;exact⟨h0,hm⟩
   ·cases hk
  ·exact h.lo k t hk zo
 ·rw[Yq,X0 zo]at hk;exact h.hi k t hk zo hq
theorem PB(h:Sofar vals x letters i cells)(he:(i:Int)=x.c):Sofar vals x letters (i+1) cells:=
 ⟨h.len,h.con,λk t hk hq=>h.lo k t hk zo,λk t hk hle hq=>h.hi k t hk zo hq⟩
theorem LT(h:Sofar vals x letters i cells):∀s∈cells,-1<=s:=by
 intro s hs;obtain⟨k,hk,e⟩:=Xn.1 hs;have hk':cells[k]?=some s:=by rw[W5 hk,e]
 by_cases q:k<i\/(k:Int)=x.c
 ·have:=h.lo k s hk' q;omega
 ·have:=h.hi k s hk' zo zo;omega
theorem J1(hx:OKL x):∀(j i:Nat) (cells:List Int),i+j=x.cs.length->Sofar vals x letters i cells->(tryP vals x letters j i cells=true↔∃c,Refutes vals x letters c/\ExtC cells c)
 |0,i,cells,hij,hs=>by
  have c7:∀s∈cells,0<=s/\s<vals.length:=λs hm=>by
   obtain⟨k,hk,e⟩:=Xn.1 hm;have:=hs.len;exact hs.lo k s (by rw[W5 hk,e]) zo
  have hfull:∀c,ExtC cells c->c=cells:=λc he=>by
   refine Z5 λk=>?_
   by_cases hk:k<cells.length
   ·have h1:=W5 hk;rw[h1];exact he.le k _ h1 (c7 _ (Xa hk)).1
   ·simp_all [he.len]
  rw[tryP];constructor
  ·intro h;have hb:CW vals x letters cells=true:=by
    split at h
    ·assumption
    ·cases h
   exact⟨cells,⟨hs.len,c7,hs.con,hb⟩,rfl,λ_ _ h _=>h,LT hs⟩
  ·rintro⟨c,hc,he⟩;have:=hfull c he;subst this;rw[X6 hc.ok]
 |j+1,i,cells,hij,hs=>by
  rw[tryP];have hmono:∀c,Refutes vals x letters c->ExtC cells c->CW vals x letters cells=true:=λc hc he=>PA hx he hs.len hc.ok
  by_cases hi:(i:Int)=x.c
  ·have ih:=J1 hx j (i+1) cells zo (PB hs hi);constructor
   ·simp_all
   ·grind
  ·have t8:i<cells.length:=by have:=hs.len;omega
   have hg:cells[i]?=some (-1):=by
    have:=W5 t8;rw[this,hs.hi i _ this (X2 _) hi]
   constructor
   ·intro h;by_cases hb:CW vals x letters cells=true
    ·rw[X6 hb]at h;simp only[X0 hi]at h;obtain⟨s,hm,h1⟩:=YS.1 h;have hr:=EG.1 hm;obtain⟨c,hc,he⟩:=(J1 hx j (i+1) _ zo (LS hs hx hi hr.1 hr.2)).1 h1;refine⟨c,hc,by have:=he.len;rw[YC]at this;exact this,λk t hk h0=>?_,LT hs⟩;by_cases e:i=k
     ·subst e;rw[hg]at hk;cases hk;omega
     ·exact he.le k t (by rw[Yq,X0 e];exact hk) h0
    ·rw[X0 hb]at h;cases h
   ·rintro⟨c,hc,he⟩;rw[X6 (hmono c hc he)];simp only[X0 hi];have hic:i<c.length:=by rw[<-he.len];exact t8
    have hr:=hc.rng _ (Xa hic);rw[YS];refine⟨c[i],EG.2 hr,(J1 hx j (i+1) _ zo (LS hs hx hi hr.1 hr.2)).2 ⟨c,hc,SH he (W5 hic) hr.1 λt ht=>?_⟩⟩;rw[hg]at ht;cases ht;omega
theorem SK(hx:OKL x)(hl:letters∈chs vals.length x.ls.length):tryP vals x letters x.cs.length 0 (begC x letters)=true↔∃c,Refutes vals x letters c:=by
 rw[J1 hx _ _ _ (XP _) (SJ hx hl)];exact⟨λ⟨c,hc,_⟩=>⟨c,hc⟩,λ⟨c,hc⟩=>⟨c,hc,SI hx (Dx hx hl).1 hc⟩⟩
theorem LU(hx:OKL x):FG vals x=true↔∀letters∈chs vals.length x.ls.length,∀c,¬Refutes vals x letters c:=by
 unfold FG;rw[X9];constructor
 ·intro h letters hl c hc;have h1:=h letters hl;rw[Y1]at h1;have:=(SK hx hl).2 ⟨c,hc⟩;rw[h1]at this;cases this
 ·intro h letters hl;rw[Y1];cases q:tryP vals x letters x.cs.length 0 (begC x letters)with
  |false=>rfl
  |true=>
   obtain⟨c,hc⟩:=(SK hx hl).1 q;exact absurd hc (h letters hl c)
theorem PC{trees:List (List jx)}(hx:OKL x)(h:Cs vals x trees=true):FG vals x=true:=
 (LU hx).2 λletters hl c=>Mf hx h hl c
end
structure Some1(vals:List Int)(x:jq)(letters cells:List Int):Prop where
 len:cells.length=x.cs.length
 con:at0 cells x.c=at0 letters x.l
 rng:∀s∈cells,-1<=s/\s<vals.length
 let0:0<=at0 letters x.l
def negs(cells:List Int):Nat:=(cells.filter λs=>decide (s<0)).length
theorem Nt:∀{cells:List Int} {i:Nat} {s t:Int},cells[i]?=some t->t<0->0<=s->negs (cells.set i s)+1=negs cells
 |[],_,_,_,h,_,_=>by cases h
 |a::l,0,s,t,h,ht,hs=>by
  cases h;unfold negs;rw[List.set_cons_zero,XO,XO,X0 (by simpa using hs),X6 (by simpa using ht)];rfl
 |a::l,i+1,s,t,h,ht,hs=>by
  have ih:=Nt (cells:=l) (i:=i) (s:=s) (t:=t) (by simpa using h) ht hs;unfold negs at ih⊢;rw[List.set_cons_succ,XO,XO];split<;>(try simp only[Xj])<;>omega
def UK{x:jq}{letters:List Int}:negs (begC x letters)<=x.cs.length:=by grind [negs,E4]
mutual
inductive View(H:AC):Fs->Fs->Prop
 |wk {a b:Fs}:Wk b a->View H a b
 |ref {id e off len cap:Nat} {l:List Fs}:hget H id=some (.arr e l)->off+len<=l.length->len<=cap->View H (.sl (.none e) ((l.drop off).take len)) (.ref id e off len cap)
 |ptr {id off:Nat} {cs:List Fs}:hget H id=some (.box cs)->View H (.ep (cs.drop off)) (.ptr id off)
 |pw {id off:Nat} {cs us:List Fs}:hget H id=some (.box cs)->Views H us (cs.drop off)->View H (.ep us) (.ptr id off)
 |agg {us bs:List Fs}:Views H us bs->View H (.agg us) (.agg bs)
 |fn {f:Fn} {us bs cs ds:List Fs}:Views H us bs->Views H cs ds->View H (.fn f us cs) (.fn f bs ds)
inductive Views(H:AC):List Fs->List Fs->Prop
 |nil:Views H [] []
 |cons {a b:Fs} {us bs:List Fs}:View H a b->Views H us bs->Views H (a::us) (b::bs)
end
mutual
def Fs.flat:Fs->Prop
 | .bool _| .int _ _| .str _| .nilp| .nilfn| .nilifc| .nilmp=>True
 | .agg cs=>flats cs
 | .tup cs=>flats cs
 |_=>False
def flats:List Fs->Prop
 |[]=>True
 |a::us=>a.flat/\flats us
end
mutual
theorem Nu{g g':q8}:∀(a:Fs) (v:Value),a.flat->VRel g a v->VRel g' a v
 | .bool _,_,_,h=>h
 | .int _ _,_,_,h=>h
 | .str _,_,_,h=>h
 | .nilp,_,_,h=>h
 | .nilfn,_,_,h=>h
 | .nilifc,_,_,h=>h
 | .nilmp,_,_,h=>h
 | .agg cs,_,hf,h=>by
  obtain⟨vs,rfl,h1,h2⟩:=h;exact⟨vs,rfl,flats_rel cs _ hf h1,h2⟩
 | .tup cs,_,hf,h=>by
  obtain⟨vs,rfl,h1⟩:=h;exact⟨vs,rfl,flats_rel cs _ hf h1⟩
 | .ptr _ _,_,hf,_=>hf.elim
 | .ep _,_,hf,_=>hf.elim
 | .gp _,_,hf,_=>hf.elim
 | .sl _ _,_,hf,_=>hf.elim
 | .ref _ _ _ _ _,_,hf,_=>hf.elim
 | .ap _ _ _ _,_,hf,_=>hf.elim
 | .fn _ _ _,_,hf,_=>hf.elim
 | .ifc _ _,_,hf,_=>hf.elim
 | .mp _,_,hf,_=>hf.elim
 | .up,_,hf,_=>hf.elim
theorem flats_rel{g g':q8}:∀(us:List Fs) (vs:List Value),flats us->VRels g us vs->VRels g' us vs
 |[],_,_,h=>h
 |a::us,_,hf,h=>by
  obtain⟨v,r,rfl,h1,h2⟩:=h;exact⟨v,r,rfl,Nu a v hf.1 h1,flats_rel us r hf.2 h2⟩
end
def allσ(w:World):Nat->Nat->Option Value:=λb o=>w.cell? ⟨b,o,none⟩
section
variable {g:q8} {H:AC} {n:Nat} {w:World}
theorem F5(R:qw g H n w):Jb 0 g ⟨λ_=>none,allσ w⟩:=⟨λ_ _ h=>absurd h (XN _),λb o v h=>R.σw b o v h⟩
theorem JJ{f:Nat->Option Value}:∀(cs:List Fs) (o k:Nat),PStab g f o cs->PStab g f (o+k) (cs.drop k)
 |[],o,k,_=>by rw[List.drop_nil];trivial
 |a::cs,o,0,h=>h
 |a::cs,o,k+1,h=>by rw[List.drop_succ_cons,show o+(k+1)=o+1+k by omega];exact JJ cs (o+1) k h.2
mutual
theorem Nv(R:qw g H n w):∀{a b:Fs} {v:Value},View H a b->a.under 0->VRel g b v->VRel ⟨λ_=>none,allσ w⟩ a v
 |a,b,v,.wk h,hu,hv=>VRel.agree (n:=0) (F5 R) a v hu (h g v hv)
 |_,_,v,.ref (id:=id) (e:=e) (off:=off) (len:=len) (cap:=cap) (l:=l) h1 h2 h3,hu,hv=>by
  obtain⟨L,k1,k2,rfl⟩:=hv;obtain⟨L',c,ty,j1,j2,j3,j4,j5,j6⟩:=R.obj id _ h1;rw[k1]at j1;cases j1;have hlen:((l.drop off).take len).length=len:=by simp;omega
  have hst:=Stab.take len _ _ (Stab.drop off _ _ j6);rw[XP]at hst;refine .inr ⟨trivial,L.blk,off*e,cap,⟨none,by rw[hlen],.inl rfl⟩,by rw[hlen];exact h3,?_,trivial⟩;have hst2:Stab g e (allσ w L.blk) (off*e) ((l.drop off).take len):=Stab.mono (q8.le.refl g) (λo x hx=>by
   show w.cell? ⟨L.blk,o,none⟩=some x;rw[Ao j4];exact hx) e _ _ hst
  exact Stab.agree (n:=0) (F5 R) (λo x h=>h) e _ _ hu.2 hst2
 |_,_,v,.ptr (id:=id) (off:=off) (cs:=cs) h1,hu,hv=>by
  obtain⟨L,k1,k2,rfl⟩:=hv;obtain⟨L',c,ty,j1,j2,j3,j4,j5,j6⟩:=R.obj id _ h1;rw[k1]at j1;cases j1;refine⟨L.blk,off,rfl,?_⟩;have hd:∀(cs:List Fs) (o k:Nat),PStab g (λo=>c[o]?) o cs->PStab g (λo=>c[o]?) (o+k) (cs.drop k):=by
   intro cs;induction cs with
   |nil=>intro o k _;rw[List.drop_nil];trivial
   |cons a cs ih=>
    intro o k h;cases k with
    |zero=>exact h
    |succ k=>rw[List.drop_succ_cons,show o+(k+1)=o+1+k by omega];exact ih (o+1) k h.2
  have h2:=hd cs 0 off j6;rw[XP]at h2;have h3:PStab g (allσ w L.blk) off (cs.drop off):=PStab.mono (q8.le.refl g) (λo x hx=>by
   show w.cell? ⟨L.blk,o,none⟩=some x;rw[Ao j4];exact hx) _ _ h2
  exact PStab.agree (n:=0) (F5 R) (λo x h=>h) _ _ hu h3
 |_,_,v,.pw (id:=id) (off:=off) (cs:=cs) h1 hw,hu,hv=>by
  obtain⟨L,k1,k2,rfl⟩:=hv;obtain⟨L',c,ty,j1,j2,j3,j4,j5,j6⟩:=R.obj id _ h1;rw[k1]at j1;cases j1;refine⟨L.blk,off,rfl,?_⟩;have h2:=JJ cs 0 off j6;rw[XP]at h2;exact pstab_rel R hw hu (PStab.mono (q8.le.refl g) (λo x hx=>by
   show w.cell? ⟨L.blk,o,none⟩=some x;rw[Ao j4];exact hx) _ _ h2)
 |_,_,v,.agg h,hu,hv=>by
  obtain⟨vs,rfl,h1,h2⟩:=hv;exact⟨vs,rfl,views_rel R h hu h1,h2⟩
 |_,_,v,.fn h k,hu,hv=>by
  obtain⟨x,c,rfl,h1,h2⟩:=hv;exact⟨x,c,rfl,views_rel R h hu.1 h1,views_rel R k hu.2 h2⟩
theorem views_rel(R:qw g H n w):∀{us bs:List Fs} {vs:List Value},Views H us bs->unders 0 us->VRels g bs vs->VRels ⟨λ_=>none,allσ w⟩ us vs
 |_,_,vs,.nil,_,hv=>hv
 |_,_,vs,.cons h t,hu,hv=>by
  obtain⟨v,r,rfl,h1,h2⟩:=hv;exact⟨v,r,rfl,Nv R h hu.1 h1,views_rel R t hu.2 h2⟩
theorem pstab_rel(R:qw g H n w):∀{us bs:List Fs} {f:Nat->Option Value} {o:Nat},Views H us bs->unders 0 us->PStab g f o bs->PStab ⟨λ_=>none,allσ w⟩ f o us
 |_,_,f,o,.nil,_,_=>trivial
 |_,_,f,o,.cons h t,hu,hp=>by
  obtain⟨⟨v,h1,h2,h4⟩,h3⟩:=hp;exact⟨⟨v,h1,Nv R h hu.1 h2,h4⟩,pstab_rel R t hu.2 h3⟩
end
end
def Pur.viewF{P:Program}{f:FuncId}{args args':List Fs}{r:Fs}{H:AC}(h:Pur P f args r)(hf:∀g g' v,VRel g r v->VRel g' r v)(hv:Views H args args')(n:Nat):An P f args' H n r:=by
 obtain⟨ha,hr,o6,hc⟩:=h;refine⟨o6,λg w vs R hvs=>?_⟩;have R0:qw ⟨λ_=>none,allσ w⟩ hnil 0 w:=
  {σw:=λb o v h=>h
   obj:=λ_ _ h=>by simp [hget,hnil]at h
   dom:=λ_ _ h=>by simp at h
   hd:=λ_ _ h=>by simp [hget,hnil]at h
   ap:=λ_ _ _ _ _ _ _ h=>by simp [hget,hnil]at h
   un:=λ_ _ _ _ h=>by simp [hget,hnil]at h
   gl:=λi cs h=>PStab.agree (n:=0) (F5 R) (λo x h=>R.σw i o x h) cs 0 (If i cs h) (R.gl i cs h)
   gz:=R.gz}
 refine(hc _ w vs R0 (views_rel R hv ha hvs)).mono ?_;rintro e w' ⟨g',out,H',n',⟨v,rfl,hw⟩,he,hR',-,ht⟩;cases e with
 |panicked c=>exact he.elim
 |outgrown=>exact he.elim
 |returned x=>
  have hx:VRel g' r x:=hw _ _ he;have keep:∀(b:Nat) ob,w.heap[b]?=some ob->w'.heap[b]?=some ob:=by
   intro b ob hb;have hk:=ht.kept b ob hb;cases ob<;>first|exact hk.resolve_left DM|skip
   obtain⟨c',h1,h2,h3⟩:=hk;rw[h1];congr 2;exact Array.ext_getElem? λi=>h3 i DM
  have inH:∀b o v,w.cell? ⟨b,o,none⟩=some v->b<w.heap.size:=by
   intro b o v hc;unfold World.cell? at hc;split at hc
   ·rename_i hb;exact(Xo.1 hb).1
   ·cases hc
  let σ2:Nat->Nat->Option Value:=λb o=>if b<w.heap.size then g.σ b o else g'.σ b o
  have old:∀b o v,g.σ b o=some v->σ2 b o=some v:=λb o v hh=>by
   simp only[σ2];rw[X6 (inH b o v (R.σw b o v hh))];exact hh
  have gle:g.le ⟨g.β,σ2⟩:=⟨λ_ _ h=>h,old⟩;have hcell:∀b o v,b<w.heap.size->w.cell? ⟨b,o,none⟩=some v->w'.cell? ⟨b,o,none⟩=some v:=by
   intro b o v hb hh;have e1:=Yr hb;have e2:=keep b _ e1;unfold World.cell? at hh⊢;simp only[e1,e2]at hh⊢;exact hh
  refine⟨⟨g.β,σ2⟩,.ret r,H,n,⟨rfl,rfl,rfl⟩,hf _ _ x hx,?_,X2 _,?_⟩
  ·refine⟨?_,?_,?_,R.hd,R.ap,?_,R.gl.mono gle,hR'.gz⟩
   ·intro b o v hh;simp only[σ2]at hh;split at hh
    ·rename_i hb;exact hcell b o v hb (R.σw b o v hh)
    ·exact hR'.σw b o v hh
   ·intro id ob hob;have ho:=R.obj id ob hob;cases ob with
    |box cs=>obtain⟨L,c,e,h1,h2,h3,h4,h5,h6⟩:=ho;exact⟨L,c,e,h1,h2,h3,keep _ _ h4,h5,PStab.mono gle (λ_ _ h=>h) cs 0 h6⟩
    |tok=>obtain⟨L,h1,h2⟩:=ho;exact⟨L,h1,λc6=>let ⟨c,e,h3,h4⟩:=h2 c6;⟨c,e,keep _ _ h3,h4⟩⟩
    |arr esz l=>obtain⟨L,c,e,h1,h2,h3,h4,h5,h6⟩:=ho;exact⟨L,c,e,h1,h2,h3,keep _ _ h4,h5,Stab.mono gle (λ_ _ h=>h) esz l 0 h6⟩
    |frz esz l=>obtain⟨L,h1,h2,h3⟩:=ho;exact⟨L,h1,h2,Stab.mono gle (λo x hx=>old L.blk o x hx) esz l 0 h3⟩
    |map es c=>obtain⟨L,es',h1,h2,h3,h4,h5⟩:=ho;exact⟨L,es',h1,h2,h3,keep _ _ h4,MRel.mono gle _ _ h5⟩
    |sit s pos=>obtain⟨L,h1,h2,h3,h4⟩:=ho;exact⟨L,h1,h2,h3,keep _ _ h4⟩
    |mit m c seen last=>obtain⟨L,Lm,h1,h2,h3,h4,h5⟩:=ho;exact⟨L,Lm,h1,h2,h3,keep _ _ h4,h5⟩
    |lp x=>obtain⟨L,h1,h2,h3,h4,r,k1,k2,k3,k4,k5,k6,k7,k8⟩:=ho;exact⟨L,h1,h2,h3,h4,r,keep _ _ k1,k2,k3,k4,k5,k6,BU.mono gle k7,k8⟩
    |dead=>trivial
   ·intro id L hL;exact⟨(R.dom id L hL).1,λc6=>Yt ((R.dom id L hL).2 c6) ht.size⟩
   ·intro id ob L o q1 q2 q3 q4 q5;have hb:=(R.dom id L q3).2 zo;show σ2 L.blk o=none;simp only[σ2];rw[X6 hb];exact R.un id ob L o q1 q2 q3 q4 q5
  ·refine⟨gle,λ_ _ h=>.inl h,ht.os,ht.tape,ht.output,ht.size,λb ob hb=>by rw[keep b ob hb];exact Kept.same _ _,λ_ _ _ h=>h,λb o v hb h=>.inl ?_⟩;have h':σ2 b o=some v:=h;simp only[σ2]at h';rw[X6 hb]at h';exact h'
def Pur.view{P:Program}{f:FuncId}{args args':List Fs}{r:Fs}{H:AC}(h:Pur P f args r)(hf:r.flat)(hv:Views H args args')(n:Nat):An P f args' H n r:=h.viewF (λ_ _ v=>Nu r v hf) hv n
section
variable {α:Type}
theorem SL{p:α->Bool}{l:List α}{i:Nat}(h:i<l.length)(hp:p l[i]=true)(hn:∀j (hj:j<l.length),j<i->p l[j]=false):l.findIdx? p=some i:=
 Yb.2 ⟨h,hp,λj hj=>by rw[hn j zo hj];decide⟩
theorem SM{p:α->Bool}{l:List α}(hn:∀j (hj:j<l.length),p l[j]=false):l.findIdx? p=none:=
 YW.2 λx hx=>by obtain⟨j,hj,rfl⟩:=Xn.1 hx;exact hn j hj
def idxG[DecidableEq α](l:List α)(s:α):Int:=match l.findIdx? (λx=>decide (x=s))with
 |some k=>k
 |none=>-1
theorem Nw(l:List Bs)(s:Bs):idxG l s=idxS l s:=rfl
theorem Dy[DecidableEq α]{l:List α}{s:α}{i:Nat}(h:i<l.length)(hp:l[i]=s)(hn:∀j (hj:j<l.length),j<i->l[j]≠s):idxG l s=i:=by
 unfold idxG;rw[SL h (by simp [hp]) λj hj hji=>by simp [hn j hj hji]]
theorem IG[DecidableEq α]{l:List α}{s:α}(hn:∀j (hj:j<l.length),l[j]≠s):idxG l s= -1:=by
 unfold idxG;rw[SM λj hj=>by simp [hn j hj]]
theorem Dh[DecidableEq α]:∀{l:List α},BA l=true↔∀j (hj:j<l.length),idxG l l[j]=(j:Int)
 |[]=>by simp [BA]
 |x::r=>by
  have ih:=Dh (l:=r);simp only[BA,W7,Y1];constructor
  ·rintro⟨h1,h2⟩ j hj;cases j with
   |zero=>exact Dy (i:=0) zw rfl λk _ hk=>zo
   |succ j=>
    have hj':j<r.length:=by simpa using hj
    refine Dy hj rfl λk hk hkj=>?_
    cases k with
    |zero=>
     intro e;have:(r.any λy=>decide (y=x))=true:=YS.2 ⟨r[j],Xa hj',by simpa using e.symm⟩;rw[h1]at this;cases this
    |succ k=>
     intro e;have hk':k<r.length:=by simpa using hk
     have e':r[k]=r[j]:=by simpa using e
     have q1:=ih.1 h2 k hk';have q2:=ih.1 h2 j hj';rw[e']at q1;rw[q1]at q2;omega
  ·intro h;refine⟨?_,ih.2 λj hj=>?_⟩
   ·rw[Zh];intro y hy e;obtain⟨j,hj,rfl⟩:=Xn.1 hy;have e:r[j]=x:=by simpa using e
    have h0:=h 0 zw;have:=h (j+1) (by simpa using hj);simp only[List.getElem_cons_succ,e]at this;simp only[List.getElem_cons_zero]at h0;rw[h0]at this;omega
   ·have:=h (j+1) (by simpa using hj);simp only[List.getElem_cons_succ]at this;unfold idxG at this⊢;rw[List.findIdx?_cons]at this;by_cases e:x=r[j]
    ·simp [e]at this;omega
    ·rw[show decide (x=r[j])=false by simp [e]]at this;simp only[Xh,Xt]at this;cases hq:r.findIdx? (λx=>decide (x=r[j]))with
     |none=>rw[hq]at this;simp at this;omega
     |some k=>rw[hq]at this;simp at this⊢;omega
theorem p108(l:List Bs)(s:Bs)(hl:few l):Pur prog 108 [eSs l,.str s] (eI (idxS l s)):=by
 refine .mk ⟨⟨trivial,Ce 0 l⟩,trivial,trivial⟩ trivial (c108.a (AF AH.tnil (AG ?_)));simp only[eE,eN,seval,W3,c108];refine AL (λi:Nat=>⟨[(0,true,eSs l),(1,true,.str s),(7,true,.int .i64 l.length),(8,true,.int .i64 i)],hnil,0⟩)
  (λi=>i<=l.length/\∀j (hj:j<l.length),j<i->l[j]≠s) (λi=>l.length-i) 0 rfl ⟨X3 _,λj hj h=>zo⟩ ?_
 rintro i ⟨hi,c7⟩;by_cases c6:i<l.length;case neg=>
  simp only[eZ,seval,lt_F c6];rw[<-Nw,IG λj hj=>c7 j hj zo]
 have hg:=W5 c6;have e:=AE (k:=i) zo;by_cases hs:l[i]=s
 ·simp only[eZ,seval,X8,X4,X5,W3,Xc,lt_T c6,hg,Aw,hs];rw[<-Nw,Dy c6 hs c7]
 ·simp only[eZ,seval,X8,X4,X5,W3,Xc,lt_T c6,hg,Aw,show(s=l[i])=False from W9 (Ne.symm hs),e];refine .mk (i+1) rfl ⟨c6,λj hj h=>?_⟩ zo;by_cases q:j=i
  ·subst q;exact hs
  ·exact c7 j hj zo
theorem pw64(l:List Int)(s:Int)(hl:few l):Pur prog 64 [eIs l,eI s] (eI (idxG l s)):=by
 refine .mk ⟨⟨trivial,De 0 l⟩,trivial,trivial⟩ trivial (c64.a (AF AH.tnil (AG ?_)));simp only[eE,eN,seval,W3,c64];refine AL (λi:Nat=>⟨[(0,true,eIs l),(1,true,eI s),(7,true,.int .i64 l.length),(8,true,.int .i64 i)],hnil,0⟩)
  (λi=>i<=l.length/\∀j (hj:j<l.length),j<i->l[j]≠s) (λi=>l.length-i) 0 rfl ⟨X3 _,λj hj h=>zo⟩ ?_
 rintro i ⟨hi,c7⟩;by_cases c6:i<l.length;case neg=>
  simp only[eZ,seval,lt_F c6];rw[IG λj hj=>c7 j hj zo]
 have hg:=W5 c6;have e:=AE (k:=i) zo;by_cases hs:l[i]=s
 ·simp only[eZ,seval,X8,X4,X5,W3,Xc,lt_T c6,hg,hs];rw[Dy c6 hs c7]
 ·simp only[eZ,seval,X8,X4,X5,W3,Xc,lt_T c6,hg,show(s=l[i])=False from W9 (Ne.symm hs),e];refine .mk (i+1) rfl ⟨c6,λj hj h=>?_⟩ zo;by_cases q:j=i
  ·subst q;exact hs
  ·exact c7 j hj zo
structure Vg where
 i:Nat
 tk:jj
 H:AC
 n:Nat
structure Ig(e len:Nat)(v:Vg):Prop where
 hi:v.i<=len
 fr:AQ v.H v.n
 tok:tkG e 0 v.H v.tk
 es:v.tk.esz=e\/v.i=0
theorem SN{l:List Int}{n:Nat}:difI l n=true↔∀j (hj:j<l.length),0<=l[j]/\l[j]<n/\idxG l l[j]=(j:Int):=by
 unfold difI;rw[W7,X9,Dh];constructor
 ·rintro⟨h1,h2⟩ j hj;have:=h1 _ (Xa hj);simp only[W7,X1]at this;exact⟨this.1,this.2,h2 j hj⟩
 ·intro h;refine⟨λx hx=>?_,λj hj=>(h j hj).2.2⟩;obtain⟨j,hj,rfl⟩:=Xn.1 hx;simp [(h j hj).1,(h j hj).2.1]
theorem Nx{l:List Int}{n:Nat}{j:Nat}(hj:j<l.length)(h:¬(0<=l[j]/\l[j]<n/\idxG l l[j]=(j:Int))):difI l n=false:=by
 cases q:difI l n with
 |false=>rfl
 |true=>exact absurd (SN.1 q j hj) h
def TixI:Tab:=tadd 64 (s2 dIs dI (λa _=>few a) λa s=>eI (idxG a s)) tnil
theorem Wy:AH prog TixI:=AH.tnil.add (q2 pw64)
def indN(l:List Int)(n:Nat)(Gn:Int):Bool:=difI l n&&decide (Gn<=l.length)
theorem p68(l:List Int)(n:Nat)(Gn:Int)(hl:few l):Pur prog 68 [eIs l,.int .i64 n,.int .i64 Gn] (.bool (indN l n Gn)):=by
 refine .mk ⟨⟨trivial,De 0 l⟩,trivial,trivial,trivial⟩ trivial (c68.a (AF Wy (AG ?_)));simp only[eE,eN,seval,W3,c68];refine AL (λi:Nat=>⟨[(0,true,eIs l),(1,true,.int .i64 n),(2,true,.int .i64 Gn),(9,true,eIs l),(10,true,.int .i64 l.length),(11,true,.int .i64 i)],hnil,0⟩)
  (λi=>i<=l.length/\∀j (hj:j<l.length),j<i->0<=l[j]/\l[j]<n/\idxG l l[j]=(j:Int)) (λi=>l.length-i) 0 rfl ⟨X3 _,λj hj h=>zo⟩ ?_
 rintro i ⟨hi,c7⟩;by_cases c6:i<l.length;case neg=>
  simp only[eZ,seval,W3,lt_F c6];unfold indN;rw[SN.2 λj hj=>c7 j hj zo];rfl
 have hg:=W5 c6;have e:=AE (k:=i) zo;by_cases h1:l[i]<0
 ·simp only[eZ,seval,W6,X8,X4,X5,W3,Xc,lt_T c6,hg,h1];unfold indN;rw[Nx c6 λq=>by omega];rfl
 by_cases h2:(n:Int)<=l[i]
 ·simp only[eZ,seval,W6,X8,X4,X5,W3,Xc,lt_T c6,hg,h1,h2];unfold indN;rw[Nx c6 λq=>by omega];rfl
 by_cases h3:idxG l l[i]=(i:Int)
 ·simp only[eZ,seval,W6,X8,X4,X5,W3,Xc,lt_T c6,hg,h1,h2,TixI,s2,dIs,dI,okL,decL,B1,At,hl,toI,h3,e,tadd];refine .mk (i+1) rfl ⟨c6,λj hj h=>?_⟩ zo;by_cases q:j=i
  ·subst q;exact⟨zo,zo,h3⟩
  ·exact c7 j hj zo
 ·simp only[eZ,seval,W8,X8,X4,X5,W3,Xc,lt_T c6,hg,h1,h2,TixI,s2,dIs,dI,okL,decL,B1,At,hl,toI,h3,tadd];unfold indN;rw[Nx c6 λq=>h3 q.2.2];rfl
def Tnm:Tab:=tadd 66 (s1 dS any1 λs=>.bool (CN s)) (tadd 108 (s2 dSs dS (λa _=>few a) λa s=>eI (idxS a s)) tnil)
theorem Tnm_ok:AH prog Tnm:=(AH.tnil.add (q2 p108)).add (q1 λs _=>p66 s)
theorem Mg{l:List Bs}:(l.all CN&&BA l)=true↔∀j (hj:j<l.length),CN l[j]=true/\idxS l l[j]=(j:Int):=by
 rw[W7,X9,Dh];constructor
 ·rintro⟨h1,h2⟩ j hj;exact⟨h1 _ (Xa hj),h2 j hj⟩
 ·intro h;refine⟨λx hx=>?_,λj hj=>(h j hj).2⟩;obtain⟨j,hj,rfl⟩:=Xn.1 hx;exact(h j hj).1
theorem Ny{l:List Bs}{j:Nat}(hj:j<l.length)(h:¬(CN l[j]=true/\idxS l l[j]=(j:Int))):(l.all CN&&BA l)=false:=by
 cases q:(l.all CN&&BA l)with
 |false=>rfl
 |true=>exact absurd (Mg.1 q j hj) h
theorem p67(l:List Bs)(most:Nat)(hl:few l):Pur prog 67 [eSs l,.int .i64 most] (.bool (B2 l most)):=by
 refine .mk ⟨⟨trivial,Ce 0 l⟩,trivial,trivial⟩ trivial (c67.a (AF Tnm_ok (AG ?_)));simp only[eE,eN,seval,W3,c67];refine AL (λi:Nat=>⟨[(0,true,eSs l),(1,true,.int .i64 most),(7,true,eSs l),(8,true,.int .i64 l.length),(9,true,.int .i64 i)],hnil,0⟩)
  (λi=>i<=l.length/\∀j (hj:j<l.length),j<i->CN l[j]=true/\idxS l l[j]=(j:Int)) (λi=>l.length-i) 0 rfl ⟨X3 _,λj hj h=>zo⟩ ?_
 rintro i ⟨hi,c7⟩;by_cases c6:i<l.length;case neg=>
  simp only[eZ,seval,W3,lt_F c6];unfold B2;rw[Mg.2 λj hj=>c7 j hj zo];by_cases h1:1<=l.length<;>by_cases h2:l.length<=most<;>simp [h1,h2]<;>omega
 have hg:=W5 c6;have e:=AE (k:=i) zo;by_cases h1:CN l[i]=true
 ·by_cases h3:idxS l l[i]=(i:Int)
  ·simp only[eZ,seval,W6,X8,X4,X5,W3,Xc,lt_T c6,hg,Tnm,s1,s2,dSs,dS,okL,decL,isS,toS,Bu,hl,h1,h3,e,tadd];refine .mk (i+1) rfl ⟨c6,λj hj h=>?_⟩ zo;by_cases q:j=i
   ·subst q;exact⟨h1,h3⟩
   ·exact c7 j hj zo
  ·simp only[eZ,seval,W6,W8,X8,X4,X5,W3,Xc,lt_T c6,hg,Tnm,s1,s2,dSs,dS,okL,decL,isS,toS,Bu,hl,h1,h3,tadd];unfold B2;rw[Ny c6 λq=>h3 q.2];rfl
 ·have h1':CN l[i]=false:=by simpa using h1
  simp only[eZ,seval,W6,W8,X8,X4,X5,W3,Xc,lt_T c6,hg,Tnm,s1,s2,dSs,dS,okL,decL,isS,toS,Bu,hl,h1',tadd];unfold B2;rw[Ny c6 λq=>h1 q.1];rfl
end
abbrev encQ(q:Cnd):Fs:=.agg [.int .i64 q.k,eIs q.cs,eIs q.ls,.int .i64 q.n]
abbrev encM(p:Prm):Fs:=.agg [.int .i64 p.c,eIs p.ls]
abbrev encL(x:jq):Fs:=.agg [.str x.nm,.int .i64 x.lv,eSs x.cs,eSs x.ls,.sl (.none 4) (x.qs.map encQ),.sl (.none 2) (x.ps.map encM),.int .i64 x.c,.int .i64 x.l]
def E5(n:Nat)(q:Cnd):(encQ q).under n:=⟨trivial,⟨trivial,De n _⟩,⟨trivial,De n _⟩,trivial,trivial⟩
def JK(n:Nat)(p:Prm):(encM p).under n:=⟨trivial,⟨trivial,De n _⟩,trivial⟩
def Be(n:Nat)(x:jq):(encL x).under n:=⟨trivial,trivial,⟨trivial,Ce n _⟩,⟨trivial,Ce n _⟩,⟨trivial,BD (E5 n) _⟩,⟨trivial,BD (JK n) _⟩,trivial,trivial,trivial⟩
def decQ:Fs->Cnd
 | .agg [.int _ k,c,l,.int _ n]=>⟨k,Gr c,Gr l,n⟩
 |_=>⟨0,[],[],0⟩
def decM:Fs->Prm
 | .agg [.int _ c,l]=>⟨c,Gr l⟩
 |_=>⟨0,[]⟩
def decX:Fs->jq
 | .agg [.str nm,.int _ lv,cs,ls,qs,ps,.int _ c,.int _ l]=>⟨nm,lv,O3 cs,O3 ls,LM decQ qs,LM decM ps,c,l⟩
 |_=>⟨[],0,[],[],[],[],0,0⟩
def J2(q:Cnd):decQ (encQ q)=q:=by
 simp only[decQ,Gr,At]
def J3(p:Prm):decM (encM p)=p:=by
 simp only[decM,Gr,At]
def Nz(x:jq):decX (encL x)=x:=by
 simp only[decX,O3,LM,Bu,Cx J2,Cx J3]
def dQ:Dc Cnd:=dEx encQ decQ
def dX:Dc jq:=dEx encL decX
def SO(q:Cnd):dQ.ok (encQ q)=True:=W4 (by show encQ q=encQ (decQ (encQ q));rw[J2])
def LW(q:Cnd):dQ.dec (encQ q)=q:=J2 q
def LX(x:jq):dX.ok (encL x)=True:=W4 (by show encL x=encL (decX (encL x));rw[Nz])
def Gi(x:jq):dX.dec (encL x)=x:=Nz x
def Tcd:Tab:=tadd 68 (s3 dIs dI dI (λa n _=>few a/\0<=n) λa n k=>.bool (indN a n.toNat k)) tnil
def Tcd_ok:AH prog Tcd:=AH.tnil.add (q3 λa n k h=>by
 obtain⟨j,rfl⟩:∃j:Nat,n=j:=⟨n.toNat,zo⟩;exact p68 a j k h.1)
def U9{q:Cnd}{nc nl:Nat}(h:(indN q.cs nc 1&&indN q.ls nl 0)=false):B3 q nc nl=false:=by
 unfold B3 indN at*;cases h1:difI q.cs nc<;>cases h2:difI q.ls nl<;>simp [h1,h2]at h⊢;intro q1;omega
def Wz{q:Cnd}{nc nl:Nat}(h1:indN q.cs nc 1=true)(h2:indN q.ls nl 0=true):B3 q nc nl=(if q.k=1\/q.k=4 then decide (2<=q.cs.length)&&decide (q.ls.length=0)&&decide (q.n=0)
  else if q.k=2 then decide (q.ls.length=1)&&decide (q.n=0)
  else if q.k=3 then decide (q.cs.length=2)&&decide (q.ls.length=0)&&decide (1<=q.n)&&decide (q.n<=99)
  else if q.k=5 then decide (q.cs.length=2)&&decide (q.ls.length=0)&&decide (q.n=0)
  else if q.k=6 then decide (1<=q.ls.length)&&decide (0<=q.n)&&decide (q.n<=q.cs.length)
  else false):=by
 unfold indN at h1 h2;simp only[W7,X1]at h1 h2;unfold B3;rw[h1.1,h2.1,Xi (by omega:1<=q.cs.length)];rfl
def p69(q:Cnd)(nc nl:Nat)(h1:few q.cs)(h2:few q.ls):Pur prog 69 [encQ q,.int .i64 nc,.int .i64 nl] (.bool (B3 q nc nl)):=by
 refine .mk ⟨E5 0 q,trivial,trivial,trivial⟩ trivial (c69.a (AF Tcd_ok (AG ?_)));cases hb1:indN q.cs nc 1 with
 |false=>
  simp only[eZ,seval,W6,W8,X4,X5,c69,Tcd,s3,dIs,dI,okL,decL,B1,At,toI,h1,h2,hb1,tadd];rw[U9 (by rw[hb1];rfl)]
 |true=>
  cases i9:indN q.ls nl 0 with
  |false=>
   simp only[eZ,seval,W6,W8,X4,X5,c69,Tcd,s3,dIs,dI,okL,decL,B1,At,toI,h1,h2,hb1,i9,tadd];rw[U9 (by rw[hb1,i9];rfl)]
  |true=>
   rw[Wz hb1 i9];obtain⟨k,cs,ls,n⟩:=q;by_cases k1:k=1
   ·subst k1;simp only[eZ,seval,W6,X4,X5,W3,c69,Tcd,s3,dIs,dI,okL,decL,B1,At,toI,h1,h2,hb1,i9,tadd];exact(by rw[Xg];simp only[W7,X1];omega)
   by_cases k4:k=4
   ·subst k4;simp only[eZ,seval,W6,X4,X5,W3,c69,Tcd,s3,dIs,dI,okL,decL,B1,At,toI,h1,h2,hb1,i9,tadd];exact(by rw[Xg];simp only[W7,X1];omega)
   by_cases k2:k=2
   ·subst k2;simp only[eZ,seval,W6,X4,X5,W3,c69,Tcd,s3,dIs,dI,okL,decL,B1,At,toI,h1,h2,hb1,i9,tadd];exact(by rw[Xg];simp only[W7,X1];omega)
   by_cases k3:k=3
   ·subst k3;simp only[eZ,seval,W6,X4,X5,W3,c69,Tcd,s3,dIs,dI,okL,decL,B1,At,toI,h1,h2,hb1,i9,tadd];exact(by rw[Xg];simp only[W7,X1];omega)
   by_cases k5:k=5
   ·subst k5;simp only[eZ,seval,W6,X4,X5,W3,c69,Tcd,s3,dIs,dI,okL,decL,B1,At,toI,h1,h2,hb1,i9,tadd];exact(by rw[Xg];simp only[W7,X1];omega)
   by_cases k6:k=6
   ·subst k6;simp only[eZ,seval,W6,X4,X5,W3,c69,Tcd,s3,dIs,dI,okL,decL,B1,At,toI,h1,h2,hb1,i9,tadd];exact(by rw[Xg];simp only[W7,X1];omega)
   simp only[eZ,seval,W6,X4,X5,W3,c69,Tcd,s3,dIs,dI,okL,decL,B1,At,toI,h1,h2,hb1,i9,k1,k2,k3,k4,k5,k6,tadd]
def p136(l:List Bs)(s:Bs)(hl:few l):Pur prog 136 [eSs l,.str s] (eI (idxS l s)):=by
 refine .mk ⟨⟨trivial,Ce 0 l⟩,trivial,trivial⟩ trivial (c136.a (AF AH.tnil (AG ?_)));simp only[eE,eN,seval,c136];refine AL (λi:Nat=>⟨[(0,true,eSs l),(1,true,.str s),(5,true,.int .i64 i)],hnil,0⟩)
  (λi=>i<=l.length/\∀j (hj:j<l.length),j<i->l[j]≠s) (λi=>l.length-i) 0 rfl ⟨X3 _,λj hj h=>zo⟩ ?_
 rintro i ⟨hi,c7⟩;by_cases c6:i<l.length;case neg=>
  simp only[eZ,seval,W3,lt_F c6];rw[<-Nw,IG λj hj=>c7 j hj zo]
 have hg:=W5 c6;have e:=AE (k:=i) zo;by_cases hs:l[i]=s
 ·simp only[eZ,seval,X8,X4,X5,W3,Xc,lt_T c6,hg,Aw,hs];rw[<-Nw,Dy c6 hs c7]
 ·simp only[eZ,seval,X8,X4,X5,W3,Xc,lt_T c6,hg,Aw,hs,e];refine .mk (i+1) rfl ⟨c6,λj hj h=>?_⟩ zo;by_cases q:j=i
  ·subst q;exact hs
  ·exact c7 j hj zo
def Tzn:Tab:=tadd 94 (s1 dS any1 λs=>.bool (CN s)) (tadd 136 (s2 dSs dS (λa _=>few a) λa s=>eI (idxS a s)) tnil)
def Tzn_ok:AH prog Tzn:=(AH.tnil.add (q2 p136)).add (q1 λs _=>p94 s)
def p95(l:List Bs)(most:Nat)(hl:few l):Pur prog 95 [eSs l,.int .i64 most] (.bool (B2 l most)):=by
 refine .mk ⟨⟨trivial,Ce 0 l⟩,trivial,trivial⟩ trivial (c95.a (AF Tzn_ok (AG ?_)));simp only[eE,eN,seval,c95];refine AL (λi:Nat=>⟨[(0,true,eSs l),(1,true,.int .i64 most),(5,true,.int .i64 i)],hnil,0⟩)
  (λi=>i<=l.length/\∀j (hj:j<l.length),j<i->CN l[j]=true/\idxS l l[j]=(j:Int)) (λi=>l.length-i) 0 rfl ⟨X3 _,λj hj h=>zo⟩ ?_
 rintro i ⟨hi,c7⟩;by_cases c6:i<l.length;case neg=>
  simp only[eZ,seval,W3,lt_F c6];unfold B2;rw[Mg.2 λj hj=>c7 j hj zo];by_cases h1:1<=l.length<;>by_cases h2:l.length<=most<;>simp [h1,h2]<;>omega
 have hg:=W5 c6;have e:=AE (k:=i) zo;by_cases h1:CN l[i]=true
 ·by_cases h3:idxS l l[i]=(i:Int)
  ·simp only[eZ,seval,W6,X8,X4,X5,W3,Xc,lt_T c6,hg,Tzn,s1,s2,dSs,dS,okL,decL,isS,toS,Bu,hl,h1,h3,e,tadd];refine .mk (i+1) rfl ⟨c6,λj hj h=>?_⟩ zo;by_cases q:j=i
   ·subst q;exact⟨h1,h3⟩
   ·exact c7 j hj zo
  ·simp only[eZ,seval,W6,W8,X8,X4,X5,W3,Xc,lt_T c6,hg,Tzn,s1,s2,dSs,dS,okL,decL,isS,toS,Bu,hl,h1,h3,tadd];unfold B2;rw[Ny c6 λq=>h3 q.2];rfl
 ·have h1':CN l[i]=false:=by simpa using h1
  simp only[eZ,seval,W6,W8,X8,X4,X5,W3,Xc,lt_T c6,hg,Tzn,s1,s2,dSs,dS,okL,decL,isS,toS,Bu,hl,h1',tadd];unfold B2;rw[Ny c6 λq=>h1 q.1];rfl
def SP{l:List Int}:BA l=true↔∀i j (hi:i<l.length) (hj:j<l.length),j<i->l[j]≠l[i]:=by
 rw[Dh];constructor
 ·intro h i j hi hj hji e;have q1:=h i hi;have q2:=h j hj;rw[e]at q2;rw[q1]at q2;omega
 ·intro h j hj;exact Dy hj rfl λk hk hkj=>h j k hj hk hkj
def p77(l:List Int)(n:Nat)(hl:few l):Pur prog 77 [eIs l,.int .i64 n] (.bool (difI l n)):=by
 refine .mk ⟨⟨trivial,De 0 l⟩,trivial,trivial⟩ trivial (c77.a (AF AH.tnil (AG ?_)));have no:∀i (hi:i<l.length),¬(0<=l[i]/\l[i]<n)->difI l n=false:=λi hi q=>Nx hi λk=>q ⟨k.1,k.2.1⟩
 simp only[eE,eN,seval,c77];refine AL (λi:Nat=>⟨[(0,true,eIs l),(1,true,.int .i64 n),(5,true,.int .i64 i)],hnil,0⟩)
  (λi=>i<=l.length/\∀k (hk:k<l.length),k<i->0<=l[k]/\l[k]<n/\∀j (hj:j<l.length),j<k->l[j]≠l[k]) (λi=>l.length-i) 0 rfl ⟨X3 _,λj hj h=>zo⟩ ?_
 rintro i ⟨hi,c7⟩;by_cases c6:i<l.length;case neg=>
  simp only[eZ,seval,W3,lt_F c6];symm;unfold difI;rw[W7,X9,SP];refine⟨λx hx=>?_,λi j hi hj hji=>(c7 i hi zo).2.2 j hj hji⟩;obtain⟨k,hk,rfl⟩:=Xn.1 hx;have:=c7 k hk zo;simp [this.1,this.2.1]
 have hg:=W5 c6;have e:=AE (k:=i) zo;by_cases h1:l[i]<0
 ·simp only[eZ,seval,W6,X8,X4,X5,W3,Xc,lt_T c6,hg,h1];rw[no i c6 λq=>by omega]
 by_cases h2:(n:Int)<=l[i]
 ·simp only[eZ,seval,X8,X4,X5,W3,Xc,lt_T c6,hg,h1,h2];rw[no i c6 λq=>by omega]
 simp only[eZ,seval,X8,X4,X5,W3,Xc,lt_T c6,hg,h1,h2];refine AL (λj:Nat=>⟨[(0,true,eIs l),(1,true,.int .i64 n),(5,true,.int .i64 i),(6,true,.int .i64 j)],hnil,0⟩)
  (λj=>j<=i/\∀k (hk:k<l.length),k<j->l[k]≠l[i]) (λj=>i-j) 0 rfl ⟨X3 _,λj hj h=>zo⟩ ?_
 rintro j ⟨hj,hk⟩;by_cases hji:j<i;case neg=>
  simp only[eZ,seval,lt_F hji,e];refine .mk (i+1) rfl ⟨c6,λk hkl hki=>?_⟩ zo;by_cases q:k=i
  ·subst q;exact⟨zo,zo,λm hm hmk=>hk m hm zo⟩
  ·exact c7 k hkl zo
 have hltj:j<l.length:=zo
 have hgj:=W5 hltj;have e':=AE (k:=j) zo;by_cases hs:l[j]=l[i]
 ·simp only[eZ,seval,X8,X4,X5,W3,Xc,lt_T hji,lt_T c6,lt_T hltj,hg,hgj,hs];cases q:difI l n with
  |false=>rfl
  |true=>
   unfold difI at q;rw[W7]at q;exact absurd hs (SP.1 q.2 i j c6 hltj hji)
 ·simp only[eZ,seval,X8,X4,X5,W3,Xc,lt_T hji,lt_T c6,lt_T hltj,hg,hgj,hs,e'];refine .mk (j+1) rfl ⟨hji,λk hkl hkj=>?_⟩ zo;by_cases q:k=j
  ·subst q;exact hs
  ·exact hk k hkl zo
def Tzcm:Tab:=tadd 77 (s2 dIs dI (λa n=>few a/\0<=n) λa n=>.bool (difI a n.toNat)) tnil
def W0:AH prog Tzcm:=AH.tnil.add (q2 λa n h=>by
 obtain⟨j,rfl⟩:∃j:Nat,n=j:=⟨n.toNat,zo⟩;exact p77 a j h.1)
def p43(q:Cnd)(nc nl:Nat)(h1:few q.cs)(h2:few q.ls):Pur prog 43 [encQ q,.int .i64 nc,.int .i64 nl] (.bool (B3 q nc nl)):=by
 refine .mk ⟨E5 0 q,trivial,trivial,trivial⟩ trivial (c43.a (AF W0 (AG ?_)));obtain⟨k,cs,ls,n⟩:=q;cases hb1:difI cs nc with
 |false=>
  simp only[eZ,seval,W6,W8,X4,X5,c43,Tzcm,s2,dIs,dI,okL,decL,B1,At,toI,h1,h2,hb1,tadd];unfold B3;rw[hb1];rfl
 |true=>
  cases i9:difI ls nl with
  |false=>
   simp only[eZ,seval,W6,W8,X4,X5,c43,Tzcm,s2,dIs,dI,okL,decL,B1,At,toI,h1,h2,hb1,i9,tadd];unfold B3;simp only[i9,YT,Yu]
  |true=>
   unfold B3;simp only[hb1,i9,XY,Bool.and_true];by_cases k1:k=1
   ·subst k1;simp only[eZ,seval,W6,X4,X5,W3,c43,Tzcm,s2,dIs,dI,okL,decL,B1,At,toI,h1,h2,hb1,i9,tadd];exact(by rw[Xg];simp only[W7,X1];omega)
   by_cases k4:k=4
   ·subst k4;simp only[eZ,seval,W6,X4,X5,W3,c43,Tzcm,s2,dIs,dI,okL,decL,B1,At,toI,h1,h2,hb1,i9,tadd];exact(by rw[Xg];simp only[W7,X1];omega)
   by_cases k2:k=2
   ·subst k2;simp only[eZ,seval,W6,X4,X5,W3,c43,Tzcm,s2,dIs,dI,okL,decL,B1,At,toI,h1,h2,hb1,i9,tadd];exact(by rw[Xg];simp only[W7,X1];omega)
   by_cases k3:k=3
   ·subst k3;simp only[eZ,seval,W6,X4,X5,W3,c43,Tzcm,s2,dIs,dI,okL,decL,B1,At,toI,h1,h2,hb1,i9,tadd];exact(by rw[Xg];simp only[W7,X1];omega)
   by_cases k5:k=5
   ·subst k5;simp only[eZ,seval,W6,X4,X5,W3,c43,Tzcm,s2,dIs,dI,okL,decL,B1,At,toI,h1,h2,hb1,i9,tadd];exact(by rw[Xg];simp only[W7,X1];omega)
   by_cases k6:k=6
   ·subst k6;simp only[eZ,seval,W6,X4,X5,W3,c43,Tzcm,s2,dIs,dI,okL,decL,B1,At,toI,h1,h2,hb1,i9,tadd];exact(by rw[Xg];simp only[W7,X1];omega)
   simp only[eZ,seval,W6,X4,X5,W3,c43,Tzcm,s2,dIs,dI,okL,decL,B1,At,toI,h1,h2,hb1,i9,k1,k2,k3,k4,k5,k6,tadd]
structure FewL(x:jq):Prop where
 cs:few x.cs
 ls:few x.ls
 qs:few x.qs
 ps:few x.ps
 q:∀q∈x.qs,few q.cs/\few q.ls
 p:∀p∈x.ps,few p.ls
def Tckm:Tab:=tadd 66 (s1 dS any1 λs=>.bool (CN s)) (tadd 67 (s2 dSs dI (λa n=>few a/\0<=n) λa n=>.bool (B2 a n.toNat)) (tadd 68 (s3 dIs dI dI (λa n _=>few a/\0<=n) λa n k=>.bool (indN a n.toNat k))
 (tadd 69 (s3 dQ dI dI (λq n m=>(few q.cs/\few q.ls)/\0<=n/\0<=m) λq n m=>.bool (B3 q n.toNat m.toNat)) tnil)))
def W1:AH prog Tckm:=(((AH.tnil.add (q3 λq n m h=>by
 obtain⟨j,rfl⟩:∃j:Nat,n=j:=⟨n.toNat,zo⟩;obtain⟨k,rfl⟩:∃j:Nat,m=j:=⟨m.toNat,zo⟩;exact p69 q j k h.1.1 h.1.2)).add (q3 λa n k h=>by
 obtain⟨j,rfl⟩:∃j:Nat,n=j:=⟨n.toNat,zo⟩;exact p68 a j k h.1)).add (q2 λa n h=>by
 obtain⟨j,rfl⟩:∃j:Nat,n=j:=⟨n.toNat,zo⟩;exact p67 a j h.1)).add (q1 λs _=>p66 s)
def few1(c:Int):few [c]=True:=W4 (by show 1<_;decide)
def chk(x:jq):Int:=if E8 x=true then 0 else 300
def hd0(x:jq):Bool:=CN x.nm&&decide (1<=x.lv)&&decide (x.lv<=8)&&B2 x.cs 4&&B2 x.ls 3&&decide ((x.qs.length:Int)<=6)
def hd1(x:jq):Bool:=hd0 x&&indN [x.c] x.cs.length 1&&indN [x.l] x.ls.length 1
def cdA(x:jq)(i:Nat):Bool:=hd1 x&&(x.qs.take i).all λq=>B3 q x.cs.length x.ls.length
def prA(x:jq)(i:Nat):Bool:=cdA x x.qs.length&&(x.ps.take i).all λp=>indN p.ls x.ls.length 1
def UL{x:jq}{i:Nat}(h:i<x.qs.length):cdA x (i+1)=(cdA x i&&B3 x.qs[i] x.cs.length x.ls.length):=by
 unfold cdA;rw[Nc h,Bool.and_assoc]
def UM{x:jq}{i:Nat}(h:i<x.ps.length):prA x (i+1)=(prA x i&&indN x.ps[i].ls x.ls.length 1):=by
 unfold prA;rw[Nc h,Bool.and_assoc]
def ind1(c:Int)(n:Nat):indN [c] n 1=difI [c] n:=by unfold indN;simp
def W2(x:jq):(prA x x.ps.length&&indN (x.ps.map (·.c)) x.cs.length 0)=E8 x:=by
 unfold prA cdA hd1 hd0 E8;rw[ind1,ind1,Xb,Xb];have e1:indN (x.ps.map (·.c)) x.cs.length 0=difI (x.ps.map (·.c)) x.cs.length:=by unfold indN;simp
 have e2:(x.ps.all λp=>indN p.ls x.ls.length 1)=x.ps.all λp=>difI p.ls x.ls.length&&decide (1<=p.ls.length):=by
  congr 1;funext p;unfold indN;congr 1;simp;omega
 have e3:decide ((x.qs.length:Int)<=6)=decide (x.qs.length<=6):=by rw[decide_eq_decide];omega
 rw[e1,e2,e3]
abbrev Am(x:jq):List Fs:=[.str x.nm,.int .i64 x.lv,eSs x.cs,eSs x.ls,.sl (.none 4) (x.qs.map encQ),.sl (.none 2) (x.ps.map encM),.int .i64 x.c,.int .i64 x.l]
structure Vh where
 i:Nat
 H:AC
 n:Nat
structure Ih(len:Nat)(cs:List Fs)(v:Vh):Prop where
 hi:v.i<=len
 fr:AQ v.H v.n
 b:hget v.H 0=some (.box cs)
 hn:1<=v.n
structure Ip(len:Nat)(cs:List Fs)(v:Vg):Prop where
 hi:v.i<=len
 fr:AQ v.H v.n
 b:hget v.H 0=some (.box cs)
 hn:1<=v.n
 tok:tkG 1 1 v.H v.tk
 es:v.tk.esz=1\/v.i=0
abbrev hp10(H:AC)(n:Nat)(p:Prm):AC:=hset (hset H (n+2) (.box [.int .i64 0,.sl .nil []])) (n+2) (.box [.int .i64 p.c,eIs p.ls])
def p39(x:jq)(hx:FewL x):Pur prog 39 [encL x] (eI (chk x)):=by
 refine .mk ⟨Be 0 x,trivial⟩ trivial (c39.a (AF W1 (AG ?_)));simp only[eZ,seval,X4,X5,W3,c39,Tckm,s1,s2,s3,dS,dSs,dIs,dI,okL,decL,isS,toS,B1,toI,Bu,hx.cs,hx.ls,few1,tadd];refine AL (λv:Vh=>⟨[(1,true,.ptr 0 0),(3,true,.sl .nil []),(4,true,.bool (cdA x v.i)),(58,true,.sl (.none 4) (x.qs.map encQ)),(59,true,.int .i64 x.qs.length),(60,true,.int .i64 v.i)],v.H,v.n⟩) (Ih x.qs.length (Am x)) (λv=>x.qs.length-v.i)
  ⟨0,hset hnil 0 (.box (Am x)),2⟩ (by simp only[cdA,hd1,hd0,Yl,List.all_nil,Bool.and_true];rfl) ⟨X3 _,AQ.nil.hset (X3 2) (Nat.zero_lt_succ 1),rfl,Nat.succ_le_succ (X3 1)⟩ ?_
 rintro⟨i,H,n⟩ ⟨hi,c8,hb,hn⟩;simp only at hi c8 hb hn;have z1:(0=n+2)=False:=W9 zo;have hqn:=hx.qs;have hpn:=hx.ps;by_cases c6:i<x.qs.length
 ·have hg:=W5 c6;have e:=AE (k:=i) zo;have hq:=hx.q _ (Xa c6);generalize hqq:x.qs[i]=q at hg hq;simp only[eZ,seval,X8,X4,X5,W3,Xc,lt_T c6,hg,fr1 c8,hb,Tckm,s3,SO,LW,dI,B1,toI,hq.1,hq.2,e,tadd];refine .mk ⟨i+1,hset (hset H (n+2) (.box [.int .i64 0,.sl .nil [],.sl .nil [],.int .i64 0])) (n+2) (.box [.int .i64 q.k,eIs q.cs,eIs q.ls,.int .i64 q.n]),n+4⟩ ?_ ⟨c6,?_,?_,zp⟩ zp
  ·rw[UL c6,hqq]
  ·exact(c8.hset (m:=n+4) zo zo).hset (X2 (n+4)) (show n+2<n+4 by omega)
  ·simp only[];rw[AA _ _ _ _ zo,AA _ _ _ _ zo];exact hb
 obtain rfl:i=x.qs.length:=zo
 simp only[eZ,seval,W3,lt_F c6,hb];refine AL (λv:Vg=>⟨[(1,true,.ptr 0 0),(3,true,.sl v.tk ((x.ps.take v.i).map λp=>eI p.c)),(4,true,.bool (prA x v.i)),(77,true,.sl (.none 2) (x.ps.map encM)),(78,true,.int .i64 x.ps.length),(79,true,.int .i64 v.i)],v.H,v.n⟩) (Ip x.ps.length (Am x)) (λv=>x.ps.length-v.i)
  ⟨0,.nil,H,n⟩ (by simp only[prA,Yl,List.all_nil,Bool.and_true,Xu];rfl) ⟨X3 _,c8,hb,hn,.inl rfl,.inr rfl⟩ ?_
 clear c6 hb c8 hn hi z1;rintro⟨i,tk,H,n⟩ ⟨hi,c8,hb,hn,d6,d8⟩;simp only at hi c8 hb hn d6 d8;by_cases c6:i<x.ps.length
 ·have hg:=W5 c6;have e:=AE (k:=i) zo;have hp:=hx.p _ (Xa c6);generalize hqq:x.ps[i]=p at hg hp;have z2:(0=n+2)=False:=W9 zo;have z3:(0=n+4+4)=False:=W9 zo;have m7:AQ (hp10 H n p) (n+4):=(c8.hset (m:=n+4) zo zo).hset (X2 (n+4)) zo;have l9:tkG 1 1 (hp10 H n p) tk:=(d6.set (.inr (.inr (c8 _ zo)))).set (.inr (.inl ⟨_,AB ..⟩));have i9:hget (hp10 H n p) 0=some (.box (Am x)):=by
   rw[AA _ _ _ _ zo,AA _ _ _ _ zo];exact hb
  have hb3:hget (hp10 H n p) (n+2)=some (.box [.int .i64 p.c,eIs p.ls]):=AB ..;have k0:hget (AN (hp10 H n p) tk) 0=some (.box (Am x)):=by rw[AW l9 (.inl zo)];exact i9
  have k2:hget (AN (hp10 H n p) tk) (n+2)=some (.box [.int .i64 p.c,eIs p.ls]):=by rw[AW l9 (.inr ⟨_,hb3⟩)];exact hb3
  have q1:A6 (hp10 H n p) 1 tk=True:=W4 l9.app;have q2:(i<=35184372088831)=True:=W4 zo;have q3:Aj (i+1) 8=True:=W4 (AY zo zd);have ln:((x.ps.take i).map λp=>eI p.c).length=i:=by simp;omega
  have z4:(n+4+4=0)=False:=W9 zo;have z5:(n+8=n+2)=False:=W9 zo;have z6:(n+8=0)=False:=W9 zo;have z7:(n+2=0)=False:=W9 zo;have h8:=c8 (n+8) zo;simp only[eZ,seval,X8,X4,X5,W3,Xc,lt_T c6,hg,fr1 c8,z4,z5,q1,q2,q3,ln,k0,k2,Tckm,s3,dIs,dI,okL,decL,B1,At,toI,hp,e,natE3,tadd];refine .mk ⟨i+1,.own (n+8) 1,hset (AN (hp10 H n p) tk) (n+8) .tok,n+10⟩ (by rw[UM c6,map_take c6,hqq]) ⟨c6,(AT l9 m7).hset (m:=n+10) zo zo,?_,zp,.inr (.inr ⟨n+8,rfl,zo,AB ..⟩),.inl rfl⟩ zp;simp only[];rw[AA _ _ _ _ zo];exact k0
 obtain rfl:i=x.ps.length:=zo
 have hc:x.ps.map (λp=>eI p.c)=(x.ps.map (·.c)).map eI:=by rw[YJ];rfl
 have hes':(tk.esz=1\/(x.ps.map (·.c)).map eI=[])=True:=W4 (d8.imp id λe=>by rw[Y7.1 e];rfl);have t5:few (x.ps.map (·.c))=True:=W4 (by show(x.ps.map _).length<_;rw[W3];exact hpn);have hfin:=W2 x;cases h1:prA x x.ps.length with
 |false=>
  have hl:E8 x=false:=by rw[<-hfin,h1];rfl
  simp only[eZ,seval,W6,W8,lt_F c6];unfold chk;rw[X0 (by rw[hl];decide)]
 |true=>
  rw[h1,XY]at hfin;cases hl:E8 x with
  |true=>
   simp only[eZ,seval,W6,X4,X5,W3,lt_F c6,hb,Xb,hc,Tckm,s3,dIs,dI,okL,decL,B1,At,toI,hes',t5,hfin.trans hl,tadd];unfold chk;rw[X6 hl]
  |false=>
   simp only[eZ,seval,W6,W8,X4,X5,W3,lt_F c6,hb,Xb,hc,Tckm,s3,dIs,dI,okL,decL,B1,At,toI,hes',t5,hfin.trans hl,tadd];unfold chk;rw[X0 (by rw[hl];decide)]
def Tzv:Tab:=tadd 94 (s1 dS any1 λs=>.bool (CN s)) (tadd 95 (s2 dSs dI (λa n=>few a/\0<=n) λa n=>.bool (B2 a n.toNat)) (tadd 77 (s2 dIs dI (λa n=>few a/\0<=n) λa n=>.bool (difI a n.toNat))
 (tadd 43 (s3 dQ dI dI (λq n m=>(few q.cs/\few q.ls)/\0<=n/\0<=m) λq n m=>.bool (B3 q n.toNat m.toNat)) tnil)))
def Tzv_ok:AH prog Tzv:=(((AH.tnil.add (q3 λq n m h=>by
 obtain⟨j,rfl⟩:∃j:Nat,n=j:=⟨n.toNat,zo⟩;obtain⟨k,rfl⟩:∃j:Nat,m=j:=⟨m.toNat,zo⟩;exact p43 q j k h.1.1 h.1.2)).add (q2 λa n h=>by
 obtain⟨j,rfl⟩:∃j:Nat,n=j:=⟨n.toNat,zo⟩;exact p77 a j h.1)).add (q2 λa n h=>by
 obtain⟨j,rfl⟩:∃j:Nat,n=j:=⟨n.toNat,zo⟩;exact p95 a j h.1)).add (q1 λs _=>p94 s)
def dif1{c:Int}{n:Nat}:difI [c] n=(decide (0<=c)&&decide (c<n)):=by simp [difI,BA]
def hdV(x:jq):Bool:=CN x.nm&&decide (1<=x.lv)&&decide (x.lv<=8)&&B2 x.cs 4&&B2 x.ls 3&&decide (x.qs.length<=6)
def clVm(x:jq):Bool:=decide (0<=x.c)&&decide (x.c<x.cs.length)&&(decide (0<=x.l)&&decide (x.l<x.ls.length))
def pOK(x:jq)(p:Prm):Bool:=difI p.ls x.ls.length&&decide (1<=p.ls.length)
def lem_V(x:jq):E8 x=(hdV x&&clVm x&&(x.qs.all λq=>B3 q x.cs.length x.ls.length)&&x.ps.all (pOK x)&&difI (x.ps.map (·.c)) x.cs.length):=by
 unfold E8 hdV clVm;rw[dif1,dif1];simp only[Bool.and_assoc];rfl
def p54(x:jq)(hx:FewL x):Pur prog 54 [encL x] (.bool (E8 x)):=by
 refine .mk ⟨Be 0 x,trivial⟩ trivial (c54.a (AF Tzv_ok (AG ?_)));have hqn:=hx.qs;have hpn:=hx.ps;simp only[eZ,seval,W3,c54,Tzv,s1,s2,dS,dSs,dI,okL,decL,isS,toS,B1,toI,Bu,hx.cs,hx.ls,tadd];rw[cK_i];refine⟨λhB=>?_,λhB=>?_⟩
 ·simp only[eE,eN,seval];have:hdV x=false:=by
   cases q:hdV x with
   |false=>rfl
   |true=>
    unfold hdV at q;simp only[W7,X1]at q;simp only[Xk,Y1,X1,q.1.1.1.1.1,q.1.1.2,q.1.2,Zw,Zy,false_or]at hB;omega
  rw[lem_V,this];simp only[Yu]
 have hV:hdV x=true:=by
  simp only[Yi,YE,XU]at hB;unfold hdV;simp only[W7,X1];exact⟨⟨⟨⟨⟨hB.1.1.1.1.1,zo⟩,zo⟩,hB.1.1.2⟩,hB.1.2⟩,zo⟩
 clear hB;rw[show E8 x=_ from lem_V x,hV,XY];simp only[eZ,seval,W3];rw[cK_i];refine⟨λhB=>?_,λhB=>?_⟩
 ·simp only[eE,eN,seval];have:clVm x=false:=by
   cases q:clVm x with
   |false=>rfl
   |true=>
    unfold clVm at q;simp only[W7,Xk,X1]at q hB;omega
  rw[this];simp only[Yu]
 have hC:clVm x=true:=by
  simp only[Yi,XU]at hB;unfold clVm;simp only[W7,X1];omega
 clear hB;rw[hC,XY];simp only[eE,eN,seval];refine AL (λi:Nat=>⟨[(1,true,.ptr 0 0),(3,true,.int .i64 i)],hset hnil 0 (.box (Am x)),2⟩) (λi=>i<=x.qs.length/\∀j (hj:j<x.qs.length),j<i->B3 x.qs[j] x.cs.length x.ls.length=true) (λi=>x.qs.length-i) 0 rfl ⟨X3 _,λj hj h=>zo⟩ ?_;rintro i ⟨hi,c7⟩;by_cases c6:i<x.qs.length
 ·have hg:=W5 c6;have e:=AE (k:=i) zo;have hq:=hx.q _ (Xa c6);cases hc:B3 x.qs[i] x.cs.length x.ls.length with
  |true=>
   simp only[eZ,seval,W6,X8,X4,X5,W3,Xc,lt_T c6,hg,Tzv,s3,SO,LW,dI,B1,toI,hq.1,hq.2,e,hc,tadd];refine .mk (i+1) rfl ⟨c6,λj hj h=>?_⟩ zo;by_cases q:j=i
   ·subst q;exact hc
   ·exact c7 j hj zo
  |false=>
   simp only[eZ,seval,W8,X8,X4,X5,W3,Xc,lt_T c6,hg,Tzv,s3,SO,LW,dI,B1,toI,hq.1,hq.2,hc,tadd];have:(x.qs.all λq=>B3 q x.cs.length x.ls.length)=false:=Yw.2 ⟨_,Xa c6,by rw[hc];decide⟩;rw[this];simp only[Yu]
 have hqa:(x.qs.all λq=>B3 q x.cs.length x.ls.length)=true:=X9.2 λq hq=>by
  obtain⟨j,hj,rfl⟩:=Xn.1 hq;exact c7 j hj zo
 rw[hqa,XY];simp only[eZ,seval,W3,lt_F c6];clear c6 c7 hi;refine AL (λv:Vg=>⟨[(1,true,.ptr 0 0),(4,true,.sl v.tk ((x.ps.take v.i).map λp=>eI p.c)),(5,true,.int .i64 v.i)],v.H,v.n⟩) (λv=>Ip x.ps.length (Am x) v/\v.tk.esz=1/\∀j (hj:j<x.ps.length),j<v.i->pOK x x.ps[j]=true) (λv=>x.ps.length-v.i)
  ⟨0,.exact 1,hset hnil 0 (.box (Am x)),2⟩ rfl ⟨⟨X3 _,AQ.nil.hset (X3 2) (Nat.zero_lt_succ 1),rfl,Nat.succ_le_succ (X3 1),.inr (.inl rfl),.inl rfl⟩,rfl,λj hj h=>absurd h (XN _)⟩ ?_
 rintro⟨i,tk,H,n⟩ ⟨⟨hi,c8,hb,hn,d6,d8⟩,hes1,c7⟩;simp only at hi c8 hb hn d6 d8 hes1 c7;by_cases c6:i<x.ps.length
 ·have hg:=W5 c6;have e:=AE (k:=i) zo;have hp:=hx.p _ (Xa c6);generalize hqq:x.ps[i]=p at hg hp;have k0:hget (AN H tk) 0=some (.box (Am x)):=by rw[AW d6 (.inl zo)];exact hb
  have q1:A6 H 1 tk=True:=W4 d6.app;have q2:(i<=35184372088831)=True:=W4 zo;have q3:Aj (i+1) 8=True:=W4 (AY zo zd);have ln:((x.ps.take i).map λp=>eI p.c).length=i:=by simp;omega
  have z6:(n+8=0)=False:=W9 zo;have h8:=c8 (n+8) zo;by_cases hpo:pOK x p=true
  ·have hpo':=hpo;unfold pOK at hpo';rw[W7,X1]at hpo';have l0:((p.ls.length:Int)=0)=False:=W9 zo;simp only[eZ,seval,W6,X8,X4,X5,W3,Xc,lt_T c6,hg,fr1 c8,hb,z6,q1,q2,q3,ln,k0,Tzv,s2,dIs,dI,okL,decL,B1,At,toI,hp,e,l0,hpo'.1,tadd];refine .mk ⟨i+1,.own (n+8) 1,hset (AN H tk) (n+8) .tok,n+10⟩ (by rw[map_take c6,hqq]) ⟨⟨c6,(AT d6 c8).hset (m:=n+10) zo zo,?_,zp,.inr (.inr ⟨n+8,rfl,zo,AB ..⟩),.inl rfl⟩,rfl,?_⟩ zp
   ·simp only[];rw[AA _ _ _ _ zo];exact k0
   ·intro j hj h;simp only[]at h;by_cases q:j=i
    ·subst q;rw[hqq];exact hpo
    ·exact c7 j hj zo
  ·have hpf:x.ps.all (pOK x)=false:=Yw.2 ⟨_,Xa c6,by rw[hqq];exact hpo⟩;rw[hpf,Yu];by_cases l1:p.ls.length=0
   ·have l0:((p.ls.length:Int)=0)=True:=W4 zo;simp only[eZ,seval,W6,X8,X4,X5,W3,Xc,lt_T c6,hg,fr1 c8,hb,z6,q1,q2,q3,ln,k0,Tzv,s2,dIs,dI,okL,decL,B1,At,toI,hp,l0,tadd]
   ·have l0:((p.ls.length:Int)=0)=False:=W9 zo;have hd:difI p.ls x.ls.length=false:=by
     cases q:difI p.ls x.ls.length with
     |false=>rfl
     |true=>exact absurd (by unfold pOK;rw[q,Xi (by omega:1<=p.ls.length)];rfl) hpo
    simp only[eZ,seval,W8,X8,X4,X5,W3,Xc,lt_T c6,hg,fr1 c8,hb,z6,q1,q2,q3,ln,k0,Tzv,s2,dIs,dI,okL,decL,B1,At,toI,hp,l0,hd,tadd]
 obtain rfl:i=x.ps.length:=zo
 have hpa:x.ps.all (pOK x)=true:=X9.2 λq hq=>by
  obtain⟨j,hj,rfl⟩:=Xn.1 hq;exact c7 j hj hj
 rw[hpa,XY];have hc:x.ps.map (λp=>eI p.c)=(x.ps.map (·.c)).map eI:=by rw[YJ];rfl
 have t5:few (x.ps.map (·.c))=True:=W4 (by show(x.ps.map _).length<_;rw[W3];exact hpn);simp only[eZ,seval,X4,X5,W3,lt_F c6,hb,Xb,hc,Tzv,s2,dIs,dI,okL,decL,B1,At,toI,hes1,t5,tadd]
def Tzk:Tab:=tadd 54 (s1 dX FewL λx=>.bool (E8 x)) tnil
def Tzk_ok:AH prog Tzk:=AH.tnil.add (q1 λx h=>p54 x h)
def p23(x:jq)(hx:FewL x):Pur prog 23 [encL x] (eI (chk x)):=by
 refine .mk ⟨Be 0 x,trivial⟩ trivial (c23.a (AF Tzk_ok (AG ?_)));cases hl:E8 x with
 |true=>
  simp only[eZ,seval,c23,Tzk,s1,LX,Gi,W4 hx,hl,tadd];unfold chk;rw[X6 hl]
 |false=>
  simp only[eZ,seval,c23,Tzk,s1,LX,Gi,W4 hx,hl,tadd];unfold chk;rw[X0 (by rw[hl];decide)]
end Go.AM
