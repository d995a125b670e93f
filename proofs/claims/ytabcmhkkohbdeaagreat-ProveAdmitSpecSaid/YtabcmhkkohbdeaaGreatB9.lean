/-
  Parts of the proof. Conditions: none.
-/
import Derived.Test.YtabcmhkkohbdeaaGreatB8
set_option maxRecDepth 20000
set_option linter.all false
set_option maxHeartbeats 1000000
namespace Go.AM
open Go.Lib Go.Proofs Go.Proofs.Tryz
theorem A0{a b:Bs}:scmp .neq a b= !decide (a=b):=rfl
theorem BB{a b:Bs}:scmp .eql a b=decide (a=b):=rfl
def iC{a b:xv}:a=b↔a.nm=b.nm/\a.v=b.v:=by cases a;cases b;simp only[xv.mk.injEq]
def iD{a b:x8}:a=b↔a.nm=b.nm/\a.on=b.on/\a.fam=b.fam/\a.ty=b.ty/\a.lo=b.lo/\a.hi=b.hi:=by cases a;cases b;simp only[x8.mk.injEq]
def iE{a b:xj}:a=b↔a.nm=b.nm/\a.ls=b.ls:=by cases a;cases b;simp only[xj.mk.injEq]
def LU(s t:xv):ceqs [.str s.nm,.int .i64 s.v] [.str t.nm,.int .i64 t.v]=decide (s=t):=by
 rw[su,rn,iC];simp [ceqs,Ht]
def LW(s t:x8):ceqs [.str s.nm,.str s.on,.int .i64 s.fam,.int .i64 s.ty,.int .i64 s.lo,.int .i64 s.hi] [.str t.nm,.str t.on,.int .i64 t.fam,.int .i64 t.ty,.int .i64 t.lo,.int .i64 t.hi]=decide (s=t):=by
 rw[su,rn,iD];simp [ceqs,Ht]
def BS{p:Prop}[Decidable p](h:p):decide p=true:=sk h
def A3{p:Prop}[Decidable p](h:¬p):decide p=false:=sa h
def Xt(a b:List Int)(hb:wide b):Aw prog 109 [Am a,Am b] (.bool (decide (a=b))):=by
 refine .mk ⟨AZ 0 a,AZ 0 b,zt⟩ zt (o6.a (AI AH.tnil (AJ ?_)));by_cases hl:a.length=b.length;case neg=>
  simp only[eZ,seval,rf,r9,o6,Gp hl,rf];exact(sa λe=>hl (by rw[e])).symm
 simp only[eZ,seval,re,r9,o6,Gq hl];refine AO (λi:Nat=>⟨[(0,true,Am a),(1,true,Am b),(12,true,.int .i64 a.length),(13,true,.int .i64 i)],Ai,0⟩) (λi=>i<=a.length/\∀j,j<i->a[j]?=b[j]?) (λi=>a.length-i) 0 rfl ⟨rm _,λj hj=>zo⟩ ?_;rintro i ⟨hi,e9⟩;by_cases c9:i<a.length;case neg=>
  simp only[eZ,seval,Ad c9];exact(sk (DO hl λj hj=>e9 j zo)).symm
 have hltb:i<b.length:=zo
 have hga:=rc c9;have hgb:=rc hltb;have e:=AK (k:=i) (by have:b.length<1125899906842624:=hb;omega);by_cases hs:a[i]=b[i]
 ·simp only[eZ,seval,re,rZ,rr,ry,r9,sb,AN c9,AN hltb,hga,hgb,e,BS hs];refine .mk (i+1) rfl ⟨c9,λj h=>?_⟩ zo;by_cases q:j=i
  ·subst q;rw[hga,hgb,hs]
  ·exact e9 j zo
 ·simp only[eZ,seval,rf,rZ,rr,ry,r9,sb,AN c9,AN hltb,hga,hgb,A3 hs];exact(sa λq=>hs (by simp [q])).symm
def p162(a b:List Bs)(hb:wide b):Aw prog 162 [FH a,FH b] (.bool (decide (a=b))):=by
 refine .mk ⟨CN 0 a,CN 0 b,zt⟩ zt (o7.a (AI AH.tnil (AJ ?_)));by_cases hl:a.length=b.length;case neg=>
  simp only[eZ,seval,rf,r9,o7,Gp hl,rf];exact(sa λe=>hl (by rw[e])).symm
 simp only[eZ,seval,re,r9,o7,Gq hl];refine AO (λi:Nat=>⟨[(0,true,FH a),(1,true,FH b),(12,true,.int .i64 a.length),(13,true,.int .i64 i)],Ai,0⟩) (λi=>i<=a.length/\∀j,j<i->a[j]?=b[j]?) (λi=>a.length-i) 0 rfl ⟨rm _,λj hj=>zo⟩ ?_;rintro i ⟨hi,e9⟩;by_cases c9:i<a.length;case neg=>
  simp only[eZ,seval,Ad c9];exact(sk (DO hl λj hj=>e9 j zo)).symm
 have hltb:i<b.length:=zo
 have hga:=rc c9;have hgb:=rc hltb;have e:=AK (k:=i) (by have:b.length<1125899906842624:=hb;omega);by_cases hs:a[i]=b[i]
 ·simp only[eZ,seval,re,rZ,rr,ry,r9,sb,AN c9,AN hltb,hga,hgb,e,A0,BS hs];refine .mk (i+1) rfl ⟨c9,λj h=>?_⟩ zo;by_cases q:j=i
  ·subst q;rw[hga,hgb,hs]
  ·exact e9 j zo
 ·simp only[eZ,seval,rf,rZ,rr,ry,r9,sb,AN c9,AN hltb,hga,hgb,A0,A3 hs];exact(sa λq=>hs (by simp [q])).symm
def p163(a b:List xv)(hb:An b):Aw prog 163 [IW a,IW b] (.bool (decide (a=b))):=by
 refine .mk ⟨HQ 0 a,HQ 0 b,zt⟩ zt (a163 (AI AH.tnil (AJ ?_)));by_cases hl:a.length=b.length;case neg=>
  simp only[eZ,seval,rf,r9,o8,Gp hl,rf];exact(sa λe=>hl (by rw[e])).symm
 simp only[eZ,seval,re,r9,o8,Gq hl];refine AO (λi:Nat=>⟨[(0,true,IW a),(1,true,IW b),(12,true,.int .i64 a.length),(13,true,.int .i64 i)],Ai,0⟩) (λi=>i<=a.length/\∀j,j<i->a[j]?=b[j]?) (λi=>a.length-i) 0 rfl ⟨rm _,λj hj=>zo⟩ ?_;rintro i ⟨hi,e9⟩;by_cases c9:i<a.length;case neg=>
  simp only[eZ,seval,Ad c9];exact(sk (DO hl λj hj=>e9 j zo)).symm
 have hltb:i<b.length:=zo
 have hga:=rc c9;have hgb:=rc hltb;have e:=AK (k:=i) (by have:b.length<1000000000:=hb;omega);by_cases hs:a[i]=b[i]
 ·simp only[eZ,seval,re,rZ,rr,ry,r9,sb,AN c9,AN hltb,hga,hgb,e,LU,EB,BS hs];refine .mk (i+1) rfl ⟨c9,λj h=>?_⟩ zo;by_cases q:j=i
  ·subst q;rw[hga,hgb,hs]
  ·exact e9 j zo
 ·simp only[eZ,seval,rf,rZ,rr,ry,r9,sb,AN c9,AN hltb,hga,hgb,LU,EB,A3 hs];exact(sa λq=>hs (by simp [q])).symm
def p165(a b:List x8)(hb:An b):Aw prog 165 [E6 a,E6 b] (.bool (decide (a=b))):=by
 refine .mk ⟨E8 0 a,E8 0 b,zt⟩ zt (a165 (AI AH.tnil (AJ ?_)));by_cases hl:a.length=b.length;case neg=>
  simp only[eZ,seval,rf,r9,o9,Gp hl,rf];exact(sa λe=>hl (by rw[e])).symm
 simp only[eZ,seval,re,r9,o9,Gq hl];refine AO (λi:Nat=>⟨[(0,true,E6 a),(1,true,E6 b),(12,true,.int .i64 a.length),(13,true,.int .i64 i)],Ai,0⟩) (λi=>i<=a.length/\∀j,j<i->a[j]?=b[j]?) (λi=>a.length-i) 0 rfl ⟨rm _,λj hj=>zo⟩ ?_;rintro i ⟨hi,e9⟩;by_cases c9:i<a.length;case neg=>
  simp only[eZ,seval,Ad c9];exact(sk (DO hl λj hj=>e9 j zo)).symm
 have hltb:i<b.length:=zo
 have hga:=rc c9;have hgb:=rc hltb;have e:=AK (k:=i) (by have:b.length<1000000000:=hb;omega);by_cases hs:a[i]=b[i]
 ·simp only[eZ,seval,re,rZ,rr,ry,r9,sb,AN c9,AN hltb,hga,hgb,e,LW,EB,BS hs];refine .mk (i+1) rfl ⟨c9,λj h=>?_⟩ zo;by_cases q:j=i
  ·subst q;rw[hga,hgb,hs]
  ·exact e9 j zo
 ·simp only[eZ,seval,rf,rZ,rr,ry,r9,sb,AN c9,AN hltb,hga,hgb,LW,EB,A3 hs];exact(sa λq=>hs (by simp [q])).symm
def X6{α β:Type}(cl:Nat)(A:Dc α)(B:Dc β)(c:α->β->Prop)(f:α->β->Fs):List Fs->AB->Prop×Fs:=λa _=>match a with
 |[x,y,.fn (.func k) [] []]=>(k=cl/\A.ok x/\B.ok y/\c (A.dec x) (B.dec y),f (A.dec x) (B.dec y))
 |_=>(False,.tup [])
def q2f{α β:Type}{cl:Nat}{A:Dc α}{B:Dc β}{c:α->β->Prop}{f:α->β->Fs}{s9:FuncId}(h:∀x y,c x y->Aw prog s9 [A.enc x,B.enc y,.fn (.func cl) [] []] (f x y)):∀args H n,(X6 cl A B c f args H).1->Ao prog s9 args H n (X6 cl A B c f args H).2:=by
 intro args H n hh;unfold X6 at hh⊢;split at hh
 ·obtain⟨rfl,h1,h2,h3⟩:=hh;refine AV.args ((h _ _ h3).quiet H n) ?_;rintro g vs ⟨v,r,rfl,k1,w,r',rfl,k2,k3⟩;exact⟨v,_,rfl,A.wk _ h1 _ _ k1,w,_,rfl,B.wk _ h2 _ _ k2,k3⟩
 ·exact hh.elim
def Dj(x:List (List Int)):N0.ok (Bv x)=True:=Jd Fw (.inl rfl)
def Cz(x:List (List Int)):N0.dec (Bv x)=x:=HU Fw
def iF(x:List xv):gr.ok (IW x)=True:=Jd Is (.inl rfl)
def bt(x:List xv):gr.dec (IW x)=x:=HU Is
def iG(x:List xj):gu.ok (HP x)=True:=Jd G9 (.inl rfl)
def bu(x:List xj):gu.dec (HP x)=x:=HU G9
def iH(x:List x8):hU.ok (E6 x)=True:=Jd It (.inl rfl)
def bw(x:List x8):hU.dec (E6 x)=x:=HU It
def iJ(x:List zj):hY.ok (Dr x)=True:=Jd HB (.inl rfl)
def bz(x:List zj):hY.dec (Dr x)=x:=HU HB
abbrev B6(l:List (List Int)):Prop:=An l/\∀x∈l,wide x
abbrev N5(r:xj):Prop:=B6 r.ls
abbrev Ge(r:zj):Prop:=wide r.ns/\wide r.os
structure zk(d:xk):Prop where
 ho:An d.holes
 sy:An d.syms
 rg:An d.regs
 rgs:∀r∈d.regs,N5 r
 cl:An d.clus
 ru:An d.ruls
 rus:∀r∈d.ruls,Ge r
def RF{a b:zj}:a=b↔(((((a.ns=b.ns/\a.os=b.os)/\a.nm=b.nm)/\a.on=b.on)/\a.byN=b.byN)/\a.kind=b.kind/\a.fam=b.fam/\a.set=b.set/\a.oth=b.oth/\a.op=b.op/\a.n=b.n/\a.clue=b.clue):=by
 cases a;cases b;simp only[zj.mk.injEq];constructor
 ·rintro⟨a,b,c,d,e,f,g,h,i,j,k,l⟩;exact⟨⟨⟨⟨⟨e,f⟩,a⟩,b⟩,k⟩,c,d,g,h,i,j,l⟩
 ·rintro⟨⟨⟨⟨⟨e,f⟩,a⟩,b⟩,k⟩,c,d,g,h,i,j,l⟩;exact⟨a,b,c,d,e,f,g,h,i,j,k,l⟩
def ceq_7(a b c d e f g a' b' c' d' e' f' g':Int):ceqs [.int .i64 a,.int .i64 b,.int .i64 c,.int .i64 d,.int .i64 e,.int .i64 f,.int .i64 g] [.int .i64 a',.int .i64 b',.int .i64 c',.int .i64 d',.int .i64 e',.int .i64 f',.int .i64 g']=decide (a=a'/\b=b'/\c=c'/\d=d'/\e=e'/\f=f'/\g=g'):=by
 rw[su,rn];simp [ceqs,Ht]
def iK{a b:xk}:a=b↔((((((((((a.nm=b.nm/\a.ver=b.ver)/\a.sh=b.sh)/\a.w=b.w)/\a.h=b.h)/\a.holes=b.holes)/\a.syms=b.syms)/\a.regs=b.regs)/\a.clus=b.clus)/\a.ruls=b.ruls)):=by
 cases a;cases b;simp only[xk.mk.injEq];constructor
 ·rintro⟨a,b,c,d,e,f,g,h,i,j⟩;exact⟨⟨⟨⟨⟨⟨⟨⟨⟨a,b⟩,c⟩,d⟩,e⟩,f⟩,g⟩,h⟩,i⟩,j⟩
 ·rintro⟨⟨⟨⟨⟨⟨⟨⟨⟨a,b⟩,c⟩,d⟩,e⟩,f⟩,g⟩,h⟩,i⟩,j⟩;exact⟨a,b,c,d,e,f,g,h,i,j⟩
def Tci:Bc:=AG 109 (s2 BA BA (λ_ b=>wide b) λa b=>.bool (decide (a=b))) tnil
def qh:AH prog Tci:=AH.tnil.add (q2 Xt)
def p160(a b:List (List Int))(hb:An b)(hx:∀x∈b,wide x):Aw prog 160 [Bv a,Bv b,.fn (.func 109) [] []] (.bool (decide (a=b))):=by
 refine .mk ⟨BC 0 a,BC 0 b,by simp [Fs.under,unders],zt⟩ zt (pA.a (AI qh (AJ ?_)));by_cases hl:a.length=b.length;case neg=>
  simp only[eZ,seval,rf,r9,pA,Gp hl,rf];exact(sa λe=>hl (by rw[e])).symm
 simp only[eZ,seval,re,r9,pA,Gq hl];refine AO (λi:Nat=>⟨[(1,true,Bv b),(2,true,.fn (.func 109) [] []),(15,true,Bv a),(16,true,.int .i64 a.length),(17,true,.int .i64 i)],Ai,0⟩) (λi=>i<=a.length/\∀j,j<i->a[j]?=b[j]?) (λi=>a.length-i) 0 rfl ⟨rm _,λj hj=>zo⟩ ?_;rintro i ⟨hi,e9⟩;by_cases c9:i<a.length;case neg=>
  simp only[eZ,seval,Ad c9];exact(sk (DO hl λj hj=>e9 j zo)).symm
 have hltb:i<b.length:=zo
 have hga:=rc c9;have hgb:=rc hltb;have e:=AK (k:=i) (by have:b.length<1000000000:=hb;omega);have hf:=hx _ (rY hltb);by_cases hs:a[i]=b[i]
 ·simp only[eZ,seval,re,rZ,rr,ry,r9,sb,AN c9,AN hltb,hga,hgb,e,Tci,s2,Ak,Ag,ra hf,BS hs,AG];refine cX.drop (i+1) rfl rfl rfl rfl AP.nil (λ_ _ h=>by cases h) ⟨BC 0 b,by simp [Fs.under,unders],BC 0 a,zt,zt,zt⟩ ⟨c9,λj h=>?_⟩ zo;by_cases q:j=i
  ·subst q;rw[hga,hgb,hs]
  ·exact e9 j zo
 ·simp only[eZ,seval,rf,rZ,rr,ry,r9,sb,AN c9,AN hltb,hga,hgb,Tci,s2,Ak,Ag,ra hf,A3 hs,AG];exact(sa λq=>hs (by simp [q])).symm
def Tcl:Bc:=AG 160 (X6 109 N0 N0 (λ_ b=>B6 b) λa b=>.bool (decide (a=b))) tnil
def cA:AH prog Tcl:=AH.tnil.add (q2f λa b h=>p160 a b h.1 h.2)
def p159(a b:xj)(hb:N5 b):Aw prog 159 [Gc a,Gc b] (.bool (decide (a=b))):=by
 refine .mk ⟨ES 0 a,ES 0 b,zt⟩ zt (c159.a (AI cA (AJ ?_)));simp only[eZ,seval,c159,BB,Tcl,X6,Dj,Cz,ra hb,AG];rw[su];simp only[rl,rn,iE]
def Tcr:Bc:=AG 159 (s2 qf qf (λ_ b=>N5 b) λa b=>.bool (decide (a=b))) tnil
def qi:AH prog Tcr:=AH.tnil.add (q2 p159)
def p164(a b:List xj)(hb:An b)(hx:∀x∈b,N5 x):Aw prog 164 [HP a,HP b,.fn (.func 159) [] []] (.bool (decide (a=b))):=by
 refine .mk ⟨E7 0 a,E7 0 b,by simp [Fs.under,unders],zt⟩ zt (pB.a (AI qi (AJ ?_)));by_cases hl:a.length=b.length;case neg=>
  simp only[eZ,seval,rf,r9,pB,Gp hl,rf];exact(sa λe=>hl (by rw[e])).symm
 simp only[eZ,seval,re,r9,pB,Gq hl];refine AO (λi:Nat=>⟨[(1,true,HP b),(2,true,.fn (.func 159) [] []),(15,true,HP a),(16,true,.int .i64 a.length),(17,true,.int .i64 i)],Ai,0⟩) (λi=>i<=a.length/\∀j,j<i->a[j]?=b[j]?) (λi=>a.length-i) 0 rfl ⟨rm _,λj hj=>zo⟩ ?_;rintro i ⟨hi,e9⟩;by_cases c9:i<a.length;case neg=>
  simp only[eZ,seval,Ad c9];exact(sk (DO hl λj hj=>e9 j zo)).symm
 have hltb:i<b.length:=zo
 have hga:=rc c9;have hgb:=rc hltb;have e:=AK (k:=i) (by have:b.length<1000000000:=hb;omega);have hf:=hx _ (rY hltb);by_cases hs:a[i]=b[i]
 ·simp only[eZ,seval,re,rZ,rr,ry,r9,sb,AN c9,AN hltb,hga,hgb,e,Tcr,s2,LO,Iu,ra hf,BS hs,AG];refine cX.drop (i+1) rfl rfl rfl rfl AP.nil (λ_ _ h=>by cases h) ⟨E7 0 b,by simp [Fs.under,unders],E7 0 a,zt,zt,zt⟩ ⟨c9,λj h=>?_⟩ zo;by_cases q:j=i
  ·subst q;rw[hga,hgb,hs]
  ·exact e9 j zo
 ·simp only[eZ,seval,rf,rZ,rr,ry,r9,sb,AN c9,AN hltb,hga,hgb,Tcr,s2,LO,Iu,ra hf,A3 hs,AG];exact(sa λq=>hs (by simp [q])).symm
def Tcs:Bc:=AG 162 (s2 I1 I1 (λ_ b=>wide b) λa b=>.bool (decide (a=b))) tnil
def qj:AH prog Tcs:=AH.tnil.add (q2 p162)
def p161(a b:zj)(hb:Ge b):Aw prog 161 [Br a,Br b] (.bool (decide (a=b))):=by
 refine .mk ⟨BN 0 a,BN 0 b,zt⟩ zt (a161 (AI qj (AJ ?_)));have h1:=hb.1;have h2:=hb.2;simp only[eZ,seval,c161,BB,Tcs,s2,HV,Ft,ra h1,ra h2,ceq_7,EB,AG];rw[su];simp only[rl,rn,RF]
def Tcu:Bc:=AG 161 (s2 Mk Mk (λ_ b=>Ge b) λa b=>.bool (decide (a=b))) tnil
def qk:AH prog Tcu:=AH.tnil.add (q2 p161)
def p166(a b:List zj)(hb:An b)(hx:∀x∈b,Ge x):Aw prog 166 [Dr a,Dr b,.fn (.func 161) [] []] (.bool (decide (a=b))):=by
 refine .mk ⟨Di 0 a,Di 0 b,by simp [Fs.under,unders],zt⟩ zt (pC.a (AI qk (AJ ?_)));by_cases hl:a.length=b.length;case neg=>
  simp only[eZ,seval,rf,r9,pC,Gp hl,rf];exact(sa λe=>hl (by rw[e])).symm
 simp only[eZ,seval,re,r9,pC,Gq hl];refine AO (λi:Nat=>⟨[(1,true,Dr b),(2,true,.fn (.func 161) [] []),(15,true,Dr a),(16,true,.int .i64 a.length),(17,true,.int .i64 i)],Ai,0⟩) (λi=>i<=a.length/\∀j,j<i->a[j]?=b[j]?) (λi=>a.length-i) 0 rfl ⟨rm _,λj hj=>zo⟩ ?_;rintro i ⟨hi,e9⟩;by_cases c9:i<a.length;case neg=>
  simp only[eZ,seval,Ad c9];exact(sk (DO hl λj hj=>e9 j zo)).symm
 have hltb:i<b.length:=zo
 have hga:=rc c9;have hgb:=rc hltb;have e:=AK (k:=i) (by have:b.length<1000000000:=hb;omega);have hf:=hx _ (rY hltb);by_cases hs:a[i]=b[i]
 ·simp only[eZ,seval,re,rZ,rr,ry,r9,sb,AN c9,AN hltb,hga,hgb,e,Tcu,s2,CA,Bg,ra hf,BS hs,AG];refine cX.drop (i+1) rfl rfl rfl rfl AP.nil (λ_ _ h=>by cases h) ⟨Di 0 b,by simp [Fs.under,unders],Di 0 a,zt,zt,zt⟩ ⟨c9,λj h=>?_⟩ zo;by_cases q:j=i
  ·subst q;rw[hga,hgb,hs]
  ·exact e9 j zo
 ·simp only[eZ,seval,rf,rZ,rr,ry,r9,sb,AN c9,AN hltb,hga,hgb,Tcu,s2,CA,Bg,ra hf,A3 hs,AG];exact(sa λq=>hs (by simp [q])).symm
def Tsa:Bc:=AG 109 (s2 BA BA (λ_ b=>wide b) λa b=>.bool (decide (a=b))) (AG 163 (s2 gr gr (λ_ b=>An b) λa b=>.bool (decide (a=b))) (AG 164 (X6 159 gu gu (λ_ b=>An b/\∀x∈b,N5 x) λa b=>.bool (decide (a=b))) (AG 165 (s2 hU hU (λ_ b=>An b) λa b=>.bool (decide (a=b))) (AG 166 (X6 161 hY hY (λ_ b=>An b/\∀x∈b,Ge x) λa b=>.bool (decide (a=b))) tnil))))
def qm:AH prog Tsa:=((((AH.tnil.add (q2f λa b h=>p166 a b h.1 h.2)).add (q2 p165)).add (q2f λa b h=>p164 a b h.1 h.2)).add (q2 p163)).add (q2 Xt)
def p110(a b:xk)(hb:zk b):Aw prog 110 [B5 a,B5 b] (.bool (decide (a=b))):=by
 refine .mk ⟨As 0 a,As 0 b,zt⟩ zt (c110.a (AI qm (AJ ?_)));simp only[eZ,seval,c110,BB,Tsa,s2,X6,Ak,Ag,iF,bt,iG,bu,iH,bw,iJ,bz,ra (Dz hb.ho),ra hb.sy,ra hb.rg,ra hb.rgs,ra hb.cl,ra hb.ru,ra hb.rus,AG];rw[su];simp only[rl,rn,iK]
abbrev AE(sh w h:Int)(holes cells:List Int):List Fs:=[.int .i64 sh,.int .i64 w,.int .i64 h,Am holes,Am cells]
abbrev Ek(sh w h:Int)(holes cells:List Int):Fs:=.agg (AE sh w h holes cells)
def BL(n:Nat)(sh w h:Int)(holes cells:List Int):(Ek sh w h holes cells).under n:=⟨zt,zt,zt,AZ n _,AZ n _,zt⟩
def Be(sh w h:Int)(holes:List Int):Fs:=match Av sh w h holes with
 |some cells=>.tup [Ek sh w h holes cells,.int .i64 0]
 |none=>.tup [Ek 0 0 0 [] [],.int .i64 130]
def MF(sh w h:Int)(holes:List Int):(Be sh w h holes).under 0:=by
 unfold Be;split<;>exact⟨BL 0 ..,zt,zt⟩
def RG{sh w h:Int}{holes cells:List Int}{a b:Fs}{e:Int}(h1:Wk a (Am holes))(h2:Wk b (Am cells)):Wk (.tup [.agg [.int .i64 sh,.int .i64 w,.int .i64 h,a,b],.int .i64 e]) (.tup [Ek sh w h holes cells,.int .i64 e]):=
 Wk.tup (.cons (Wk.agg (.cons (Wk.refl _) (.cons (Wk.refl _) (.cons (Wk.refl _) (.cons h1 (.cons h2 .nil)))))) (.cons (Wk.refl _) .nil))
def p32(l:List Int)(hl:An l):Aw prog 32 [Am l] (Am l):=by
 refine .mk ⟨AZ 0 l,zt⟩ (AZ 0 l) (c32.a (AI AH.tnil (AJ ?_)));have a1:(l.length<=35184372088832)=True:=ra (by have:l.length<1000000000:=hl;omega);have a2:Al l.length 8=True:=ra (Ac (by have:l.length<1000000000:=hl;omega) zd);cases l with
 |nil=>
  simp only[eZ,seval,c32];refine⟨?_,?_⟩
  ·simp only[eZ,seval,Al,uI,rm];exact Wk.sl (.inl rfl)
  ·simp only[eZ,seval,rf];exact Wk.sl (.inr rfl)
 |cons x r=>
  rw[sC]at a1 a2;simp only[eZ,seval,r9,c32,Am,a1,a2];exact Wk.sl (.inl rfl)
def Tmk:Bc:=AG 32 (s1 BA An λl=>Am l) (AG 223 (s2 BA dI (λl _=>An l/\List.Pairwise (λx y=>x<y) l) λl x=>.tup [.int .i64 (Fa l x),.bool (l.contains x)]) tnil)
def qn:AH prog Tmk:=(AH.tnil.add (q2 λl x h=>p223 l x h.1 h.2)).add (q1 p32)
def D4(holes:List Int)(k:Nat):List Int:=((List.range k).map λ(i:Nat)=>(i:Int)).filter λp=>!holes.contains p
def P5(holes:List Int)(k:Nat):D4 holes (k+1)=if holes.contains (k:Int)then D4 holes k else D4 holes k++[(k:Int)]:=by
 unfold D4;rw[tJ,rz,tD];cases h:holes.contains (k:Int)<;>simp only[sw,sI,tI,uA,h,re,rf,t8,sG,sr,sE]
def WL(holes:List Int)(k:Nat):(D4 holes k).length<=k:=by
 have:=tg (λp=>!holes.contains p) ((List.range k).map λ(i:Nat)=>(i:Int));simpa [D4]using this
structure VM where
 k:Nat
 tk:w8
 H:AB
 n:Nat
structure IM(sh w h:Int)(holes:List Int)(m:Nat)(v:VM):Prop where
 hk:v.k<=m
 hn:2<=v.n
 fr:AP v.H v.n
 h0:AD v.H 0=some (.box [.int .i64 sh,.int .i64 w,.int .i64 h,Am holes,.sl v.tk ((D4 holes v.k).map eI)])
 tok:DA 1 1 v.H v.tk
 es:v.tk.esz=1\/D4 holes v.k=[]
def p155(sh w h:Int)(holes:List Int)(hl:An holes):Aw prog 155 [.int .i64 sh,.int .i64 w,.int .i64 h,Am holes] (Be sh w h holes):=by
 refine .mk ⟨zt,zt,zt,AZ 0 _,zt⟩ (MF sh w h holes) (pD.a (AI qn (AJ ?_)));have hE:∀b,(b=true↔¬((sh=1\/sh=2)/\1<=w/\w<=16/\1<=h/\h<=16/\(holes.length:Int)<w*h))->(!decide (sh=1)&& !decide (sh=2)||decide (w<1)||decide (16<w)||decide (h<1)||decide (16<h)||decide (IntKind.wrap .i64 (w*h)<=(holes.length:Int)))=b:=by
  intro b hb;rw[su,hb];simp only[sA,rl,tq,rn,sR];by_cases hwh:1<=w/\w<=16/\1<=h/\h<=16
  ·have:=bc hwh.1 hwh.2.1 hwh.2.2.1 hwh.2.2.2;rw[A6 zo zo];omega
  ·omega
 by_cases hc:(sh=1\/sh=2)/\1<=w/\w<=16/\1<=h/\h<=16/\(holes.length:Int)<w*h;case neg=>
  have hn:Be sh w h holes= .tup [Ek 0 0 0 [] [],.int .i64 130]:=by
   unfold Be Av;rw[rj λq=>hc ⟨q.1,q.2.1,q.2.2.1,q.2.2.2.1,q.2.2.2.2.1,q.2.2.2.2.2.1⟩]
  have hb:=hE true (by simp [hc]);rw[hn];simp only[eZ,seval,BG,r9,pD,hb];exact RG (Wk.sl (.inr rfl)) (Wk.sl (.inr rfl))
 have hb:=hE false (by simp [hc]);obtain⟨hsh,hw1,hw2,hh1,hh2,ww⟩:=hc;obtain⟨p1,p2⟩:=bc hw1 hw2 hh1 hh2;have hwh:IntKind.wrap .i64 (w*h)=w*h:=A6 zo zo;have hG:Av sh w h holes=if(Cq (-1) holes&&holes.all λp=>decide (p<w*h))=true then some (D4 holes (w*h).toNat)else none:=by
  unfold Av;by_cases q:(Cq (-1) holes&&holes.all λp=>decide (p<w*h))=true
  ·rw[rt q];rw[rl]at q;rw[rt ⟨hsh,hw1,hw2,hh1,hh2,ww,q.1,q.2⟩];rfl
  ·rw[rj q];rw[rl]at q;rw[rj λz=>q ⟨z.2.2.2.2.2.2.1,z.2.2.2.2.2.2.2⟩]
 simp only[eZ,seval,r9,pD,hb];refine AO (λv:Nat×Int=>⟨[(0,true,.int .i64 sh),(1,true,.int .i64 w),(2,true,.int .i64 h),(3,true,Am holes),(8,true,.ptr 0 0),(10,true,.int .i64 v.2),(47,true,Am holes),(48,true,.int .i64 holes.length),(49,true,.int .i64 v.1)],hset Ai 0 (.box [z0,z0,z0,zs,zs]),2⟩)
  (λv=>v.1<=holes.length/\(Cq (-1) holes&&holes.all λp=>decide (p<w*h))=(Cq v.2 (holes.drop v.1)&&(holes.drop v.1).all λp=>decide (p<w*h))) (λv=>holes.length-v.1) (0,-1) rfl ⟨rm _,rfl⟩ ?_
 rintro⟨i,last⟩ ⟨hi,he⟩;simp only at hi he;by_cases c9:i<holes.length
 ·have hg:=rc c9;have e:=AK (k:=i) (by have:holes.length<1000000000:=hl;omega);rw[sn c9,Cq,uq]at he;by_cases s7:last<holes[i]/\holes[i]<w*h
  ·have hd:(decide (holes[i]<=last)||decide (w*h<=holes[i]))=false:=by simp;omega
   simp only[eZ,seval,rZ,rr,ry,r9,sb,AN c9,hg,e,hwh,hd];refine .mk (i+1,holes[i]) rfl ⟨c9,?_⟩ zp;simp only[];rw[he,sk s7.1,sk s7.2];simp
  ·have hd:(decide (holes[i]<=last)||decide (w*h<=holes[i]))=true:=by simp;omega
   have hn:Be sh w h holes= .tup [Ek 0 0 0 [] [],.int .i64 130]:=by
    unfold Be;rw[hG,rj];rw[he];intro q;simp only[rl,rn]at q;exact s7 ⟨q.1.1,q.2.1⟩
   rw[hn];simp only[eZ,seval,BG,rZ,rr,ry,r9,sb,AN c9,hg,hwh,hd];exact RG (Wk.sl (.inr rfl)) (Wk.sl (.inr rfl))
 have w9:i=holes.length:=zo
 subst w9;rw[sK]at he;have hS:Av sh w h holes=some (D4 holes (w*h).toNat):=by rw[hG,rt (by rw[he];rfl)]
 have hrise:=(IT hS).2.2.2.2.2.2.2.1;have hM:Be sh w h holes= .tup [Ek sh w h holes (D4 holes (w*h).toNat),.int .i64 0]:=by unfold Be;rw[hS]
 rw[hM];obtain⟨m,hm⟩:∃m:Nat,w*h=(m:Int):=⟨(w*h).toNat,zo⟩;have hmt:(w*h).toNat=m:=zo
 have hwm:IntKind.wrap .i64 (m:Int)=m:=by rw[<-hm];exact hwh
 rw[hmt];simp only[eZ,seval,Ad c9,Tmk,s1,Ak,Ag,ra hl,hwm,hm,AQ,AG];refine AO (λv:VM=>⟨[(3,true,Am holes),(8,true,.ptr 0 0),(74,true,.int .i64 m),(75,true,.int .i64 v.k)],v.H,v.n⟩) (IM sh w h holes m) (λv=>m-v.k)
  ⟨0,.nil,hset Ai 0 (.box [.int .i64 sh,.int .i64 w,.int .i64 h,Am holes,.sl .nil []]),2⟩ rfl ⟨rm _,rq _,AP.nil.hset (m:=2) (rm 2) (show 0<2 by decide),rfl,.inl rfl,.inr rfl⟩ ?_
 rintro⟨k,tk,H,n⟩ hI;have hk:=hI.hk;have hn:=hI.hn;have l7:=hI.fr;have h0:=hI.h0;have l5:=hI.tok;have s5:=hI.es;simp only at hk hn l7 h0 l5 s5;by_cases c9:k<m
 ·have e:=AK (k:=k) zo;have hps:=P5 holes k;cases wd:holes.contains (k:Int)with
  |true=>
   rw[wd,rt rfl]at hps;simp only[eZ,seval,re,rZ,tG,tZ,AN c9,Tmk,s2,Ak,Ag,BD,Au,ra hl,ra hrise,wd,e,AG];exact .mk ⟨k+1,tk,H,n⟩ rfl ⟨c9,hn,l7,by simp only[hps];exact h0,l5,by simp only[hps];exact s5⟩ zp
  |false=>
   rw[wd,rj zd]at hps;have wu:=WL holes k;have q1:BH H 1 tk=True:=ra l5.app;have q2:((D4 holes k).length<=35184372088831)=True:=ra zo;have q3:Al ((D4 holes k).length+1) 8=True:=ra (Ac zo zd);have kx:AD (AU H tk) 0=some (.box [.int .i64 sh,.int .i64 w,.int .i64 h,Am holes,.sl tk ((D4 holes k).map eI)]):=by rw[Af l5 (.inl zo)];exact h0
   have y0:∀j,(n+j=0)=False:=λj=>ri zo
   simp only[eZ,seval,rf,rZ,r9,tG,tZ,AN c9,Tmk,s2,Ak,Ag,BD,Au,ra hl,ra hrise,wd,e,h0,q1,q2,q3,Bq l7,kx,y0,AG];refine .mk ⟨k+1,.own (n+4) 1,hset (hset (AU H tk) (n+4) .tok) 0 (.box [.int .i64 sh,.int .i64 w,.int .i64 h,Am holes,.sl (.own (n+4) 1) ((D4 holes (k+1)).map eI)]),n+7⟩ ?_ ⟨c9,zp,((Ab l5 l7).hset (m:=n+7) zo zo).hset (rq (n+7)) (show 0<n+7 by omega),AC ..,.inr (.inr ⟨n+4,rfl,zo,by rw[AA _ _ _ _ zo];exact AC ..⟩),.inl rfl⟩ zp;rw[hps,rz];rfl
 obtain rfl:k=m:=zo
 simp only[eZ,seval,BG,Ad c9,h0];exact RG (Wk.refl _) (Wk.sl (s5.imp id λq=>by rw[q];rfl))
def Tgc:Bc:=AG 155 (λa H=>match a with
 |[.int .i64 sh,.int .i64 w,.int .i64 h,x]=>(BA.ok x/\An (BA.dec x),Be sh w h (BA.dec x))
 |_=>(False,.tup [])) (AG 109 (s2 BA BA (λ_ b=>An b) λa b=>.bool (decide (a=b))) tnil)
theorem cB:∀args H n,((λ(a:List Fs) (H:AB)=>match a with
 |[.int .i64 sh,.int .i64 w,.int .i64 h,x]=>(BA.ok x/\An (BA.dec x),Be sh w h (BA.dec x))
 |_=>(False,Fs.tup [])) args H).1->Ao prog 155 args H n ((λ(a:List Fs) (H:AB)=>match a with
 |[.int .i64 sh,.int .i64 w,.int .i64 h,x]=>(BA.ok x/\An (BA.dec x),Be sh w h (BA.dec x))
 |_=>(False,Fs.tup [])) args H).2:=by
 intro args H n hh;simp only at hh⊢;split at hh
 ·obtain⟨h1,h2⟩:=hh;refine AV.args ((p155 _ _ _ _ h2).quiet H n) ?_;rintro g vs ⟨v,r,rfl,k1,w,r',rfl,k2,u,r2,rfl,k3,z,r3,rfl,k4,k5⟩;exact⟨v,_,rfl,k1,w,_,rfl,k2,u,_,rfl,k3,z,_,rfl,BA.wk _ h1 _ _ k4,k5⟩
 ·exact hh.elim
def qo:AH prog Tgc:=(AH.tnil.add (q2 λa b h=>Xt a b (Dz h))).add cB
def GO(sh w h:Int)(holes cells:List Int):Bool:=decide (Av sh w h holes=some cells)
def p224(sh w h:Int)(holes cells:List Int)(hl:An holes)(hc:An cells):Aw prog 224 [Ek sh w h holes cells] (.int .i64 (if GO sh w h holes cells=true then 0 else 130)):=by
 refine .mk ⟨BL 0 ..,zt⟩ zt (gC.a (AI qo (AJ ?_)));cases hG:Av sh w h holes with
 |none=>
  have hM:Be sh w h holes= .tup [Ek 0 0 0 [] [],.int .i64 130]:=by unfold Be;rw[hG]
  have hk:GO sh w h holes cells=false:=by unfold GO;rw[hG];simp
  rw[hk];simp only[eZ,seval,re,rf,rZ,tG,tZ,gC,Tgc,Ak,Ag,ra hl,hM,Ek,AG]
 |some cs=>
  have hM:Be sh w h holes= .tup [Ek sh w h holes cs,.int .i64 0]:=by unfold Be;rw[hG]
  have hk:GO sh w h holes cells=decide (cs=cells):=by unfold GO;rw[hG];simp
  rw[hk];by_cases hq:cs=cells
  ·simp only[eZ,seval,re,rZ,tG,tZ,gC,Tgc,s2,Ak,Ag,ra hl,hM,Ek,ra hc,BS hq,AG]
  ·simp only[eZ,seval,re,rf,rZ,tG,tZ,gC,Tgc,s2,Ak,Ag,ra hl,hM,Ek,ra hc,A3 hq,AG]
structure v7 where
 sh:Int
 w:Int
 h:Int
 holes:List Int
 cells:List Int
 deriving DecidableEq
abbrev CK(g:v7):Fs:=Ek g.sh g.w g.h g.holes g.cells
def TB:Fs->v7
 | .agg [.int _ sh,.int _ w,.int _ h,ho,ce]=>⟨sh,w,h,Hn ho,Hn ce⟩
 |_=>⟨0,0,0,[],[]⟩
def LX(g:v7):TB (CK g)=g:=by simp only[TB,Fw]
def DY:Dc v7:=cY CK TB
def EH(x:v7):DY.ok (CK x)=True:=HS LX x
def DG(x:v7):DY.dec (CK x)=x:=LX x
def Fl{sh w h:Int}{holes cells:List Int}:DY.ok (Ek sh w h holes cells)=True:=EH ⟨sh,w,h,holes,cells⟩
def Ds{sh w h:Int}{holes cells:List Int}:DY.dec (Ek sh w h holes cells)=⟨sh,w,h,holes,cells⟩:=DG ⟨sh,w,h,holes,cells⟩
abbrev Jf(g:v7):Fs:=.int .i64 (if GO g.sh g.w g.h g.holes g.cells=true then 0 else 130)
def rX:Bc:=AG 224 (s1 DY (λg=>An g.holes/\An g.cells) Jf) (AG 223 (s2 BA dI (λl _=>An l/\List.Pairwise (λx y=>x<y) l) λl x=>.tup [.int .i64 (Fa l x),.bool (l.contains x)]) tnil)
def qp:AH prog rX:=(AH.tnil.add (q2 λl x h=>p223 l x h.1 h.2)).add (q1 λg h=>p224 g.sh g.w g.h g.holes g.cells h.1 h.2)
def Wks.len{ws us:List Fs}(h:Wks ws us):ws.length=us.length:=by
 induction h with
 |nil=>rfl
 |cons _ _ ih=>simp [ih]
def Wks.app{a b c d:List Fs}(h:Wks a b)(k:Wks c d):Wks (a++c) (b++d):=by
 induction h with
 |nil=>exact k
 |cons h1 _ ih=>exact .cons h1 ih
def cC{g:q8}{e:Nat}{f:Nat->Option Value}{l m:List Fs}(hw:Wks l m):∀o,Stab g e f o l->Stab g e f o m:=by
 induction hw with
 |nil=>exact λ_ _=>zt
 |cons h1 _ ih=>exact λo ⟨⟨v,q1,q2,q3⟩,h'⟩=>⟨⟨v,h1 _ _ q1,q2,q3⟩,ih _ h'⟩
def Wk.slx{t:w8}{e:Nat}{l m:List Fs}(h:t.esz=e\/l=[])(hw:Wks l m):Wk (.sl t l) (.sl (.none e) m):=by
 intro g v hv;have hv:=Wk.sl h g v hv;rcases hv with⟨h1,rfl,-⟩|⟨-,b,o,cap,⟨sp,rfl,hsp⟩,hc,hst,-⟩
 ·have hl:=hw.len;subst h1;have:m=[]:=t6 (by rw[<-hl];rfl);subst this;exact .inl ⟨rfl,rfl,zt⟩
 ·have hl:=hw.len;refine .inr ⟨zt,b,o,cap,⟨sp,by rw[hl],?_⟩,by rw[<-hl];exact hc,cC hw _ hst,zt⟩;rcases hsp with q|⟨q,q2⟩
  ·exact .inl q
  ·refine .inr ⟨?_,.inr ⟨e,rfl⟩⟩;subst q;exact t6 (by rw[<-hl];rfl)
def TC{cells l:List Int}{p:Int}(hp:List.Pairwise (λx y=>x<y) cells)(hl:∀q∈l,q∈cells)(hc:p∈cells):(Bk cells l).contains (Fa cells p:Int)=l.contains p:=by
 rw[su,sN,sN];unfold Bk;rw[t7];constructor
 ·rintro⟨q,hq,e⟩;have:=gq hp (hl q hq) hc zo;rw[<-this];exact hq
 ·exact λh=>⟨p,h,rfl⟩
def Iv(cells l:List Int):(Bk cells l).length=l.length:=r9 ..
def EI(cells:List Int)(lists:List (List Int)):Fs:=if(decide (lists.length<=64)&&lists.all (Eh cells))=true then .tup [Bv (lists.map (Bk cells)),.int .i64 0]else .tup [Bv [],.int .i64 130]
theorem KZ:∀{l m:List Int},l.Nodup->(∀q∈l,q∈m)->l.length<=m.length
 |[],_,_,_=>rm _
 |a::l,m,hd,hs=>by
  obtain⟨h1,h2⟩:=ul.1 hd;have ha:=hs a zw;have ih:=KZ (m:=m.erase a) h2 λq hq=>(List.mem_erase_of_ne (λe:q=a=>by subst e;exact h1 hq)).2 (hs q (by simp [hq]))
  rw[List.length_erase_of_mem ha]at ih;have:=List.length_pos_of_mem ha;rw[sC];omega
structure VRg where
 i:Nat
 E:List Fs
 tl:w8
 H:AB
 n:Nat
structure IRg(g:v7)(lists:List (List Int))(v:VRg):Prop where
 hi:v.i<=lists.length
 hn:3<=v.n
 fr:AP v.H v.n
 h0:AD v.H 0=some (.box (AE g.sh g.w g.h g.holes g.cells))
 tok:DA 1 1 v.H v.tl
 es:v.tl.esz=1\/v.E=[]
 hE:Wks v.E (((lists.take v.i).map (Bk g.cells)).map Am)
 eq:lists.all (Eh g.cells)=(lists.drop v.i).all (Eh g.cells)
structure VRi where
 j:Nat
 tc:w8
 H:AB
 n:Nat
structure IRi(g:v7)(x:List Int)(H0:AB)(n0:Nat)(v:VRi):Prop where
 hj:v.j<=x.length
 hn:n0+2<=v.n
 fr:AP v.H v.n
 hk:∀id,id<n0->AD v.H id=AD H0 id
 hm:AD v.H n0=some (.map (IX (Bk g.cells (x.take v.j)) 0) v.j)
 tok:DA 1 (n0+1) v.H v.tc
 es:v.tc.esz=1\/v.j=0
 sub:∀q∈x.take v.j,q∈g.cells
 eq:G6 g.cells [] x=G6 g.cells (x.take v.j) (x.drop v.j)
 nd:(x.take v.j).Nodup
def p158(g:v7)(lists:List (List Int))(hG:Av g.sh g.w g.h g.holes=some g.cells)(hh:An g.holes)(hl:B6 lists):Aw prog 158 [CK g,Bv lists] (EI g.cells lists):=by
 refine .mk ⟨BL 0 ..,BC 0 _,zt⟩ (by unfold EI;split<;>exact⟨BC 0 _,zt,zt⟩) (pE.a (AI qp (AJ ?_)));obtain⟨hr1,hr2,hr3⟩:=BX hG;have hfc:An g.cells:=show g.cells.length<_ by omega
 have hgo:GO g.sh g.w g.h g.holes g.cells=true:=by unfold GO;rw[hG];simp
 by_cases h64:64<lists.length
 ·have hv:EI g.cells lists= .tup [Bv [],.int .i64 130]:=by unfold EI;rw[rj];simp;omega
  have l64:((64:Int)<(lists.length:Int))=True:=ra zo;rw[hv];simp only[eZ,seval,re,r9,pE,rX,s1,Fl,Ds,ra hh,ra hfc,hgo,l64,AG];exact Wk.tup (.cons (Wk.sl (.inr rfl)) (.cons (Wk.refl _) .nil))
 have l64:((64:Int)<(lists.length:Int))=False:=ri zo;simp only[eZ,seval,re,r9,pE,rX,s1,Fl,Ds,ra hh,ra hfc,hgo,l64,AG];have v9:lists.all (Eh g.cells)=false->EI g.cells lists= .tup [Bv [],.int .i64 130]:=λq=>by unfold EI;rw[q,uP,rj zd]
 refine AO (λv:VRg=>⟨[(2,true,.ptr 0 0),(4,true,.sl v.tl v.E),(22,true,Bv lists),(23,true,.int .i64 lists.length),(24,true,.int .i64 v.i)],v.H,v.n⟩) (IRg g lists) (λv=>lists.length-v.i)
  ⟨0,[],.nil,hset Ai 0 (.box (AE g.sh g.w g.h g.holes g.cells)),3⟩ rfl ⟨rm _,rq _,AP.nil.hset (m:=3) (rm 3) (show 0<3 by decide),rfl,.inl rfl,.inr rfl,.nil,rfl⟩ ?_
 rintro⟨i,E,tl,H,n⟩ hI;have hi:=hI.hi;have hn:=hI.hn;have l7:=hI.fr;have h0:=hI.h0;have l5:=hI.tok;have s5:=hI.es;have hE:=hI.hE;have heq:=hI.eq;simp only at hi hn l7 h0 l5 s5 hE heq;by_cases c9:i<lists.length;case neg=>
  have w9:i=lists.length:=zo
  subst w9;rw[sK]at heq;rw[se]at hE;have hv:EI g.cells lists= .tup [Bv (lists.map (Bk g.cells)),.int .i64 0]:=by
   unfold EI;rw[heq,rt];simp;omega
  rw[hv];simp only[eZ,seval,Ad c9];exact Wk.tup (.cons (Wk.slx s5 hE) (.cons (Wk.refl _) .nil))
 have hg:=rc c9;have e:=AK (k:=i) zo;have hxf:=hl.2 _ (rY c9);have hxe:=map_take (f:=Bk g.cells) c9;rw[sn c9,uq]at heq;generalize hx:lists[i]=x at hg hxf heq hxe;have hxl:x.length<1125899906842624:=hxf;have hmk:AD (hset H n (.map [] 0)) 0=some (.box (AE g.sh g.w g.h g.holes g.cells)):=by rw[AA _ _ _ _ zo];exact h0
 simp only[eZ,seval,xE,rZ,rr,ry,r9,sb,AN c9,hg,S1 l7];refine AO (λv:VRi=>⟨[(2,true,.ptr 0 0),(4,true,.sl tl E),(8,true,.sl v.tc ((Bk g.cells (x.take v.j)).map eI)),(9,true,.mp n),(22,true,Bv lists),(23,true,.int .i64 lists.length),(24,true,.int .i64 i),(29,true,Am x),(30,true,.int .i64 x.length),(31,true,.int .i64 v.j)],v.H,v.n⟩)
  (IRi g x H n) (λv=>x.length-v.j) ⟨0,.nil,hset H n (.map [] 0),n+2⟩ rfl ⟨rm _,rq _,(l7.hset (m:=n+2) zo zo),λid p9=>AA _ _ _ _ zo,AC ..,.inl rfl,.inr rfl,λq hq=>by(simp at hq),rfl,zw⟩ ?_
 rintro⟨j,tc,H1,n1⟩ hJ;have hj:=hJ.hj;have me:=hJ.hn;have hf1:=hJ.fr;have hk:=hJ.hk;have hm:=hJ.hm;have htc:=hJ.tok;have hec:=hJ.es;have hsub:=hJ.sub;have hme:=hJ.eq;have hnd:=hJ.nd;simp only at hj me hf1 hk hm htc hec hsub hme hnd;have hj256:j<=256:=by
  have:=KZ hnd hsub;rw[sD]at this;omega
 have wc:AD H1 0=some (.box (AE g.sh g.w g.h g.holes g.cells)):=by rw[hk 0 zo];exact h0
 by_cases l9:j<x.length
 ·have hgj:=rc l9;have ej:=AK (k:=j) zo;have htx:=map_take (f:=λp=>(Fa g.cells p:Int)) l9;have htk2:x.take (j+1)=x.take j++[x[j]]:=by rw[sf,hgj];rfl
  rw[sn l9,G6]at hme;have hlen:(Bk g.cells (x.take j)).length=j:=by rw[Iv,sD];omega
  generalize hp:x[j]=p at hgj htx htk2 hme;have s8:(g.cells.contains p&& !(x.take j).contains p)=false->EI g.cells lists= .tup [Bv [],.int .i64 130]:=λq=>v9 (by
   rw[heq,G7,hme,q];simp)
  cases wd:g.cells.contains p with
  |false=>
   rw[s8 (by rw[wd];rfl)];simp only[eZ,eX,seval,re,rf,rZ,rr,ry,r9,sb,tG,tZ,AN l9,hgj,wc,rX,s2,Ak,Ag,BD,Au,ra hfc,ra hr1,wd,AG];exact Wk.tup (.cons (Wk.sl (.inr rfl)) (.cons (Wk.refl _) .nil))
  |true=>
   have hpm:p∈g.cells:=sN.1 wd;have hcm:=TC hr1 hsub hpm;have hmf:Bi (.int .i64 (Fa g.cells p:Int)) (IX (Bk g.cells (x.take j)) 0)=if(x.take j).contains p then some (.bool true)else none:=by rw[RB,hcm]
   cases hmt:(x.take j).contains p with
   |true=>
    rw[s8 (by rw[wd,hmt];rfl)];rw[hmt,rt rfl]at hmf;simp only[eZ,eX,seval,re,xE,rZ,rr,ry,r9,sb,tG,tZ,AN l9,hgj,wc,rX,s2,Ak,Ag,BD,Au,ra hfc,ra hr1,wd,hm,hmf,Up,xE,KT.is,C9,AG];exact Wk.tup (.cons (Wk.sl (.inr rfl)) (.cons (Wk.refl _) .nil))
   |false=>
    rw[hmt,rj zd]at hmf;have xm:=qg (l:=Bk g.cells (x.take j)) (x:=(Fa g.cells p:Int)) (by rw[hcm];exact hmt);rw[hlen]at xm;have htm:DA 1 (n+1) (hset H1 n (.map (IX (Bk g.cells (x.take j)++[(Fa g.cells p:Int)]) 0) (j+1))) tc:=htc.set (.inl zo);have q1:BH (hset H1 n (.map (IX (Bk g.cells (x.take j)++[(Fa g.cells p:Int)]) 0) (j+1))) 1 tc=True:=ra htm.app;have q2:(j<=35184372088831)=True:=ra zo;have q3:Al (j+1) 8=True:=ra (Ac zo zd);have yn:∀k,(n=n1+k)=False:=λk=>ri zo
    simp only[eZ,eX,seval,re,xE,Option.getD_none,Option.isSome_none,rZ,rr,ry,r9,sb,tG,tZ,AN l9,hgj,wc,rX,s2,Ak,Ag,BD,Au,ra hfc,ra hr1,wd,hm,hmf,Up,xE,KT.is,C9,ej,xm,q1,q2,q3,hlen,yn,Bq hf1,AG];generalize hG2:hset H1 n (.map (IX (Bk g.cells (x.take j)++[(Fa g.cells p:Int)]) 0) (j+1))=H2 at htm;have wp:AP H2 n1:=by rw[<-hG2];exact hf1.hset (rq _) zo
    have my:∀id,id<n->AD H2 id=AD H id:=λid p9=>by rw[<-hG2,AA _ _ _ _ zo];exact hk id p9
    have xu:AD H2 n=some (.map (IX (Bk g.cells (x.take j)++[(Fa g.cells p:Int)]) 0) (j+1)):=by rw[<-hG2];exact AC ..
    have wg:Bk g.cells (x.take (j+1))=Bk g.cells (x.take j)++[(Fa g.cells p:Int)]:=htx;refine .mk ⟨j+1,.own (n1+3) 1,hset (AU H2 tc) (n1+3) .tok,n1+5⟩ ?_ ⟨l9,zp,(Ab htm wp).hset (m:=n1+5) zo zo,λid p9=>?_,?_,.inr (.inr ⟨n1+3,rfl,zo,AC ..⟩),.inl rfl,λq hq=>?_,?_,?_⟩ zp
    ·rw[wg,rz];rfl
    ·simp only[];rw[AA _ _ _ _ zo,Af htm (.inl zo)];exact my id p9
    ·simp only[];rw[AA _ _ _ _ zo,Af htm (.inl zo),wg];exact xu
    ·simp only[htk2]at hq;rcases ti.1 hq with q1|q1
     ·exact hsub q q1
     ·rw[sZ.1 q1];exact hpm
    ·simp only[];rw[htk2,hme,wd,hmt];rfl
    ·simp only[];rw[htk2,ug];refine⟨hnd,zw,λa ha b hb e=>?_⟩;rw[sZ]at hb;subst hb;subst e;rw[sN.2 ha]at hmt;cases hmt
 have hj':j=x.length:=zo
 subst hj';rw[sK,se]at hme;rw[se]at hm;have hlx:(Bk g.cells (x.take x.length)).length=x.length:=by rw[Iv,se]
 by_cases hx0:x.length=0
 ·have s8:EI g.cells lists= .tup [Bv [],.int .i64 130]:=v9 (by rw[heq,G7,hx0];simp);rw[s8];simp only[eZ,seval,r9,Ad l9,hlx,BS (show((x.length:Nat):Int)=0 by omega)];exact Wk.tup (.cons (Wk.sl (.inr rfl)) (.cons (Wk.refl _) .nil))
 have hEl:E.length<=64:=by
  have:=hE.len;simp only[r9,sD]at this;omega
 have y9:DA 1 1 H1 tl:=by
  rcases l5 with rfl|rfl|⟨id,rfl,h1,h2⟩
  ·exact .inl rfl
  ·exact .inr (.inl rfl)
  ·exact .inr (.inr ⟨id,rfl,h1,by rw[hk id (l7.lt h2)];exact h2⟩)
 have q1:BH H1 1 tl=True:=ra y9.app;have q2:(E.length<=35184372088831)=True:=ra zo;have q3:Al (E.length+1) 24=True:=ra (Ac zo zd);simp only[eZ,seval,r9,Ad l9,hlx,A3 (show ¬((x.length:Nat):Int)=0 by omega),e,q1,q2,q3,Bq hf1];refine .mk ⟨i+1,E++[.sl tc ((Bk g.cells x).map eI)],.own (n1+3) 1,hset (AU H1 tl) (n1+3) .tok,n1+5⟩ ?_ ⟨c9,zp,(Ab y9 hf1).hset (m:=n1+5) zo zo,?_,.inr (.inr ⟨n1+3,rfl,zo,AC ..⟩),.inl rfl,?_,?_⟩ zp
 ·rw[se]
 ·simp only[];rw[AA _ _ _ _ zo,Af y9 (.inl zo)];exact wc
 ·simp only[];rw[hxe,rz];exact hE.app (.cons (Wk.sl (hec.imp id λq=>by rw[tF.1 q];rfl)) .nil)
 ·simp only[];have s7:Eh g.cells x=true:=by rw[G7,hme];simp [G6];omega
  rw[heq,s7,sS]
section
def CQ(m:Nat)(p:Nat->Bool):List Int:=((List.range m).filter p).map λ(i:Nat)=>(i:Int)
variable {x sh n:Int} {m:Nat} {p:Nat->Bool}
theorem IY:x∈CQ m p↔∃i:Nat,i<m/\p i=true/\x=(i:Int):=by grind [CQ]
theorem N6{i:Nat}:(i:Int)∈CQ m p↔i<m/\p i=true:=by grind [IY]
theorem LY(m:Nat)(p:Nat->Bool):List.Pairwise (λx y=>x<y) (CQ m p):=by
 unfold CQ;rw[uU];exact(uQ.sublist ve).imp λq=>zo
theorem EU(m:Nat)(p:Nat->Bool):CQ (m+1) p=if p m=true then CQ m p++[(m:Int)]else CQ m p:=by grind [CQ,List.range_succ]
theorem C0(m:Nat)(p:Nat->Bool):(CQ m p).length<=m:=by grind [CQ]
theorem EJ{q:Nat->Bool}(h:∀i,i<m->p i=q i):CQ m p=CQ m q:=by grind [CQ,List.filter_congr]
theorem TD(m:Nat):CQ m (λ_=>true)=(List.range m).map λ(i:Nat)=>(i:Int):=by
 unfold CQ;rw[uN.2 λ_ _=>rfl]
abbrev BF:=Int×Int
def DX(sh w p:Int):BF:=(if sh=2 then p.tmod w-(p.tdiv w).tdiv 2 else p.tmod w,p.tdiv w)
def Aa(sh w:Int)(cells:List Int):List BF:=cells.map (DX sh w)
def Fc(sh:Int):List BF:=(([(1,0),(-1,0),(0,1),(0,-1),(1,-1),(-1,1)]:List BF)).take (if sh=1 then 4 else 6)
def I2(s d:BF):BF:=(s.1+d.1,s.2+d.2)
def Eo(S:List BF)(s:BF):Option Int:=(S.findIdx? λx=>decide (x=s)).map λ(i:Nat)=>(i:Int)
def HX(sh:Int)(S:List BF)(s:BF):List Int:=CQ S.length λb=>(Fc sh).any λd=>decide (S[b]?=some (I2 s d))
def El(sh:Int)(S:List BF):List (List Int):=S.map (HX sh S)
def CL(S:List BF)(f:BF->Option Int)(n:Int):List Int:=CQ S.length λc=>decide (S[c]?.bind f=some n)
def Ka:List Int:=(List.range 49).map λ(k:Nat)=>(k:Int)-16
def CM(S:List BF)(f:BF->Option Int):List (List Int):=(Ka.map (CL S f)).filter λl=>!l.isEmpty
def MG(w:Int)(S:List BF):List (List Int):=
 let a:=CL S (λs=>if s.1=s.2 then some 0 else none) 0
 let b:=CL S (λs=>if s.1+s.2=w-1 then some 0 else none) 0
 (if a.isEmpty then[]else[a])++(if b.isEmpty||decide (a=b)then[]else[b])
def FA(sh w h:Int)(S:List BF)(f:Nat):List (List Int):=
 if f=0 then(CQ S.length λ_=>true).map λc=>[c]
 else if f=1 then CM S λs=>some s.2
 else if f=2 then CM S λs=>some s.1
 else if f=3 then(if sh=2 then CM S λs=>some (s.1+s.2)else if w=h then MG w S else[])
 else if f=4 then El sh S
 else if f=5 then(List.range S.length).map λ(c:Nat)=>CQ S.length λb=>decide (b=c)||((Fc sh).any λd=>decide (S[b]?=(S[c]?).map λs=>I2 s d))
 else if f=6 then(List.range S.length).flatMap λ(c:Nat)=>(((El sh S)[c]?.getD []).filter λb=>decide ((c:Int)<b)).map λb=>[(c:Int),b]
 else[(CQ S.length λ_=>true)]
theorem HY{S:List BF}(hd:S.Nodup){s:BF}{i:Nat}:Eo S s=some (i:Int)↔S[i]?=some s:=by
 unfold Eo;constructor
 ·intro h;obtain⟨j,h1,h2⟩:=tO.1 h;have:j=i:=zo
  subst this;obtain⟨hl,h3,-⟩:=sM.1 h1;rw[rc hl,t5 h3]
 ·intro h;obtain⟨hl,h1⟩:=tA.1 h;have:S.findIdx? (λx=>decide (x=s))=some i:=by
   rw[sM];refine⟨hl,by simp [h1],λj hj=>?_⟩;simp only[rn];intro h2;have:=(tU.1 hd) j i zo hl hj;exact this (h2.trans h1.symm)
  rw[this];rfl
theorem P6{S:List BF}{s:BF}(h:Eo S s=some x):∃i:Nat,x=(i:Int):=by
 unfold Eo at h;obtain⟨j,-,h2⟩:=tO.1 h;exact⟨j,h2.symm⟩
theorem N7{S:List BF}{s:BF}:Eo S s=none↔s∉S:=by grind [Eo,Option.map_eq_none_iff,List.findIdx?_eq_none_iff,decide_eq_false_iff_not]
def IZ(sh:Int)(S:List BF)(s:BF):List Int:=(Fc sh).filterMap λd=>Eo S (I2 s d)
theorem TE(sh:Int):(Fc sh).Nodup:=by
 unfold Fc;split<;>decide
theorem iL{s a b:BF}(h:I2 s a=I2 s b):a=b:=by grind [I2,Prod.mk.injEq]
theorem TF(sh:Int){S:List BF}(hd:S.Nodup)(s:BF):(IZ sh S s).Nodup:=by
 unfold IZ;have h:=TE sh;generalize Fc sh=L at h;induction L with
 |nil=>simp
 |cons d r ih=>
  obtain⟨h1,h2⟩:=ul.1 h;rw[List.filterMap_cons];cases he:Eo S (I2 s d)with
  |none=>exact ih h2
  |some x=>
   refine ul.2 ⟨λhm=>?_,ih h2⟩;obtain⟨e,he1,he2⟩:=List.mem_filterMap.1 hm;obtain⟨i,rfl⟩:=P6 he;have a:=(HY hd).1 he;have b:=(HY hd).1 he2;rw[a]at b;have:=iL (Option.some.inj b);subst this;exact h1 he1
theorem Xu{S:List BF}(hd:S.Nodup){s:BF}:x∈IZ sh S s↔x∈HX sh S s:=by
 unfold IZ HX;rw[List.mem_filterMap,IY];constructor
 ·rintro⟨d,hm,he⟩;obtain⟨i,rfl⟩:=P6 he;have h:=(HY hd).1 he;exact⟨i,(tA.1 h).1,uF.2 ⟨d,hm,by simp [h]⟩,rfl⟩
 ·rintro⟨i,hi,ha,rfl⟩;obtain⟨d,hm,he⟩:=uF.1 ha;exact⟨d,hm,(HY hd).2 (t5 he)⟩
theorem LZ{l m:List Int}(hd:l.Nodup)(hm:List.Pairwise (λx y=>x<y) m)(h:∀x,x∈l↔x∈m):l.mergeSort Fk=m:=by
 refine Ny ?_ hm λx=>?_
 ·have h1:=IS l;have h2:(l.mergeSort Fk).Nodup:=(uy l Fk).nodup_iff.2 hd;rw[tU]at h1⊢;intro i j hi hj hij;have a:=h1 i j hi hj hij;have b:=tU.1 h2 i j hi hj hij;have b':¬(l.mergeSort Fk)[i]=(l.mergeSort Fk)[j]:=b;omega
 ·rw[(uy l Fk).mem_iff];exact h x
theorem Ur(sh:Int){S:List BF}(hd:S.Nodup)(s:BF):(IZ sh S s).mergeSort Fk=HX sh S s:=LZ (TF sh hd s) (LY ..) λx=>Xu hd
theorem TG{S:List BF}{f:BF->Option Int}{c:Nat}:(c:Int)∈CL S f n↔∃s,S[c]?=some s/\f s=some n:=by
 unfold CL;rw[N6];simp only[rn,Option.bind_eq_some_iff];constructor
 ·exact λh=>h.2
 ·grind
theorem RH{S:List BF}{f:BF->Option Int}:(CL S f n).isEmpty=false↔∃s∈S,f s=some n:=by
 rw[List.isEmpty_eq_false_iff_exists_mem];constructor
 ·rintro⟨x,hx⟩;obtain⟨i,-,-,rfl⟩:=IY.1 hx;obtain⟨s,h1,h2⟩:=TG.1 hx;exact⟨s,te h1,h2⟩
 ·rintro⟨s,h1,h2⟩;obtain⟨i,hi,h3⟩:=sH.1 h1;exact⟨(i:Int),TG.2 ⟨s,by rw[rc hi,h3],h2⟩⟩
theorem Xv:List.Pairwise (λx y=>x<y) Ka:=by
 unfold Ka;rw[uU];exact uQ.imp λq=>zo
theorem cD:n∈Ka↔ -16<=n/\n<=32:=by
 unfold Ka;rw[t7];constructor
 ·rintro⟨k,hk,rfl⟩;have:=t9.1 hk;omega
 ·intro h;exact⟨(n+16).toNat,t9.2 zo,zo⟩
theorem cE{S:List BF}{f:BF->Option Int}{K:List Int}(hn:K.Nodup)(hk:∀n,n∈K↔∃s∈S,f s=some n)(hb:∀s∈S,∀n,f s=some n-> -16<=n/\n<=32):(K.mergeSort Fk).map (CL S f)=CM S f:=by
 have h:K.mergeSort Fk=Ka.filter λn=>!(CL S f n).isEmpty:=by
  refine LZ hn (Xv.sublist ve) λn=>?_
  rw[hk,tV,cD,tq,RH];exact⟨λq=>let ⟨s,h1,h2⟩:=q;⟨hb s h1 n h2,q⟩,λq=>q.2⟩
 rw[h,CM,List.filter_map];rfl
theorem cG{w p q:Int}(hw:1<=w)(hp:0<=p)(hq:0<=q)(h:DX sh w p=DX sh w q):p=q:=by
 unfold DX at h;simp only[Prod.mk.injEq]at h;obtain⟨h1,h2⟩:=h;have e1:=Int.tmod_add_mul_tdiv p w;have e2:=Int.tmod_add_mul_tdiv q w;rw[h2]at h1 e1;split at h1<;>omega
theorem MH{w:Int}{cells:List Int}(hw:1<=w)(hr:List.Pairwise (λx y=>x<y) cells)(h0:∀p∈cells,0<=p):(Aa sh w cells).Nodup:=by
 unfold Aa;rw[List.Nodup,uU,tU];intro i j hi hj hij e;have:=cG hw (h0 _ (rY hi)) (h0 _ (rY hj)) e;have:=tU.1 hr i j hi hj hij;omega
end
def Xw(sh:Int)(a b:BF):Bool:=(Fc sh).any λd=>decide (b=I2 a d)
def N8(sh:Int)(a b:BF):Bool:=
 let dx:=b.1-a.1
 let dy:=b.2-a.2
 if sh=1 then decide (dy=0)&&(decide (dx=1)||decide (dx= -1))||decide (dx=0)&&(decide (dy=1)||decide (dy= -1))
 else decide (dx=1)&&decide (dy=0)||decide (dx= -1)&&decide (dy=0)||decide (dx=0)&&decide (dy=1)||decide (dx=0)&&decide (dy= -1)||decide (dx=1)&&decide (dy= -1)||decide (dx= -1)&&decide (dy=1)
def RI(sh:Int)(a b:BF):N8 sh a b=Xw sh a b:=by
 obtain⟨a1,a2⟩:=a;obtain⟨b1,b2⟩:=b;rw[su];unfold N8 Xw Fc I2;by_cases h:sh=1
 ·simp only[rt h,List.take,vz,List.any_nil,sA,rl,rn,Prod.mk.injEq,sr,vF];omega
 ·simp only[rj h,List.take,vz,List.any_nil,sA,rl,rn,Prod.mk.injEq,sr,vF];omega
def cH(sh:Int)(S:List BF)(s:BF):HX sh S s=CQ S.length λb=>match S[b]? with
  |some t=>Xw sh s t
  |none=>false:=by
 unfold HX;refine EJ λi hi=>?_
 rw[rc hi];unfold Xw;simp only[Option.some.injEq]
def cI(sh:Int)(a:BF):Xw sh a a=false:=by
 rw[<-RI,uv];intro h;unfold N8 at h;by_cases h1:sh=1
 ·simp_all
 ·simp_all
def Xx{y:Int}(h:0<=y):(y-y.tmod 2).tdiv 2=y.tdiv 2:=by grind
def B7(m:Nat):List Int:=(List.range m).map λ(i:Nat)=>(i:Int)
def Ia{m:Nat}{s:Int}:s∈B7 m↔0<=s/\s<m:=by
 unfold B7;rw[t7];constructor
 ·rintro⟨i,hi,rfl⟩;have:=t9.1 hi;omega
 ·intro h;exact⟨s.toNat,t9.2 zo,zo⟩
def MI(m:Nat)(l:List Int):List Int:=(B7 m).filter λs=>!l.contains s
def Ib(m:Nat):Nat->List Int->List (List Int)
 |0,l=>[l]
 |j+1,l=>(MI m l).flatMap λs=>Ib m j (l++[s])
def Gs(m n:Nat):List (List Int):=Ib m n []
def Kb(m:Nat):Nat->List (List Int)
 |0=>[[]]
 |n+1=>(Kb m n).flatMap λl=>(MI m l).map λs=>l++[s]
theorem P7(m:Nat):∀(j:Nat) (l:List Int),Ib m (j+1) l=(Ib m j l).flatMap λl'=>(MI m l').map λs=>l'++[s]
 |0,l=>by simp [Ib,uJ,List.map_eq_flatMap]
 |j+1,l=>by
  rw[Ib];conv=>rhs;rw[Ib]
  rw[List.flatMap_assoc];congr 1;funext s;exact P7 m j (l++[s])
theorem Ml(m:Nat):∀n,Gs m n=Kb m n
 |0=>rfl
 |n+1=>by
  unfold Gs;rw[P7,Kb,<-Ml m n];rfl
theorem TH{m:Nat}:∀{j:Nat} {l x:List Int},x∈Ib m j l->x.length=l.length+j/\(l.Nodup->(∀s∈l,0<=s/\s<m)->x.Nodup/\∀s∈x,0<=s/\s<m)
 |0,l,x,h=>by
  simp only[Ib,sZ]at h;subst h;exact⟨rfl,λa b=>⟨a,b⟩⟩
 |j+1,l,x,h=>by
  simp only[Ib,List.mem_flatMap]at h;obtain⟨s,hs,hx⟩:=h;obtain⟨h1,h2⟩:=TH hx;refine⟨by rw[h1,sm];simp;omega,λhd hr=>?_⟩;unfold MI at hs;rw[tV,Ia,tq,vq,sR]at hs;refine h2 ?_ ?_
  ·grind
  ·grind
def Iw{m n:Nat}{x:List Int}(h:x∈Gs m n):x.length=n/\x.Nodup/\∀s∈x,0<=s/\s<m:=by
 obtain⟨h1,h2⟩:=TH h;obtain⟨h3,h4⟩:=h2 vH zw;exact⟨by simpa using h1,h3,h4⟩
def BW(l:List Int)(i:Int):Int:=l[i.toNat]?.getD 0
def Ba(bad:Int->Int->Bool):List Int->Bool
 |[]=>false
 |a::r=>(r.any λb=>decide (0<=a)&&decide (0<=b)&&bad a b)||Ba bad r
def GJ(ls l:List Int):Nat:=(l.filter λs=>decide (0<=s)&&ls.contains s).length
def Jg(ls l:List Int):Nat:=(l.filter λs=>decide (0<=s)&& !ls.contains s).length
def Kd(l:List Int):Nat:=(l.filter λs=>decide (s<0)).length
def Us(a:Int):Int:=max a (-a)
def CY(vals:List Int)(k n:Int)(ls l:List Int):Bool:=
 if k=1 then Ba (λa b=>decide (a=b)) l
 else if k=2 then decide (GJ ls l=0)&&decide (Kd l=0)
 else if k=3 then Ba (λa b=>decide (Us (BW vals a-BW vals b)<n)) l
 else if k=4 then Ba (λa b=>decide (BW vals b<=BW vals a)) l
 else if k=6 then decide (n<(GJ ls l:Int))||decide ((l.length:Int)-n<(Jg ls l:Int))
 else false
def Fd(vals:List Int)(q:Cnd)(letters cells:List Int):Bool:=CY vals q.k q.n (q.ls.map (BW letters)) (q.cs.map (BW cells))
def Jh(p:Prm)(letters cells:List Int):Bool:=decide (0<=BW cells p.c)&& !(p.ls.map (BW letters)).contains (BW cells p.c)
def Ic(vals:List Int)(x:zy)(letters cells:List Int):List Bool:=(x.qs.map λq=>Fd vals q letters cells)++x.ps.map λp=>Jh p letters cells
def Bl(vals:List Int)(x:zy)(letters cells:List Int)(i:Int):Bool:=if i<0 then false else(Ic vals x letters cells)[i.toNat]?.getD false
def DH(vals:List Int)(x:zy)(letters cells:List Int):Bool:=(Ic vals x letters cells).all λb=>!b
structure ExtC(a b:List Int):Prop where
 len:a.length=b.length
 le:∀(i:Nat) s,a[i]?=some s->0<=s->b[i]?=some s
 neg:∀s∈a,-1<=s
def CZ{l:List Int}{i:Int}(h0:0<=i)(h:i<l.length):l[i.toNat]?=some (BW l i):=by
 unfold BW;rw[rc zo];rfl
inductive Ext2:List Int->List Int->Prop
 |nil:Ext2 [] []
 |cons {a b:Int} {l m:List Int}:(0<=a->b=a)->Ext2 l m->Ext2 (a::l) (b::m)
theorem Ext2.any{p:Int->Bool}:∀{l m:List Int},Ext2 l m->(l.any λb=>decide (0<=b)&&p b)=true->(m.any λb=>decide (0<=b)&&p b)=true
 |_,_,.nil,h=>h
 |_,_,.cons (a:=a) (b:=b) hh t,h=>by
  rw[vz,sA]at h⊢;rcases h with h|h
  ·simp_all
  ·exact .inr (t.any h)
section
structure x9 where
 k:Int
 a:Int
 deriving DecidableEq
def HZ:Int:=2
def Id:Int:=1
def Dk(x:zy)(c:Int):Option Prm:=x.ps.find? λp=>decide (p.c=c)
def DI(m:Nat)(x:zy)(letters:List Int)(c:Int):List Int:=match Dk x c with
 |none=>B7 m
 |some p=>(B7 m).filter λs=>(p.ls.map (BW letters)).contains s
def Fe(x:zy)(letters:List Int):List Int:=(List.replicate x.cs.length (-1)).set x.c.toNat (BW letters x.l)
def MS(f:Int->List x9->Option (List x9)):List Int->List x9->Option (List x9)
 |[],l=>some l
 |s::r,l=>(f s l).bind (MS f r)
def Cd(vals:List Int)(x:zy)(letters:List Int):Nat->List Int->List x9->Option (List x9)
 |_,_,[]=>none
 |f,cells,n::l=>
  if n.k=HZ then(if Bl vals x letters cells n.a then some l else none)
  else if n.k=Id/\0<=n.a/\n.a<cells.length/\BW cells n.a<0 then
   match f with
   |0=>none
   |f+1=>MS (λs l=>Cd vals x letters f (cells.set n.a.toNat s) l) (DI vals.length x letters n.a) l
  else none
def Dt(vals:List Int)(x:zy)(trees:List (List x9)):Bool:=
 decide ((Gs vals.length x.ls.length).length=trees.length)&&(((Gs vals.length x.ls.length).zip trees).all λq=>decide (Cd vals x q.1 x.cs.length (Fe x q.1) q.2=some []))
def qq(vals:List Int)(x:zy)(letters:List Int):Nat->Nat->List Int->Bool
 |j,i,cells=>if DH vals x letters cells then(match j with
   |0=>true
   |j+1=>if(i:Int)=x.c then qq vals x letters j (i+1) cells else(B7 vals.length).any λs=>qq vals x letters j (i+1) (cells.set i s))
  else false
def Ut(vals:List Int)(x:zy):Bool:=(Gs vals.length x.ls.length).all λletters=>!qq vals x letters x.cs.length 0 (Fe x letters)
structure Refutes(vals:List Int)(x:zy)(letters c:List Int):Prop where
 len:c.length=x.cs.length
 rng:∀s∈c,0<=s/\s<vals.length
 con:BW c x.c=BW letters x.l
 ok:DH vals x letters c=true
variable {vals letters a b:List Int} {x:zy}
theorem N9(x:zy)(letters:List Int):(Fe x letters).length=x.cs.length:=by unfold Fe;simp
theorem OA(hx:OKL x)(hl:letters∈Gs vals.length x.ls.length):0<=BW letters x.l/\BW letters x.l<vals.length:=by
 obtain⟨h1,-,h3⟩:=Iw hl;exact h3 _ (te (CZ hx.l.1 (by rw[h1];exact hx.l.2)))
end
section
structure Sofar(vals:List Int)(x:zy)(letters:List Int)(i:Nat)(cells:List Int):Prop where
 len:cells.length=x.cs.length
 con:BW cells x.c=BW letters x.l
 lo:∀(k:Nat) s,cells[k]?=some s->k<i\/(k:Int)=x.c->0<=s/\s<vals.length
 hi:∀(k:Nat) s,cells[k]?=some s->i<=k->(k:Int)≠x.c->s= -1
variable {vals letters cells:List Int} {x:zy} {i:Nat}
end
section
def OB(vals:List Int)(x:zy)(letters cells:List Int):Option Nat:=(Ic vals x letters cells).findIdx? λb=>b
def freeC(cells:List Int):Option Nat:=cells.findIdx? λs=>decide (s<0)
def cJ(f:Int->Option (List x9)):List Int->Option (List x9)
 |[]=>some []
 |s::r=>match f s with
  |none=>none
  |some a=>(cJ f r).map λb=>a++b
def jl(vals:List Int)(x:zy)(letters:List Int):Nat->List Int->Option (List x9)
 |f,cells=>match OB vals x letters cells with
  |some c=>some [⟨HZ,c⟩]
  |none=>match freeC cells with
   |none=>none
   |some i=>match f with
    |0=>none
    |f+1=>(cJ (λs=>jl vals x letters f (cells.set i s)) (DI vals.length x letters i)).map λt=>⟨Id,i⟩::t
variable {vals letters cells:List Int} {x:zy}
theorem Ji:OB vals x letters cells=none↔DH vals x letters cells=true:=by simp_all [OB,DH,tT,sg]
structure Some1(vals:List Int)(x:zy)(letters cells:List Int):Prop where
 len:cells.length=x.cs.length
 con:BW cells x.c=BW letters x.l
 rng:∀s∈cells,-1<=s/\s<vals.length
 let0:0<=BW letters x.l
def Hs(cells:List Int):Nat:=(cells.filter λs=>decide (s<0)).length
theorem OC:∀{cells:List Int} {i:Nat} {s t:Int},cells[i]?=some t->t<0->0<=s->Hs (cells.set i s)+1=Hs cells
 |[],_,_,_,h,_,_=>by cases h
 |a::l,0,s,t,h,ht,hs=>by
  cases h;unfold Hs;rw[List.set_cons_zero,tI,tI,rj (by simpa using hs),rt (by simpa using ht)];rfl
 |a::l,i+1,s,t,h,ht,hs=>by
  have ih:=OC (cells:=l) (i:=i) (s:=s) (t:=t) (by simpa using h) ht hs;unfold Hs at ih⊢;rw[List.set_cons_succ,tI,tI];split<;>(try simp only[sC])<;>omega
theorem Uu{i s:Int}(h:s∈DI vals.length x letters i):0<=s/\s<vals.length:=by
 unfold DI at h;split at h
 ·exact Ia.1 h
 ·exact Ia.1 (tV.1 h).1
theorem TI:Hs (Fe x letters)<=x.cs.length:=by grind [Hs,N9]
def Xy(f:List Int->Option (List x9)):List (List Int)->Option (List (List x9))
 |[]=>some []
 |l::r=>match f l with
  |none=>none
  |some t=>(Xy f r).map λts=>t::ts
def La(ts:List (List x9)):Nat:=(ts.map List.length).sum
def qr(vals:List Int)(x:zy):Option (List (List x9)):=Xy (λletters=>jl vals x letters x.cs.length (Fe x letters)) (Gs vals.length x.ls.length)
def qu(vals:List Int)(x:zy):Except Int (List (List x9)):=match qr vals x with
 |none=>.error 320
 |some ts=>if 65536<La ts then .error 2 else .ok ts
def Ie(m:Nat)(x:zy)(letters:List Int):Nat->Nat->List Int->List (List Int)
 |0,_,cells=>[cells]
 |j+1,i,cells=>((B7 m).filter λs=>decide ((i:Int)≠x.c)||decide (s=BW letters x.l)).flatMap λs=>Ie m x letters j (i+1) (cells.set i s)
def cexP(vals:List Int)(x:zy):Option (List Int×List Int):=(Gs vals.length x.ls.length).findSome? λletters=>((Ie vals.length x letters x.cs.length 0 (List.replicate x.cs.length 0)).find? λc=>DH vals x letters c).map λc=>(letters,c)
end
mutual
inductive View(H:AB):Fs->Fs->Prop
 |wk {a b:Fs}:Wk b a->View H a b
 |ref {id e off len cap:Nat} {l:List Fs}:AD H id=some (.arr e l)->off+len<=l.length->len<=cap->View H (.sl (.none e) ((l.drop off).take len)) (.ref id e off len cap)
 |ptr {id off:Nat} {cs:List Fs}:AD H id=some (.box cs)->View H (.ep (cs.drop off)) (.ptr id off)
 |pw {id off:Nat} {cs us:List Fs}:AD H id=some (.box cs)->Views H us (cs.drop off)->View H (.ep us) (.ptr id off)
 |agg {us bs:List Fs}:Views H us bs->View H (.agg us) (.agg bs)
 |fn {f:Fn} {us bs cs ds:List Fs}:Views H us bs->Views H cs ds->View H (.fn f us cs) (.fn f bs ds)
inductive Views(H:AB):List Fs->List Fs->Prop
 |nil:Views H [] []
 |cons {a b:Fs} {us bs:List Fs}:View H a b->Views H us bs->Views H (a::us) (b::bs)
end
mutual
def Fs.flat:Fs->Prop
 | .bool _| .int _ _| .str _| .nilp| .nilfn| .nilifc| .nilmp=>True
 | .agg cs=>flats cs
 | .tup cs=>flats cs
 |_=>False
def flats:List Fs->Prop
 |[]=>True
 |a::us=>a.flat/\flats us
end
mutual
theorem TJ{g g':q8}:∀(a:Fs) (v:Value),a.flat->AR g a v->AR g' a v
 | .bool _,_,_,h=>h
 | .int _ _,_,_,h=>h
 | .str _,_,_,h=>h
 | .nilp,_,_,h=>h
 | .nilfn,_,_,h=>h
 | .nilifc,_,_,h=>h
 | .nilmp,_,_,h=>h
 | .agg cs,_,hf,h=>by
  obtain⟨vs,rfl,h1,h2⟩:=h;exact⟨vs,rfl,flats_rel cs _ hf h1,h2⟩
 | .tup cs,_,hf,h=>by
  obtain⟨vs,rfl,h1⟩:=h;exact⟨vs,rfl,flats_rel cs _ hf h1⟩
 | .ptr _ _,_,hf,_=>hf.elim
 | .ep _,_,hf,_=>hf.elim
 | .gp _,_,hf,_=>hf.elim
 | .sl _ _,_,hf,_=>hf.elim
 | .ref _ _ _ _ _,_,hf,_=>hf.elim
 | .ap _ _ _ _,_,hf,_=>hf.elim
 | .fn _ _ _,_,hf,_=>hf.elim
 | .ifc _ _,_,hf,_=>hf.elim
 | .mp _,_,hf,_=>hf.elim
 | .up,_,hf,_=>hf.elim
theorem flats_rel{g g':q8}:∀(us:List Fs) (vs:List Value),flats us->VRels g us vs->VRels g' us vs
 |[],_,_,h=>h
 |a::us,_,hf,h=>by
  obtain⟨v,r,rfl,h1,h2⟩:=h;exact⟨v,r,rfl,TJ a v hf.1 h1,flats_rel us r hf.2 h2⟩
end
def Uv(w:World):Nat->Nat->Option Value:=λb o=>w.cell? ⟨b,o,none⟩
section
variable {g:q8} {H:AB} {n:Nat} {w:World}
theorem Ix(R:x7 g H n w):J1 0 g ⟨λ_=>none,Uv w⟩:=⟨λ_ _ h=>absurd h (td _),λb o v h=>R.σw b o v h⟩
theorem OD{f:Nat->Option Value}:∀(cs:List Fs) (o k:Nat),PStab g f o cs->PStab g f (o+k) (cs.drop k)
 |[],o,k,_=>by rw[List.drop_nil];trivial
 |a::cs,o,0,h=>h
 |a::cs,o,k+1,h=>by rw[List.drop_succ_cons,show o+(k+1)=o+1+k by omega];exact OD cs (o+1) k h.2
mutual
theorem TK(R:x7 g H n w):∀{a b:Fs} {v:Value},View H a b->a.under 0->AR g b v->AR ⟨λ_=>none,Uv w⟩ a v
 |a,b,v,.wk h,hu,hv=>AR.agree (n:=0) (Ix R) a v hu (h g v hv)
 |_,_,v,.ref (id:=id) (e:=e) (off:=off) (len:=len) (cap:=cap) (l:=l) h1 h2 h3,hu,hv=>by
  obtain⟨L,k1,k2,rfl⟩:=hv;obtain⟨L',c,ty,j1,j2,j3,j4,j5,j6⟩:=R.obj id _ h1;rw[k1]at j1;cases j1;have hlen:((l.drop off).take len).length=len:=by simp;omega
  have hst:=Stab.take len _ _ (Stab.drop off _ _ j6);rw[th]at hst;refine .inr ⟨zt,L.blk,off*e,cap,⟨none,by rw[hlen],.inl rfl⟩,by rw[hlen];exact h3,?_,zt⟩;have hst2:Stab g e (Uv w L.blk) (off*e) ((l.drop off).take len):=Stab.mono (q8.le.refl g) (λo x hx=>by
   show w.cell? ⟨L.blk,o,none⟩=some x;rw[BK j4];exact hx) e _ _ hst
  exact Stab.agree (n:=0) (Ix R) (λo x h=>h) e _ _ hu.2 hst2
 |_,_,v,.ptr (id:=id) (off:=off) (cs:=cs) h1,hu,hv=>by
  obtain⟨L,k1,k2,rfl⟩:=hv;obtain⟨L',c,ty,j1,j2,j3,j4,j5,j6⟩:=R.obj id _ h1;rw[k1]at j1;cases j1;refine⟨L.blk,off,rfl,?_⟩;have hd:∀(cs:List Fs) (o k:Nat),PStab g (λo=>c[o]?) o cs->PStab g (λo=>c[o]?) (o+k) (cs.drop k):=by
   intro cs;induction cs with
   |nil=>intro o k _;rw[List.drop_nil];trivial
   |cons a cs ih=>
    intro o k h;cases k with
    |zero=>exact h
    |succ k=>rw[List.drop_succ_cons,show o+(k+1)=o+1+k by omega];exact ih (o+1) k h.2
  have h2:=hd cs 0 off j6;rw[th]at h2;have h3:PStab g (Uv w L.blk) off (cs.drop off):=PStab.mono (q8.le.refl g) (λo x hx=>by
   show w.cell? ⟨L.blk,o,none⟩=some x;rw[BK j4];exact hx) _ _ h2
  exact PStab.agree (n:=0) (Ix R) (λo x h=>h) _ _ hu h3
 |_,_,v,.pw (id:=id) (off:=off) (cs:=cs) h1 hw,hu,hv=>by
  obtain⟨L,k1,k2,rfl⟩:=hv;obtain⟨L',c,ty,j1,j2,j3,j4,j5,j6⟩:=R.obj id _ h1;rw[k1]at j1;cases j1;refine⟨L.blk,off,rfl,?_⟩;have h2:=OD cs 0 off j6;rw[th]at h2;exact pstab_rel R hw hu (PStab.mono (q8.le.refl g) (λo x hx=>by
   show w.cell? ⟨L.blk,o,none⟩=some x;rw[BK j4];exact hx) _ _ h2)
 |_,_,v,.agg h,hu,hv=>by
  obtain⟨vs,rfl,h1,h2⟩:=hv;exact⟨vs,rfl,views_rel R h hu h1,h2⟩
 |_,_,v,.fn h k,hu,hv=>by
  obtain⟨x,c,rfl,h1,h2⟩:=hv;exact⟨x,c,rfl,views_rel R h hu.1 h1,views_rel R k hu.2 h2⟩
theorem views_rel(R:x7 g H n w):∀{us bs:List Fs} {vs:List Value},Views H us bs->unders 0 us->VRels g bs vs->VRels ⟨λ_=>none,Uv w⟩ us vs
 |_,_,vs,.nil,_,hv=>hv
 |_,_,vs,.cons h t,hu,hv=>by
  obtain⟨v,r,rfl,h1,h2⟩:=hv;exact⟨v,r,rfl,TK R h hu.1 h1,views_rel R t hu.2 h2⟩
theorem pstab_rel(R:x7 g H n w):∀{us bs:List Fs} {f:Nat->Option Value} {o:Nat},Views H us bs->unders 0 us->PStab g f o bs->PStab ⟨λ_=>none,Uv w⟩ f o us
 |_,_,f,o,.nil,_,_=>trivial
 |_,_,f,o,.cons h t,hu,hp=>by
  obtain⟨⟨v,h1,h2,h4⟩,h3⟩:=hp;exact⟨⟨v,h1,TK R h hu.1 h2,h4⟩,pstab_rel R t hu.2 h3⟩
end
end
def Aw.viewF{P:Program}{f:FuncId}{args args':List Fs}{r:Fs}{H:AB}(h:Aw P f args r)(hf:∀g g' v,AR g r v->AR g' r v)(hv:Views H args args')(n:Nat):Ao P f args' H n r:=by
 obtain⟨ha,hr,wq,hc⟩:=h;refine⟨wq,λg w vs R hvs=>?_⟩;have R0:x7 ⟨λ_=>none,Uv w⟩ Ai 0 w:=
  {σw:=λb o v h=>h
   obj:=λ_ _ h=>by simp [AD,Ai]at h
   dom:=λ_ _ h=>by simp at h
   hd:=λ_ _ h=>by simp [AD,Ai]at h
   ap:=λ_ _ _ _ _ _ _ h=>by simp [AD,Ai]at h
   un:=λ_ _ _ _ h=>by simp [AD,Ai]at h
   gl:=λi cs h=>PStab.agree (n:=0) (Ix R) (λo x h=>R.σw i o x h) cs 0 (NI i cs h) (R.gl i cs h)
   gz:=R.gz}
 refine(hc _ w vs R0 (views_rel R hv ha hvs)).mono ?_;rintro e w' ⟨g',out,H',n',⟨v,rfl,hw⟩,he,hR',-,ht⟩;cases e with
 |panicked c=>exact he.elim
 |outgrown=>exact he.elim
 |returned x=>
  have hx:AR g' r x:=hw _ _ he;have keep:∀(b:Nat) ob,w.heap[b]?=some ob->w'.heap[b]?=some ob:=by
   intro b ob hb;have hk:=ht.kept b ob hb;cases ob<;>first|exact hk.resolve_left Eu|skip
   obtain⟨c',h1,h2,h3⟩:=hk;rw[h1];congr 2;exact Array.ext_getElem? λi=>h3 i Eu
  have inH:∀b o v,w.cell? ⟨b,o,none⟩=some v->b<w.heap.size:=by
   intro b o v hc;unfold World.cell? at hc;split at hc
   ·rename_i hb;exact(sF.1 hb).1
   ·cases hc
  let σ2:Nat->Nat->Option Value:=λb o=>if b<w.heap.size then g.σ b o else g'.σ b o
  have old:∀b o v,g.σ b o=some v->σ2 b o=some v:=λb o v hh=>by
   simp only[σ2];rw[rt (inH b o v (R.σw b o v hh))];exact hh
  have gle:g.le ⟨g.β,σ2⟩:=⟨λ_ _ h=>h,old⟩;have hcell:∀b o v,b<w.heap.size->w.cell? ⟨b,o,none⟩=some v->w'.cell? ⟨b,o,none⟩=some v:=by
   intro b o v hb hh;have e1:=u0 hb;have e2:=keep b _ e1;unfold World.cell? at hh⊢;simp only[e1,e2]at hh⊢;exact hh
  refine⟨⟨g.β,σ2⟩,.ret r,H,n,⟨rfl,rfl,rfl⟩,hf _ _ x hx,?_,rq _,?_⟩
  ·refine⟨?_,?_,?_,R.hd,R.ap,?_,R.gl.mono gle,hR'.gz⟩
   ·intro b o v hh;simp only[σ2]at hh;split at hh
    ·rename_i hb;exact hcell b o v hb (R.σw b o v hh)
    ·exact hR'.σw b o v hh
   ·intro id ob hob;have ho:=R.obj id ob hob;cases ob with
    |box cs=>obtain⟨L,c,e,h1,h2,h3,h4,h5,h6⟩:=ho;exact⟨L,c,e,h1,h2,h3,keep _ _ h4,h5,PStab.mono gle (λ_ _ h=>h) cs 0 h6⟩
    |tok=>obtain⟨L,h1,h2⟩:=ho;exact⟨L,h1,λc9=>let ⟨c,e,h3,h4⟩:=h2 c9;⟨c,e,keep _ _ h3,h4⟩⟩
    |arr esz l=>obtain⟨L,c,e,h1,h2,h3,h4,h5,h6⟩:=ho;exact⟨L,c,e,h1,h2,h3,keep _ _ h4,h5,Stab.mono gle (λ_ _ h=>h) esz l 0 h6⟩
    |frz esz l=>obtain⟨L,h1,h2,h3⟩:=ho;exact⟨L,h1,h2,Stab.mono gle (λo x hx=>old L.blk o x hx) esz l 0 h3⟩
    |map es c=>obtain⟨L,es',h1,h2,h3,h4,h5⟩:=ho;exact⟨L,es',h1,h2,h3,keep _ _ h4,EA.mono gle _ _ h5⟩
    |sit s pos=>obtain⟨L,h1,h2,h3,h4⟩:=ho;exact⟨L,h1,h2,h3,keep _ _ h4⟩
    |mit m c seen last=>obtain⟨L,Lm,h1,h2,h3,h4,h5⟩:=ho;exact⟨L,Lm,h1,h2,h3,keep _ _ h4,h5⟩
    |lp x=>obtain⟨L,h1,h2,h3,h4,r,k1,k2,k3,k4,k5,k6,k7,k8⟩:=ho;exact⟨L,h1,h2,h3,h4,r,keep _ _ k1,k2,k3,k4,k5,k6,Bz.mono gle k7,k8⟩
    |dead=>trivial
   ·intro id L hL;exact⟨(R.dom id L hL).1,λc9=>ub ((R.dom id L hL).2 c9) ht.size⟩
   ·intro id ob L o q1 q2 q3 q4 q5;have hb:=(R.dom id L q3).2 zo;show σ2 L.blk o=none;simp only[σ2];rw[rt hb];exact R.un id ob L o q1 q2 q3 q4 q5
  ·refine⟨gle,λ_ _ h=>.inl h,ht.os,ht.tape,ht.output,ht.size,λb ob hb=>by rw[keep b ob hb];exact JO.same _ _,λ_ _ _ h=>h,λb o v hb h=>.inl ?_⟩;have h':σ2 b o=some v:=h;simp only[σ2]at h';rw[rt hb]at h';exact h'
def Aw.view{P:Program}{f:FuncId}{args args':List Fs}{r:Fs}{H:AB}(h:Aw P f args r)(hf:r.flat)(hv:Views H args args')(n:Nat):Ao P f args' H n r:=h.viewF (λ_ _ v=>TJ r v hf) hv n
section
variable {α:Type}
theorem Xz{p:α->Bool}{l:List α}{i:Nat}(h:i<l.length)(hp:p l[i]=true)(hn:∀j (hj:j<l.length),j<i->p l[j]=false):l.findIdx? p=some i:=
 sM.2 ⟨h,hp,λj hj=>by rw[hn j zo hj];decide⟩
theorem X0{p:α->Bool}{l:List α}(hn:∀j (hj:j<l.length),p l[j]=false):l.findIdx? p=none:=
 tT.2 λx hx=>by obtain⟨j,hj,rfl⟩:=sH.1 hx;exact hn j hj
def I3[DecidableEq α](l:List α)(s:α):Int:=match l.findIdx? (λx=>decide (x=s))with
 |some k=>k
 |none=>-1
theorem RJ(l:List Bs)(s:Bs):I3 l s=Nv l s:=rfl
theorem Fx[DecidableEq α]{l:List α}{s:α}{i:Nat}(h:i<l.length)(hp:l[i]=s)(hn:∀j (hj:j<l.length),j<i->l[j]≠s):I3 l s=i:=by
 unfold I3;rw[Xz h (by simp [hp]) λj hj hji=>by simp [hn j hj hji]]
theorem Lb[DecidableEq α]{l:List α}{s:α}(hn:∀j (hj:j<l.length),l[j]≠s):I3 l s= -1:=by
 unfold I3;rw[X0 λj hj=>by simp [hn j hj]]
theorem Fu[DecidableEq α]:∀{l:List α},Bj l=true↔∀j (hj:j<l.length),I3 l l[j]=(j:Int)
 |[]=>by simp [Bj]
 |x::r=>by
  have ih:=Fu (l:=r);simp only[Bj,rl,tq];constructor
  ·rintro⟨h1,h2⟩ j hj;cases j with
   |zero=>exact Fx (i:=0) zw rfl λk _ hk=>zo
   |succ j=>
    have hj':j<r.length:=by simpa using hj
    refine Fx hj rfl λk hk hkj=>?_
    cases k with
    |zero=>
     intro e;have:(r.any λy=>decide (y=x))=true:=uF.2 ⟨r[j],rY hj',by simpa using e.symm⟩;rw[h1]at this;cases this
    |succ k=>
     intro e;have hk':k<r.length:=by simpa using hk
     have e':r[k]=r[j]:=by simpa using e
     have q1:=ih.1 h2 k hk';have q2:=ih.1 h2 j hj';rw[e']at q1;rw[q1]at q2;omega
  ·intro h;refine⟨?_,ih.2 λj hj=>?_⟩
   ·rw[uT];intro y hy e;obtain⟨j,hj,rfl⟩:=sH.1 hy;have e:r[j]=x:=by simpa using e
    have h0:=h 0 zw;have:=h (j+1) (by simpa using hj);simp only[List.getElem_cons_succ,e]at this;simp only[List.getElem_cons_zero]at h0;rw[h0]at this;omega
   ·have:=h (j+1) (by simpa using hj);simp only[List.getElem_cons_succ]at this;unfold I3 at this⊢;rw[List.findIdx?_cons]at this;by_cases e:x=r[j]
    ·simp [e]at this;omega
    ·rw[show decide (x=r[j])=false by simp [e]]at this;simp only[sr,sG]at this;cases hq:r.findIdx? (λx=>decide (x=r[j]))with
     |none=>rw[hq]at this;simp at this;omega
     |some k=>rw[hq]at this;simp at this⊢;omega
theorem p95(l:List Bs)(s:Bs)(hl:An l):Aw prog 95 [FH l,.str s] (eI (Nv l s)):=by
 refine .mk ⟨⟨zt,DE 0 l⟩,zt,zt⟩ zt (c95.a (AI AH.tnil (AJ ?_)));simp only[eE,eN,seval,r9,c95];refine AO (λi:Nat=>⟨[(0,true,FH l),(1,true,.str s),(7,true,.int .i64 l.length),(8,true,.int .i64 i)],Ai,0⟩)
  (λi=>i<=l.length/\∀j (hj:j<l.length),j<i->l[j]≠s) (λi=>l.length-i) 0 rfl ⟨rm _,λj hj h=>zo⟩ ?_
 rintro i ⟨hi,e9⟩;by_cases c9:i<l.length;case neg=>
  simp only[eZ,seval,Ad c9];rw[<-RJ,Lb λj hj=>e9 j hj zo]
 have hg:=rc c9;have e:=AK (k:=i) zo;by_cases hs:l[i]=s
 ·simp only[eZ,seval,rZ,rr,ry,r9,sb,AN c9,hg,BB,hs];rw[<-RJ,Fx c9 hs e9]
 ·simp only[eZ,seval,rZ,rr,ry,r9,sb,AN c9,hg,BB,show(s=l[i])=False from ri (Ne.symm hs),e];refine .mk (i+1) rfl ⟨c9,λj hj h=>?_⟩ zo;by_cases q:j=i
  ·subst q;exact hs
  ·exact e9 j hj zo
theorem pw49(l:List Int)(s:Int)(hl:An l):Aw prog 49 [Am l,eI s] (eI (I3 l s)):=by
 refine .mk ⟨⟨zt,Dy 0 l⟩,zt,zt⟩ zt (c49.a (AI AH.tnil (AJ ?_)));simp only[eE,eN,seval,r9,c49];refine AO (λi:Nat=>⟨[(0,true,Am l),(1,true,eI s),(7,true,.int .i64 l.length),(8,true,.int .i64 i)],Ai,0⟩)
  (λi=>i<=l.length/\∀j (hj:j<l.length),j<i->l[j]≠s) (λi=>l.length-i) 0 rfl ⟨rm _,λj hj h=>zo⟩ ?_
 rintro i ⟨hi,e9⟩;by_cases c9:i<l.length;case neg=>
  simp only[eZ,seval,Ad c9];rw[Lb λj hj=>e9 j hj zo]
 have hg:=rc c9;have e:=AK (k:=i) zo;by_cases hs:l[i]=s
 ·simp only[eZ,seval,rZ,rr,ry,r9,sb,AN c9,hg,hs];rw[Fx c9 hs e9]
 ·simp only[eZ,seval,rZ,rr,ry,r9,sb,AN c9,hg,show(s=l[i])=False from ri (Ne.symm hs),e];refine .mk (i+1) rfl ⟨c9,λj hj h=>?_⟩ zo;by_cases q:j=i
  ·subst q;exact hs
  ·exact e9 j hj zo
structure Vg where
 i:Nat
 tk:w8
 H:AB
 n:Nat
structure Ig(e len:Nat)(v:Vg):Prop where
 hi:v.i<=len
 fr:AP v.H v.n
 tok:DA e 0 v.H v.tk
 es:v.tk.esz=e\/v.i=0
theorem WM{l:List Int}{n:Nat}:CG l n=true↔∀j (hj:j<l.length),0<=l[j]/\l[j]<n/\I3 l l[j]=(j:Int):=by
 unfold CG;rw[rl,sg,Fu];constructor
 ·rintro⟨h1,h2⟩ j hj;have:=h1 _ (rY hj);simp only[rl,rn]at this;exact⟨this.1,this.2,h2 j hj⟩
 ·intro h;refine⟨λx hx=>?_,λj hj=>(h j hj).2.2⟩;obtain⟨j,hj,rfl⟩:=sH.1 hx;simp [(h j hj).1,(h j hj).2.1]
theorem RK{l:List Int}{n:Nat}{j:Nat}(hj:j<l.length)(h:¬(0<=l[j]/\l[j]<n/\I3 l l[j]=(j:Int))):CG l n=false:=by
 cases q:CG l n with
 |false=>rfl
 |true=>exact absurd (WM.1 q j hj) h
def qv:Bc:=AG 49 (s2 BA dI (λa _=>An a) λa s=>eI (I3 a s)) tnil
theorem iM:AH prog qv:=AH.tnil.add (q2 pw49)
def FU(l:List Int)(n:Nat)(Hj:Int):Bool:=CG l n&&decide (Hj<=l.length)
theorem p63(l:List Int)(n:Nat)(Hj:Int)(hl:An l):Aw prog 63 [Am l,.int .i64 n,.int .i64 Hj] (.bool (FU l n Hj)):=by
 refine .mk ⟨⟨zt,Dy 0 l⟩,zt,zt,zt⟩ zt (c63.a (AI iM (AJ ?_)));simp only[eE,eN,seval,r9,c63];refine AO (λi:Nat=>⟨[(0,true,Am l),(1,true,.int .i64 n),(2,true,.int .i64 Hj),(9,true,Am l),(10,true,.int .i64 l.length),(11,true,.int .i64 i)],Ai,0⟩)
  (λi=>i<=l.length/\∀j (hj:j<l.length),j<i->0<=l[j]/\l[j]<n/\I3 l l[j]=(j:Int)) (λi=>l.length-i) 0 rfl ⟨rm _,λj hj h=>zo⟩ ?_
 rintro i ⟨hi,e9⟩;by_cases c9:i<l.length;case neg=>
  simp only[eZ,seval,r9,Ad c9];unfold FU;rw[WM.2 λj hj=>e9 j hj zo];rfl
 have hg:=rc c9;have e:=AK (k:=i) zo;by_cases h1:l[i]<0
 ·simp only[eZ,seval,re,rZ,rr,ry,r9,sb,AN c9,hg,h1];unfold FU;rw[RK c9 λq=>by omega];rfl
 by_cases h2:(n:Int)<=l[i]
 ·simp only[eZ,seval,re,rZ,rr,ry,r9,sb,AN c9,hg,h1,h2];unfold FU;rw[RK c9 λq=>by omega];rfl
 by_cases h3:I3 l l[i]=(i:Int)
 ·simp only[eZ,seval,re,rZ,rr,ry,r9,sb,AN c9,hg,h1,h2,qv,s2,BA,dI,GN,Ct,CE,Ax,hl,A9,h3,e,AG];refine .mk (i+1) rfl ⟨c9,λj hj h=>?_⟩ zo;by_cases q:j=i
  ·subst q;exact⟨zo,zo,h3⟩
  ·exact e9 j hj zo
 ·simp only[eZ,seval,rf,rZ,rr,ry,r9,sb,AN c9,hg,h1,h2,qv,s2,BA,dI,GN,Ct,CE,Ax,hl,A9,h3,AG];unfold FU;rw[RK c9 λq=>h3 q.2.2];rfl
def Tnm:Bc:=AG 61 (s1 dS KR λs=>.bool (CF s)) (AG 95 (s2 I1 dS (λa _=>An a) λa s=>eI (Nv a s)) tnil)
theorem qw:AH prog Tnm:=(AH.tnil.add (q2 p95)).add (q1 λs _=>p61 s)
theorem RL{l:List Bs}:(l.all CF&&Bj l)=true↔∀j (hj:j<l.length),CF l[j]=true/\Nv l l[j]=(j:Int):=by
 rw[rl,sg,Fu];constructor
 ·rintro⟨h1,h2⟩ j hj;exact⟨h1 _ (rY hj),h2 j hj⟩
 ·intro h;refine⟨λx hx=>?_,λj hj=>(h j hj).2⟩;obtain⟨j,hj,rfl⟩:=sH.1 hx;exact(h j hj).1
theorem RM{l:List Bs}{j:Nat}(hj:j<l.length)(h:¬(CF l[j]=true/\Nv l l[j]=(j:Int))):(l.all CF&&Bj l)=false:=by
 cases q:(l.all CF&&Bj l)with
 |false=>rfl
 |true=>exact absurd (RL.1 q j hj) h
theorem p62(l:List Bs)(most:Nat)(hl:An l):Aw prog 62 [FH l,.int .i64 most] (.bool (Cp l most)):=by
 refine .mk ⟨⟨zt,DE 0 l⟩,zt,zt⟩ zt (c62.a (AI qw (AJ ?_)));simp only[eE,eN,seval,r9,c62];refine AO (λi:Nat=>⟨[(0,true,FH l),(1,true,.int .i64 most),(7,true,FH l),(8,true,.int .i64 l.length),(9,true,.int .i64 i)],Ai,0⟩)
  (λi=>i<=l.length/\∀j (hj:j<l.length),j<i->CF l[j]=true/\Nv l l[j]=(j:Int)) (λi=>l.length-i) 0 rfl ⟨rm _,λj hj h=>zo⟩ ?_
 rintro i ⟨hi,e9⟩;by_cases c9:i<l.length;case neg=>
  simp only[eZ,seval,r9,Ad c9];unfold Cp;rw[RL.2 λj hj=>e9 j hj zo];by_cases h1:1<=l.length<;>by_cases h2:l.length<=most<;>simp [h1,h2]<;>omega
 have hg:=rc c9;have e:=AK (k:=i) zo;by_cases h1:CF l[i]=true
 ·by_cases h3:Nv l l[i]=(i:Int)
  ·simp only[eZ,seval,re,rZ,rr,ry,r9,sb,AN c9,hg,Tnm,s1,s2,I1,dS,GN,Ct,JP,GL,Cm,hl,h1,h3,e,AG];refine .mk (i+1) rfl ⟨c9,λj hj h=>?_⟩ zo;by_cases q:j=i
   ·subst q;exact⟨h1,h3⟩
   ·exact e9 j hj zo
  ·simp only[eZ,seval,re,rf,rZ,rr,ry,r9,sb,AN c9,hg,Tnm,s1,s2,I1,dS,GN,Ct,JP,GL,Cm,hl,h1,h3,AG];unfold Cp;rw[RM c9 λq=>h3 q.2];rfl
 ·have h1':CF l[i]=false:=by simpa using h1
  simp only[eZ,seval,re,rf,rZ,rr,ry,r9,sb,AN c9,hg,Tnm,s1,s2,I1,dS,GN,Ct,JP,GL,Cm,hl,h1',AG];unfold Cp;rw[RM c9 λq=>h1 q.1];rfl
end
abbrev GK(q:Cnd):Fs:=.agg [.int .i64 q.k,Am q.cs,Am q.ls,.int .i64 q.n]
abbrev GP(p:Prm):Fs:=.agg [.int .i64 p.c,Am p.ls]
abbrev BZ(x:zy):Fs:=.agg [.str x.nm,.int .i64 x.lv,FH x.cs,FH x.ls,.sl (.none 4) (x.qs.map GK),.sl (.none 2) (x.ps.map GP),.int .i64 x.c,.int .i64 x.l]
def Dl(n:Nat)(q:Cnd):(GK q).under n:=⟨zt,⟨zt,Dy n _⟩,⟨zt,Dy n _⟩,zt,zt⟩
def Hc(n:Nat)(p:Prm):(GP p).under n:=⟨zt,⟨zt,Dy n _⟩,zt⟩
def At(n:Nat)(x:zy):(BZ x).under n:=⟨zt,zt,⟨zt,DE n _⟩,⟨zt,DE n _⟩,⟨zt,Ay (Dl n) _⟩,⟨zt,Ay (Hc n) _⟩,zt,zt,zt⟩
def cK:Fs->Cnd
 | .agg [.int _ k,c,l,.int _ n]=>⟨k,Hn c,Hn l,n⟩
 |_=>⟨0,[],[],0⟩
def cM:Fs->Prm
 | .agg [.int _ c,l]=>⟨c,Hn l⟩
 |_=>⟨0,[]⟩
def MT:Fs->zy
 | .agg [.str nm,.int _ lv,cs,ls,qs,ps,.int _ c,.int _ l]=>⟨nm,lv,P3 cs,P3 ls,JG cK qs,JG cM ps,c,l⟩
 |_=>⟨[],0,[],[],[],[],0,0⟩
def OE(q:Cnd):cK (GK q)=q:=by
 simp only[cK,Hn,Ax]
def OF(p:Prm):cM (GP p)=p:=by
 simp only[cM,Hn,Ax]
def If(x:zy):MT (BZ x)=x:=by
 simp only[MT,P3,JG,Cm,DF OE,DF OF]
def dQ:Dc Cnd:=dEx GK cK
def dX:Dc zy:=dEx BZ MT
def Ke(q:Cnd):dQ.ok (GK q)=True:=ra (by show GK q=GK (cK (GK q));rw[OE])
def Hd(q:Cnd):dQ.dec (GK q)=q:=OE q
def D5(x:zy):dX.ok (BZ x)=True:=ra (by show BZ x=BZ (MT (BZ x));rw[If])
def C4(x:zy):dX.dec (BZ x)=x:=If x
def cZ:Bc:=AG 63 (s3 BA dI dI (λa n _=>An a/\0<=n) λa n k=>.bool (FU a n.toNat k)) tnil
def qz:AH prog cZ:=AH.tnil.add (q3 λa n k h=>by
 obtain⟨j,rfl⟩:∃j:Nat,n=j:=⟨n.toNat,zo⟩;exact p63 a j k h.1)
def cN{q:Cnd}{nc nl:Nat}(h:(FU q.cs nc 1&&FU q.ls nl 0)=false):CH q nc nl=false:=by
 unfold CH FU at*;cases h1:CG q.cs nc<;>cases h2:CG q.ls nl<;>simp [h1,h2]at h⊢;intro q1;omega
def iO{q:Cnd}{nc nl:Nat}(h1:FU q.cs nc 1=true)(h2:FU q.ls nl 0=true):CH q nc nl=(if q.k=1\/q.k=4 then decide (2<=q.cs.length)&&decide (q.ls.length=0)&&decide (q.n=0)
  else if q.k=2 then decide (q.ls.length=1)&&decide (q.n=0)
  else if q.k=3 then decide (q.cs.length=2)&&decide (q.ls.length=0)&&decide (1<=q.n)&&decide (q.n<=99)
  else if q.k=5 then decide (q.cs.length=2)&&decide (q.ls.length=0)&&decide (q.n=0)
  else if q.k=6 then decide (1<=q.ls.length)&&decide (0<=q.n)&&decide (q.n<=q.cs.length)
  else false):=by
 unfold FU at h1 h2;simp only[rl,rn]at h1 h2;unfold CH;rw[h1.1,h2.1,sk (by omega:1<=q.cs.length)];rfl
def p64(q:Cnd)(nc nl:Nat)(h1:An q.cs)(h2:An q.ls):Aw prog 64 [GK q,.int .i64 nc,.int .i64 nl] (.bool (CH q nc nl)):=by
 refine .mk ⟨Dl 0 q,zt,zt,zt⟩ zt (az.a (AI qz (AJ ?_)));cases hb1:FU q.cs nc 1 with
 |false=>
  simp only[eZ,seval,re,rf,rr,ry,az,cZ,s3,BA,dI,GN,Ct,CE,Ax,A9,h1,h2,hb1,AG];rw[cN (by rw[hb1];rfl)]
 |true=>
  cases z9:FU q.ls nl 0 with
  |false=>
   simp only[eZ,seval,re,rf,rr,ry,az,cZ,s3,BA,dI,GN,Ct,CE,Ax,A9,h1,h2,hb1,z9,AG];rw[cN (by rw[hb1,z9];rfl)]
  |true=>
   rw[iO hb1 z9];obtain⟨k,cs,ls,n⟩:=q;by_cases k1:k=1
   ·subst k1;simp only[eZ,seval,re,rr,ry,r9,az,cZ,s3,BA,dI,GN,Ct,CE,Ax,A9,h1,h2,hb1,z9,AG];exact(by rw[su];simp only[rl,rn];omega)
   by_cases k4:k=4
   ·subst k4;simp only[eZ,seval,re,rr,ry,r9,az,cZ,s3,BA,dI,GN,Ct,CE,Ax,A9,h1,h2,hb1,z9,AG];exact(by rw[su];simp only[rl,rn];omega)
   by_cases k2:k=2
   ·subst k2;simp only[eZ,seval,re,rr,ry,r9,az,cZ,s3,BA,dI,GN,Ct,CE,Ax,A9,h1,h2,hb1,z9,AG];exact(by rw[su];simp only[rl,rn];omega)
   by_cases k3:k=3
   ·subst k3;simp only[eZ,seval,re,rr,ry,r9,az,cZ,s3,BA,dI,GN,Ct,CE,Ax,A9,h1,h2,hb1,z9,AG];exact(by rw[su];simp only[rl,rn];omega)
   by_cases k5:k=5
   ·subst k5;simp only[eZ,seval,re,rr,ry,r9,az,cZ,s3,BA,dI,GN,Ct,CE,Ax,A9,h1,h2,hb1,z9,AG];exact(by rw[su];simp only[rl,rn];omega)
   by_cases k6:k=6
   ·subst k6;simp only[eZ,seval,re,rr,ry,r9,az,cZ,s3,BA,dI,GN,Ct,CE,Ax,A9,h1,h2,hb1,z9,AG];exact(by rw[su];simp only[rl,rn];omega)
   simp only[eZ,seval,re,rr,ry,r9,az,cZ,s3,BA,dI,GN,Ct,CE,Ax,A9,h1,h2,hb1,z9,k1,k2,k3,k4,k5,k6,AG]
def p150(l:List Bs)(s:Bs)(hl:An l):Aw prog 150 [FH l,.str s] (eI (Nv l s)):=by
 refine .mk ⟨⟨zt,DE 0 l⟩,zt,zt⟩ zt (c150.a (AI AH.tnil (AJ ?_)));simp only[eE,eN,seval,c150];refine AO (λi:Nat=>⟨[(0,true,FH l),(1,true,.str s),(5,true,.int .i64 i)],Ai,0⟩)
  (λi=>i<=l.length/\∀j (hj:j<l.length),j<i->l[j]≠s) (λi=>l.length-i) 0 rfl ⟨rm _,λj hj h=>zo⟩ ?_
 rintro i ⟨hi,e9⟩;by_cases c9:i<l.length;case neg=>
  simp only[eZ,seval,r9,Ad c9];rw[<-RJ,Lb λj hj=>e9 j hj zo]
 have hg:=rc c9;have e:=AK (k:=i) zo;by_cases hs:l[i]=s
 ·simp only[eZ,seval,rZ,rr,ry,r9,sb,AN c9,hg,BB,hs];rw[<-RJ,Fx c9 hs e9]
 ·simp only[eZ,seval,rZ,rr,ry,r9,sb,AN c9,hg,BB,hs,e];refine .mk (i+1) rfl ⟨c9,λj hj h=>?_⟩ zo;by_cases q:j=i
  ·subst q;exact hs
  ·exact e9 j hj zo
def Tzn:Bc:=AG 99 (s1 dS KR λs=>.bool (CF s)) (AG 150 (s2 I1 dS (λa _=>An a) λa s=>eI (Nv a s)) tnil)
def rA:AH prog Tzn:=(AH.tnil.add (q2 p150)).add (q1 λs _=>p99 s)
def p100(l:List Bs)(most:Nat)(hl:An l):Aw prog 100 [FH l,.int .i64 most] (.bool (Cp l most)):=by
 refine .mk ⟨⟨zt,DE 0 l⟩,zt,zt⟩ zt (c100.a (AI rA (AJ ?_)));simp only[eE,eN,seval,c100];refine AO (λi:Nat=>⟨[(0,true,FH l),(1,true,.int .i64 most),(5,true,.int .i64 i)],Ai,0⟩)
  (λi=>i<=l.length/\∀j (hj:j<l.length),j<i->CF l[j]=true/\Nv l l[j]=(j:Int)) (λi=>l.length-i) 0 rfl ⟨rm _,λj hj h=>zo⟩ ?_
 rintro i ⟨hi,e9⟩;by_cases c9:i<l.length;case neg=>
  simp only[eZ,seval,r9,Ad c9];unfold Cp;rw[RL.2 λj hj=>e9 j hj zo];by_cases h1:1<=l.length<;>by_cases h2:l.length<=most<;>simp [h1,h2]<;>omega
 have hg:=rc c9;have e:=AK (k:=i) zo;by_cases h1:CF l[i]=true
 ·by_cases h3:Nv l l[i]=(i:Int)
  ·simp only[eZ,seval,re,rZ,rr,ry,r9,sb,AN c9,hg,Tzn,s1,s2,I1,dS,GN,Ct,JP,GL,Cm,hl,h1,h3,e,AG];refine .mk (i+1) rfl ⟨c9,λj hj h=>?_⟩ zo;by_cases q:j=i
   ·subst q;exact⟨h1,h3⟩
   ·exact e9 j hj zo
  ·simp only[eZ,seval,re,rf,rZ,rr,ry,r9,sb,AN c9,hg,Tzn,s1,s2,I1,dS,GN,Ct,JP,GL,Cm,hl,h1,h3,AG];unfold Cp;rw[RM c9 λq=>h3 q.2];rfl
 ·have h1':CF l[i]=false:=by simpa using h1
  simp only[eZ,seval,re,rf,rZ,rr,ry,r9,sb,AN c9,hg,Tzn,s1,s2,I1,dS,GN,Ct,JP,GL,Cm,hl,h1',AG];unfold Cp;rw[RM c9 λq=>h1 q.1];rfl
def WN{l:List Int}:Bj l=true↔∀i j (hi:i<l.length) (hj:j<l.length),j<i->l[j]≠l[i]:=by
 rw[Fu];constructor
 ·intro h i j hi hj hji e;have q1:=h i hi;have q2:=h j hj;rw[e]at q2;rw[q1]at q2;omega
 ·intro h j hj;exact Fx hj rfl λk hk hkj=>h j k hj hk hkj
def p102(l:List Int)(n:Nat)(hl:An l):Aw prog 102 [Am l,.int .i64 n] (.bool (CG l n)):=by
 refine .mk ⟨⟨zt,Dy 0 l⟩,zt,zt⟩ zt (c102.a (AI AH.tnil (AJ ?_)));have no:∀i (hi:i<l.length),¬(0<=l[i]/\l[i]<n)->CG l n=false:=λi hi q=>RK hi λk=>q ⟨k.1,k.2.1⟩
 simp only[eE,eN,seval,c102];refine AO (λi:Nat=>⟨[(0,true,Am l),(1,true,.int .i64 n),(5,true,.int .i64 i)],Ai,0⟩)
  (λi=>i<=l.length/\∀k (hk:k<l.length),k<i->0<=l[k]/\l[k]<n/\∀j (hj:j<l.length),j<k->l[j]≠l[k]) (λi=>l.length-i) 0 rfl ⟨rm _,λj hj h=>zo⟩ ?_
 rintro i ⟨hi,e9⟩;by_cases c9:i<l.length;case neg=>
  simp only[eZ,seval,r9,Ad c9];symm;unfold CG;rw[rl,sg,WN];refine⟨λx hx=>?_,λi j hi hj hji=>(e9 i hi zo).2.2 j hj hji⟩;obtain⟨k,hk,rfl⟩:=sH.1 hx;have:=e9 k hk zo;simp [this.1,this.2.1]
 have hg:=rc c9;have e:=AK (k:=i) zo;by_cases h1:l[i]<0
 ·simp only[eZ,seval,re,rZ,rr,ry,r9,sb,AN c9,hg,h1];rw[no i c9 λq=>by omega]
 by_cases h2:(n:Int)<=l[i]
 ·simp only[eZ,seval,rZ,rr,ry,r9,sb,AN c9,hg,h1,h2];rw[no i c9 λq=>by omega]
 simp only[eZ,seval,rZ,rr,ry,r9,sb,AN c9,hg,h1,h2];refine AO (λj:Nat=>⟨[(0,true,Am l),(1,true,.int .i64 n),(5,true,.int .i64 i),(6,true,.int .i64 j)],Ai,0⟩)
  (λj=>j<=i/\∀k (hk:k<l.length),k<j->l[k]≠l[i]) (λj=>i-j) 0 rfl ⟨rm _,λj hj h=>zo⟩ ?_
 rintro j ⟨hj,hk⟩;by_cases hji:j<i;case neg=>
  simp only[eZ,seval,Ad hji,e];refine .mk (i+1) rfl ⟨c9,λk hkl hki=>?_⟩ zo;by_cases q:k=i
  ·subst q;exact⟨zo,zo,λm hm hmk=>hk m hm zo⟩
  ·exact e9 k hkl zo
 have hltj:j<l.length:=zo
 have hgj:=rc hltj;have e':=AK (k:=j) zo;by_cases hs:l[j]=l[i]
 ·simp only[eZ,seval,rZ,rr,ry,r9,sb,AN hji,AN c9,AN hltj,hg,hgj,hs];cases q:CG l n with
  |false=>rfl
  |true=>
   unfold CG at q;rw[rl]at q;exact absurd hs (WN.1 q.2 i j c9 hltj hji)
 ·simp only[eZ,seval,rZ,rr,ry,r9,sb,AN hji,AN c9,AN hltj,hg,hgj,hs,e'];refine .mk (j+1) rfl ⟨hji,λk hkl hkj=>?_⟩ zo;by_cases q:k=j
  ·subst q;exact hs
  ·exact hk k hkl zo
def Ok:Bc:=AG 102 (s2 BA dI (λa n=>An a/\0<=n) λa n=>.bool (CG a n.toNat)) tnil
def iP:AH prog Ok:=AH.tnil.add (q2 λa n h=>by
 obtain⟨j,rfl⟩:∃j:Nat,n=j:=⟨n.toNat,zo⟩;exact p102 a j h.1)
def p101(q:Cnd)(nc nl:Nat)(h1:An q.cs)(h2:An q.ls):Aw prog 101 [GK q,.int .i64 nc,.int .i64 nl] (.bool (CH q nc nl)):=by
 refine .mk ⟨Dl 0 q,zt,zt,zt⟩ zt (Oj.a (AI iP (AJ ?_)));obtain⟨k,cs,ls,n⟩:=q;cases hb1:CG cs nc with
 |false=>
  simp only[eZ,seval,re,rf,rr,ry,Oj,Ok,s2,BA,dI,GN,Ct,CE,Ax,A9,h1,h2,hb1,AG];unfold CH;rw[hb1];rfl
 |true=>
  cases z9:CG ls nl with
  |false=>
   simp only[eZ,seval,re,rf,rr,ry,Oj,Ok,s2,BA,dI,GN,Ct,CE,Ax,A9,h1,h2,hb1,z9,AG];unfold CH;simp only[z9,uP,sV]
  |true=>
   unfold CH;simp only[hb1,z9,sS,Bool.and_true];by_cases k1:k=1
   ·subst k1;simp only[eZ,seval,re,rr,ry,r9,Oj,Ok,s2,BA,dI,GN,Ct,CE,Ax,A9,h1,h2,hb1,z9,AG];exact(by rw[su];simp only[rl,rn];omega)
   by_cases k4:k=4
   ·subst k4;simp only[eZ,seval,re,rr,ry,r9,Oj,Ok,s2,BA,dI,GN,Ct,CE,Ax,A9,h1,h2,hb1,z9,AG];exact(by rw[su];simp only[rl,rn];omega)
   by_cases k2:k=2
   ·subst k2;simp only[eZ,seval,re,rr,ry,r9,Oj,Ok,s2,BA,dI,GN,Ct,CE,Ax,A9,h1,h2,hb1,z9,AG];exact(by rw[su];simp only[rl,rn];omega)
   by_cases k3:k=3
   ·subst k3;simp only[eZ,seval,re,rr,ry,r9,Oj,Ok,s2,BA,dI,GN,Ct,CE,Ax,A9,h1,h2,hb1,z9,AG];exact(by rw[su];simp only[rl,rn];omega)
   by_cases k5:k=5
   ·subst k5;simp only[eZ,seval,re,rr,ry,r9,Oj,Ok,s2,BA,dI,GN,Ct,CE,Ax,A9,h1,h2,hb1,z9,AG];exact(by rw[su];simp only[rl,rn];omega)
   by_cases k6:k=6
   ·subst k6;simp only[eZ,seval,re,rr,ry,r9,Oj,Ok,s2,BA,dI,GN,Ct,CE,Ax,A9,h1,h2,hb1,z9,AG];exact(by rw[su];simp only[rl,rn];omega)
   simp only[eZ,seval,re,rr,ry,r9,Oj,Ok,s2,BA,dI,GN,Ct,CE,Ax,A9,h1,h2,hb1,z9,k1,k2,k3,k4,k5,k6,AG]
structure xw(x:zy):Prop where
 cs:An x.cs
 ls:An x.ls
 qs:An x.qs
 ps:An x.ps
 q:∀q∈x.qs,An q.cs/\An q.ls
 p:∀p∈x.ps,An p.ls
def X1:Bc:=AG 61 (s1 dS KR λs=>.bool (CF s)) (AG 62 (s2 I1 dI (λa n=>An a/\0<=n) λa n=>.bool (Cp a n.toNat)) (AG 63 (s3 BA dI dI (λa n _=>An a/\0<=n) λa n k=>.bool (FU a n.toNat k))
 (AG 64 (s3 dQ dI dI (λq n m=>(An q.cs/\An q.ls)/\0<=n/\0<=m) λq n m=>.bool (CH q n.toNat m.toNat)) tnil)))
def iQ:AH prog X1:=(((AH.tnil.add (q3 λq n m h=>by
 obtain⟨j,rfl⟩:∃j:Nat,n=j:=⟨n.toNat,zo⟩;obtain⟨k,rfl⟩:∃j:Nat,m=j:=⟨m.toNat,zo⟩;exact p64 q j k h.1.1 h.1.2)).add (q3 λa n k h=>by
 obtain⟨j,rfl⟩:∃j:Nat,n=j:=⟨n.toNat,zo⟩;exact p63 a j k h.1)).add (q2 λa n h=>by
 obtain⟨j,rfl⟩:∃j:Nat,n=j:=⟨n.toNat,zo⟩;exact p62 a j h.1)).add (q1 λs _=>p61 s)
def few1(c:Int):An [c]=True:=ra (by show 1<_;decide)
def Gt(x:zy):Int:=if FQ x=true then 0 else 300
def hd0(x:zy):Bool:=CF x.nm&&decide (1<=x.lv)&&decide (x.lv<=8)&&Cp x.cs 4&&Cp x.ls 3&&decide ((x.qs.length:Int)<=6)
def hd1(x:zy):Bool:=hd0 x&&FU [x.c] x.cs.length 1&&FU [x.l] x.ls.length 1
def rB(x:zy)(i:Nat):Bool:=hd1 x&&(x.qs.take i).all λq=>CH q x.cs.length x.ls.length
def jm(x:zy)(i:Nat):Bool:=rB x x.qs.length&&(x.ps.take i).all λp=>FU p.ls x.ls.length 1
def cO{x:zy}{i:Nat}(h:i<x.qs.length):rB x (i+1)=(rB x i&&CH x.qs[i] x.cs.length x.ls.length):=by
 unfold rB;rw[S2 h,Bool.and_assoc]
def cP{x:zy}{i:Nat}(h:i<x.ps.length):jm x (i+1)=(jm x i&&FU x.ps[i].ls x.ls.length 1):=by
 unfold jm;rw[S2 h,Bool.and_assoc]
def ind1(c:Int)(n:Nat):FU [c] n 1=CG [c] n:=by unfold FU;simp
def iR(x:zy):(jm x x.ps.length&&FU (x.ps.map (·.c)) x.cs.length 0)=FQ x:=by
 unfold jm rB hd1 hd0 FQ;rw[ind1,ind1,se,se];have e1:FU (x.ps.map (·.c)) x.cs.length 0=CG (x.ps.map (·.c)) x.cs.length:=by unfold FU;simp
 have e2:(x.ps.all λp=>FU p.ls x.ls.length 1)=x.ps.all λp=>CG p.ls x.ls.length&&decide (1<=p.ls.length):=by
  congr 1;funext p;unfold FU;congr 1;simp;omega
 have e3:decide ((x.qs.length:Int)<=6)=decide (x.qs.length<=6):=by rw[decide_eq_decide];omega
 rw[e1,e2,e3]
abbrev AY(x:zy):List Fs:=[.str x.nm,.int .i64 x.lv,FH x.cs,FH x.ls,.sl (.none 4) (x.qs.map GK),.sl (.none 2) (x.ps.map GP),.int .i64 x.c,.int .i64 x.l]
structure Vh where
 i:Nat
 H:AB
 n:Nat
structure Ih(len:Nat)(cs:List Fs)(v:Vh):Prop where
 hi:v.i<=len
 fr:AP v.H v.n
 b:AD v.H 0=some (.box cs)
 hn:1<=v.n
structure Ip(len:Nat)(cs:List Fs)(v:Vg):Prop where
 hi:v.i<=len
 fr:AP v.H v.n
 b:AD v.H 0=some (.box cs)
 hn:1<=v.n
 tok:DA 1 1 v.H v.tk
 es:v.tk.esz=1\/v.i=0
abbrev TL(H:AB)(n:Nat)(p:Prm):AB:=hset (hset H (n+2) (.box [.int .i64 0,.sl .nil []])) (n+2) (.box [.int .i64 p.c,Am p.ls])
def p35(x:zy)(hx:xw x):Aw prog 35 [BZ x] (eI (Gt x)):=by
 refine .mk ⟨At 0 x,zt⟩ zt (c35.a (AI iQ (AJ ?_)));simp only[eZ,seval,rr,ry,r9,c35,X1,s1,s2,s3,dS,I1,BA,dI,GN,Ct,JP,GL,CE,A9,Cm,hx.cs,hx.ls,few1,AG];refine AO (λv:Vh=>⟨[(1,true,.ptr 0 0),(3,true,.sl .nil []),(4,true,.bool (rB x v.i)),(58,true,.sl (.none 4) (x.qs.map GK)),(59,true,.int .i64 x.qs.length),(60,true,.int .i64 v.i)],v.H,v.n⟩) (Ih x.qs.length (AY x)) (λv=>x.qs.length-v.i)
  ⟨0,hset Ai 0 (.box (AY x)),2⟩ (by simp only[rB,hd1,hd0,tX,List.all_nil,Bool.and_true];rfl) ⟨rm _,AP.nil.hset (rm 2) (Nat.zero_lt_succ 1),rfl,Nat.succ_le_succ (rm 1)⟩ ?_
 rintro⟨i,H,n⟩ ⟨hi,l7,hb,hn⟩;simp only at hi l7 hb hn;have z1:(0=n+2)=False:=ri zo;have hqn:=hx.qs;have hpn:=hx.ps;by_cases c9:i<x.qs.length
 ·have hg:=rc c9;have e:=AK (k:=i) zo;have hq:=hx.q _ (rY c9);generalize hqq:x.qs[i]=q at hg hq;simp only[eZ,seval,rZ,rr,ry,r9,sb,AN c9,hg,Bq l7,hb,X1,s3,Ke,Hd,dI,CE,A9,hq.1,hq.2,e,AG];refine .mk ⟨i+1,hset (hset H (n+2) (.box [.int .i64 0,.sl .nil [],.sl .nil [],.int .i64 0])) (n+2) (.box [.int .i64 q.k,Am q.cs,Am q.ls,.int .i64 q.n]),n+4⟩ ?_ ⟨c9,?_,?_,zp⟩ zp
  ·rw[cO c9,hqq]
  ·exact(l7.hset (m:=n+4) zo zo).hset (rq (n+4)) (show n+2<n+4 by omega)
  ·simp only[];rw[AA _ _ _ _ zo,AA _ _ _ _ zo];exact hb
 obtain rfl:i=x.qs.length:=zo
 simp only[eZ,seval,r9,Ad c9,hb];refine AO (λv:Vg=>⟨[(1,true,.ptr 0 0),(3,true,.sl v.tk ((x.ps.take v.i).map λp=>eI p.c)),(4,true,.bool (jm x v.i)),(77,true,.sl (.none 2) (x.ps.map GP)),(78,true,.int .i64 x.ps.length),(79,true,.int .i64 v.i)],v.H,v.n⟩) (Ip x.ps.length (AY x)) (λv=>x.ps.length-v.i)
  ⟨0,.nil,H,n⟩ (by simp only[jm,tX,List.all_nil,Bool.and_true,sI];rfl) ⟨rm _,l7,hb,hn,.inl rfl,.inr rfl⟩ ?_
 clear c9 hb l7 hn hi z1;rintro⟨i,tk,H,n⟩ ⟨hi,l7,hb,hn,l5,s5⟩;simp only at hi l7 hb hn l5 s5;by_cases c9:i<x.ps.length
 ·have hg:=rc c9;have e:=AK (k:=i) zo;have hp:=hx.p _ (rY c9);generalize hqq:x.ps[i]=p at hg hp;have z2:(0=n+2)=False:=ri zo;have z3:(0=n+4+4)=False:=ri zo;have wp:AP (TL H n p) (n+4):=(l7.hset (m:=n+4) zo zo).hset (rq (n+4)) zo;have wi:DA 1 1 (TL H n p) tk:=(l5.set (.inr (.inr (l7 _ zo)))).set (.inr (.inl ⟨_,AC ..⟩));have z9:AD (TL H n p) 0=some (.box (AY x)):=by
   rw[AA _ _ _ _ zo,AA _ _ _ _ zo];exact hb
  have hb3:AD (TL H n p) (n+2)=some (.box [.int .i64 p.c,Am p.ls]):=AC ..;have k0:AD (AU (TL H n p) tk) 0=some (.box (AY x)):=by rw[Af wi (.inl zo)];exact z9
  have k2:AD (AU (TL H n p) tk) (n+2)=some (.box [.int .i64 p.c,Am p.ls]):=by rw[Af wi (.inr ⟨_,hb3⟩)];exact hb3
  have q1:BH (TL H n p) 1 tk=True:=ra wi.app;have q2:(i<=35184372088831)=True:=ra zo;have q3:Al (i+1) 8=True:=ra (Ac zo zd);have ln:((x.ps.take i).map λp=>eI p.c).length=i:=by simp;omega
  have z4:(n+4+4=0)=False:=ri zo;have z5:(n+8=n+2)=False:=ri zo;have z6:(n+8=0)=False:=ri zo;have z7:(n+2=0)=False:=ri zo;have h8:=l7 (n+8) zo;simp only[eZ,seval,rZ,rr,ry,r9,sb,AN c9,hg,Bq l7,z4,z5,q1,q2,q3,ln,k0,k2,X1,s3,BA,dI,GN,Ct,CE,Ax,A9,hp,e,natE3,AG];refine .mk ⟨i+1,.own (n+8) 1,hset (AU (TL H n p) tk) (n+8) .tok,n+10⟩ (by rw[cP c9,map_take c9,hqq]) ⟨c9,(Ab wi wp).hset (m:=n+10) zo zo,?_,zp,.inr (.inr ⟨n+8,rfl,zo,AC ..⟩),.inl rfl⟩ zp;simp only[];rw[AA _ _ _ _ zo];exact k0
 obtain rfl:i=x.ps.length:=zo
 have hc:x.ps.map (λp=>eI p.c)=(x.ps.map (·.c)).map eI:=by rw[ui];rfl
 have hes':(tk.esz=1\/(x.ps.map (·.c)).map eI=[])=True:=ra (s5.imp id λe=>by rw[tF.1 e];rfl);have wu:An (x.ps.map (·.c))=True:=ra (by show(x.ps.map _).length<_;rw[r9];exact hpn);have hfin:=iR x;cases h1:jm x x.ps.length with
 |false=>
  have hl:FQ x=false:=by rw[<-hfin,h1];rfl
  simp only[eZ,seval,re,rf,Ad c9];unfold Gt;rw[rj (by rw[hl];decide)]
 |true=>
  rw[h1,sS]at hfin;cases hl:FQ x with
  |true=>
   simp only[eZ,seval,re,rr,ry,r9,Ad c9,hb,se,hc,X1,s3,BA,dI,GN,Ct,CE,Ax,A9,hes',wu,hfin.trans hl,AG];unfold Gt;rw[rt hl]
  |false=>
   simp only[eZ,seval,re,rf,rr,ry,r9,Ad c9,hb,se,hc,X1,s3,BA,dI,GN,Ct,CE,Ax,A9,hes',wu,hfin.trans hl,AG];unfold Gt;rw[rj (by rw[hl];decide)]
def jn:Bc:=AG 99 (s1 dS KR λs=>.bool (CF s)) (AG 100 (s2 I1 dI (λa n=>An a/\0<=n) λa n=>.bool (Cp a n.toNat)) (AG 102 (s2 BA dI (λa n=>An a/\0<=n) λa n=>.bool (CG a n.toNat))
 (AG 101 (s3 dQ dI dI (λq n m=>(An q.cs/\An q.ls)/\0<=n/\0<=m) λq n m=>.bool (CH q n.toNat m.toNat)) tnil)))
def rC:AH prog jn:=(((AH.tnil.add (q3 λq n m h=>by
 obtain⟨j,rfl⟩:∃j:Nat,n=j:=⟨n.toNat,zo⟩;obtain⟨k,rfl⟩:∃j:Nat,m=j:=⟨m.toNat,zo⟩;exact p101 q j k h.1.1 h.1.2)).add (q2 λa n h=>by
 obtain⟨j,rfl⟩:∃j:Nat,n=j:=⟨n.toNat,zo⟩;exact p102 a j h.1)).add (q2 λa n h=>by
 obtain⟨j,rfl⟩:∃j:Nat,n=j:=⟨n.toNat,zo⟩;exact p100 a j h.1)).add (q1 λs _=>p99 s)
def dif1{c:Int}{n:Nat}:CG [c] n=(decide (0<=c)&&decide (c<n)):=by simp [CG,Bj]
def rD(x:zy):Bool:=CF x.nm&&decide (1<=x.lv)&&decide (x.lv<=8)&&Cp x.cs 4&&Cp x.ls 3&&decide (x.qs.length<=6)
def Uw(x:zy):Bool:=decide (0<=x.c)&&decide (x.c<x.cs.length)&&(decide (0<=x.l)&&decide (x.l<x.ls.length))
def rE(x:zy)(p:Prm):Bool:=CG p.ls x.ls.length&&decide (1<=p.ls.length)
def jo(x:zy):FQ x=(rD x&&Uw x&&(x.qs.all λq=>CH q x.cs.length x.ls.length)&&x.ps.all (rE x)&&CG (x.ps.map (·.c)) x.cs.length):=by
 unfold FQ rD Uw;rw[dif1,dif1];simp only[Bool.and_assoc];rfl
def p68(x:zy)(hx:xw x):Aw prog 68 [BZ x] (.bool (FQ x)):=by
 refine .mk ⟨At 0 x,zt⟩ zt (c68.a (AI rC (AJ ?_)));have hqn:=hx.qs;have hpn:=hx.ps;simp only[eZ,seval,r9,c68,jn,s1,s2,dS,I1,dI,GN,Ct,JP,GL,CE,A9,Cm,hx.cs,hx.ls,AG];rw[oq];refine⟨λhB=>?_,λhB=>?_⟩
 ·simp only[eE,eN,seval];have:rD x=false:=by
   cases q:rD x with
   |false=>rfl
   |true=>
    unfold rD at q;simp only[rl,rn]at q;simp only[sA,tq,rn,q.1.1.1.1.1,q.1.1.2,q.1.2,vD,vF,false_or]at hB;omega
  rw[jo,this];simp only[sV]
 have hV:rD x=true:=by
  simp only[tv,uG,sR]at hB;unfold rD;simp only[rl,rn];exact⟨⟨⟨⟨⟨hB.1.1.1.1.1,zo⟩,zo⟩,hB.1.1.2⟩,hB.1.2⟩,zo⟩
 clear hB;rw[show FQ x=_ from jo x,hV,sS];simp only[eZ,seval,r9];rw[oq];refine⟨λhB=>?_,λhB=>?_⟩
 ·simp only[eE,eN,seval];have:Uw x=false:=by
   cases q:Uw x with
   |false=>rfl
   |true=>
    unfold Uw at q;simp only[rl,sA,rn]at q hB;omega
  rw[this];simp only[sV]
 have hC:Uw x=true:=by
  simp only[tv,sR]at hB;unfold Uw;simp only[rl,rn];omega
 clear hB;rw[hC,sS];simp only[eE,eN,seval];refine AO (λi:Nat=>⟨[(1,true,.ptr 0 0),(3,true,.int .i64 i)],hset Ai 0 (.box (AY x)),2⟩) (λi=>i<=x.qs.length/\∀j (hj:j<x.qs.length),j<i->CH x.qs[j] x.cs.length x.ls.length=true) (λi=>x.qs.length-i) 0 rfl ⟨rm _,λj hj h=>zo⟩ ?_;rintro i ⟨hi,e9⟩;by_cases c9:i<x.qs.length
 ·have hg:=rc c9;have e:=AK (k:=i) zo;have hq:=hx.q _ (rY c9);cases hc:CH x.qs[i] x.cs.length x.ls.length with
  |true=>
   simp only[eZ,seval,re,rZ,rr,ry,r9,sb,AN c9,hg,jn,s3,Ke,Hd,dI,CE,A9,hq.1,hq.2,e,hc,AG];refine .mk (i+1) rfl ⟨c9,λj hj h=>?_⟩ zo;by_cases q:j=i
   ·subst q;exact hc
   ·exact e9 j hj zo
  |false=>
   simp only[eZ,seval,rf,rZ,rr,ry,r9,sb,AN c9,hg,jn,s3,Ke,Hd,dI,CE,A9,hq.1,hq.2,hc,AG];have:(x.qs.all λq=>CH q x.cs.length x.ls.length)=false:=uw.2 ⟨_,rY c9,by rw[hc];decide⟩;rw[this];simp only[sV]
 have hqa:(x.qs.all λq=>CH q x.cs.length x.ls.length)=true:=sg.2 λq hq=>by
  obtain⟨j,hj,rfl⟩:=sH.1 hq;exact e9 j hj zo
 rw[hqa,sS];simp only[eZ,seval,r9,Ad c9];clear c9 e9 hi;refine AO (λv:Vg=>⟨[(1,true,.ptr 0 0),(4,true,.sl v.tk ((x.ps.take v.i).map λp=>eI p.c)),(5,true,.int .i64 v.i)],v.H,v.n⟩) (λv=>Ip x.ps.length (AY x) v/\v.tk.esz=1/\∀j (hj:j<x.ps.length),j<v.i->rE x x.ps[j]=true) (λv=>x.ps.length-v.i)
  ⟨0,.exact 1,hset Ai 0 (.box (AY x)),2⟩ rfl ⟨⟨rm _,AP.nil.hset (rm 2) (Nat.zero_lt_succ 1),rfl,Nat.succ_le_succ (rm 1),.inr (.inl rfl),.inl rfl⟩,rfl,λj hj h=>absurd h (td _)⟩ ?_
 rintro⟨i,tk,H,n⟩ ⟨⟨hi,l7,hb,hn,l5,s5⟩,hes1,e9⟩;simp only at hi l7 hb hn l5 s5 hes1 e9;by_cases c9:i<x.ps.length
 ·have hg:=rc c9;have e:=AK (k:=i) zo;have hp:=hx.p _ (rY c9);generalize hqq:x.ps[i]=p at hg hp;have k0:AD (AU H tk) 0=some (.box (AY x)):=by rw[Af l5 (.inl zo)];exact hb
  have q1:BH H 1 tk=True:=ra l5.app;have q2:(i<=35184372088831)=True:=ra zo;have q3:Al (i+1) 8=True:=ra (Ac zo zd);have ln:((x.ps.take i).map λp=>eI p.c).length=i:=by simp;omega
  have z6:(n+8=0)=False:=ri zo;have h8:=l7 (n+8) zo;by_cases hpo:rE x p=true
  ·have hpo':=hpo;unfold rE at hpo';rw[rl,rn]at hpo';have l0:((p.ls.length:Int)=0)=False:=ri zo;simp only[eZ,seval,re,rZ,rr,ry,r9,sb,AN c9,hg,Bq l7,hb,z6,q1,q2,q3,ln,k0,jn,s2,BA,dI,GN,Ct,CE,Ax,A9,hp,e,l0,hpo'.1,AG];refine .mk ⟨i+1,.own (n+8) 1,hset (AU H tk) (n+8) .tok,n+10⟩ (by rw[map_take c9,hqq]) ⟨⟨c9,(Ab l5 l7).hset (m:=n+10) zo zo,?_,zp,.inr (.inr ⟨n+8,rfl,zo,AC ..⟩),.inl rfl⟩,rfl,?_⟩ zp
   ·simp only[];rw[AA _ _ _ _ zo];exact k0
   ·intro j hj h;simp only[]at h;by_cases q:j=i
    ·subst q;rw[hqq];exact hpo
    ·exact e9 j hj zo
  ·have hpf:x.ps.all (rE x)=false:=uw.2 ⟨_,rY c9,by rw[hqq];exact hpo⟩;rw[hpf,sV];by_cases l1:p.ls.length=0
   ·have l0:((p.ls.length:Int)=0)=True:=ra zo;simp only[eZ,seval,re,rZ,rr,ry,r9,sb,AN c9,hg,Bq l7,hb,z6,q1,q2,q3,ln,k0,jn,s2,BA,dI,GN,Ct,CE,Ax,A9,hp,l0,AG]
   ·have l0:((p.ls.length:Int)=0)=False:=ri zo;have hd:CG p.ls x.ls.length=false:=by
     cases q:CG p.ls x.ls.length with
     |false=>rfl
     |true=>exact absurd (by unfold rE;rw[q,sk (by omega:1<=p.ls.length)];rfl) hpo
    simp only[eZ,seval,rf,rZ,rr,ry,r9,sb,AN c9,hg,Bq l7,hb,z6,q1,q2,q3,ln,k0,jn,s2,BA,dI,GN,Ct,CE,Ax,A9,hp,l0,hd,AG]
 obtain rfl:i=x.ps.length:=zo
 have hpa:x.ps.all (rE x)=true:=sg.2 λq hq=>by
  obtain⟨j,hj,rfl⟩:=sH.1 hq;exact e9 j hj hj
 rw[hpa,sS];have hc:x.ps.map (λp=>eI p.c)=(x.ps.map (·.c)).map eI:=by rw[ui];rfl
 have wu:An (x.ps.map (·.c))=True:=ra (by show(x.ps.map _).length<_;rw[r9];exact hpn);simp only[eZ,seval,rr,ry,r9,Ad c9,hb,se,hc,jn,s2,BA,dI,GN,Ct,CE,Ax,A9,hes1,wu,AG]
def Tzk:Bc:=AG 68 (s1 dX xw λx=>.bool (FQ x)) tnil
def rF:AH prog Tzk:=AH.tnil.add (q1 λx h=>p68 x h)
def p40(x:zy)(hx:xw x):Aw prog 40 [BZ x] (eI (Gt x)):=by
 refine .mk ⟨At 0 x,zt⟩ zt (c40.a (AI rF (AJ ?_)));cases hl:FQ x with
 |true=>
  simp only[eZ,seval,c40,Tzk,s1,D5,C4,ra hx,hl,AG];unfold Gt;rw[rt hl]
 |false=>
  simp only[eZ,seval,c40,Tzk,s1,D5,C4,ra hx,hl,AG];unfold Gt;rw[rj (by rw[hl];decide)]
end Go.AM
