/-
  Parts of the proof. Conditions: none.
-/
import Derived.Test.YtabcmhkkohbdeaaGreatB8
set_option maxRecDepth 20000
set_option linter.all false
set_option maxHeartbeats 1000000
namespace Go.AM
open Go.Lib Go.Proofs Go.Proofs.Tryz
theorem A6{a b:Bs}:scmp .neq a b= !decide (a=b):=rfl
theorem BR{a b:Bs}:scmp .eql a b=decide (a=b):=rfl
def iv{a b:xk}:a=b↔a.nm=b.nm/\a.v=b.v:=by cases a;cases b;simp only[xk.mk.injEq]
def iw{a b:x8}:a=b↔a.nm=b.nm/\a.on=b.on/\a.xX=b.xX/\a.ty=b.ty/\a.lo=b.lo/\a.hi=b.hi:=by cases a;cases b;simp only[x8.mk.injEq]
def iy{a b:xz}:a=b↔a.nm=b.nm/\a.ls=b.ls:=by cases a;cases b;simp only[xz.mk.injEq]
def LS(s t:xk):xT [.str s.nm,.int .i64 s.v] [.str t.nm,.int .i64 t.v]=decide (s=t):=by
 rw[sP,si,iv];simp [xT,ID]
def LT(s t:x8):xT [.str s.nm,.str s.on,.int .i64 s.xX,.int .i64 s.ty,.int .i64 s.lo,.int .i64 s.hi] [.str t.nm,.str t.on,.int .i64 t.xX,.int .i64 t.ty,.int .i64 t.lo,.int .i64 t.hi]=decide (s=t):=by
 rw[sP,si,iw];simp [xT,ID]
def BU{p:Prop}[Decidable p](h:p):decide p=true:=sK h
def A5{p:Prop}[Decidable p](h:¬p):decide p=false:=sA h
def YU(a b:List Int)(hb:wide b):Av prog 109 [Aj a,Aj b] (.bool (decide (a=b))):=by
 refine .mk ⟨AV 0 a,AV 0 b,zt⟩ zt (pR.a (AI AH.wD (AJ ?_)));by_cases hl:a.length=b.length;case neg=>
  simp only[eZ,seval,se,ry,pR,HY hl,se];exact(sA λe=>hl (by rw[e])).symm
 simp only[eZ,seval,sa,ry,pR,HZ hl];refine AQ (λi:Nat=>⟨[(0,true,Aj a),(1,true,Aj b),(12,true,.int .i64 a.length),(13,true,.int .i64 i)],Ak,0⟩) (λi=>i<=a.length/\∀j,j<i->a[j]?=b[j]?) (λi=>a.length-i) 0 rfl ⟨sk _,λj hj=>zo⟩ ?_;rintro i ⟨hi,l5⟩;by_cases e9:i<a.length;case neg=>
  simp only[eZ,seval,Ag e9];exact(sK (Ed hl λj hj=>l5 j zo)).symm
 have wO:i<b.length:=zo
 have xW:=rz e9;have wQ:=rz wO;have e:=AK (k:=i) (by have:b.length<1125899906842624:=hb;omega);by_cases hs:a[i]=b[i]
 ·simp only[eZ,seval,sa,sw,sm,sr,ry,sF,AN e9,AN wO,xW,wQ,e,BU hs];refine .mk (i+1) rfl ⟨e9,λj h=>?_⟩ zo;by_cases q:j=i
  ·subst q;rw[xW,wQ,hs]
  ·exact l5 j zo
 ·simp only[eZ,seval,se,sw,sm,sr,ry,sF,AN e9,AN wO,xW,wQ,A5 hs];exact(sA λq=>hs (by simp [q])).symm
def p162(a b:List Bs)(hb:wide b):Av prog 162 [FN a,FN b] (.bool (decide (a=b))):=by
 refine .mk ⟨CR 0 a,CR 0 b,zt⟩ zt (pS.a (AI AH.wD (AJ ?_)));by_cases hl:a.length=b.length;case neg=>
  simp only[eZ,seval,se,ry,pS,HY hl,se];exact(sA λe=>hl (by rw[e])).symm
 simp only[eZ,seval,sa,ry,pS,HZ hl];refine AQ (λi:Nat=>⟨[(0,true,FN a),(1,true,FN b),(12,true,.int .i64 a.length),(13,true,.int .i64 i)],Ak,0⟩) (λi=>i<=a.length/\∀j,j<i->a[j]?=b[j]?) (λi=>a.length-i) 0 rfl ⟨sk _,λj hj=>zo⟩ ?_;rintro i ⟨hi,l5⟩;by_cases e9:i<a.length;case neg=>
  simp only[eZ,seval,Ag e9];exact(sK (Ed hl λj hj=>l5 j zo)).symm
 have wO:i<b.length:=zo
 have xW:=rz e9;have wQ:=rz wO;have e:=AK (k:=i) (by have:b.length<1125899906842624:=hb;omega);by_cases hs:a[i]=b[i]
 ·simp only[eZ,seval,sa,sw,sm,sr,ry,sF,AN e9,AN wO,xW,wQ,e,A6,BU hs];refine .mk (i+1) rfl ⟨e9,λj h=>?_⟩ zo;by_cases q:j=i
  ·subst q;rw[xW,wQ,hs]
  ·exact l5 j zo
 ·simp only[eZ,seval,se,sw,sm,sr,ry,sF,AN e9,AN wO,xW,wQ,A6,A5 hs];exact(sA λq=>hs (by simp [q])).symm
def p163(a b:List xk)(hb:Aq b):Av prog 163 [He a,He b] (.bool (decide (a=b))):=by
 refine .mk ⟨Hf 0 a,Hf 0 b,zt⟩ zt (a163 (AI AH.wD (AJ ?_)));by_cases hl:a.length=b.length;case neg=>
  simp only[eZ,seval,se,ry,pT,HY hl,se];exact(sA λe=>hl (by rw[e])).symm
 simp only[eZ,seval,sa,ry,pT,HZ hl];refine AQ (λi:Nat=>⟨[(0,true,He a),(1,true,He b),(12,true,.int .i64 a.length),(13,true,.int .i64 i)],Ak,0⟩) (λi=>i<=a.length/\∀j,j<i->a[j]?=b[j]?) (λi=>a.length-i) 0 rfl ⟨sk _,λj hj=>zo⟩ ?_;rintro i ⟨hi,l5⟩;by_cases e9:i<a.length;case neg=>
  simp only[eZ,seval,Ag e9];exact(sK (Ed hl λj hj=>l5 j zo)).symm
 have wO:i<b.length:=zo
 have xW:=rz e9;have wQ:=rz wO;have e:=AK (k:=i) (by have:b.length<1000000000:=hb;omega);by_cases hs:a[i]=b[i]
 ·simp only[eZ,seval,sa,sw,sm,sr,ry,sF,AN e9,AN wO,xW,wQ,e,LS,D2,BU hs];refine .mk (i+1) rfl ⟨e9,λj h=>?_⟩ zo;by_cases q:j=i
  ·subst q;rw[xW,wQ,hs]
  ·exact l5 j zo
 ·simp only[eZ,seval,se,sw,sm,sr,ry,sF,AN e9,AN wO,xW,wQ,LS,D2,A5 hs];exact(sA λq=>hs (by simp [q])).symm
def p165(a b:List x8)(hb:Aq b):Av prog 165 [Eh a,Eh b] (.bool (decide (a=b))):=by
 refine .mk ⟨E7 0 a,E7 0 b,zt⟩ zt (a165 (AI AH.wD (AJ ?_)));by_cases hl:a.length=b.length;case neg=>
  simp only[eZ,seval,se,ry,pU,HY hl,se];exact(sA λe=>hl (by rw[e])).symm
 simp only[eZ,seval,sa,ry,pU,HZ hl];refine AQ (λi:Nat=>⟨[(0,true,Eh a),(1,true,Eh b),(12,true,.int .i64 a.length),(13,true,.int .i64 i)],Ak,0⟩) (λi=>i<=a.length/\∀j,j<i->a[j]?=b[j]?) (λi=>a.length-i) 0 rfl ⟨sk _,λj hj=>zo⟩ ?_;rintro i ⟨hi,l5⟩;by_cases e9:i<a.length;case neg=>
  simp only[eZ,seval,Ag e9];exact(sK (Ed hl λj hj=>l5 j zo)).symm
 have wO:i<b.length:=zo
 have xW:=rz e9;have wQ:=rz wO;have e:=AK (k:=i) (by have:b.length<1000000000:=hb;omega);by_cases hs:a[i]=b[i]
 ·simp only[eZ,seval,sa,sw,sm,sr,ry,sF,AN e9,AN wO,xW,wQ,e,LT,D2,BU hs];refine .mk (i+1) rfl ⟨e9,λj h=>?_⟩ zo;by_cases q:j=i
  ·subst q;rw[xW,wQ,hs]
  ·exact l5 j zo
 ·simp only[eZ,seval,se,sw,sm,sr,ry,sF,AN e9,AN wO,xW,wQ,LT,D2,A5 hs];exact(sA λq=>hs (by simp [q])).symm
def Yi{α β:Type}(cl:Nat)(A:Dc α)(B:Dc β)(c:α->β->Prop)(f:α->β->Fs):List Fs->AB->Prop×Fs:=λa _=>match a with
 |[x,y,.fn (.func k) [] []]=>(k=cl/\A.ok x/\B.ok y/\c (A.dec x) (B.dec y),f (A.dec x) (B.dec y))
 |_=>(False,.wJ [])
def q2f{α β:Type}{cl:Nat}{A:Dc α}{B:Dc β}{c:α->β->Prop}{f:α->β->Fs}{y9:FuncId}(h:∀x y,c x y->Av prog y9 [A.enc x,B.enc y,.fn (.func cl) [] []] (f x y)):∀args H n,(Yi cl A B c f args H).1->Ao prog y9 args H n (Yi cl A B c f args H).2:=by
 intro args H n hh;unfold Yi at hh⊢;split at hh
 ·obtain⟨rfl,h1,h2,h3⟩:=hh;refine AX.args ((h _ _ h3).quiet H n) ?_;rintro g vs ⟨v,r,rfl,k1,w,r',rfl,k2,k3⟩;exact⟨v,_,rfl,A.wk _ h1 _ _ k1,w,_,rfl,B.wk _ h2 _ _ k2,k3⟩
 ·exact hh.elim
def Db(x:List (List Int)):OF.ok (Br x)=True:=Jf F5 (.inl rfl)
def Cv(x:List (List Int)):OF.dec (Br x)=x:=Hh F5
def iz(x:List xk):ij.ok (He x)=True:=Jf I1 (.inl rfl)
def dJ(x:List xk):ij.dec (He x)=x:=Hh I1
def i4(x:List xz):ik.ok (Gz x)=True:=Jf HH (.inl rfl)
def dK(x:List xz):ik.dec (Gz x)=x:=Hh HH
def i5(x:List x8):ip.ok (Eh x)=True:=Jf I2 (.inl rfl)
def dL(x:List x8):ip.dec (Eh x)=x:=Hh I2
def i6(x:List zj):iq.ok (DZ x)=True:=Jf HI (.inl rfl)
def dN(x:List zj):iq.dec (DZ x)=x:=Hh HI
abbrev B7(l:List (List Int)):Prop:=Aq l/\∀x∈l,wide x
abbrev OI(r:xz):Prop:=B7 r.ls
abbrev Gl(r:zj):Prop:=wide r.ns/\wide r.os
structure zy(d:xj):Prop where
 ho:Aq d.wC
 sy:Aq d.wE
 rg:Aq d.wK
 rgs:∀r∈d.wK,OI r
 cl:Aq d.wG
 ru:Aq d.wF
 rus:∀r∈d.wF,Gl r
def RW{a b:zj}:a=b↔(((((a.ns=b.ns/\a.os=b.os)/\a.nm=b.nm)/\a.on=b.on)/\a.yI=b.yI)/\a.kind=b.kind/\a.xX=b.xX/\a.set=b.set/\a.wU=b.wU/\a.op=b.op/\a.n=b.n/\a.wP=b.wP):=by
 cases a;cases b;simp only[zj.mk.injEq];constructor
 ·rintro⟨a,b,c,d,e,f,g,h,i,j,k,l⟩;exact⟨⟨⟨⟨⟨e,f⟩,a⟩,b⟩,k⟩,c,d,g,h,i,j,l⟩
 ·rintro⟨⟨⟨⟨⟨e,f⟩,a⟩,b⟩,k⟩,c,d,g,h,i,j,l⟩;exact⟨a,b,c,d,e,f,g,h,i,j,k,l⟩
def ceq_7(a b c d e f g a' b' c' d' e' f' g':Int):xT [.int .i64 a,.int .i64 b,.int .i64 c,.int .i64 d,.int .i64 e,.int .i64 f,.int .i64 g] [.int .i64 a',.int .i64 b',.int .i64 c',.int .i64 d',.int .i64 e',.int .i64 f',.int .i64 g']=decide (a=a'/\b=b'/\c=c'/\d=d'/\e=e'/\f=f'/\g=g'):=by
 rw[sP,si];simp [xT,ID]
def i7{a b:xj}:a=b↔((((((((((a.nm=b.nm/\a.yN=b.yN)/\a.sh=b.sh)/\a.w=b.w)/\a.h=b.h)/\a.wC=b.wC)/\a.wE=b.wE)/\a.wK=b.wK)/\a.wG=b.wG)/\a.wF=b.wF)):=by
 cases a;cases b;simp only[xj.mk.injEq];constructor
 ·rintro⟨a,b,c,d,e,f,g,h,i,j⟩;exact⟨⟨⟨⟨⟨⟨⟨⟨⟨a,b⟩,c⟩,d⟩,e⟩,f⟩,g⟩,h⟩,i⟩,j⟩
 ·rintro⟨⟨⟨⟨⟨⟨⟨⟨⟨a,b⟩,c⟩,d⟩,e⟩,f⟩,g⟩,h⟩,i⟩,j⟩;exact⟨a,b,c,d,e,f,g,h,i,j⟩
def Tci:Bg:=AF 109 (s2 A3 A3 (λ_ b=>wide b) λa b=>.bool (decide (a=b))) wD
def rE:AH prog Tci:=AH.wD.add (q2 YU)
def p160(a b:List (List Int))(hb:Aq b)(hx:∀x∈b,wide x):Av prog 160 [Br a,Br b,.fn (.func 109) [] []] (.bool (decide (a=b))):=by
 refine .mk ⟨BC 0 a,BC 0 b,by simp [Fs.under,wN],zt⟩ zt (pV.a (AI rE (AJ ?_)));by_cases hl:a.length=b.length;case neg=>
  simp only[eZ,seval,se,ry,pV,HY hl,se];exact(sA λe=>hl (by rw[e])).symm
 simp only[eZ,seval,sa,ry,pV,HZ hl];refine AQ (λi:Nat=>⟨[(1,true,Br b),(2,true,.fn (.func 109) [] []),(15,true,Br a),(16,true,.int .i64 a.length),(17,true,.int .i64 i)],Ak,0⟩) (λi=>i<=a.length/\∀j,j<i->a[j]?=b[j]?) (λi=>a.length-i) 0 rfl ⟨sk _,λj hj=>zo⟩ ?_;rintro i ⟨hi,l5⟩;by_cases e9:i<a.length;case neg=>
  simp only[eZ,seval,Ag e9];exact(sK (Ed hl λj hj=>l5 j zo)).symm
 have wO:i<b.length:=zo
 have xW:=rz e9;have wQ:=rz wO;have e:=AK (k:=i) (by have:b.length<1000000000:=hb;omega);have hf:=hx _ (sC wO);by_cases hs:a[i]=b[i]
 ·simp only[eZ,seval,sa,sw,sm,sr,ry,sF,AN e9,AN wO,xW,wQ,e,Tci,s2,Ah,Ad,r9 hf,BU hs,AF];refine dw.drop (i+1) rfl rfl rfl rfl AO.nil (λ_ _ h=>by cases h) ⟨BC 0 b,by simp [Fs.under,wN],BC 0 a,zt,zt,zt⟩ ⟨e9,λj h=>?_⟩ zo;by_cases q:j=i
  ·subst q;rw[xW,wQ,hs]
  ·exact l5 j zo
 ·simp only[eZ,seval,se,sw,sm,sr,ry,sF,AN e9,AN wO,xW,wQ,Tci,s2,Ah,Ad,r9 hf,A5 hs,AF];exact(sA λq=>hs (by simp [q])).symm
def Tcl:Bg:=AF 160 (Yi 109 OF OF (λ_ b=>B7 b) λa b=>.bool (decide (a=b))) wD
def dO:AH prog Tcl:=AH.wD.add (q2f λa b h=>p160 a b h.1 h.2)
def p159(a b:xz)(hb:OI b):Av prog 159 [Gj a,Gj b] (.bool (decide (a=b))):=by
 refine .mk ⟨EN 0 a,EN 0 b,zt⟩ zt (c159.a (AI dO (AJ ?_)));simp only[eZ,seval,c159,BR,Tcl,Yi,Db,Cv,r9 hb,AF];rw[sP];simp only[sf,si,iy]
def Tcr:Bg:=AF 159 (s2 rC rC (λ_ b=>OI b) λa b=>.bool (decide (a=b))) wD
def rF:AH prog Tcr:=AH.wD.add (q2 p159)
def p164(a b:List xz)(hb:Aq b)(hx:∀x∈b,OI x):Av prog 164 [Gz a,Gz b,.fn (.func 159) [] []] (.bool (decide (a=b))):=by
 refine .mk ⟨E6 0 a,E6 0 b,by simp [Fs.under,wN],zt⟩ zt (pW.a (AI rF (AJ ?_)));by_cases hl:a.length=b.length;case neg=>
  simp only[eZ,seval,se,ry,pW,HY hl,se];exact(sA λe=>hl (by rw[e])).symm
 simp only[eZ,seval,sa,ry,pW,HZ hl];refine AQ (λi:Nat=>⟨[(1,true,Gz b),(2,true,.fn (.func 159) [] []),(15,true,Gz a),(16,true,.int .i64 a.length),(17,true,.int .i64 i)],Ak,0⟩) (λi=>i<=a.length/\∀j,j<i->a[j]?=b[j]?) (λi=>a.length-i) 0 rfl ⟨sk _,λj hj=>zo⟩ ?_;rintro i ⟨hi,l5⟩;by_cases e9:i<a.length;case neg=>
  simp only[eZ,seval,Ag e9];exact(sK (Ed hl λj hj=>l5 j zo)).symm
 have wO:i<b.length:=zo
 have xW:=rz e9;have wQ:=rz wO;have e:=AK (k:=i) (by have:b.length<1000000000:=hb;omega);have hf:=hx _ (sC wO);by_cases hs:a[i]=b[i]
 ·simp only[eZ,seval,sa,sw,sm,sr,ry,sF,AN e9,AN wO,xW,wQ,e,Tcr,s2,LM,I3,r9 hf,BU hs,AF];refine dw.drop (i+1) rfl rfl rfl rfl AO.nil (λ_ _ h=>by cases h) ⟨E6 0 b,by simp [Fs.under,wN],E6 0 a,zt,zt,zt⟩ ⟨e9,λj h=>?_⟩ zo;by_cases q:j=i
  ·subst q;rw[xW,wQ,hs]
  ·exact l5 j zo
 ·simp only[eZ,seval,se,sw,sm,sr,ry,sF,AN e9,AN wO,xW,wQ,Tcr,s2,LM,I3,r9 hf,A5 hs,AF];exact(sA λq=>hs (by simp [q])).symm
def Tcs:Bg:=AF 162 (s2 Kj Kj (λ_ b=>wide b) λa b=>.bool (decide (a=b))) wD
def rG:AH prog Tcs:=AH.wD.add (q2 p162)
def p161(a b:zj)(hb:Gl b):Av prog 161 [Bt a,Bt b] (.bool (decide (a=b))):=by
 refine .mk ⟨BP 0 a,BP 0 b,zt⟩ zt (a161 (AI rG (AJ ?_)));have h1:=hb.1;have h2:=hb.2;simp only[eZ,seval,c161,BR,Tcs,s2,Hi,Fz,r9 h1,r9 h2,ceq_7,D2,AF];rw[sP];simp only[sf,si,RW]
def Tcu:Bg:=AF 161 (s2 Mq Mq (λ_ b=>Gl b) λa b=>.bool (decide (a=b))) wD
def rH:AH prog Tcu:=AH.wD.add (q2 p161)
def p166(a b:List zj)(hb:Aq b)(hx:∀x∈b,Gl x):Av prog 166 [DZ a,DZ b,.fn (.func 161) [] []] (.bool (decide (a=b))):=by
 refine .mk ⟨Da 0 a,Da 0 b,by simp [Fs.under,wN],zt⟩ zt (pX.a (AI rH (AJ ?_)));by_cases hl:a.length=b.length;case neg=>
  simp only[eZ,seval,se,ry,pX,HY hl,se];exact(sA λe=>hl (by rw[e])).symm
 simp only[eZ,seval,sa,ry,pX,HZ hl];refine AQ (λi:Nat=>⟨[(1,true,DZ b),(2,true,.fn (.func 161) [] []),(15,true,DZ a),(16,true,.int .i64 a.length),(17,true,.int .i64 i)],Ak,0⟩) (λi=>i<=a.length/\∀j,j<i->a[j]?=b[j]?) (λi=>a.length-i) 0 rfl ⟨sk _,λj hj=>zo⟩ ?_;rintro i ⟨hi,l5⟩;by_cases e9:i<a.length;case neg=>
  simp only[eZ,seval,Ag e9];exact(sK (Ed hl λj hj=>l5 j zo)).symm
 have wO:i<b.length:=zo
 have xW:=rz e9;have wQ:=rz wO;have e:=AK (k:=i) (by have:b.length<1000000000:=hb;omega);have hf:=hx _ (sC wO);by_cases hs:a[i]=b[i]
 ·simp only[eZ,seval,sa,sw,sm,sr,ry,sF,AN e9,AN wO,xW,wQ,e,Tcu,s2,CC,Bi,r9 hf,BU hs,AF];refine dw.drop (i+1) rfl rfl rfl rfl AO.nil (λ_ _ h=>by cases h) ⟨Da 0 b,by simp [Fs.under,wN],Da 0 a,zt,zt,zt⟩ ⟨e9,λj h=>?_⟩ zo;by_cases q:j=i
  ·subst q;rw[xW,wQ,hs]
  ·exact l5 j zo
 ·simp only[eZ,seval,se,sw,sm,sr,ry,sF,AN e9,AN wO,xW,wQ,Tcu,s2,CC,Bi,r9 hf,A5 hs,AF];exact(sA λq=>hs (by simp [q])).symm
def Tsa:Bg:=AF 109 (s2 A3 A3 (λ_ b=>wide b) λa b=>.bool (decide (a=b))) (AF 163 (s2 ij ij (λ_ b=>Aq b) λa b=>.bool (decide (a=b))) (AF 164 (Yi 159 ik ik (λ_ b=>Aq b/\∀x∈b,OI x) λa b=>.bool (decide (a=b))) (AF 165 (s2 ip ip (λ_ b=>Aq b) λa b=>.bool (decide (a=b))) (AF 166 (Yi 161 iq iq (λ_ b=>Aq b/\∀x∈b,Gl x) λa b=>.bool (decide (a=b))) wD))))
def rI:AH prog Tsa:=((((AH.wD.add (q2f λa b h=>p166 a b h.1 h.2)).add (q2 p165)).add (q2f λa b h=>p164 a b h.1 h.2)).add (q2 p163)).add (q2 YU)
def p110(a b:xj)(hb:zy b):Av prog 110 [B6 a,B6 b] (.bool (decide (a=b))):=by
 refine .mk ⟨At 0 a,At 0 b,zt⟩ zt (c110.a (AI rI (AJ ?_)));simp only[eZ,seval,c110,BR,Tsa,s2,Yi,Ah,Ad,iz,dJ,i4,dK,i5,dL,i6,dN,r9 (Dr hb.ho),r9 hb.sy,r9 hb.rg,r9 hb.rgs,r9 hb.cl,r9 hb.ru,r9 hb.rus,AF];rw[sP];simp only[sf,si,i7]
abbrev AE(sh w h:Int)(wC cells:List Int):List Fs:=[.int .i64 sh,.int .i64 w,.int .i64 h,Aj wC,Aj cells]
abbrev Ej(sh w h:Int)(wC cells:List Int):Fs:=.agg (AE sh w h wC cells)
def BM(n:Nat)(sh w h:Int)(wC cells:List Int):(Ej sh w h wC cells).under n:=⟨zt,zt,zt,AV n _,AV n _,zt⟩
def Bf(sh w h:Int)(wC:List Int):Fs:=match Au sh w h wC with
 |some cells=>.wJ [Ej sh w h wC cells,.int .i64 0]
 |none=>.wJ [Ej 0 0 0 [] [],.int .i64 130]
def MK(sh w h:Int)(wC:List Int):(Bf sh w h wC).under 0:=by
 unfold Bf;split<;>exact⟨BM 0 ..,zt,zt⟩
def RX{sh w h:Int}{wC cells:List Int}{a b:Fs}{e:Int}(h1:Wk a (Aj wC))(h2:Wk b (Aj cells)):Wk (.wJ [.agg [.int .i64 sh,.int .i64 w,.int .i64 h,a,b],.int .i64 e]) (.wJ [Ej sh w h wC cells,.int .i64 e]):=
 Wk.wJ (.cons (Wk.agg (.cons (Wk.refl _) (.cons (Wk.refl _) (.cons (Wk.refl _) (.cons h1 (.cons h2 .nil)))))) (.cons (Wk.refl _) .nil))
def p32(l:List Int)(hl:Aq l):Av prog 32 [Aj l] (Aj l):=by
 refine .mk ⟨AV 0 l,zt⟩ (AV 0 l) (c32.a (AI AH.wD (AJ ?_)));have a1:(l.length<=35184372088832)=True:=r9 (by have:l.length<1000000000:=hl;omega);have a2:Al l.length 8=True:=r9 (Ae (by have:l.length<1000000000:=hl;omega) zd);cases l with
 |nil=>
  simp only[eZ,seval,c32];refine⟨?_,?_⟩
  ·simp only[eZ,seval,Al,vi,sk];exact Wk.sl (.inl rfl)
  ·simp only[eZ,seval,se];exact Wk.sl (.inr rfl)
 |cons x r=>
  rw[sM]at a1 a2;simp only[eZ,seval,ry,c32,Aj,a1,a2];exact Wk.sl (.inl rfl)
def Tmk:Bg:=AF 32 (s1 A3 Aq λl=>Aj l) (AF 223 (s2 A3 dI (λl _=>Aq l/\List.Pairwise (λx y=>x<y) l) λl x=>.wJ [.int .i64 (Fi l x),.bool (l.contains x)]) wD)
def rJ:AH prog Tmk:=(AH.wD.add (q2 λl x h=>p223 l x h.1 h.2)).add (q1 p32)
def Du(wC:List Int)(k:Nat):List Int:=((List.range k).map λ(i:Nat)=>(i:Int)).filter λp=>!wC.contains p
def QF(wC:List Int)(k:Nat):Du wC (k+1)=if wC.contains (k:Int)then Du wC k else Du wC k++[(k:Int)]:=by
 unfold Du;rw[uc,su,uh];cases h:wC.contains (k:Int)<;>simp only[sS,t6,tE,uV,h,sa,se,tD,sY,sN,sR]
def Ww(wC:List Int)(k:Nat):(Du wC k).length<=k:=by
 have:=tN (λp=>!wC.contains p) ((List.range k).map λ(i:Nat)=>(i:Int));simpa [Du]using this
structure VM where
 k:Nat
 tk:v8
 H:AB
 n:Nat
structure IM(sh w h:Int)(wC:List Int)(m:Nat)(v:VM):Prop where
 hk:v.k<=m
 hn:2<=v.n
 fr:AO v.H v.n
 h0:AD v.H 0=some (.box [.int .i64 sh,.int .i64 w,.int .i64 h,Aj wC,.sl v.tk ((Du wC v.k).map eI)])
 tok:C8 1 1 v.H v.tk
 es:v.tk.esz=1\/Du wC v.k=[]
def p155(sh w h:Int)(wC:List Int)(hl:Aq wC):Av prog 155 [.int .i64 sh,.int .i64 w,.int .i64 h,Aj wC] (Bf sh w h wC):=by
 refine .mk ⟨zt,zt,zt,AV 0 _,zt⟩ (MK sh w h wC) (pY.a (AI rJ (AJ ?_)));have hE:∀b,(b=true↔¬((sh=1\/sh=2)/\1<=w/\w<=16/\1<=h/\h<=16/\(wC.length:Int)<w*h))->(!decide (sh=1)&& !decide (sh=2)||decide (w<1)||decide (16<w)||decide (h<1)||decide (16<h)||decide (IntKind.wrap .i64 (w*h)<=(wC.length:Int)))=b:=by
  intro b hb;rw[sP,hb];simp only[sQ,sf,tJ,si,ti];by_cases hwh:1<=w/\w<=16/\1<=h/\h<=16
  ·have:=cu hwh.1 hwh.2.1 hwh.2.2.1 hwh.2.2.2;rw[A4 zo zo];omega
  ·omega
 by_cases hc:(sh=1\/sh=2)/\1<=w/\w<=16/\1<=h/\h<=16/\(wC.length:Int)<w*h;case neg=>
  have hn:Bf sh w h wC= .wJ [Ej 0 0 0 [] [],.int .i64 130]:=by
   unfold Bf Au;rw[sg λq=>hc ⟨q.1,q.2.1,q.2.2.1,q.2.2.2.1,q.2.2.2.2.1,q.2.2.2.2.2.1⟩]
  have hb:=hE true (by simp [hc]);rw[hn];simp only[eZ,seval,BO,ry,pY,hb];exact RX (Wk.sl (.inr rfl)) (Wk.sl (.inr rfl))
 have hb:=hE false (by simp [hc]);obtain⟨hsh,hw1,hw2,hh1,hh2,ww⟩:=hc;obtain⟨p1,p2⟩:=cu hw1 hw2 hh1 hh2;have hwh:IntKind.wrap .i64 (w*h)=w*h:=A4 zo zo;have hG:Au sh w h wC=if(Cn (-1) wC&&wC.all λp=>decide (p<w*h))=true then some (Du wC (w*h).toNat)else none:=by
  unfold Au;by_cases q:(Cn (-1) wC&&wC.all λp=>decide (p<w*h))=true
  ·rw[sn q];rw[sf]at q;rw[sn ⟨hsh,hw1,hw2,hh1,hh2,ww,q.1,q.2⟩];rfl
  ·rw[sg q];rw[sf]at q;rw[sg λz=>q ⟨z.2.2.2.2.2.2.1,z.2.2.2.2.2.2.2⟩]
 simp only[eZ,seval,ry,pY,hb];refine AQ (λv:Nat×Int=>⟨[(0,true,.int .i64 sh),(1,true,.int .i64 w),(2,true,.int .i64 h),(3,true,Aj wC),(8,true,.ptr 0 0),(10,true,.int .i64 v.2),(47,true,Aj wC),(48,true,.int .i64 wC.length),(49,true,.int .i64 v.1)],wB Ak 0 (.box [z0,z0,z0,zs,zs]),2⟩)
  (λv=>v.1<=wC.length/\(Cn (-1) wC&&wC.all λp=>decide (p<w*h))=(Cn v.2 (wC.drop v.1)&&(wC.drop v.1).all λp=>decide (p<w*h))) (λv=>wC.length-v.1) (0,-1) rfl ⟨sk _,rfl⟩ ?_
 rintro⟨i,last⟩ ⟨hi,he⟩;simp only at hi he;by_cases e9:i<wC.length
 ·have hg:=rz e9;have e:=AK (k:=i) (by have:wC.length<1000000000:=hl;omega);rw[sO e9,Cn,uR]at he;by_cases s9:last<wC[i]/\wC[i]<w*h
  ·have hd:(decide (wC[i]<=last)||decide (w*h<=wC[i]))=false:=by simp;omega
   simp only[eZ,seval,sw,sm,sr,ry,sF,AN e9,hg,e,hwh,hd];refine .mk (i+1,wC[i]) rfl ⟨e9,?_⟩ zp;simp only[];rw[he,sK s9.1,sK s9.2];simp
  ·have hd:(decide (wC[i]<=last)||decide (w*h<=wC[i]))=true:=by simp;omega
   have hn:Bf sh w h wC= .wJ [Ej 0 0 0 [] [],.int .i64 130]:=by
    unfold Bf;rw[hG,sg];rw[he];intro q;simp only[sf,si]at q;exact s9 ⟨q.1.1,q.2.1⟩
   rw[hn];simp only[eZ,seval,BO,sw,sm,sr,ry,sF,AN e9,hg,hwh,hd];exact RX (Wk.sl (.inr rfl)) (Wk.sl (.inr rfl))
 have z9:i=wC.length:=zo
 subst z9;rw[t5]at he;have hS:Au sh w h wC=some (Du wC (w*h).toNat):=by rw[hG,sn (by rw[he];rfl)]
 have hrise:=(If hS).2.2.2.2.2.2.2.1;have hM:Bf sh w h wC= .wJ [Ej sh w h wC (Du wC (w*h).toNat),.int .i64 0]:=by unfold Bf;rw[hS]
 rw[hM];obtain⟨m,hm⟩:∃m:Nat,w*h=(m:Int):=⟨(w*h).toNat,zo⟩;have hmt:(w*h).toNat=m:=zo
 have hwm:IntKind.wrap .i64 (m:Int)=m:=by rw[<-hm];exact hwh
 rw[hmt];simp only[eZ,seval,Ag e9,Tmk,s1,Ah,Ad,r9 hl,hwm,hm,AW,AF];refine AQ (λv:VM=>⟨[(3,true,Aj wC),(8,true,.ptr 0 0),(74,true,.int .i64 m),(75,true,.int .i64 v.k)],v.H,v.n⟩) (IM sh w h wC m) (λv=>m-v.k)
  ⟨0,.nil,wB Ak 0 (.box [.int .i64 sh,.int .i64 w,.int .i64 h,Aj wC,.sl .nil []]),2⟩ rfl ⟨sk _,sj _,AO.nil.wB (m:=2) (sk 2) (show 0<2 by decide),rfl,.inl rfl,.inr rfl⟩ ?_
 rintro⟨k,tk,H,n⟩ hI;have hk:=hI.hk;have hn:=hI.hn;have l9:=hI.fr;have h0:=hI.h0;have l7:=hI.tok;have s7:=hI.es;simp only at hk hn l9 h0 l7 s7;by_cases e9:k<m
 ·have e:=AK (k:=k) zo;have hps:=QF wC k;cases wl:wC.contains (k:Int)with
  |true=>
   rw[wl,sn rfl]at hps;simp only[eZ,seval,sa,sw,u9,ut,AN e9,Tmk,s2,Ah,Ad,Ay,An,r9 hl,r9 hrise,wl,e,AF];exact .mk ⟨k+1,tk,H,n⟩ rfl ⟨e9,hn,l9,by simp only[hps];exact h0,l7,by simp only[hps];exact s7⟩ zp
  |false=>
   rw[wl,sg zd]at hps;have xg:=Ww wC k;have q1:BB H 1 tk=True:=r9 l7.app;have q2:((Du wC k).length<=35184372088831)=True:=r9 zo;have q3:Al ((Du wC k).length+1) 8=True:=r9 (Ae zo zd);have kx:AD (AU H tk) 0=some (.box [.int .i64 sh,.int .i64 w,.int .i64 h,Aj wC,.sl tk ((Du wC k).map eI)]):=by rw[Ac l7 (.inl zo)];exact h0
   have y0:∀j,(n+j=0)=False:=λj=>sb zo
   simp only[eZ,seval,se,sw,ry,u9,ut,AN e9,Tmk,s2,Ah,Ad,Ay,An,r9 hl,r9 hrise,wl,e,h0,q1,q2,q3,Bq l9,kx,y0,AF];refine .mk ⟨k+1,.own (n+4) 1,wB (wB (AU H tk) (n+4) .tok) 0 (.box [.int .i64 sh,.int .i64 w,.int .i64 h,Aj wC,.sl (.own (n+4) 1) ((Du wC (k+1)).map eI)]),n+7⟩ ?_ ⟨e9,zp,((Ab l7 l9).wB (m:=n+7) zo zo).wB (sj (n+7)) (show 0<n+7 by omega),AC ..,.inr (.inr ⟨n+4,rfl,zo,by rw[AA _ _ _ _ zo];exact AC ..⟩),.inl rfl⟩ zp;rw[hps,su];rfl
 obtain rfl:k=m:=zo
 simp only[eZ,seval,BO,Ag e9,h0];exact RX (Wk.refl _) (Wk.sl (s7.imp id λq=>by rw[q];rfl))
def Tgc:Bg:=AF 155 (λa H=>match a with
 |[.int .i64 sh,.int .i64 w,.int .i64 h,x]=>(A3.ok x/\Aq (A3.dec x),Bf sh w h (A3.dec x))
 |_=>(False,.wJ [])) (AF 109 (s2 A3 A3 (λ_ b=>Aq b) λa b=>.bool (decide (a=b))) wD)
theorem dP:∀args H n,((λ(a:List Fs) (H:AB)=>match a with
 |[.int .i64 sh,.int .i64 w,.int .i64 h,x]=>(A3.ok x/\Aq (A3.dec x),Bf sh w h (A3.dec x))
 |_=>(False,Fs.wJ [])) args H).1->Ao prog 155 args H n ((λ(a:List Fs) (H:AB)=>match a with
 |[.int .i64 sh,.int .i64 w,.int .i64 h,x]=>(A3.ok x/\Aq (A3.dec x),Bf sh w h (A3.dec x))
 |_=>(False,Fs.wJ [])) args H).2:=by
 intro args H n hh;simp only at hh⊢;split at hh
 ·obtain⟨h1,h2⟩:=hh;refine AX.args ((p155 _ _ _ _ h2).quiet H n) ?_;rintro g vs ⟨v,r,rfl,k1,w,r',rfl,k2,u,r2,rfl,k3,z,r3,rfl,k4,k5⟩;exact⟨v,_,rfl,k1,w,_,rfl,k2,u,_,rfl,k3,z,_,rfl,A3.wk _ h1 _ _ k4,k5⟩
 ·exact hh.elim
def rK:AH prog Tgc:=(AH.wD.add (q2 λa b h=>YU a b (Dr h))).add dP
def GT(sh w h:Int)(wC cells:List Int):Bool:=decide (Au sh w h wC=some cells)
def p224(sh w h:Int)(wC cells:List Int)(hl:Aq wC)(hc:Aq cells):Av prog 224 [Ej sh w h wC cells] (.int .i64 (if GT sh w h wC cells=true then 0 else 130)):=by
 refine .mk ⟨BM 0 ..,zt⟩ zt (hU.a (AI rK (AJ ?_)));cases hG:Au sh w h wC with
 |none=>
  have hM:Bf sh w h wC= .wJ [Ej 0 0 0 [] [],.int .i64 130]:=by unfold Bf;rw[hG]
  have hk:GT sh w h wC cells=false:=by unfold GT;rw[hG];simp
  rw[hk];simp only[eZ,seval,sa,se,sw,u9,ut,hU,Tgc,Ah,Ad,r9 hl,hM,Ej,AF]
 |some cs=>
  have hM:Bf sh w h wC= .wJ [Ej sh w h wC cs,.int .i64 0]:=by unfold Bf;rw[hG]
  have hk:GT sh w h wC cells=decide (cs=cells):=by unfold GT;rw[hG];simp
  rw[hk];by_cases hq:cs=cells
  ·simp only[eZ,seval,sa,sw,u9,ut,hU,Tgc,s2,Ah,Ad,r9 hl,hM,Ej,r9 hc,BU hq,AF]
  ·simp only[eZ,seval,sa,se,sw,u9,ut,hU,Tgc,s2,Ah,Ad,r9 hl,hM,Ej,r9 hc,A5 hq,AF]
structure v7 where
 sh:Int
 w:Int
 h:Int
 wC:List Int
 cells:List Int
 deriving DecidableEq
abbrev CM(g:v7):Fs:=Ej g.sh g.w g.h g.wC g.cells
def TP:Fs->v7
 | .agg [.int _ sh,.int _ w,.int _ h,ho,ce]=>⟨sh,w,h,Hy ho,Hy ce⟩
 |_=>⟨0,0,0,[],[]⟩
def LU(g:v7):TP (CM g)=g:=by simp only[TP,F5]
def DS:Dc v7:=ig CM TP
def EA(x:v7):DS.ok (CM x)=True:=Ij LU x
def DC(x:v7):DS.dec (CM x)=x:=LU x
def Fu{sh w h:Int}{wC cells:List Int}:DS.ok (Ej sh w h wC cells)=True:=EA ⟨sh,w,h,wC,cells⟩
def Dk{sh w h:Int}{wC cells:List Int}:DS.dec (Ej sh w h wC cells)=⟨sh,w,h,wC,cells⟩:=DC ⟨sh,w,h,wC,cells⟩
abbrev Jh(g:v7):Fs:=.int .i64 (if GT g.sh g.w g.h g.wC g.cells=true then 0 else 130)
def rt:Bg:=AF 224 (s1 DS (λg=>Aq g.wC/\Aq g.cells) Jh) (AF 223 (s2 A3 dI (λl _=>Aq l/\List.Pairwise (λx y=>x<y) l) λl x=>.wJ [.int .i64 (Fi l x),.bool (l.contains x)]) wD)
def rM:AH prog rt:=(AH.wD.add (q2 λl x h=>p223 l x h.1 h.2)).add (q1 λg h=>p224 g.sh g.w g.h g.wC g.cells h.1 h.2)
def zn.len{ws us:List Fs}(h:zn ws us):ws.length=us.length:=by
 induction h with
 |nil=>rfl
 |cons _ _ ih=>simp [ih]
def zn.app{a b c d:List Fs}(h:zn a b)(k:zn c d):zn (a++c) (b++d):=by
 induction h with
 |nil=>exact k
 |cons h1 _ ih=>exact .cons h1 ih
def dR{g:q8}{e:Nat}{f:Nat->Option Value}{l m:List Fs}(hw:zn l m):∀o,wL g e f o l->wL g e f o m:=by
 induction hw with
 |nil=>exact λ_ _=>zt
 |cons h1 _ ih=>exact λo ⟨⟨v,q1,q2,q3⟩,h'⟩=>⟨⟨v,h1 _ _ q1,q2,q3⟩,ih _ h'⟩
def Wk.yY{t:v8}{e:Nat}{l m:List Fs}(h:t.esz=e\/l=[])(hw:zn l m):Wk (.sl t l) (.sl (.none e) m):=by
 intro g v hv;have hv:=Wk.sl h g v hv;rcases hv with⟨h1,rfl,-⟩|⟨-,b,o,cap,⟨sp,rfl,yS⟩,hc,wX,-⟩
 ·have hl:=hw.len;subst h1;have:m=[]:=tv (by rw[<-hl];rfl);subst this;exact .inl ⟨rfl,rfl,zt⟩
 ·have hl:=hw.len;refine .inr ⟨zt,b,o,cap,⟨sp,by rw[hl],?_⟩,by rw[<-hl];exact hc,dR hw _ wX,zt⟩;rcases yS with q|⟨q,q2⟩
  ·exact .inl q
  ·refine .inr ⟨?_,.inr ⟨e,rfl⟩⟩;subst q;exact tv (by rw[<-hl];rfl)
def TQ{cells l:List Int}{p:Int}(hp:List.Pairwise (λx y=>x<y) cells)(hl:∀q∈l,q∈cells)(hc:p∈cells):(Bo cells l).contains (Fi cells p:Int)=l.contains p:=by
 rw[sP,t9,t9];unfold Bo;rw[tn];constructor
 ·rintro⟨q,hq,e⟩;have:=ic hp (hl q hq) hc zo;rw[<-this];exact hq
 ·exact λh=>⟨p,h,rfl⟩
def I4(cells l:List Int):(Bo cells l).length=l.length:=ry ..
def EB(cells:List Int)(lists:List (List Int)):Fs:=if(decide (lists.length<=64)&&lists.all (Ee cells))=true then .wJ [Br (lists.map (Bo cells)),.int .i64 0]else .wJ [Br [],.int .i64 130]
theorem KZ:∀{l m:List Int},l.Nodup->(∀q∈l,q∈m)->l.length<=m.length
 |[],_,_,_=>sk _
 |a::l,m,hd,hs=>by
  obtain⟨h1,h2⟩:=uH.1 hd;have ha:=hs a zw;have ih:=KZ (m:=m.erase a) h2 λq hq=>(List.mem_erase_of_ne (λe:q=a=>by subst e;exact h1 hq)).2 (hs q (by simp [hq]))
  rw[List.length_erase_of_mem ha]at ih;have:=List.length_pos_of_mem ha;rw[sM];omega
structure VRg where
 i:Nat
 E:List Fs
 tl:v8
 H:AB
 n:Nat
structure IRg(g:v7)(lists:List (List Int))(v:VRg):Prop where
 hi:v.i<=lists.length
 hn:3<=v.n
 fr:AO v.H v.n
 h0:AD v.H 0=some (.box (AE g.sh g.w g.h g.wC g.cells))
 tok:C8 1 1 v.H v.tl
 es:v.tl.esz=1\/v.E=[]
 hE:zn v.E (((lists.take v.i).map (Bo g.cells)).map Aj)
 eq:lists.all (Ee g.cells)=(lists.drop v.i).all (Ee g.cells)
structure VRi where
 j:Nat
 tc:v8
 H:AB
 n:Nat
structure IRi(g:v7)(x:List Int)(H0:AB)(n0:Nat)(v:VRi):Prop where
 hj:v.j<=x.length
 hn:n0+2<=v.n
 fr:AO v.H v.n
 hk:∀id,id<n0->AD v.H id=AD H0 id
 hm:AD v.H n0=some (.map (Ik (Bo g.cells (x.take v.j)) 0) v.j)
 tok:C8 1 (n0+1) v.H v.tc
 es:v.tc.esz=1\/v.j=0
 sub:∀q∈x.take v.j,q∈g.cells
 eq:HE g.cells [] x=HE g.cells (x.take v.j) (x.drop v.j)
 nd:(x.take v.j).Nodup
def p158(g:v7)(lists:List (List Int))(hG:Au g.sh g.w g.h g.wC=some g.cells)(hh:Aq g.wC)(hl:B7 lists):Av prog 158 [CM g,Br lists] (EB g.cells lists):=by
 refine .mk ⟨BM 0 ..,BC 0 _,zt⟩ (by unfold EB;split<;>exact⟨BC 0 _,zt,zt⟩) (pZ.a (AI rM (AJ ?_)));obtain⟨hr1,hr2,hr3⟩:=Ba hG;have hfc:Aq g.cells:=show g.cells.length<_ by omega
 have hgo:GT g.sh g.w g.h g.wC g.cells=true:=by unfold GT;rw[hG];simp
 by_cases h64:64<lists.length
 ·have hv:EB g.cells lists= .wJ [Br [],.int .i64 130]:=by unfold EB;rw[sg];simp;omega
  have l64:((64:Int)<(lists.length:Int))=True:=r9 zo;rw[hv];simp only[eZ,seval,sa,ry,pZ,rt,s1,Fu,Dk,r9 hh,r9 hfc,hgo,l64,AF];exact Wk.wJ (.cons (Wk.sl (.inr rfl)) (.cons (Wk.refl _) .nil))
 have l64:((64:Int)<(lists.length:Int))=False:=sb zo;simp only[eZ,seval,sa,ry,pZ,rt,s1,Fu,Dk,r9 hh,r9 hfc,hgo,l64,AF];have am:lists.all (Ee g.cells)=false->EB g.cells lists= .wJ [Br [],.int .i64 130]:=λq=>by unfold EB;rw[q,vh,sg zd]
 refine AQ (λv:VRg=>⟨[(2,true,.ptr 0 0),(4,true,.sl v.tl v.E),(22,true,Br lists),(23,true,.int .i64 lists.length),(24,true,.int .i64 v.i)],v.H,v.n⟩) (IRg g lists) (λv=>lists.length-v.i)
  ⟨0,[],.nil,wB Ak 0 (.box (AE g.sh g.w g.h g.wC g.cells)),3⟩ rfl ⟨sk _,sj _,AO.nil.wB (m:=3) (sk 3) (show 0<3 by decide),rfl,.inl rfl,.inr rfl,.nil,rfl⟩ ?_
 rintro⟨i,E,tl,H,n⟩ hI;have hi:=hI.hi;have hn:=hI.hn;have l9:=hI.fr;have h0:=hI.h0;have l7:=hI.tok;have s7:=hI.es;have hE:=hI.hE;have heq:=hI.eq;simp only at hi hn l9 h0 l7 s7 hE heq;by_cases e9:i<lists.length;case neg=>
  have z9:i=lists.length:=zo
  subst z9;rw[t5]at heq;rw[sD]at hE;have hv:EB g.cells lists= .wJ [Br (lists.map (Bo g.cells)),.int .i64 0]:=by
   unfold EB;rw[heq,sn];simp;omega
  rw[hv];simp only[eZ,seval,Ag e9];exact Wk.wJ (.cons (Wk.yY s7 hE) (.cons (Wk.refl _) .nil))
 have hg:=rz e9;have e:=AK (k:=i) zo;have hxf:=hl.2 _ (sC e9);have hxe:=map_take (f:=Bo g.cells) e9;rw[sO e9,uR]at heq;generalize hx:lists[i]=x at hg hxf heq hxe;have hxl:x.length<1125899906842624:=hxf;have hmk:AD (wB H n (.map [] 0)) 0=some (.box (AE g.sh g.w g.h g.wC g.cells)):=by rw[AA _ _ _ _ zo];exact h0
 simp only[eZ,seval,xE,sw,sm,sr,ry,sF,AN e9,hg,OZ l9];refine AQ (λv:VRi=>⟨[(2,true,.ptr 0 0),(4,true,.sl tl E),(8,true,.sl v.tc ((Bo g.cells (x.take v.j)).map eI)),(9,true,.mp n),(22,true,Br lists),(23,true,.int .i64 lists.length),(24,true,.int .i64 i),(29,true,Aj x),(30,true,.int .i64 x.length),(31,true,.int .i64 v.j)],v.H,v.n⟩)
  (IRi g x H n) (λv=>x.length-v.j) ⟨0,.nil,wB H n (.map [] 0),n+2⟩ rfl ⟨sk _,sj _,(l9.wB (m:=n+2) zo zo),λid s5=>AA _ _ _ _ zo,AC ..,.inl rfl,.inr rfl,λq hq=>by(simp at hq),rfl,zw⟩ ?_
 rintro⟨j,tc,H1,n1⟩ hJ;have hj:=hJ.hj;have to:=hJ.hn;have wW:=hJ.fr;have hk:=hJ.hk;have hm:=hJ.hm;have htc:=hJ.tok;have hec:=hJ.es;have hsub:=hJ.sub;have hme:=hJ.eq;have hnd:=hJ.nd;simp only at hj to wW hk hm htc hec hsub hme hnd;have hj256:j<=256:=by
  have:=KZ hnd hsub;rw[sU]at this;omega
 have wh:AD H1 0=some (.box (AE g.sh g.w g.h g.wC g.cells)):=by rw[hk 0 zo];exact h0
 by_cases s6:j<x.length
 ·have yT:=rz s6;have ej:=AK (k:=j) zo;have htx:=map_take (f:=λp=>(Fi g.cells p:Int)) s6;have yW:x.take (j+1)=x.take j++[x[j]]:=by rw[sG,yT];rfl
  rw[sO s6,HE]at hme;have hlen:(Bo g.cells (x.take j)).length=j:=by rw[I4,sU];omega
  generalize hp:x[j]=p at yT htx yW hme;have v9:(g.cells.contains p&& !(x.take j).contains p)=false->EB g.cells lists= .wJ [Br [],.int .i64 130]:=λq=>am (by
   rw[heq,HF,hme,q];simp)
  cases wl:g.cells.contains p with
  |false=>
   rw[v9 (by rw[wl];rfl)];simp only[eZ,eX,seval,sa,se,sw,sm,sr,ry,sF,u9,ut,AN s6,yT,wh,rt,s2,Ah,Ad,Ay,An,r9 hfc,r9 hr1,wl,AF];exact Wk.wJ (.cons (Wk.sl (.inr rfl)) (.cons (Wk.refl _) .nil))
  |true=>
   have hpm:p∈g.cells:=t9.1 wl;have hcm:=TQ hr1 hsub hpm;have hmf:Bm (.int .i64 (Fi g.cells p:Int)) (Ik (Bo g.cells (x.take j)) 0)=if(x.take j).contains p then some (.bool true)else none:=by rw[RQ,hcm]
   cases hmt:(x.take j).contains p with
   |true=>
    rw[v9 (by rw[wl,hmt];rfl)];rw[hmt,sn rfl]at hmf;simp only[eZ,eX,seval,sa,xE,sw,sm,sr,ry,sF,u9,ut,AN s6,yT,wh,rt,s2,Ah,Ad,Ay,An,r9 hfc,r9 hr1,wl,hm,hmf,VB,xE,KT.is,C5,AF];exact Wk.wJ (.cons (Wk.sl (.inr rfl)) (.cons (Wk.refl _) .nil))
   |false=>
    rw[hmt,sg zd]at hmf;have yf:=rD (l:=Bo g.cells (x.take j)) (x:=(Fi g.cells p:Int)) (by rw[hcm];exact hmt);rw[hlen]at yf;have htm:C8 1 (n+1) (wB H1 n (.map (Ik (Bo g.cells (x.take j)++[(Fi g.cells p:Int)]) 0) (j+1))) tc:=htc.set (.inl zo);have q1:BB (wB H1 n (.map (Ik (Bo g.cells (x.take j)++[(Fi g.cells p:Int)]) 0) (j+1))) 1 tc=True:=r9 htm.app;have q2:(j<=35184372088831)=True:=r9 zo;have q3:Al (j+1) 8=True:=r9 (Ae zo zd);have yn:∀k,(n=n1+k)=False:=λk=>sb zo
    simp only[eZ,eX,seval,sa,xE,Option.getD_none,Option.isSome_none,sw,sm,sr,ry,sF,u9,ut,AN s6,yT,wh,rt,s2,Ah,Ad,Ay,An,r9 hfc,r9 hr1,wl,hm,hmf,VB,xE,KT.is,C5,ej,yf,q1,q2,q3,hlen,yn,Bq wW,AF];generalize hG2:wB H1 n (.map (Ik (Bo g.cells (x.take j)++[(Fi g.cells p:Int)]) 0) (j+1))=H2 at htm;have wn:AO H2 n1:=by rw[<-hG2];exact wW.wB (sj _) zo
    have so:∀id,id<n->AD H2 id=AD H id:=λid s5=>by rw[<-hG2,AA _ _ _ _ zo];exact hk id s5
    have yh:AD H2 n=some (.map (Ik (Bo g.cells (x.take j)++[(Fi g.cells p:Int)]) 0) (j+1)):=by rw[<-hG2];exact AC ..
    have wx:Bo g.cells (x.take (j+1))=Bo g.cells (x.take j)++[(Fi g.cells p:Int)]:=htx;refine .mk ⟨j+1,.own (n1+3) 1,wB (AU H2 tc) (n1+3) .tok,n1+5⟩ ?_ ⟨s6,zp,(Ab htm wn).wB (m:=n1+5) zo zo,λid s5=>?_,?_,.inr (.inr ⟨n1+3,rfl,zo,AC ..⟩),.inl rfl,λq hq=>?_,?_,?_⟩ zp
    ·rw[wx,su];rfl
    ·simp only[];rw[AA _ _ _ _ zo,Ac htm (.inl zo)];exact so id s5
    ·simp only[];rw[AA _ _ _ _ zo,Ac htm (.inl zo),wx];exact yh
    ·simp only[yW]at hq;rcases tP.1 hq with q1|q1
     ·exact hsub q q1
     ·rw[tB.1 q1];exact hpm
    ·simp only[];rw[yW,hme,wl,hmt];rfl
    ·simp only[];rw[yW,uD];refine⟨hnd,zw,λa ha b hb e=>?_⟩;rw[tB]at hb;subst hb;subst e;rw[t9.2 ha]at hmt;cases hmt
 have hj':j=x.length:=zo
 subst hj';rw[t5,sD]at hme;rw[sD]at hm;have hlx:(Bo g.cells (x.take x.length)).length=x.length:=by rw[I4,sD]
 by_cases hx0:x.length=0
 ·have v9:EB g.cells lists= .wJ [Br [],.int .i64 130]:=am (by rw[heq,HF,hx0];simp);rw[v9];simp only[eZ,seval,ry,Ag s6,hlx,BU (show((x.length:Nat):Int)=0 by omega)];exact Wk.wJ (.cons (Wk.sl (.inr rfl)) (.cons (Wk.refl _) .nil))
 have hEl:E.length<=64:=by
  have:=hE.len;simp only[ry,sU]at this;omega
 have me:C8 1 1 H1 tl:=by
  rcases l7 with rfl|rfl|⟨id,rfl,h1,h2⟩
  ·exact .inl rfl
  ·exact .inr (.inl rfl)
  ·exact .inr (.inr ⟨id,rfl,h1,by rw[hk id (l9.lt h2)];exact h2⟩)
 have q1:BB H1 1 tl=True:=r9 me.app;have q2:(E.length<=35184372088831)=True:=r9 zo;have q3:Al (E.length+1) 24=True:=r9 (Ae zo zd);simp only[eZ,seval,ry,Ag s6,hlx,A5 (show ¬((x.length:Nat):Int)=0 by omega),e,q1,q2,q3,Bq wW];refine .mk ⟨i+1,E++[.sl tc ((Bo g.cells x).map eI)],.own (n1+3) 1,wB (AU H1 tl) (n1+3) .tok,n1+5⟩ ?_ ⟨e9,zp,(Ab me wW).wB (m:=n1+5) zo zo,?_,.inr (.inr ⟨n1+3,rfl,zo,AC ..⟩),.inl rfl,?_,?_⟩ zp
 ·rw[sD]
 ·simp only[];rw[AA _ _ _ _ zo,Ac me (.inl zo)];exact wh
 ·simp only[];rw[hxe,su];exact hE.app (.cons (Wk.sl (hec.imp id λq=>by rw[tZ.1 q];rfl)) .nil)
 ·simp only[];have s9:Ee g.cells x=true:=by rw[HF,hme];simp [HE];omega
  rw[heq,s9,tS]
section
def CU(m:Nat)(p:Nat->Bool):List Int:=((List.range m).filter p).map λ(i:Nat)=>(i:Int)
variable {x sh n:Int} {m:Nat} {p:Nat->Bool}
theorem Il:x∈CU m p↔∃i:Nat,i<m/\p i=true/\x=(i:Int):=by grind [CU]
theorem OJ{i:Nat}:(i:Int)∈CU m p↔i<m/\p i=true:=by grind [Il]
theorem LW(m:Nat)(p:Nat->Bool):List.Pairwise (λx y=>x<y) (CU m p):=by
 unfold CU;rw[vt];exact(vo.sublist vC).imp λq=>zo
theorem EO(m:Nat)(p:Nat->Bool):CU (m+1) p=if p m=true then CU m p++[(m:Int)]else CU m p:=by grind [CU,List.range_succ]
theorem Cw(m:Nat)(p:Nat->Bool):(CU m p).length<=m:=by grind [CU]
theorem EC{q:Nat->Bool}(h:∀i,i<m->p i=q i):CU m p=CU m q:=by grind [CU,List.filter_congr]
theorem TR(m:Nat):CU m (λ_=>true)=(List.range m).map λ(i:Nat)=>(i:Int):=by
 unfold CU;rw[uX.2 λ_ _=>rfl]
abbrev BF:=Int×Int
def DR(sh w p:Int):BF:=(if sh=2 then p.tmod w-(p.tdiv w).tdiv 2 else p.tmod w,p.tdiv w)
def AZ(sh w:Int)(cells:List Int):List BF:=cells.map (DR sh w)
def Fk(sh:Int):List BF:=(([(1,0),(-1,0),(0,1),(0,-1),(1,-1),(-1,1)]:List BF)).take (if sh=1 then 4 else 6)
def I8(s d:BF):BF:=(s.1+d.1,s.2+d.2)
def En(S:List BF)(s:BF):Option Int:=(S.findIdx? λx=>decide (x=s)).map λ(i:Nat)=>(i:Int)
def Hl(sh:Int)(S:List BF)(s:BF):List Int:=CU S.length λb=>(Fk sh).any λd=>decide (S[b]?=some (I8 s d))
def Ek(sh:Int)(S:List BF):List (List Int):=S.map (Hl sh S)
def CN(S:List BF)(f:BF->Option Int)(n:Int):List Int:=CU S.length λc=>decide (S[c]?.bind f=some n)
def Ka:List Int:=(List.range 49).map λ(k:Nat)=>(k:Int)-16
def CO(S:List BF)(f:BF->Option Int):List (List Int):=(Ka.map (CN S f)).filter λl=>!l.isEmpty
def ML(w:Int)(S:List BF):List (List Int):=
 let a:=CN S (λs=>if s.1=s.2 then some 0 else none) 0
 let b:=CN S (λs=>if s.1+s.2=w-1 then some 0 else none) 0
 (if a.isEmpty then[]else[a])++(if b.isEmpty||decide (a=b)then[]else[b])
def E9(sh w h:Int)(S:List BF)(f:Nat):List (List Int):=
 if f=0 then(CU S.length λ_=>true).map λc=>[c]
 else if f=1 then CO S λs=>some s.2
 else if f=2 then CO S λs=>some s.1
 else if f=3 then(if sh=2 then CO S λs=>some (s.1+s.2)else if w=h then ML w S else[])
 else if f=4 then Ek sh S
 else if f=5 then(List.range S.length).map λ(c:Nat)=>CU S.length λb=>decide (b=c)||((Fk sh).any λd=>decide (S[b]?=(S[c]?).map λs=>I8 s d))
 else if f=6 then(List.range S.length).flatMap λ(c:Nat)=>(((Ek sh S)[c]?.getD []).filter λb=>decide ((c:Int)<b)).map λb=>[(c:Int),b]
 else[(CU S.length λ_=>true)]
theorem Hm{S:List BF}(hd:S.Nodup){s:BF}{i:Nat}:En S s=some (i:Int)↔S[i]?=some s:=by
 unfold En;constructor
 ·intro h;obtain⟨j,h1,h2⟩:=tt.1 h;have:j=i:=zo
  subst this;obtain⟨hl,h3,-⟩:=t7.1 h1;rw[rz hl,th h3]
 ·intro h;obtain⟨hl,h1⟩:=t8.1 h;have:S.findIdx? (λx=>decide (x=s))=some i:=by
   rw[t7];refine⟨hl,by simp [h1],λj hj=>?_⟩;simp only[si];intro h2;have:=(ul.1 hd) j i zo hl hj;exact this (h2.trans h1.symm)
  rw[this];rfl
theorem QG{S:List BF}{s:BF}(h:En S s=some x):∃i:Nat,x=(i:Int):=by
 unfold En at h;obtain⟨j,-,h2⟩:=tt.1 h;exact⟨j,h2.symm⟩
theorem OK{S:List BF}{s:BF}:En S s=none↔s∉S:=by grind [En,Option.map_eq_none_iff,List.findIdx?_eq_none_iff,decide_eq_false_iff_not]
def Im(sh:Int)(S:List BF)(s:BF):List Int:=(Fk sh).filterMap λd=>En S (I8 s d)
theorem TS(sh:Int):(Fk sh).Nodup:=by
 unfold Fk;split<;>decide
theorem i8{s a b:BF}(h:I8 s a=I8 s b):a=b:=by grind [I8,Prod.mk.injEq]
theorem TT(sh:Int){S:List BF}(hd:S.Nodup)(s:BF):(Im sh S s).Nodup:=by
 unfold Im;have h:=TS sh;generalize Fk sh=L at h;induction L with
 |nil=>simp
 |cons d r ih=>
  obtain⟨h1,h2⟩:=uH.1 h;rw[List.filterMap_cons];cases he:En S (I8 s d)with
  |none=>exact ih h2
  |some x=>
   refine uH.2 ⟨λhm=>?_,ih h2⟩;obtain⟨e,he1,he2⟩:=List.mem_filterMap.1 hm;obtain⟨i,rfl⟩:=QG he;have a:=(Hm hd).1 he;have b:=(Hm hd).1 he2;rw[a]at b;have:=i8 (Option.some.inj b);subst this;exact h1 he1
theorem YV{S:List BF}(hd:S.Nodup){s:BF}:x∈Im sh S s↔x∈Hl sh S s:=by
 unfold Im Hl;rw[List.mem_filterMap,Il];constructor
 ·rintro⟨d,hm,he⟩;obtain⟨i,rfl⟩:=QG he;have h:=(Hm hd).1 he;exact⟨i,(t8.1 h).1,vf.2 ⟨d,hm,by simp [h]⟩,rfl⟩
 ·rintro⟨i,hi,ha,rfl⟩;obtain⟨d,hm,he⟩:=vf.1 ha;exact⟨d,hm,(Hm hd).2 (th he)⟩
theorem LX{l m:List Int}(hd:l.Nodup)(hm:List.Pairwise (λx y=>x<y) m)(h:∀x,x∈l↔x∈m):l.mergeSort Ft=m:=by
 refine OD ?_ hm λx=>?_
 ·have h1:=Ie l;have h2:(l.mergeSort Ft).Nodup:=(uO l Ft).nodup_iff.2 hd;rw[ul]at h1⊢;intro i j hi hj hij;have a:=h1 i j hi hj hij;have b:=ul.1 h2 i j hi hj hij;have b':¬(l.mergeSort Ft)[i]=(l.mergeSort Ft)[j]:=b;omega
 ·rw[(uO l Ft).mem_iff];exact h x
theorem VD(sh:Int){S:List BF}(hd:S.Nodup)(s:BF):(Im sh S s).mergeSort Ft=Hl sh S s:=LX (TT sh hd s) (LW ..) λx=>YV hd
theorem TU{S:List BF}{f:BF->Option Int}{c:Nat}:(c:Int)∈CN S f n↔∃s,S[c]?=some s/\f s=some n:=by
 unfold CN;rw[OJ];simp only[si,Option.bind_eq_some_iff];constructor
 ·exact λh=>h.2
 ·grind
theorem RY{S:List BF}{f:BF->Option Int}:(CN S f n).isEmpty=false↔∃s∈S,f s=some n:=by
 rw[List.isEmpty_eq_false_iff_exists_mem];constructor
 ·rintro⟨x,hx⟩;obtain⟨i,-,-,rfl⟩:=Il.1 hx;obtain⟨s,h1,h2⟩:=TU.1 hx;exact⟨s,sZ h1,h2⟩
 ·rintro⟨s,h1,h2⟩;obtain⟨i,hi,h3⟩:=sV.1 h1;exact⟨(i:Int),TU.2 ⟨s,by rw[rz hi,h3],h2⟩⟩
theorem YW:List.Pairwise (λx y=>x<y) Ka:=by
 unfold Ka;rw[vt];exact vo.imp λq=>zo
theorem dU:n∈Ka↔ -16<=n/\n<=32:=by
 unfold Ka;rw[tn];constructor
 ·rintro⟨k,hk,rfl⟩;have:=tF.1 hk;omega
 ·intro h;exact⟨(n+16).toNat,tF.2 zo,zo⟩
theorem dV{S:List BF}{f:BF->Option Int}{K:List Int}(hn:K.Nodup)(hk:∀n,n∈K↔∃s∈S,f s=some n)(hb:∀s∈S,∀n,f s=some n-> -16<=n/\n<=32):(K.mergeSort Ft).map (CN S f)=CO S f:=by
 have h:K.mergeSort Ft=Ka.filter λn=>!(CN S f n).isEmpty:=by
  refine LX hn (YW.sublist vC) λn=>?_
  rw[hk,tV,dU,tJ,RY];exact⟨λq=>let ⟨s,h1,h2⟩:=q;⟨hb s h1 n h2,q⟩,λq=>q.2⟩
 rw[h,CO,List.filter_map];rfl
theorem dW{w p q:Int}(hw:1<=w)(hp:0<=p)(hq:0<=q)(h:DR sh w p=DR sh w q):p=q:=by
 unfold DR at h;simp only[Prod.mk.injEq]at h;obtain⟨h1,h2⟩:=h;have e1:=Int.tmod_add_mul_tdiv p w;have e2:=Int.tmod_add_mul_tdiv q w;rw[h2]at h1 e1;split at h1<;>omega
theorem MM{w:Int}{cells:List Int}(hw:1<=w)(hr:List.Pairwise (λx y=>x<y) cells)(h0:∀p∈cells,0<=p):(AZ sh w cells).Nodup:=by
 unfold AZ;rw[List.Nodup,vt,ul];intro i j hi hj hij e;have:=dW hw (h0 _ (sC hi)) (h0 _ (sC hj)) e;have:=ul.1 hr i j hi hj hij;omega
end
def YX(sh:Int)(a b:BF):Bool:=(Fk sh).any λd=>decide (b=I8 a d)
def OL(sh:Int)(a b:BF):Bool:=
 let dx:=b.1-a.1
 let dy:=b.2-a.2
 if sh=1 then decide (dy=0)&&(decide (dx=1)||decide (dx= -1))||decide (dx=0)&&(decide (dy=1)||decide (dy= -1))
 else decide (dx=1)&&decide (dy=0)||decide (dx= -1)&&decide (dy=0)||decide (dx=0)&&decide (dy=1)||decide (dx=0)&&decide (dy= -1)||decide (dx=1)&&decide (dy= -1)||decide (dx= -1)&&decide (dy=1)
def RZ(sh:Int)(a b:BF):OL sh a b=YX sh a b:=by
 obtain⟨a1,a2⟩:=a;obtain⟨b1,b2⟩:=b;rw[sP];unfold OL YX Fk I8;by_cases h:sh=1
 ·simp only[sn h,List.take,vS,List.any_nil,sQ,sf,si,Prod.mk.injEq,sN,vZ];omega
 ·simp only[sg h,List.take,vS,List.any_nil,sQ,sf,si,Prod.mk.injEq,sN,vZ];omega
def dY(sh:Int)(S:List BF)(s:BF):Hl sh S s=CU S.length λb=>match S[b]? with
  |some t=>YX sh s t
  |none=>false:=by
 unfold Hl;refine EC λi hi=>?_
 rw[rz hi];unfold YX;simp only[Option.some.injEq]
def dZ(sh:Int)(a:BF):YX sh a a=false:=by
 rw[<-RZ,uF];intro h;unfold OL at h;by_cases h1:sh=1
 ·simp_all
 ·simp_all
def YY{y:Int}(h:0<=y):(y-y.tmod 2).tdiv 2=y.tdiv 2:=by grind
def CP(m:Nat):List Int:=(List.range m).map λ(i:Nat)=>(i:Int)
def Dd{m:Nat}{s:Int}:s∈CP m↔0<=s/\s<m:=by
 unfold CP;rw[tn];constructor
 ·rintro⟨i,hi,rfl⟩;have:=tF.1 hi;omega
 ·intro h;exact⟨s.toNat,tF.2 zo,zo⟩
def MN(m:Nat)(l:List Int):List Int:=(CP m).filter λs=>!l.contains s
def Iq(m:Nat):Nat->List Int->List (List Int)
 |0,l=>[l]
 |j+1,l=>(MN m l).flatMap λs=>Iq m j (l++[s])
def EP(m n:Nat):List (List Int):=Iq m n []
def Kb(m:Nat):Nat->List (List Int)
 |0=>[[]]
 |n+1=>(Kb m n).flatMap λl=>(MN m l).map λs=>l++[s]
theorem QH(m:Nat):∀(j:Nat) (l:List Int),Iq m (j+1) l=(Iq m j l).flatMap λl'=>(MN m l').map λs=>l'++[s]
 |0,l=>by simp [Iq,uU,List.map_eq_flatMap]
 |j+1,l=>by
  rw[Iq];conv=>rhs;rw[Iq]
  rw[List.flatMap_assoc];congr 1;funext s;exact QH m j (l++[s])
theorem Mr(m:Nat):∀n,EP m n=Kb m n
 |0=>rfl
 |n+1=>by
  unfold EP;rw[QH,Kb,<-Mr m n];rfl
theorem TV{m:Nat}:∀{j:Nat} {l x:List Int},x∈Iq m j l->x.length=l.length+j/\(l.Nodup->(∀s∈l,0<=s/\s<m)->x.Nodup/\∀s∈x,0<=s/\s<m)
 |0,l,x,h=>by
  simp only[Iq,tB]at h;subst h;exact⟨rfl,λa b=>⟨a,b⟩⟩
 |j+1,l,x,h=>by
  simp only[Iq,List.mem_flatMap]at h;obtain⟨s,hs,hx⟩:=h;obtain⟨h1,h2⟩:=TV hx;refine⟨by rw[h1,sH];simp;omega,λhd hr=>?_⟩;unfold MN at hs;rw[tV,Dd,tJ,vP,ti]at hs;refine h2 ?_ ?_
  ·grind
  ·grind
def Hn{m n:Nat}{x:List Int}(h:x∈EP m n):x.length=n/\x.Nodup/\∀s∈x,0<=s/\s<m:=by
 obtain⟨h1,h2⟩:=TV h;obtain⟨h3,h4⟩:=h2 wd zw;exact⟨by simpa using h1,h3,h4⟩
def BG(l:List Int)(i:Int):Int:=l[i.toNat]?.getD 0
def BX(bad:Int->Int->Bool):List Int->Bool
 |[]=>false
 |a::r=>(r.any λb=>decide (0<=a)&&decide (0<=b)&&bad a b)||BX bad r
def Fa(ls l:List Int):Nat:=(l.filter λs=>decide (0<=s)&&ls.contains s).length
def IB(ls l:List Int):Nat:=(l.filter λs=>decide (0<=s)&& !ls.contains s).length
def I9(l:List Int):Nat:=(l.filter λs=>decide (s<0)).length
def VE(a:Int):Int:=max a (-a)
def CD(vals:List Int)(k n:Int)(ls l:List Int):Bool:=
 if k=1 then BX (λa b=>decide (a=b)) l
 else if k=2 then decide (Fa ls l=0)&&decide (I9 l=0)
 else if k=3 then BX (λa b=>decide (VE (BG vals a-BG vals b)<n)) l
 else if k=4 then BX (λa b=>decide (BG vals b<=BG vals a)) l
 else if k=6 then decide (n<(Fa ls l:Int))||decide ((l.length:Int)-n<(IB ls l:Int))
 else false
def FA(vals:List Int)(q:Cnd)(wA cells:List Int):Bool:=CD vals q.k q.n (q.ls.map (BG wA)) (q.cs.map (BG cells))
def Dl(p:Prm)(wA cells:List Int):Bool:=decide (0<=BG cells p.c)&& !(p.ls.map (BG wA)).contains (BG cells p.c)
def Eo(vals:List Int)(x:zk)(wA cells:List Int):List Bool:=(x.qs.map λq=>FA vals q wA cells)++x.ps.map λp=>Dl p wA cells
def Bj(vals:List Int)(x:zk)(wA cells:List Int)(i:Int):Bool:=if i<0 then false else(Eo vals x wA cells)[i.toNat]?.getD false
def Bk(vals:List Int)(x:zk)(wA cells:List Int):Bool:=(Eo vals x wA cells).all λb=>!b
structure ExtC(a b:List Int):Prop where
 len:a.length=b.length
 le:∀(i:Nat) s,a[i]?=some s->0<=s->b[i]?=some s
 neg:∀s∈a,-1<=s
def BY{l:List Int}{i:Int}(h0:0<=i)(h:i<l.length):l[i.toNat]?=some (BG l i):=by
 unfold BG;rw[rz zo];rfl
inductive Ext2:List Int->List Int->Prop
 |nil:Ext2 [] []
 |cons {a b:Int} {l m:List Int}:(0<=a->b=a)->Ext2 l m->Ext2 (a::l) (b::m)
theorem Wx{a b:List Int}(h:ExtC a b):∀{cs:List Int},(∀c∈cs,0<=c/\c<a.length)->Ext2 (cs.map (BG a)) (cs.map (BG b))
 |[],_=>.nil
 |c::cs,hc=>by
  refine .cons (λh0=>?_) (Wx h λd hd=>hc d (by simp [hd]));obtain⟨h1,h2⟩:=hc c zw;have e:=h.le c.toNat _ (BY h1 h2) h0;rw[BY h1 (by rw[<-h.len];exact h2)]at e;exact Option.some.inj e
theorem Ext2.length:∀{l m:List Int},Ext2 l m->l.length=m.length
 |_,_,.nil=>rfl
 |_,_,.cons _ t=>by rw[sM,sM,t.length]
theorem Ext2.any{p:Int->Bool}:∀{l m:List Int},Ext2 l m->(l.any λb=>decide (0<=b)&&p b)=true->(m.any λb=>decide (0<=b)&&p b)=true
 |_,_,.nil,h=>h
 |_,_,.cons (a:=a) (b:=b) hh t,h=>by
  rw[vS,sQ]at h⊢;rcases h with h|h
  ·simp_all
  ·exact .inr (t.any h)
theorem Ho{bad:Int->Int->Bool}:∀{l m:List Int},Ext2 l m->BX bad l=true->BX bad m=true
 |_,_,.nil,h=>h
 |_,_,.cons (a:=a) (b:=b) (l:=l) (m:=m) hh t,h=>by
  unfold BX at h⊢;rw[sQ]at h⊢;rcases h with h|h
  ·left;by_cases ha:0<=a
   ·rw[hh ha];have:=t.any (p:=λc=>bad a c) (by simpa [ha]using h);simpa [ha]using this
   ·simp [ha]at h
  ·exact .inr (Ho t h)
theorem TW{ls:List Int}:∀{l m:List Int},Ext2 l m->Fa ls l<=Fa ls m
 |_,_,.nil=>sj _
 |_,_,.cons (a:=a) (b:=b) hh t=>by
  have ih:=TW (ls:=ls) t;unfold Fa at ih⊢;rw[tE,tE];by_cases ha:0<=a
  ·rw[hh ha];split<;>(try simp only[sM])<;>omega
  ·grind
theorem TY{ls:List Int}:∀{l m:List Int},Ext2 l m->IB ls l<=IB ls m
 |_,_,.nil=>sj _
 |_,_,.cons (a:=a) (b:=b) hh t=>by
  have ih:=TY (ls:=ls) t;unfold IB at ih⊢;rw[tE,tE];by_cases ha:0<=a
  ·rw[hh ha];split<;>(try simp only[sM])<;>omega
  ·grind
theorem TZ:∀{l m:List Int},Ext2 l m->I9 l=0->l=m
 |_,_,.nil,_=>rfl
 |_,_,.cons (a:=a) (b:=b) hh t,h=>by
  unfold I9 at h;rw[tE]at h;by_cases ha:a<0
  ·simp [ha]at h
  ·have h1:decide (a<0)=false:=by simp [ha]
   rw[h1]at h;rw[hh zo,TZ t h]
def VG{vals:List Int}{k n:Int}{ls l m:List Int}(h:Ext2 l m)(hc:CD vals k n ls l=true):CD vals k n ls m=true:=by
 unfold CD at hc⊢;have hl:=h.length;by_cases k1:k=1
 ·rw[sn k1]at hc⊢;exact Ho h hc
 rw[sg k1]at hc⊢;by_cases k2:k=2
 ·rw[sn k2]at hc⊢;rw[sf,si,si]at hc;rw[<-TZ h hc.2];simp [hc]
 rw[sg k2]at hc⊢;by_cases k3:k=3
 ·rw[sn k3]at hc⊢;exact Ho h hc
 rw[sg k3]at hc⊢;by_cases k4:k=4
 ·rw[sn k4]at hc⊢;exact Ho h hc
 rw[sg k4]at hc⊢;by_cases k6:k=6
 ·rw[sn k6]at hc⊢;rw[sQ,si,si]at hc⊢;have h1:=TW (ls:=ls) h;have h2:=TY (ls:=ls) h;omega
 ·rw[sg k6]at hc;cases hc
def Ta{p:Prm}{wA a b:List Int}(h:ExtC a b)(hc:0<=p.c/\p.c<a.length)(hd:Dl p wA a=true):Dl p wA b=true:=by
 unfold Dl at hd⊢;rw[sf,si]at hd;have e:=h.le p.c.toNat _ (BY hc.1 hc.2) hd.1;rw[BY hc.1 (by rw[<-h.len];exact hc.2)]at e;rw[Option.some.inj e,sf,si];exact hd
section
structure xv where
 k:Int
 a:Int
 deriving DecidableEq
def Ir:Int:=2
def FB:Int:=1
def FC(x:zk)(c:Int):Option Prm:=x.ps.find? λp=>decide (p.c=c)
def C6(m:Nat)(x:zk)(wA:List Int)(c:Int):List Int:=match FC x c with
 |none=>CP m
 |some p=>(CP m).filter λs=>(p.ls.map (BG wA)).contains s
def C7(x:zk)(wA:List Int):List Int:=(List.replicate x.cs.length (-1)).set x.c.toNat (BG wA x.l)
def LY(f:Int->List xv->Option (List xv)):List Int->List xv->Option (List xv)
 |[],l=>some l
 |s::r,l=>(f s l).bind (LY f r)
def CE(vals:List Int)(x:zk)(wA:List Int):Nat->List Int->List xv->Option (List xv)
 |_,_,[]=>none
 |f,cells,n::l=>
  if n.k=Ir then(if Bj vals x wA cells n.a then some l else none)
  else if n.k=FB/\0<=n.a/\n.a<cells.length/\BG cells n.a<0 then
   match f with
   |0=>none
   |f+1=>LY (λs l=>CE vals x wA f (cells.set n.a.toNat s) l) (C6 vals.length x wA n.a) l
  else none
def ED(vals:List Int)(x:zk)(trees:List (List xv)):Bool:=
 decide ((EP vals.length x.ls.length).length=trees.length)&&(((EP vals.length x.ls.length).zip trees).all λq=>decide (CE vals x q.1 x.cs.length (C7 x q.1) q.2=some []))
def Tb(vals:List Int)(x:zk)(wA:List Int):Nat->Nat->List Int->Bool
 |j,i,cells=>if Bk vals x wA cells then(match j with
   |0=>true
   |j+1=>if(i:Int)=x.c then Tb vals x wA j (i+1) cells else(CP vals.length).any λs=>Tb vals x wA j (i+1) (cells.set i s))
  else false
def GM(vals:List Int)(x:zk):Bool:=(EP vals.length x.ls.length).all λwA=>!Tb vals x wA x.cs.length 0 (C7 x wA)
structure wz(vals:List Int)(x:zk)(wA c:List Int):Prop where
 len:c.length=x.cs.length
 rng:∀s∈c,0<=s/\s<vals.length
 con:BG c x.c=BG wA x.l
 ok:Bk vals x wA c=true
variable {vals wA a b:List Int} {x:zk}
theorem Ji(hx:OKL x)(h:ExtC a b)(hl:a.length=x.cs.length){i:Nat}(hi:(Eo vals x wA a)[i]?=some true):(Eo vals x wA b)[i]?=some true:=by
 unfold Eo at hi⊢;rw[List.getElem?_append]at hi⊢;simp only[ry]at hi⊢;split at hi
 ·rename_i e9;rw[sn e9];rw[sF,tt]at hi⊢;obtain⟨q,h1,h2⟩:=hi;refine⟨q,h1,?_⟩;have hq:=RN (hx.qs q (sZ h1));refine VG (Wx h λc hc=>?_) h2;have:=sE.1 (Fy hq.cs) c hc;simp only[sf,si]at this;rw[hl];exact this
 ·rename_i e9;rw[sg e9];rw[sF,tt]at hi⊢;obtain⟨p,h1,h2⟩:=hi;refine⟨p,h1,Ta h ?_ h2⟩;have:=sE.1 (Fy hx.pc) p.c (tn.2 ⟨p,sZ h1,rfl⟩);simp only[sf,si]at this;rw[hl];exact this
theorem VH(hx:OKL x)(h:ExtC a b)(hl:a.length=x.cs.length)(hb:Bk vals x wA b=true):Bk vals x wA a=true:=by
 unfold Bk at hb⊢;rw[sE]at hb⊢;intro c hc;cases c with
 |false=>rfl
 |true=>
  obtain⟨i,hi,h1⟩:=sV.1 hc;have h2:=Ji hx h hl (vals:=vals) (wA:=wA) (i:=i) (by rw[rz hi,h1]);have:=hb true (sZ h2);cases this
theorem Wy{i:Nat}{s:Int}(h:ExtC a b)(hb:b[i]?=some s)(hs:0<=s)(ha:∀t,a[i]?=some t->t<0):ExtC (a.set i s) b:=by
 have hi:i<b.length:=(t8.1 hb).1;refine⟨by rw[tz];exact h.len,λj t hj h0=>?_,λt ht=>?_⟩
 ·rw[tC]at hj;split at hj
  ·rename_i e;subst e;split at hj
   ·cases hj;exact hb
   ·cases hj
  ·exact h.le j t hj h0
 ·rcases ua ht with q|q
  ·exact h.neg t q
  ·omega
theorem HJ(x:zk)(wA:List Int):(C7 x wA).length=x.cs.length:=by unfold C7;simp
theorem Wz{c:List Int}(hx:OKL x)(hl0:0<=BG wA x.l)(h:wz vals x wA c):ExtC (C7 x wA) c:=by
 have wi:=hx.c;refine⟨by rw[HJ,h.len],λi s hi h0=>?_,λs hs=>?_⟩
 ·unfold C7 at hi;rw[tC]at hi;split at hi
  ·rename_i e;split at hi
   ·cases hi;have:=BY (l:=c) (i:=x.c) wi.1 (by rw[h.len];exact wi.2);rw[<-e,this,h.con]
   ·cases hi
  ·grind
 ·grind [C7]
theorem Tc{c:List Int}(hx:OKL x)(s9:Bk vals x wA c=true){i:Int}{s:Int}(hs:BG c i=s)(h0:0<=s)(hm:s<vals.length):s∈C6 vals.length x wA i:=by
 unfold C6;have hsy:s∈CP vals.length:=Dd.2 ⟨h0,hm⟩;split
 ·exact hsy
 ·rename_i p hp;rw[tV];refine⟨hsy,?_⟩;unfold FC at hp;have h1:=List.mem_of_find?_eq_some hp;have h2:=List.find?_some hp;simp only[si]at h2;unfold Bk at s9;have:=sE.1 s9 (Dl p wA c) (tP.2 (.inr (tn.2 ⟨p,h1,rfl⟩)));unfold Dl at this;rw[h2,hs]at this;simp only[tJ,vp,ti,vg]at this;exact this.resolve_left λq=>q h0
theorem OM(hx:OKL x):∀(f:Nat) (cells:List Int) (l r:List xv),CE vals x wA f cells l=some r->cells.length=x.cs.length->∀c,wz vals x wA c->¬ExtC cells c
 |f,cells,[],r,h,_,c,hc=>by rw[CE]at h;cases h
 |0,cells,n::l,r,h,hl,c,hc=>by
  intro he;rw[CE]at h;split at h
  ·split at h
   ·rename_i hk yH;unfold Bj at yH;split at yH
    ·cases yH
    ·have h1:(Eo vals x wA cells)[n.a.toNat]?=some true:=by
      cases q:(Eo vals x wA cells)[n.a.toNat]? with
      |none=>rw[q]at yH;cases yH
      |some b=>rw[q]at yH;simp only[sw]at yH;rw[yH]
     have h2:=Ji hx he hl h1;have:=sE.1 hc.ok true (sZ h2);cases this
   ·cases h
  ·split at h<;>cases h
 |f+1,cells,n::l,r,h,hl,c,hc=>by
  intro he;rw[CE]at h;split at h
  ·split at h
   ·rename_i hk yH;unfold Bj at yH;split at yH
    ·cases yH
    ·have h1:(Eo vals x wA cells)[n.a.toNat]?=some true:=by
      cases q:(Eo vals x wA cells)[n.a.toNat]? with
      |none=>rw[q]at yH;cases yH
      |some b=>rw[q]at yH;simp only[sw]at yH;rw[yH]
     have h2:=Ji hx he hl h1;have:=sE.1 hc.ok true (sZ h2);cases this
   ·cases h
  ·split at h
   ·rename_i hk yS;obtain⟨-,h0,h1,h2⟩:=yS;have xm:n.a<c.length:=by rw[<-he.len];exact h1
    have hg:=BY h0 xm;have xJ:=sZ hg;have hr:=hc.rng _ xJ;have hcon:=Tc hx hc.ok (i:=n.a) rfl hr.1 hr.2;have hseq:∀(ss:List Int) (l r:List xv),LY (λs l=>CE vals x wA f (cells.set n.a.toNat s) l) ss l=some r->∀s∈ss,∃l1 r1,CE vals x wA f (cells.set n.a.toNat s) l1=some r1:=by
     intro ss;induction ss with
     |nil=>intro l r _ s hs;cases hs
     |cons t ss ih=>
      intro l r hq s hs;rw[LY]at hq;obtain⟨l1,q1,q2⟩:=Option.bind_eq_some_iff.1 hq;rcases tg.1 hs with e|e
      ·subst e;exact⟨l,l1,q1⟩
      ·exact ih l1 r q2 s e
    obtain⟨l1,r1,ht⟩:=hseq _ _ _ h _ hcon;refine OM hx f _ l1 r1 ht (by rw[tz];exact hl) c hc (Wy he hg hr.1 λt ht=>?_);have hgc:=BY h0 h1;rw[hgc]at ht;cases ht;exact h2
   ·cases h
theorem FD(hx:OKL x)(hl:wA∈EP vals.length x.ls.length):0<=BG wA x.l/\BG wA x.l<vals.length:=by
 obtain⟨h1,-,h3⟩:=Hn hl;exact h3 _ (sZ (BY hx.l.1 (by rw[h1];exact hx.l.2)))
theorem Td{trees:List (List xv)}(hx:OKL x)(h:ED vals x trees=true)(hl:wA∈EP vals.length x.ls.length):∀c,¬wz vals x wA c:=by
 intro c hc;unfold ED at h;rw[sf,si,sE]at h;obtain⟨i,hi,h1⟩:=sV.1 hl;have hz:(wA,trees[i]'zo)∈(EP vals.length x.ls.length).zip trees:=by grind [List.mem_iff_getElem,List.length_zip]
 have:=th (h.2 _ hz);exact OM hx _ _ _ _ this (HJ ..) c hc (Wz hx (FD hx hl).1 hc)
end
section
structure Sofar(vals:List Int)(x:zk)(wA:List Int)(i:Nat)(cells:List Int):Prop where
 len:cells.length=x.cs.length
 con:BG cells x.c=BG wA x.l
 lo:∀(k:Nat) s,cells[k]?=some s->k<i\/(k:Int)=x.c->0<=s/\s<vals.length
 hi:∀(k:Nat) s,cells[k]?=some s->i<=k->(k:Int)≠x.c->s= -1
variable {vals wA cells:List Int} {x:zk} {i:Nat}
theorem QI(hx:OKL x)(hl:wA∈EP vals.length x.ls.length):Sofar vals x wA 0 (C7 x wA):=by
 have hb:=FD hx hl;have hc:=hx.c;refine⟨HJ ..,?_,λk s hk h=>?_,λk s hk _ s8=>?_⟩
 ·unfold C7 BG;rw[tC,sn rfl,sn (by rw[tK];omega)];rfl
 ·rcases h with h|h
  ·omega
  ·unfold C7 at hk;rw[tC,sn zo]at hk;split at hk
   ·cases hk;exact hb
   ·cases hk
 ·unfold C7 at hk;rw[tC,sg zo,List.getElem?_replicate]at hk;split at hk
  ·cases hk;rfl
  ·cases hk
theorem QJ{s:Int}(h:Sofar vals x wA i cells)(hx:OKL x)(s8:(i:Int)≠x.c)(h0:0<=s)(hm:s<vals.length):Sofar vals x wA (i+1) (cells.set i s):=by
 have hc:=hx.c;refine⟨by rw[tz];exact h.len,?_,λk t hk hq=>?_,λk t hk hle hq=>?_⟩
 ·have:=h.con;unfold BG at this⊢;rw[tC,sg zo];exact this
 ·rw[tC]at hk;split at hk
  ·split at hk
   ·cases hk;exact⟨h0,hm⟩
   ·cases hk
  ·exact h.lo k t hk zo
 ·rw[tC,sg zo]at hk;exact h.hi k t hk zo hq
theorem VI(h:Sofar vals x wA i cells)(he:(i:Int)=x.c):Sofar vals x wA (i+1) cells:=
 ⟨h.len,h.con,λk t hk hq=>h.lo k t hk zo,λk t hk hle hq=>h.hi k t hk zo hq⟩
theorem LZ(h:Sofar vals x wA i cells):∀s∈cells,-1<=s:=by
 intro s hs;obtain⟨k,hk,e⟩:=sV.1 hs;have hk':cells[k]?=some s:=by rw[rz hk,e]
 by_cases q:k<i\/(k:Int)=x.c
 ·have:=h.lo k s hk' q;omega
 ·have:=h.hi k s hk' zo zo;omega
theorem Ms(hx:OKL x):∀(j i:Nat) (cells:List Int),i+j=x.cs.length->Sofar vals x wA i cells->(Tb vals x wA j i cells=true↔∃c,wz vals x wA c/\ExtC cells c)
 |0,i,cells,hij,hs=>by
  have l5:∀s∈cells,0<=s/\s<vals.length:=λs hm=>by
   obtain⟨k,hk,e⟩:=sV.1 hm;have:=hs.len;exact hs.lo k s (by rw[rz hk,e]) zo
  have hfull:∀c,ExtC cells c->c=cells:=λc he=>by
   refine uM λk=>?_
   by_cases hk:k<cells.length
   ·have h1:=rz hk;rw[h1];exact he.le k _ h1 (l5 _ (sC hk)).1
   ·simp_all [he.len]
  rw[Tb];constructor
  ·intro h;have hb:Bk vals x wA cells=true:=by
    split at h
    ·assumption
    ·cases h
   exact⟨cells,⟨hs.len,l5,hs.con,hb⟩,rfl,λ_ _ h _=>h,LZ hs⟩
  ·rintro⟨c,hc,he⟩;have:=hfull c he;subst this;rw[sn hc.ok]
 |j+1,i,cells,hij,hs=>by
  rw[Tb];have hmono:∀c,wz vals x wA c->ExtC cells c->Bk vals x wA cells=true:=λc hc he=>VH hx he hs.len hc.ok
  by_cases hi:(i:Int)=x.c
  ·have ih:=Ms hx j (i+1) cells zo (VI hs hi);constructor
   ·simp_all
   ·grind
  ·have xo:i<cells.length:=by have:=hs.len;omega
   have hg:cells[i]?=some (-1):=by
    have:=rz xo;rw[this,hs.hi i _ this (sj _) hi]
   constructor
   ·intro h;by_cases hb:Bk vals x wA cells=true
    ·rw[sn hb]at h;simp only[sg hi]at h;obtain⟨s,hm,h1⟩:=vf.1 h;have hr:=Dd.1 hm;obtain⟨c,hc,he⟩:=(Ms hx j (i+1) _ zo (QJ hs hx hi hr.1 hr.2)).1 h1;refine⟨c,hc,by have:=he.len;rw[tz]at this;exact this,λk t hk h0=>?_,LZ hs⟩;by_cases e:i=k
     ·subst e;rw[hg]at hk;cases hk;omega
     ·exact he.le k t (by rw[tC,sg e];exact hk) h0
    ·rw[sg hb]at h;cases h
   ·rintro⟨c,hc,he⟩;rw[sn (hmono c hc he)];simp only[sg hi];have hic:i<c.length:=by rw[<-he.len];exact xo
    have hr:=hc.rng _ (sC hic);rw[vf];refine⟨c[i],Dd.2 hr,(Ms hx j (i+1) _ zo (QJ hs hx hi hr.1 hr.2)).2 ⟨c,hc,Wy he (rz hic) hr.1 λt ht=>?_⟩⟩;rw[hg]at ht;cases ht;omega
theorem W0(hx:OKL x)(hl:wA∈EP vals.length x.ls.length):Tb vals x wA x.cs.length 0 (C7 x wA)=true↔∃c,wz vals x wA c:=by
 rw[Ms hx _ _ _ (tx _) (QI hx hl)];exact⟨λ⟨c,hc,_⟩=>⟨c,hc⟩,λ⟨c,hc⟩=>⟨c,hc,Wz hx (FD hx hl).1 hc⟩⟩
theorem La(hx:OKL x):GM vals x=true↔∀wA∈EP vals.length x.ls.length,∀c,¬wz vals x wA c:=by
 unfold GM;rw[sE];constructor
 ·intro h wA hl c hc;have h1:=h wA hl;rw[tJ]at h1;have:=(W0 hx hl).2 ⟨c,hc⟩;rw[h1]at this;cases this
 ·intro h wA hl;rw[tJ];cases q:Tb vals x wA x.cs.length 0 (C7 x wA)with
  |false=>rfl
  |true=>
   obtain⟨c,hc⟩:=(W0 hx hl).1 q;exact absurd hc (h wA hl c)
theorem VJ{trees:List (List xv)}(hx:OKL x)(h:ED vals x trees=true):GM vals x=true:=
 (La hx).2 λwA hl c=>Td hx h hl c
end
section
def FE(vals:List Int)(x:zk)(wA cells:List Int):Option Nat:=(Eo vals x wA cells).findIdx? λb=>b
def GN(cells:List Int):Option Nat:=cells.findIdx? λs=>decide (s<0)
def GU(f:Int->Option (List xv)):List Int->Option (List xv)
 |[]=>some []
 |s::r=>match f s with
  |none=>none
  |some a=>(GU f r).map λb=>a++b
def B8(vals:List Int)(x:zk)(wA:List Int):Nat->List Int->Option (List xv)
 |f,cells=>match FE vals x wA cells with
  |some c=>some [⟨Ir,c⟩]
  |none=>match GN cells with
   |none=>none
   |some i=>match f with
    |0=>none
    |f+1=>(GU (λs=>B8 vals x wA f (cells.set i s)) (C6 vals.length x wA i)).map λt=>⟨FB,i⟩::t
variable {vals wA cells:List Int} {x:zk}
theorem ON{c:Nat}(h:FE vals x wA cells=some c):Bj vals x wA cells c=true:=by
 unfold FE at h;obtain⟨h1,h2,-⟩:=t7.1 h;unfold Bj;rw[sg zo,sm,rz h1];exact h2
theorem GO:FE vals x wA cells=none↔Bk vals x wA cells=true:=by simp_all [FE,Bk,ui,sE]
theorem HK{i:Nat}(h:GN cells=some i):∃s,cells[i]?=some s/\s<0:=by
 unfold GN at h;obtain⟨h1,h2,-⟩:=t7.1 h;exact⟨cells[i],rz h1,th h2⟩
theorem YZ(h:GN cells=none):∀s∈cells,0<=s:=by simp_all [GN,ui,ti]
theorem VK:∀(f:Nat) (cells:List Int) (t r:List xv),B8 vals x wA f cells=some t->CE vals x wA f cells (t++r)=some r:=by
 intro f;induction f with
 |zero=>
  intro cells t r h;rw[B8]at h;split at h
  ·rename_i c hc;cases h;rw[List.singleton_append,CE,sn rfl,sn (ON hc)]
  ·split at h
   ·cases h
   ·cases h
 |succ f ih=>
  intro cells t r h;rw[B8]at h;split at h
  ·rename_i c hc;cases h;rw[List.singleton_append,CE,sn rfl,sn (ON hc)]
  ·split at h
   ·cases h
   ·rename_i i hi;obtain⟨t',h1,rfl⟩:=tt.1 h;obtain⟨s0,hs0,hneg⟩:=HK hi;have xo:=(t8.1 hs0).1;have hat:BG cells (i:Int)<0:=by unfold BG;rw[sm,hs0];exact hneg
    rw[sJ,CE,sg (show ¬FB=Ir by decide),sn ⟨rfl,show(0:Int)<=i by omega,show(i:Int)<cells.length by omega,hat⟩];have key:∀(ss:List Int) (t':List xv),GU (λs=>B8 vals x wA f (cells.set i s)) ss=some t'->LY (λs l=>CE vals x wA f (cells.set i s) l) ss (t'++r)=some r:=by
     intro ss;induction ss with
     |nil=>intro t' hq;rw[GU]at hq;cases hq;rfl
     |cons s ss ih2=>
      intro t' hq;rw[GU]at hq;cases hg:B8 vals x wA f (cells.set i s)with
      |none=>rw[hg]at hq;cases hq
      |some a=>
       rw[hg]at hq;obtain⟨b,h3,rfl⟩:=tt.1 hq;rw[LY,te,ih _ a (b++r) hg];exact ih2 b h3
    exact key _ _ h1
structure Some1(vals:List Int)(x:zk)(wA cells:List Int):Prop where
 len:cells.length=x.cs.length
 con:BG cells x.c=BG wA x.l
 rng:∀s∈cells,-1<=s/\s<vals.length
 let0:0<=BG wA x.l
theorem da(hx:OKL x)(hl:wA∈EP vals.length x.ls.length):Some1 vals x wA (C7 x wA):=by
 have h:=QI hx hl;have hb:=FD hx hl;refine⟨h.len,h.con,λs hs=>⟨LZ h s hs,?_⟩,hb.1⟩;unfold C7 at hs;rcases ua hs with q|q
 ·rw[vX]at q;omega
 ·omega
def GW(cells:List Int):Nat:=(cells.filter λs=>decide (s<0)).length
theorem Is:∀{cells:List Int} {i:Nat} {s t:Int},cells[i]?=some t->t<0->0<=s->GW (cells.set i s)+1=GW cells
 |[],_,_,_,h,_,_=>by cases h
 |a::l,0,s,t,h,ht,hs=>by
  cases h;unfold GW;rw[List.set_cons_zero,tE,tE,sg (by simpa using hs),sn (by simpa using ht)];rfl
 |a::l,i+1,s,t,h,ht,hs=>by
  have ih:=Is (cells:=l) (i:=i) (s:=s) (t:=t) (by simpa using h) ht hs;unfold GW at ih⊢;rw[List.set_cons_succ,tE,tE];split<;>(try simp only[sM])<;>omega
theorem VL{i s:Int}(h:s∈C6 vals.length x wA i):0<=s/\s<vals.length:=by
 unfold C6 at h;split at h
 ·exact Dd.1 h
 ·exact Dd.1 (tV.1 h).1
theorem Ya(hx:OKL x):∀(f:Nat) (cells:List Int),B8 vals x wA f cells=none->GW cells<=f->Some1 vals x wA cells->∃c,wz vals x wA c:=by
 have full:∀cells,FE vals x wA cells=none->GN cells=none->Some1 vals x wA cells->∃c,wz vals x wA c:=λcells h1 h2 hs=>
  ⟨cells,hs.len,λs hm=>⟨YZ h2 s hm,(hs.rng s hm).2⟩,hs.con,GO.1 h1⟩
 intro f;induction f with
 |zero=>
  intro cells h hn hs;rw[B8]at h;split at h
  ·cases h
  ·rename_i hc;cases hf:GN cells with
   |none=>exact full cells hc hf hs
   |some i=>
    obtain⟨s0,hs0,hneg⟩:=HK hf;have:s0∈cells.filter λs=>decide (s<0):=tV.2 ⟨sZ hs0,by simpa using hneg⟩
    have h0:cells.filter (λs=>decide (s<0))=[]:=tv (by unfold GW at hn;omega);rw[h0]at this;cases this
 |succ f ih=>
  intro cells h hn hs;rw[B8]at h;split at h
  ·cases h
  ·rename_i hc;split at h
   ·rename_i hf;exact full cells hc hf hs
   ·rename_i i hi;rw[uL]at h;obtain⟨s0,hs0,hneg⟩:=HK hi;have xo:=(t8.1 hs0).1;have key:∀ss:List Int,(∀s∈ss,0<=s/\s<(vals.length:Int))->GU (λs=>B8 vals x wA f (cells.set i s)) ss=none->∃c,wz vals x wA c:=by
     intro ss;induction ss with
     |nil=>intro _ hq;rw[GU]at hq;cases hq
     |cons s ss ih2=>
      intro hr hq;have hsr:=hr s zw;rw[GU]at hq;cases hg:B8 vals x wA f (cells.set i s)with
      |none=>
       refine ih _ hg (by have:=Is hs0 hneg hsr.1;omega) ⟨by rw[tz];exact hs.len,?_,λt ht=>?_,hs.let0⟩
       ·have hcon:=hs.con;have h0:=hs.let0;unfold BG at hcon⊢;rw[tC];by_cases e:i=x.c.toNat
        ·exfalso;rw[<-e,hs0,sw]at hcon;unfold BG at h0;omega
        ·rw[sg e];exact hcon
       ·rcases ua ht with q|q
        ·exact hs.rng t q
        ·subst q;omega
      |some a=>
       rw[hg]at hq;exact ih2 (λt ht=>hr t (by simp [ht])) (uL.1 hq)
    exact key _ (λs hm=>VL hm) h
theorem Kd:GW (C7 x wA)<=x.cs.length:=by grind [GW,HJ]
def IC(f:List Int->Option (List xv)):List (List Int)->Option (List (List xv))
 |[]=>some []
 |l::r=>match f l with
  |none=>none
  |some t=>(IC f r).map λts=>t::ts
def Bc(ts:List (List xv)):Nat:=(ts.map List.length).sum
def GP(vals:List Int)(x:zk):Option (List (List xv)):=IC (λwA=>B8 vals x wA x.cs.length (C7 x wA)) (EP vals.length x.ls.length)
def Lb(vals:List Int)(x:zk):Except Int (List (List xv)):=match GP vals x with
 |none=>.error 320
 |some ts=>if 65536<Bc ts then .error 2 else .ok ts
theorem Lc{f:List Int->Option (List xv)}:∀{ls:List (List Int)} {ts:List (List xv)},IC f ls=some ts->ls.length=ts.length/\∀q∈ls.zip ts,f q.1=some q.2
 |[],ts,h=>by rw[IC]at h;cases h;simp
 |l::r,ts,h=>by
  rw[IC]at h;cases hf:f l with
  |none=>rw[hf]at h;cases h
  |some t=>
   rw[hf]at h;obtain⟨b,h1,rfl⟩:=tt.1 h;obtain⟨h2,h3⟩:=Lc h1;refine⟨by simp [h2],λq hq=>?_⟩;rw[uI,tg]at hq;rcases hq with rfl|hq
   ·exact hf
   ·exact h3 q hq
theorem QK{f:List Int->Option (List xv)}:∀{ls:List (List Int)},IC f ls=none->∃l∈ls,f l=none
 |[],h=>by rw[IC]at h;cases h
 |l::r,h=>by
  rw[IC]at h;cases hf:f l with
  |none=>exact⟨l,zw,hf⟩
  |some t=>
   rw[hf]at h;obtain⟨l',h1,h2⟩:=QK (uL.1 h);exact⟨l',by simp [h1],h2⟩
theorem MO{ts:List (List xv)}(h:GP vals x=some ts):ED vals x ts=true:=by
 obtain⟨h1,h2⟩:=Lc h;unfold ED;rw[sf,si,sE];refine⟨h1,λq hq=>sK ?_⟩;have:=VK _ _ _ [] (h2 q hq);rw[sR]at this;exact this
theorem VN(hx:OKL x)(h:GP vals x=none):∃wA∈EP vals.length x.ls.length,∃c,wz vals x wA c:=by
 obtain⟨l,hl,hg⟩:=QK h;exact⟨l,hl,Ya hx _ _ hg Kd (da hx hl)⟩
theorem Te(hx:OKL x):(GP vals x).isSome=GM vals x:=by
 cases h:GP vals x with
 |some ts=>rw[VJ hx (MO h)];rfl
 |none=>
  obtain⟨l,hl,c,hc⟩:=VN hx h;cases hs:GM vals x with
  |false=>rfl
  |true=>exact absurd hc ((La hx).1 hs l hl c)
def Fl(m:Nat)(x:zk)(wA:List Int):Nat->Nat->List Int->List (List Int)
 |0,_,cells=>[cells]
 |j+1,i,cells=>((CP m).filter λs=>decide ((i:Int)≠x.c)||decide (s=BG wA x.l)).flatMap λs=>Fl m x wA j (i+1) (cells.set i s)
def Oz(vals:List Int)(x:zk):Option (List Int×List Int):=(EP vals.length x.ls.length).findSome? λwA=>((Fl vals.length x wA x.cs.length 0 (List.replicate x.cs.length 0)).find? λc=>Bk vals x wA c).map λc=>(wA,c)
def DM(vals:List Int)(x:zk)(wA:List Int):Nat->Nat->List Int->Option (List Int)
 |0,_,cells=>if Bk vals x wA cells&&decide (BG cells x.c=BG wA x.l)then some cells else none
 |j+1,i,cells=>(CP vals.length).findSome? λs=>DM vals x wA j (i+1) (cells.set i s)
def rN(vals:List Int)(x:zk):Option (List Int×List Int):=(EP vals.length x.ls.length).findSome? λwA=>(DM vals x wA x.cs.length 0 (List.replicate x.cs.length 0)).map λc=>(wA,c)
theorem QL{α β:Type}{p:β->Bool}{f:α->List β}:∀l:List α,(l.flatMap f).find? p=l.findSome? λa=>(f a).find? p
 |[]=>rfl
 |a::l=>by
  rw[uU,List.find?_append,uY,QL l];cases (f a).find? p<;>rfl
theorem OO:∀(j i:Nat) (cells:List Int),0<=x.c->x.c<(i:Int)->BG cells x.c≠BG wA x.l->DM vals x wA j i cells=none
 |0,i,cells,h0,hi,h=>by
  rw[DM,sA h,vh];rfl
 |j+1,i,cells,h0,hi,h=>by
  rw[DM,List.findSome?_eq_none_iff];intro s _;refine OO j (i+1) _ h0 zo ?_;unfold BG at h⊢;rw[tC,sg zo];exact h
theorem Ld(hx:OKL x):∀(j i:Nat) (cells:List Int),i+j=x.cs.length->cells.length=x.cs.length->(x.c<(i:Int)->BG cells x.c=BG wA x.l)->
  DM vals x wA j i cells=(Fl vals.length x wA j i cells).find? λc=>Bk vals x wA c
 |0,i,cells,hij,hl,hc=>by
  have h:=hc (by have:=hx.c;omega);rw[DM,Fl,sK h,Bool.and_true,List.find?_cons,List.find?_nil];cases Bk vals x wA cells<;>rfl
 |j+1,i,cells,hij,hl,hc=>by
  have hxc:=hx.c;rw[DM,Fl,QL];by_cases e:(i:Int)=x.c
  ·have key:∀L:List Int,L.findSome? (λs=>DM vals x wA j (i+1) (cells.set i s))=(L.filter λs=>decide ((i:Int)≠x.c)||decide (s=BG wA x.l)).findSome? λs=>(Fl vals.length x wA j (i+1) (cells.set i s)).find? λc=>Bk vals x wA c:=by
    intro L;induction L with
    |nil=>rfl
    |cons s L ih=>
     have hat:BG (cells.set i s) x.c=s:=by
      unfold BG;rw[tC,sn zo,sn zo];rfl
     rw[uY,tE];by_cases hs:s=BG wA x.l
     ·rw[sn (by simp [hs]),uY,Ld hx j (i+1) _ zo (by rw[tz];exact hl) (λ_=>by rw[hat];exact hs),ih]
     ·rw[sg (by simp [hs,e]),OO j (i+1) _ hxc.1 zo (by rw[hat];exact hs)];exact ih
   exact key _
  ·rw[uX.2 (λs _=>by simp [e])];congr 1;funext s;refine Ld hx j (i+1) _ zo (by rw[tz];exact hl) λe9=>?_
   have:=hc zo;unfold BG at this⊢;rw[tC,sg zo];exact this
theorem i9(hx:OKL x):rN vals x=Oz vals x:=by
 unfold rN Oz;congr 1;funext wA;rw[Ld hx _ _ _ (tx _) zw (by intro h;have:=hx.c;omega)]
theorem Ra{m:Nat}:∀(j i:Nat) (cells c:List Int),i+j=x.cs.length->cells.length=x.cs.length->(∀(k:Nat) s,cells[k]?=some s->k<i->0<=s/\s<(m:Int)/\((k:Int)=x.c->s=BG wA x.l))->
  (c∈Fl m x wA j i cells↔c.length=x.cs.length/\(∀(k:Nat) s,c[k]?=some s->0<=s/\s<(m:Int)/\((k:Int)=x.c->s=BG wA x.l))/\∀k,k<i->c[k]?=cells[k]?)
 |0,i,cells,c,hij,hl,hr=>by
  rw[Fl,tB];constructor
  ·grind
  ·rintro⟨h1,-,h3⟩;refine uM λk=>?_
   by_cases hk:k<i
   ·exact h3 k hk
   ·simp_all
 |j+1,i,cells,c,hij,hl,hr=>by
  rw[Fl,List.mem_flatMap];have step:∀s,0<=s/\s<(m:Int)->((i:Int)=x.c->s=BG wA x.l)->∀(k:Nat) t,(cells.set i s)[k]?=some t->k<i+1->0<=t/\t<(m:Int)/\((k:Int)=x.c->t=BG wA x.l):=by grind
  constructor
  ·rintro⟨s,hs,hc⟩;rw[tV,Dd,sQ,si,si]at hs;obtain⟨h1,h2,h3⟩:=(Ra j (i+1) _ c zo (by rw[tz];exact hl) (step s hs.1 λe=>hs.2.resolve_left λq=>q e)).1 hc;exact⟨h1,h2,λk hk=>by rw[h3 k zo,tC,sg zo]⟩
  ·rintro⟨h1,h2,h3⟩;have hic:i<c.length:=zo
   have hg:=rz hic;have hq:=h2 i _ hg;refine⟨c[i],?_,(Ra j (i+1) _ c zo (by rw[tz];exact hl) (step _ ⟨hq.1,hq.2.1⟩ hq.2.2)).2 ⟨h1,h2,λk hk=>?_⟩⟩
   ·simp_all [tV,Dd,sQ,si]<;>omega
   ·rw[tC];split
    ·rename_i e;subst e;rw[sn zo,hg]
    ·exact h3 k zo
theorem Rb{c:List Int}(hx:OKL x)(hl:wA∈EP vals.length x.ls.length):wz vals x wA c↔c∈Fl vals.length x wA x.cs.length 0 (List.replicate x.cs.length 0)/\Bk vals x wA c=true:=by
 rw[Ra _ _ _ _ (tx _) zw (by intro k s _ h;omega)];have hxc:=hx.c;constructor
 ·intro h;have hg:=BY (l:=c) hxc.1 (by rw[h.len];exact hxc.2);refine⟨⟨h.len,λk s hk=>?_,λk hk=>zo⟩,h.ok⟩;have:=h.rng s (sZ hk);refine⟨this.1,this.2,λe=>?_⟩;have e2:x.c.toNat=k:=zo
  rw[e2,hk]at hg;rw[Option.some.inj hg,h.con]
 ·rintro⟨⟨h1,h2,-⟩,h3⟩;have hg:=BY (l:=c) hxc.1 (by rw[h1];exact hxc.2);refine⟨h1,λs hs=>?_,(h2 _ _ hg).2.2 zo,h3⟩;obtain⟨k,hk,e⟩:=sV.1 hs;have:=h2 k s (by rw[rz hk,e]);exact⟨this.1,this.2.1⟩
theorem db{q:List Int×List Int}(hx:OKL x)(h:Oz vals x=some q):q.1∈EP vals.length x.ls.length/\wz vals x q.1 q.2:=by
 unfold Oz at h;obtain⟨wA,hl,h1⟩:=List.exists_of_findSome?_eq_some h;obtain⟨c,h2,rfl⟩:=tt.1 h1;exact⟨hl,(Rb hx hl).2 ⟨List.mem_of_find?_eq_some h2,List.find?_some h2⟩⟩
theorem Tf(hx:OKL x):Oz vals x=none↔GM vals x=true:=by
 rw[La hx];unfold Oz;rw[List.findSome?_eq_none_iff];constructor
 ·intro h wA hl c hc;have h1:=uL.1 (h wA hl);rw[List.find?_eq_none]at h1;obtain⟨h2,h3⟩:=(Rb hx hl).1 hc;exact h1 c h2 h3
 ·intro h wA hl;rw[uL,List.find?_eq_none];intro c hc hh;exact h wA hl c ((Rb hx hl).2 ⟨hc,hh⟩)
end
mutual
inductive View(H:AB):Fs->Fs->Prop
 |wk {a b:Fs}:Wk b a->View H a b
 |ref {id e off len cap:Nat} {l:List Fs}:AD H id=some (.arr e l)->off+len<=l.length->len<=cap->View H (.sl (.none e) ((l.drop off).take len)) (.ref id e off len cap)
 |ptr {id off:Nat} {cs:List Fs}:AD H id=some (.box cs)->View H (.ep (cs.drop off)) (.ptr id off)
 |pw {id off:Nat} {cs us:List Fs}:AD H id=some (.box cs)->yV H us (cs.drop off)->View H (.ep us) (.ptr id off)
 |agg {us bs:List Fs}:yV H us bs->View H (.agg us) (.agg bs)
 |fn {f:Fn} {us bs cs ds:List Fs}:yV H us bs->yV H cs ds->View H (.fn f us cs) (.fn f bs ds)
inductive yV(H:AB):List Fs->List Fs->Prop
 |nil:yV H [] []
 |cons {a b:Fs} {us bs:List Fs}:View H a b->yV H us bs->yV H (a::us) (b::bs)
end
mutual
def Fs.flat:Fs->Prop
 | .bool _| .int _ _| .str _| .nilp| .yF| .xA| .nilmp=>True
 | .agg cs=>flats cs
 | .wJ cs=>flats cs
 |_=>False
def flats:List Fs->Prop
 |[]=>True
 |a::us=>a.flat/\flats us
end
mutual
theorem Tg{g g':q8}:∀(a:Fs) (v:Value),a.flat->AR g a v->AR g' a v
 | .bool _,_,_,h=>h
 | .int _ _,_,_,h=>h
 | .str _,_,_,h=>h
 | .nilp,_,_,h=>h
 | .yF,_,_,h=>h
 | .xA,_,_,h=>h
 | .nilmp,_,_,h=>h
 | .agg cs,_,hf,h=>by
  obtain⟨vs,rfl,h1,h2⟩:=h;exact⟨vs,rfl,flats_rel cs _ hf h1,h2⟩
 | .wJ cs,_,hf,h=>by
  obtain⟨vs,rfl,h1⟩:=h;exact⟨vs,rfl,flats_rel cs _ hf h1⟩
 | .ptr _ _,_,hf,_=>hf.elim
 | .ep _,_,hf,_=>hf.elim
 | .gp _,_,hf,_=>hf.elim
 | .sl _ _,_,hf,_=>hf.elim
 | .ref _ _ _ _ _,_,hf,_=>hf.elim
 | .ap _ _ _ _,_,hf,_=>hf.elim
 | .fn _ _ _,_,hf,_=>hf.elim
 | .ifc _ _,_,hf,_=>hf.elim
 | .mp _,_,hf,_=>hf.elim
 | .up,_,hf,_=>hf.elim
theorem flats_rel{g g':q8}:∀(us:List Fs) (vs:List Value),flats us->wI g us vs->wI g' us vs
 |[],_,_,h=>h
 |a::us,_,hf,h=>by
  obtain⟨v,r,rfl,h1,h2⟩:=h;exact⟨v,r,rfl,Tg a v hf.1 h1,flats_rel us r hf.2 h2⟩
end
def VO(w:World):Nat->Nat->Option Value:=λb o=>w.cell? ⟨b,o,none⟩
section
variable {g:q8} {H:AB} {n:Nat} {w:World}
theorem I5(R:x7 g H n w):J2 0 g ⟨λ_=>none,VO w⟩:=⟨λ_ _ h=>absurd h (tH _),λb o v h=>R.σw b o v h⟩
theorem OP{f:Nat->Option Value}:∀(cs:List Fs) (o k:Nat),wM g f o cs->wM g f (o+k) (cs.drop k)
 |[],o,k,_=>by rw[List.drop_nil];trivial
 |a::cs,o,0,h=>h
 |a::cs,o,k+1,h=>by rw[List.drop_succ_cons,show o+(k+1)=o+1+k by omega];exact OP cs (o+1) k h.2
mutual
theorem Th(R:x7 g H n w):∀{a b:Fs} {v:Value},View H a b->a.under 0->AR g b v->AR ⟨λ_=>none,VO w⟩ a v
 |a,b,v,.wk h,hu,hv=>AR.agree (n:=0) (I5 R) a v hu (h g v hv)
 |_,_,v,.ref (id:=id) (e:=e) (off:=off) (len:=len) (cap:=cap) (l:=l) h1 h2 h3,hu,hv=>by
  obtain⟨L,k1,k2,rfl⟩:=hv;obtain⟨L',c,ty,j1,j2,j3,j4,j5,j6⟩:=R.obj id _ h1;rw[k1]at j1;cases j1;have hlen:((l.drop off).take len).length=len:=by simp;omega
  have wX:=wL.take len _ _ (wL.drop off _ _ j6);rw[tx]at wX;refine .inr ⟨zt,L.wR,off*e,cap,⟨none,by rw[hlen],.inl rfl⟩,by rw[hlen];exact h3,?_,zt⟩;have hst2:wL g e (VO w L.wR) (off*e) ((l.drop off).take len):=wL.mono (q8.le.refl g) (λo x hx=>by
   show w.cell? ⟨L.wR,o,none⟩=some x;rw[BK j4];exact hx) e _ _ wX
  exact wL.agree (n:=0) (I5 R) (λo x h=>h) e _ _ hu.2 hst2
 |_,_,v,.ptr (id:=id) (off:=off) (cs:=cs) h1,hu,hv=>by
  obtain⟨L,k1,k2,rfl⟩:=hv;obtain⟨L',c,ty,j1,j2,j3,j4,j5,j6⟩:=R.obj id _ h1;rw[k1]at j1;cases j1;refine⟨L.wR,off,rfl,?_⟩;have hd:∀(cs:List Fs) (o k:Nat),wM g (λo=>c[o]?) o cs->wM g (λo=>c[o]?) (o+k) (cs.drop k):=by
   intro cs;induction cs with
   |nil=>intro o k _;rw[List.drop_nil];trivial
   |cons a cs ih=>
    intro o k h;cases k with
    |zero=>exact h
    |succ k=>rw[List.drop_succ_cons,show o+(k+1)=o+1+k by omega];exact ih (o+1) k h.2
  have h2:=hd cs 0 off j6;rw[tx]at h2;have h3:wM g (VO w L.wR) off (cs.drop off):=wM.mono (q8.le.refl g) (λo x hx=>by
   show w.cell? ⟨L.wR,o,none⟩=some x;rw[BK j4];exact hx) _ _ h2
  exact wM.agree (n:=0) (I5 R) (λo x h=>h) _ _ hu h3
 |_,_,v,.pw (id:=id) (off:=off) (cs:=cs) h1 hw,hu,hv=>by
  obtain⟨L,k1,k2,rfl⟩:=hv;obtain⟨L',c,ty,j1,j2,j3,j4,j5,j6⟩:=R.obj id _ h1;rw[k1]at j1;cases j1;refine⟨L.wR,off,rfl,?_⟩;have h2:=OP cs 0 off j6;rw[tx]at h2;exact pstab_rel R hw hu (wM.mono (q8.le.refl g) (λo x hx=>by
   show w.cell? ⟨L.wR,o,none⟩=some x;rw[BK j4];exact hx) _ _ h2)
 |_,_,v,.agg h,hu,hv=>by
  obtain⟨vs,rfl,h1,h2⟩:=hv;exact⟨vs,rfl,zi R h hu h1,h2⟩
 |_,_,v,.fn h k,hu,hv=>by
  obtain⟨x,c,rfl,h1,h2⟩:=hv;exact⟨x,c,rfl,zi R h hu.1 h1,zi R k hu.2 h2⟩
theorem zi(R:x7 g H n w):∀{us bs:List Fs} {vs:List Value},yV H us bs->wN 0 us->wI g bs vs->wI ⟨λ_=>none,VO w⟩ us vs
 |_,_,vs,.nil,_,hv=>hv
 |_,_,vs,.cons h t,hu,hv=>by
  obtain⟨v,r,rfl,h1,h2⟩:=hv;exact⟨v,r,rfl,Th R h hu.1 h1,zi R t hu.2 h2⟩
theorem pstab_rel(R:x7 g H n w):∀{us bs:List Fs} {f:Nat->Option Value} {o:Nat},yV H us bs->wN 0 us->wM g f o bs->wM ⟨λ_=>none,VO w⟩ f o us
 |_,_,f,o,.nil,_,_=>trivial
 |_,_,f,o,.cons h t,hu,hp=>by
  obtain⟨⟨v,h1,h2,h4⟩,h3⟩:=hp;exact⟨⟨v,h1,Th R h hu.1 h2,h4⟩,pstab_rel R t hu.2 h3⟩
end
end
def Av.viewF{P:Program}{f:FuncId}{args args':List Fs}{r:Fs}{H:AB}(h:Av P f args r)(hf:∀g g' v,AR g r v->AR g' r v)(hv:yV H args args')(n:Nat):Ao P f args' H n r:=by
 obtain⟨ha,hr,wo,hc⟩:=h;refine⟨wo,λg w vs R hvs=>?_⟩;have R0:x7 ⟨λ_=>none,VO w⟩ Ak 0 w:=
  {σw:=λb o v h=>h
   obj:=λ_ _ h=>by simp [AD,Ak]at h
   yJ:=λ_ _ h=>by simp at h
   hd:=λ_ _ h=>by simp [AD,Ak]at h
   ap:=λ_ _ _ _ _ _ _ h=>by simp [AD,Ak]at h
   un:=λ_ _ _ _ h=>by simp [AD,Ak]at h
   gl:=λi cs h=>wM.agree (n:=0) (I5 R) (λo x h=>R.σw i o x h) cs 0 (NW i cs h) (R.gl i cs h)
   gz:=R.gz}
 refine(hc _ w vs R0 (zi R hv ha hvs)).mono ?_;rintro e w' ⟨g',out,H',n',⟨v,rfl,hw⟩,he,hR',-,ht⟩;cases e with
 |panicked c=>exact he.elim
 |outgrown=>exact he.elim
 |returned x=>
  have hx:AR g' r x:=hw _ _ he;have keep:∀(b:Nat) ob,w.heap[b]?=some ob->w'.heap[b]?=some ob:=by
   intro b ob hb;have hk:=ht.kept b ob hb;cases ob<;>first|exact hk.resolve_left Eu|skip
   obtain⟨c',h1,h2,h3⟩:=hk;rw[h1];congr 2;exact Array.ext_getElem? λi=>h3 i Eu
  have inH:∀b o v,w.cell? ⟨b,o,none⟩=some v->b<w.heap.size:=by
   intro b o v hc;unfold World.cell? at hc;split at hc
   ·rename_i hb;exact(sW.1 hb).1
   ·cases hc
  let σ2:Nat->Nat->Option Value:=λb o=>if b<w.heap.size then g.σ b o else g'.σ b o
  have old:∀b o v,g.σ b o=some v->σ2 b o=some v:=λb o v hh=>by
   simp only[σ2];rw[sn (inH b o v (R.σw b o v hh))];exact hh
  have gle:g.le ⟨g.β,σ2⟩:=⟨λ_ _ h=>h,old⟩;have xZ:∀b o v,b<w.heap.size->w.cell? ⟨b,o,none⟩=some v->w'.cell? ⟨b,o,none⟩=some v:=by
   intro b o v hb hh;have e1:=uu hb;have e2:=keep b _ e1;unfold World.cell? at hh⊢;simp only[e1,e2]at hh⊢;exact hh
  refine⟨⟨g.β,σ2⟩,.ret r,H,n,⟨rfl,rfl,rfl⟩,hf _ _ x hx,?_,sj _,?_⟩
  ·refine⟨?_,?_,?_,R.hd,R.ap,?_,R.gl.mono gle,hR'.gz⟩
   ·intro b o v hh;simp only[σ2]at hh;split at hh
    ·rename_i hb;exact xZ b o v hb (R.σw b o v hh)
    ·exact hR'.σw b o v hh
   ·intro id ob hob;have ho:=R.obj id ob hob;cases ob with
    |box cs=>obtain⟨L,c,e,h1,h2,h3,h4,h5,h6⟩:=ho;exact⟨L,c,e,h1,h2,h3,keep _ _ h4,h5,wM.mono gle (λ_ _ h=>h) cs 0 h6⟩
    |tok=>obtain⟨L,h1,h2⟩:=ho;exact⟨L,h1,λe9=>let ⟨c,e,h3,h4⟩:=h2 e9;⟨c,e,keep _ _ h3,h4⟩⟩
    |arr esz l=>obtain⟨L,c,e,h1,h2,h3,h4,h5,h6⟩:=ho;exact⟨L,c,e,h1,h2,h3,keep _ _ h4,h5,wL.mono gle (λ_ _ h=>h) esz l 0 h6⟩
    |frz esz l=>obtain⟨L,h1,h2,h3⟩:=ho;exact⟨L,h1,h2,wL.mono gle (λo x hx=>old L.wR o x hx) esz l 0 h3⟩
    |map es c=>obtain⟨L,xD,h1,h2,h3,h4,h5⟩:=ho;exact⟨L,xD,h1,h2,h3,keep _ _ h4,D0.mono gle _ _ h5⟩
    |sit s pos=>obtain⟨L,h1,h2,h3,h4⟩:=ho;exact⟨L,h1,h2,h3,keep _ _ h4⟩
    |mit m c seen last=>obtain⟨L,Lm,h1,h2,h3,h4,h5⟩:=ho;exact⟨L,Lm,h1,h2,h3,keep _ _ h4,h5⟩
    |lp x=>obtain⟨L,h1,h2,h3,h4,r,k1,k2,k3,k4,k5,k6,k7,k8⟩:=ho;exact⟨L,h1,h2,h3,h4,r,keep _ _ k1,k2,k3,k4,k5,k6,B1.mono gle k7,k8⟩
    |dead=>trivial
   ·intro id L hL;exact⟨(R.yJ id L hL).1,λe9=>uw ((R.yJ id L hL).2 e9) ht.size⟩
   ·intro id ob L o q1 q2 q3 q4 q5;have hb:=(R.yJ id L q3).2 zo;show σ2 L.wR o=none;simp only[σ2];rw[sn hb];exact R.un id ob L o q1 q2 q3 q4 q5
  ·refine⟨gle,λ_ _ h=>.inl h,ht.os,ht.tape,ht.output,ht.size,λb ob hb=>by rw[keep b ob hb];exact JQ.same _ _,λ_ _ _ h=>h,λb o v hb h=>.inl ?_⟩;have h':σ2 b o=some v:=h;simp only[σ2]at h';rw[sn hb]at h';exact h'
def Av.view{P:Program}{f:FuncId}{args args':List Fs}{r:Fs}{H:AB}(h:Av P f args r)(hf:r.flat)(hv:yV H args args')(n:Nat):Ao P f args' H n r:=h.viewF (λ_ _ v=>Tg r v hf) hv n
section
variable {α:Type}
theorem Yb{p:α->Bool}{l:List α}{i:Nat}(h:i<l.length)(hp:p l[i]=true)(hn:∀j (hj:j<l.length),j<i->p l[j]=false):l.findIdx? p=some i:=
 t7.2 ⟨h,hp,λj hj=>by rw[hn j zo hj];decide⟩
theorem Yc{p:α->Bool}{l:List α}(hn:∀j (hj:j<l.length),p l[j]=false):l.findIdx? p=none:=
 ui.2 λx hx=>by obtain⟨j,hj,rfl⟩:=sV.1 hx;exact hn j hj
def Hp[DecidableEq α](l:List α)(s:α):Int:=match l.findIdx? (λx=>decide (x=s))with
 |some k=>k
 |none=>-1
theorem Rd(l:List Bs)(s:Bs):Hp l s=OA l s:=rfl
theorem F6[DecidableEq α]{l:List α}{s:α}{i:Nat}(h:i<l.length)(hp:l[i]=s)(hn:∀j (hj:j<l.length),j<i->l[j]≠s):Hp l s=i:=by
 unfold Hp;rw[Yb h (by simp [hp]) λj hj hji=>by simp [hn j hj hji]]
theorem Le[DecidableEq α]{l:List α}{s:α}(hn:∀j (hj:j<l.length),l[j]≠s):Hp l s= -1:=by
 unfold Hp;rw[Yc λj hj=>by simp [hn j hj]]
theorem F2[DecidableEq α]:∀{l:List α},Bn l=true↔∀j (hj:j<l.length),Hp l l[j]=(j:Int)
 |[]=>by simp [Bn]
 |x::r=>by
  have ih:=F2 (l:=r);simp only[Bn,sf,tJ];constructor
  ·rintro⟨h1,h2⟩ j hj;cases j with
   |zero=>exact F6 (i:=0) zw rfl λk _ hk=>zo
   |succ j=>
    have hj':j<r.length:=by simpa using hj
    refine F6 hj rfl λk hk hkj=>?_
    cases k with
    |zero=>
     intro e;have:(r.any λy=>decide (y=x))=true:=vf.2 ⟨r[j],sC hj',by simpa using e.symm⟩;rw[h1]at this;cases this
    |succ k=>
     intro e;have hk':k<r.length:=by simpa using hk
     have e':r[k]=r[j]:=by simpa using e
     have q1:=ih.1 h2 k hk';have q2:=ih.1 h2 j hj';rw[e']at q1;rw[q1]at q2;omega
  ·intro h;refine⟨?_,ih.2 λj hj=>?_⟩
   ·rw[vH];intro y hy e;obtain⟨j,hj,rfl⟩:=sV.1 hy;have e:r[j]=x:=by simpa using e
    have h0:=h 0 zw;have:=h (j+1) (by simpa using hj);simp only[List.getElem_cons_succ,e]at this;simp only[List.getElem_cons_zero]at h0;rw[h0]at this;omega
   ·have:=h (j+1) (by simpa using hj);simp only[List.getElem_cons_succ]at this;unfold Hp at this⊢;rw[vD]at this;by_cases e:x=r[j]
    ·simp [e]at this;omega
    ·rw[show decide (x=r[j])=false by simp [e]]at this;simp only[sN,sY]at this;cases hq:r.findIdx? (λx=>decide (x=r[j]))with
     |none=>rw[hq]at this;simp at this;omega
     |some k=>rw[hq]at this;simp at this⊢;omega
theorem p95(l:List Bs)(s:Bs)(hl:Aq l):Av prog 95 [FN l,.str s] (eI (OA l s)):=by
 refine .mk ⟨⟨zt,D9 0 l⟩,zt,zt⟩ zt (c95.a (AI AH.wD (AJ ?_)));simp only[eE,eN,seval,ry,c95];refine AQ (λi:Nat=>⟨[(0,true,FN l),(1,true,.str s),(7,true,.int .i64 l.length),(8,true,.int .i64 i)],Ak,0⟩)
  (λi=>i<=l.length/\∀j (hj:j<l.length),j<i->l[j]≠s) (λi=>l.length-i) 0 rfl ⟨sk _,λj hj h=>zo⟩ ?_
 rintro i ⟨hi,l5⟩;by_cases e9:i<l.length;case neg=>
  simp only[eZ,seval,Ag e9];rw[<-Rd,Le λj hj=>l5 j hj zo]
 have hg:=rz e9;have e:=AK (k:=i) zo;by_cases hs:l[i]=s
 ·simp only[eZ,seval,sw,sm,sr,ry,sF,AN e9,hg,BR,hs];rw[<-Rd,F6 e9 hs l5]
 ·simp only[eZ,seval,sw,sm,sr,ry,sF,AN e9,hg,BR,show(s=l[i])=False from sb (Ne.symm hs),e];refine .mk (i+1) rfl ⟨e9,λj hj h=>?_⟩ zo;by_cases q:j=i
  ·subst q;exact hs
  ·exact l5 j hj zo
theorem rO(l:List Int)(s:Int)(hl:Aq l):Av prog 49 [Aj l,eI s] (eI (Hp l s)):=by
 refine .mk ⟨⟨zt,Dq 0 l⟩,zt,zt⟩ zt (c49.a (AI AH.wD (AJ ?_)));simp only[eE,eN,seval,ry,c49];refine AQ (λi:Nat=>⟨[(0,true,Aj l),(1,true,eI s),(7,true,.int .i64 l.length),(8,true,.int .i64 i)],Ak,0⟩)
  (λi=>i<=l.length/\∀j (hj:j<l.length),j<i->l[j]≠s) (λi=>l.length-i) 0 rfl ⟨sk _,λj hj h=>zo⟩ ?_
 rintro i ⟨hi,l5⟩;by_cases e9:i<l.length;case neg=>
  simp only[eZ,seval,Ag e9];rw[Le λj hj=>l5 j hj zo]
 have hg:=rz e9;have e:=AK (k:=i) zo;by_cases hs:l[i]=s
 ·simp only[eZ,seval,sw,sm,sr,ry,sF,AN e9,hg,hs];rw[F6 e9 hs l5]
 ·simp only[eZ,seval,sw,sm,sr,ry,sF,AN e9,hg,show(s=l[i])=False from sb (Ne.symm hs),e];refine .mk (i+1) rfl ⟨e9,λj hj h=>?_⟩ zo;by_cases q:j=i
  ·subst q;exact hs
  ·exact l5 j hj zo
structure Vg where
 i:Nat
 tk:v8
 H:AB
 n:Nat
structure Ig(e len:Nat)(v:Vg):Prop where
 hi:v.i<=len
 fr:AO v.H v.n
 tok:C8 e 0 v.H v.tk
 es:v.tk.esz=e\/v.i=0
theorem W1{l:List Int}{n:Nat}:CI l n=true↔∀j (hj:j<l.length),0<=l[j]/\l[j]<n/\Hp l l[j]=(j:Int):=by
 unfold CI;rw[sf,sE,F2];constructor
 ·rintro⟨h1,h2⟩ j hj;have:=h1 _ (sC hj);simp only[sf,si]at this;exact⟨this.1,this.2,h2 j hj⟩
 ·intro h;refine⟨λx hx=>?_,λj hj=>(h j hj).2.2⟩;obtain⟨j,hj,rfl⟩:=sV.1 hx;simp [(h j hj).1,(h j hj).2.1]
theorem Re{l:List Int}{n:Nat}{j:Nat}(hj:j<l.length)(h:¬(0<=l[j]/\l[j]<n/\Hp l l[j]=(j:Int))):CI l n=false:=by
 cases q:CI l n with
 |false=>rfl
 |true=>exact absurd (W1.1 q j hj) h
def rP:Bg:=AF 49 (s2 A3 dI (λa _=>Aq a) λa s=>eI (Hp a s)) wD
theorem jA:AH prog rP:=AH.wD.add (q2 rO)
def Fb(l:List Int)(n:Nat)(Hv:Int):Bool:=CI l n&&decide (Hv<=l.length)
theorem p63(l:List Int)(n:Nat)(Hv:Int)(hl:Aq l):Av prog 63 [Aj l,.int .i64 n,.int .i64 Hv] (.bool (Fb l n Hv)):=by
 refine .mk ⟨⟨zt,Dq 0 l⟩,zt,zt,zt⟩ zt (c63.a (AI jA (AJ ?_)));simp only[eE,eN,seval,ry,c63];refine AQ (λi:Nat=>⟨[(0,true,Aj l),(1,true,.int .i64 n),(2,true,.int .i64 Hv),(9,true,Aj l),(10,true,.int .i64 l.length),(11,true,.int .i64 i)],Ak,0⟩)
  (λi=>i<=l.length/\∀j (hj:j<l.length),j<i->0<=l[j]/\l[j]<n/\Hp l l[j]=(j:Int)) (λi=>l.length-i) 0 rfl ⟨sk _,λj hj h=>zo⟩ ?_
 rintro i ⟨hi,l5⟩;by_cases e9:i<l.length;case neg=>
  simp only[eZ,seval,ry,Ag e9];unfold Fb;rw[W1.2 λj hj=>l5 j hj zo];rfl
 have hg:=rz e9;have e:=AK (k:=i) zo;by_cases h1:l[i]<0
 ·simp only[eZ,seval,sa,sw,sm,sr,ry,sF,AN e9,hg,h1];unfold Fb;rw[Re e9 λq=>by omega];rfl
 by_cases h2:(n:Int)<=l[i]
 ·simp only[eZ,seval,sa,sw,sm,sr,ry,sF,AN e9,hg,h1,h2];unfold Fb;rw[Re e9 λq=>by omega];rfl
 by_cases h3:Hp l l[i]=(i:Int)
 ·simp only[eZ,seval,sa,sw,sm,sr,ry,sF,AN e9,hg,h1,h2,rP,s2,A3,dI,HL,C1,CG,Aw,hl,A9,h3,e,AF];refine .mk (i+1) rfl ⟨e9,λj hj h=>?_⟩ zo;by_cases q:j=i
  ·subst q;exact⟨zo,zo,h3⟩
  ·exact l5 j hj zo
 ·simp only[eZ,seval,se,sw,sm,sr,ry,sF,AN e9,hg,h1,h2,rP,s2,A3,dI,HL,C1,CG,Aw,hl,A9,h3,AF];unfold Fb;rw[Re e9 λq=>h3 q.2.2];rfl
def Tnm:Bg:=AF 61 (s1 dS KS λs=>.bool (CH s)) (AF 95 (s2 Kj dS (λa _=>Aq a) λa s=>eI (OA a s)) wD)
theorem rQ:AH prog Tnm:=(AH.wD.add (q2 p95)).add (q1 λs _=>p61 s)
theorem Rf{l:List Bs}:(l.all CH&&Bn l)=true↔∀j (hj:j<l.length),CH l[j]=true/\OA l l[j]=(j:Int):=by
 rw[sf,sE,F2];constructor
 ·rintro⟨h1,h2⟩ j hj;exact⟨h1 _ (sC hj),h2 j hj⟩
 ·intro h;refine⟨λx hx=>?_,λj hj=>(h j hj).2⟩;obtain⟨j,hj,rfl⟩:=sV.1 hx;exact(h j hj).1
theorem Rg{l:List Bs}{j:Nat}(hj:j<l.length)(h:¬(CH l[j]=true/\OA l l[j]=(j:Int))):(l.all CH&&Bn l)=false:=by
 cases q:(l.all CH&&Bn l)with
 |false=>rfl
 |true=>exact absurd (Rf.1 q j hj) h
theorem p62(l:List Bs)(most:Nat)(hl:Aq l):Av prog 62 [FN l,.int .i64 most] (.bool (Cm l most)):=by
 refine .mk ⟨⟨zt,D9 0 l⟩,zt,zt⟩ zt (c62.a (AI rQ (AJ ?_)));simp only[eE,eN,seval,ry,c62];refine AQ (λi:Nat=>⟨[(0,true,FN l),(1,true,.int .i64 most),(7,true,FN l),(8,true,.int .i64 l.length),(9,true,.int .i64 i)],Ak,0⟩)
  (λi=>i<=l.length/\∀j (hj:j<l.length),j<i->CH l[j]=true/\OA l l[j]=(j:Int)) (λi=>l.length-i) 0 rfl ⟨sk _,λj hj h=>zo⟩ ?_
 rintro i ⟨hi,l5⟩;by_cases e9:i<l.length;case neg=>
  simp only[eZ,seval,ry,Ag e9];unfold Cm;rw[Rf.2 λj hj=>l5 j hj zo];by_cases h1:1<=l.length<;>by_cases h2:l.length<=most<;>simp [h1,h2]<;>omega
 have hg:=rz e9;have e:=AK (k:=i) zo;by_cases h1:CH l[i]=true
 ·by_cases h3:OA l l[i]=(i:Int)
  ·simp only[eZ,seval,sa,sw,sm,sr,ry,sF,AN e9,hg,Tnm,s1,s2,Kj,dS,HL,C1,JR,GR,Ct,hl,h1,h3,e,AF];refine .mk (i+1) rfl ⟨e9,λj hj h=>?_⟩ zo;by_cases q:j=i
   ·subst q;exact⟨h1,h3⟩
   ·exact l5 j hj zo
  ·simp only[eZ,seval,sa,se,sw,sm,sr,ry,sF,AN e9,hg,Tnm,s1,s2,Kj,dS,HL,C1,JR,GR,Ct,hl,h1,h3,AF];unfold Cm;rw[Rg e9 λq=>h3 q.2];rfl
 ·have h1':CH l[i]=false:=by simpa using h1
  simp only[eZ,seval,sa,se,sw,sm,sr,ry,sF,AN e9,hg,Tnm,s1,s2,Kj,dS,HL,C1,JR,GR,Ct,hl,h1',AF];unfold Cm;rw[Rg e9 λq=>h1 q.1];rfl
end
abbrev GQ(q:Cnd):Fs:=.agg [.int .i64 q.k,Aj q.cs,Aj q.ls,.int .i64 q.n]
abbrev F4(p:Prm):Fs:=.agg [.int .i64 p.c,Aj p.ls]
abbrev Cl(x:zk):Fs:=.agg [.str x.nm,.int .i64 x.lv,FN x.cs,FN x.ls,.sl (.none 4) (x.qs.map GQ),.sl (.none 2) (x.ps.map F4),.int .i64 x.c,.int .i64 x.l]
def FF(n:Nat)(q:Cnd):(GQ q).under n:=⟨zt,⟨zt,Dq n _⟩,⟨zt,Dq n _⟩,zt,zt⟩
def Hq(n:Nat)(p:Prm):(F4 p).under n:=⟨zt,⟨zt,Dq n _⟩,zt⟩
def BN(n:Nat)(x:zk):(Cl x).under n:=⟨zt,zt,⟨zt,D9 n _⟩,⟨zt,D9 n _⟩,⟨zt,BW (FF n) _⟩,⟨zt,BW (Hq n) _⟩,zt,zt,zt⟩
def dd:Fs->Cnd
 | .agg [.int _ k,c,l,.int _ n]=>⟨k,Hy c,Hy l,n⟩
 |_=>⟨0,[],[],0⟩
def dg:Fs->Prm
 | .agg [.int _ c,l]=>⟨c,Hy l⟩
 |_=>⟨0,[]⟩
def jB:Fs->zk
 | .agg [.str nm,.int _ lv,cs,ls,qs,ps,.int _ c,.int _ l]=>⟨nm,lv,QD cs,QD ls,MJ dd qs,MJ dg ps,c,l⟩
 |_=>⟨[],0,[],[],[],[],0,0⟩
def OQ(q:Cnd):dd (GQ q)=q:=by
 simp only[dd,Hy,Aw]
def OR(p:Prm):dg (F4 p)=p:=by
 simp only[dg,Hy,Aw]
def Ti(x:zk):jB (Cl x)=x:=by
 simp only[jB,QD,MJ,Ct,Dx OQ,Dx OR]
def dQ:Dc Cnd:=dEx GQ dd
def dX:Dc zk:=dEx Cl jB
def MP(q:Cnd):dQ.ok (GQ q)=True:=r9 (by show GQ q=GQ (dd (GQ q));rw[OQ])
def It(q:Cnd):dQ.dec (GQ q)=q:=OQ q
def Gm(x:zk):dX.ok (Cl x)=True:=r9 (by show Cl x=Cl (jB (Cl x));rw[Ti])
def Ei(x:zk):dX.dec (Cl x)=x:=Ti x
def dz:Bg:=AF 63 (s3 A3 dI dI (λa n _=>Aq a/\0<=n) λa n k=>.bool (Fb a n.toNat k)) wD
def rR:AH prog dz:=AH.wD.add (q3 λa n k h=>by
 obtain⟨j,rfl⟩:∃j:Nat,n=j:=⟨n.toNat,zo⟩;exact p63 a j k h.1)
def dh{q:Cnd}{nc nl:Nat}(h:(Fb q.cs nc 1&&Fb q.ls nl 0)=false):CJ q nc nl=false:=by
 unfold CJ Fb at*;cases h1:CI q.cs nc<;>cases h2:CI q.ls nl<;>simp [h1,h2]at h⊢;intro q1;omega
def jC{q:Cnd}{nc nl:Nat}(h1:Fb q.cs nc 1=true)(h2:Fb q.ls nl 0=true):CJ q nc nl=(if q.k=1\/q.k=4 then decide (2<=q.cs.length)&&decide (q.ls.length=0)&&decide (q.n=0)
  else if q.k=2 then decide (q.ls.length=1)&&decide (q.n=0)
  else if q.k=3 then decide (q.cs.length=2)&&decide (q.ls.length=0)&&decide (1<=q.n)&&decide (q.n<=99)
  else if q.k=5 then decide (q.cs.length=2)&&decide (q.ls.length=0)&&decide (q.n=0)
  else if q.k=6 then decide (1<=q.ls.length)&&decide (0<=q.n)&&decide (q.n<=q.cs.length)
  else false):=by
 unfold Fb at h1 h2;simp only[sf,si]at h1 h2;unfold CJ;rw[h1.1,h2.1,sK (by omega:1<=q.cs.length)];rfl
def p64(q:Cnd)(nc nl:Nat)(h1:Aq q.cs)(h2:Aq q.ls):Av prog 64 [GQ q,.int .i64 nc,.int .i64 nl] (.bool (CJ q nc nl)):=by
 refine .mk ⟨FF 0 q,zt,zt,zt⟩ zt (cG.a (AI rR (AJ ?_)));cases zl:Fb q.cs nc 1 with
 |false=>
  simp only[eZ,seval,sa,se,sm,sr,cG,dz,s3,A3,dI,HL,C1,CG,Aw,A9,h1,h2,zl,AF];rw[dh (by rw[zl];rfl)]
 |true=>
  cases my:Fb q.ls nl 0 with
  |false=>
   simp only[eZ,seval,sa,se,sm,sr,cG,dz,s3,A3,dI,HL,C1,CG,Aw,A9,h1,h2,zl,my,AF];rw[dh (by rw[zl,my];rfl)]
  |true=>
   rw[jC zl my];obtain⟨k,cs,ls,n⟩:=q;by_cases k1:k=1
   ·subst k1;simp only[eZ,seval,sa,sm,sr,ry,cG,dz,s3,A3,dI,HL,C1,CG,Aw,A9,h1,h2,zl,my,AF];exact(by rw[sP];simp only[sf,si];omega)
   by_cases k4:k=4
   ·subst k4;simp only[eZ,seval,sa,sm,sr,ry,cG,dz,s3,A3,dI,HL,C1,CG,Aw,A9,h1,h2,zl,my,AF];exact(by rw[sP];simp only[sf,si];omega)
   by_cases k2:k=2
   ·subst k2;simp only[eZ,seval,sa,sm,sr,ry,cG,dz,s3,A3,dI,HL,C1,CG,Aw,A9,h1,h2,zl,my,AF];exact(by rw[sP];simp only[sf,si];omega)
   by_cases k3:k=3
   ·subst k3;simp only[eZ,seval,sa,sm,sr,ry,cG,dz,s3,A3,dI,HL,C1,CG,Aw,A9,h1,h2,zl,my,AF];exact(by rw[sP];simp only[sf,si];omega)
   by_cases k5:k=5
   ·subst k5;simp only[eZ,seval,sa,sm,sr,ry,cG,dz,s3,A3,dI,HL,C1,CG,Aw,A9,h1,h2,zl,my,AF];exact(by rw[sP];simp only[sf,si];omega)
   by_cases k6:k=6
   ·subst k6;simp only[eZ,seval,sa,sm,sr,ry,cG,dz,s3,A3,dI,HL,C1,CG,Aw,A9,h1,h2,zl,my,AF];exact(by rw[sP];simp only[sf,si];omega)
   simp only[eZ,seval,sa,sm,sr,ry,cG,dz,s3,A3,dI,HL,C1,CG,Aw,A9,h1,h2,zl,my,k1,k2,k3,k4,k5,k6,AF]
def p150(l:List Bs)(s:Bs)(hl:Aq l):Av prog 150 [FN l,.str s] (eI (OA l s)):=by
 refine .mk ⟨⟨zt,D9 0 l⟩,zt,zt⟩ zt (c150.a (AI AH.wD (AJ ?_)));simp only[eE,eN,seval,c150];refine AQ (λi:Nat=>⟨[(0,true,FN l),(1,true,.str s),(5,true,.int .i64 i)],Ak,0⟩)
  (λi=>i<=l.length/\∀j (hj:j<l.length),j<i->l[j]≠s) (λi=>l.length-i) 0 rfl ⟨sk _,λj hj h=>zo⟩ ?_
 rintro i ⟨hi,l5⟩;by_cases e9:i<l.length;case neg=>
  simp only[eZ,seval,ry,Ag e9];rw[<-Rd,Le λj hj=>l5 j hj zo]
 have hg:=rz e9;have e:=AK (k:=i) zo;by_cases hs:l[i]=s
 ·simp only[eZ,seval,sw,sm,sr,ry,sF,AN e9,hg,BR,hs];rw[<-Rd,F6 e9 hs l5]
 ·simp only[eZ,seval,sw,sm,sr,ry,sF,AN e9,hg,BR,hs,e];refine .mk (i+1) rfl ⟨e9,λj hj h=>?_⟩ zo;by_cases q:j=i
  ·subst q;exact hs
  ·exact l5 j hj zo
def Tzn:Bg:=AF 99 (s1 dS KS λs=>.bool (CH s)) (AF 150 (s2 Kj dS (λa _=>Aq a) λa s=>eI (OA a s)) wD)
def rS:AH prog Tzn:=(AH.wD.add (q2 p150)).add (q1 λs _=>p99 s)
def p100(l:List Bs)(most:Nat)(hl:Aq l):Av prog 100 [FN l,.int .i64 most] (.bool (Cm l most)):=by
 refine .mk ⟨⟨zt,D9 0 l⟩,zt,zt⟩ zt (c100.a (AI rS (AJ ?_)));simp only[eE,eN,seval,c100];refine AQ (λi:Nat=>⟨[(0,true,FN l),(1,true,.int .i64 most),(5,true,.int .i64 i)],Ak,0⟩)
  (λi=>i<=l.length/\∀j (hj:j<l.length),j<i->CH l[j]=true/\OA l l[j]=(j:Int)) (λi=>l.length-i) 0 rfl ⟨sk _,λj hj h=>zo⟩ ?_
 rintro i ⟨hi,l5⟩;by_cases e9:i<l.length;case neg=>
  simp only[eZ,seval,ry,Ag e9];unfold Cm;rw[Rf.2 λj hj=>l5 j hj zo];by_cases h1:1<=l.length<;>by_cases h2:l.length<=most<;>simp [h1,h2]<;>omega
 have hg:=rz e9;have e:=AK (k:=i) zo;by_cases h1:CH l[i]=true
 ·by_cases h3:OA l l[i]=(i:Int)
  ·simp only[eZ,seval,sa,sw,sm,sr,ry,sF,AN e9,hg,Tzn,s1,s2,Kj,dS,HL,C1,JR,GR,Ct,hl,h1,h3,e,AF];refine .mk (i+1) rfl ⟨e9,λj hj h=>?_⟩ zo;by_cases q:j=i
   ·subst q;exact⟨h1,h3⟩
   ·exact l5 j hj zo
  ·simp only[eZ,seval,sa,se,sw,sm,sr,ry,sF,AN e9,hg,Tzn,s1,s2,Kj,dS,HL,C1,JR,GR,Ct,hl,h1,h3,AF];unfold Cm;rw[Rg e9 λq=>h3 q.2];rfl
 ·have h1':CH l[i]=false:=by simpa using h1
  simp only[eZ,seval,sa,se,sw,sm,sr,ry,sF,AN e9,hg,Tzn,s1,s2,Kj,dS,HL,C1,JR,GR,Ct,hl,h1',AF];unfold Cm;rw[Rg e9 λq=>h1 q.1];rfl
def W2{l:List Int}:Bn l=true↔∀i j (hi:i<l.length) (hj:j<l.length),j<i->l[j]≠l[i]:=by
 rw[F2];constructor
 ·intro h i j hi hj hji e;have q1:=h i hi;have q2:=h j hj;rw[e]at q2;rw[q1]at q2;omega
 ·intro h j hj;exact F6 hj rfl λk hk hkj=>h j k hj hk hkj
def p102(l:List Int)(n:Nat)(hl:Aq l):Av prog 102 [Aj l,.int .i64 n] (.bool (CI l n)):=by
 refine .mk ⟨⟨zt,Dq 0 l⟩,zt,zt⟩ zt (c102.a (AI AH.wD (AJ ?_)));have no:∀i (hi:i<l.length),¬(0<=l[i]/\l[i]<n)->CI l n=false:=λi hi q=>Re hi λk=>q ⟨k.1,k.2.1⟩
 simp only[eE,eN,seval,c102];refine AQ (λi:Nat=>⟨[(0,true,Aj l),(1,true,.int .i64 n),(5,true,.int .i64 i)],Ak,0⟩)
  (λi=>i<=l.length/\∀k (hk:k<l.length),k<i->0<=l[k]/\l[k]<n/\∀j (hj:j<l.length),j<k->l[j]≠l[k]) (λi=>l.length-i) 0 rfl ⟨sk _,λj hj h=>zo⟩ ?_
 rintro i ⟨hi,l5⟩;by_cases e9:i<l.length;case neg=>
  simp only[eZ,seval,ry,Ag e9];symm;unfold CI;rw[sf,sE,W2];refine⟨λx hx=>?_,λi j hi hj hji=>(l5 i hi zo).2.2 j hj hji⟩;obtain⟨k,hk,rfl⟩:=sV.1 hx;have:=l5 k hk zo;simp [this.1,this.2.1]
 have hg:=rz e9;have e:=AK (k:=i) zo;by_cases h1:l[i]<0
 ·simp only[eZ,seval,sa,sw,sm,sr,ry,sF,AN e9,hg,h1];rw[no i e9 λq=>by omega]
 by_cases h2:(n:Int)<=l[i]
 ·simp only[eZ,seval,sw,sm,sr,ry,sF,AN e9,hg,h1,h2];rw[no i e9 λq=>by omega]
 simp only[eZ,seval,sw,sm,sr,ry,sF,AN e9,hg,h1,h2];refine AQ (λj:Nat=>⟨[(0,true,Aj l),(1,true,.int .i64 n),(5,true,.int .i64 i),(6,true,.int .i64 j)],Ak,0⟩)
  (λj=>j<=i/\∀k (hk:k<l.length),k<j->l[k]≠l[i]) (λj=>i-j) 0 rfl ⟨sk _,λj hj h=>zo⟩ ?_
 rintro j ⟨hj,hk⟩;by_cases hji:j<i;case neg=>
  simp only[eZ,seval,Ag hji,e];refine .mk (i+1) rfl ⟨e9,λk hkl hki=>?_⟩ zo;by_cases q:k=i
  ·subst q;exact⟨zo,zo,λm hm hmk=>hk m hm zo⟩
  ·exact l5 k hkl zo
 have hltj:j<l.length:=zo
 have yT:=rz hltj;have e':=AK (k:=j) zo;by_cases hs:l[j]=l[i]
 ·simp only[eZ,seval,sw,sm,sr,ry,sF,AN hji,AN e9,AN hltj,hg,yT,hs];cases q:CI l n with
  |false=>rfl
  |true=>
   unfold CI at q;rw[sf]at q;exact absurd hs (W2.1 q.2 i j e9 hltj hji)
 ·simp only[eZ,seval,sw,sm,sr,ry,sF,AN hji,AN e9,AN hltj,hg,yT,hs,e'];refine .mk (j+1) rfl ⟨hji,λk hkl hkj=>?_⟩ zo;by_cases q:k=j
  ·subst q;exact hs
  ·exact hk k hkl zo
def O0:Bg:=AF 102 (s2 A3 dI (λa n=>Aq a/\0<=n) λa n=>.bool (CI a n.toNat)) wD
def jD:AH prog O0:=AH.wD.add (q2 λa n h=>by
 obtain⟨j,rfl⟩:∃j:Nat,n=j:=⟨n.toNat,zo⟩;exact p102 a j h.1)
def p101(q:Cnd)(nc nl:Nat)(h1:Aq q.cs)(h2:Aq q.ls):Av prog 101 [GQ q,.int .i64 nc,.int .i64 nl] (.bool (CJ q nc nl)):=by
 refine .mk ⟨FF 0 q,zt,zt,zt⟩ zt (Oy.a (AI jD (AJ ?_)));obtain⟨k,cs,ls,n⟩:=q;cases zl:CI cs nc with
 |false=>
  simp only[eZ,seval,sa,se,sm,sr,Oy,O0,s2,A3,dI,HL,C1,CG,Aw,A9,h1,h2,zl,AF];unfold CJ;rw[zl];rfl
 |true=>
  cases my:CI ls nl with
  |false=>
   simp only[eZ,seval,sa,se,sm,sr,Oy,O0,s2,A3,dI,HL,C1,CG,Aw,A9,h1,h2,zl,my,AF];unfold CJ;simp only[my,vh,uk]
  |true=>
   unfold CJ;simp only[zl,my,tS,Bool.and_true];by_cases k1:k=1
   ·subst k1;simp only[eZ,seval,sa,sm,sr,ry,Oy,O0,s2,A3,dI,HL,C1,CG,Aw,A9,h1,h2,zl,my,AF];exact(by rw[sP];simp only[sf,si];omega)
   by_cases k4:k=4
   ·subst k4;simp only[eZ,seval,sa,sm,sr,ry,Oy,O0,s2,A3,dI,HL,C1,CG,Aw,A9,h1,h2,zl,my,AF];exact(by rw[sP];simp only[sf,si];omega)
   by_cases k2:k=2
   ·subst k2;simp only[eZ,seval,sa,sm,sr,ry,Oy,O0,s2,A3,dI,HL,C1,CG,Aw,A9,h1,h2,zl,my,AF];exact(by rw[sP];simp only[sf,si];omega)
   by_cases k3:k=3
   ·subst k3;simp only[eZ,seval,sa,sm,sr,ry,Oy,O0,s2,A3,dI,HL,C1,CG,Aw,A9,h1,h2,zl,my,AF];exact(by rw[sP];simp only[sf,si];omega)
   by_cases k5:k=5
   ·subst k5;simp only[eZ,seval,sa,sm,sr,ry,Oy,O0,s2,A3,dI,HL,C1,CG,Aw,A9,h1,h2,zl,my,AF];exact(by rw[sP];simp only[sf,si];omega)
   by_cases k6:k=6
   ·subst k6;simp only[eZ,seval,sa,sm,sr,ry,Oy,O0,s2,A3,dI,HL,C1,CG,Aw,A9,h1,h2,zl,my,AF];exact(by rw[sP];simp only[sf,si];omega)
   simp only[eZ,seval,sa,sm,sr,ry,Oy,O0,s2,A3,dI,HL,C1,CG,Aw,A9,h1,h2,zl,my,k1,k2,k3,k4,k5,k6,AF]
structure wq(x:zk):Prop where
 cs:Aq x.cs
 ls:Aq x.ls
 qs:Aq x.qs
 ps:Aq x.ps
 q:∀q∈x.qs,Aq q.cs/\Aq q.ls
 p:∀p∈x.ps,Aq p.ls
def Yd:Bg:=AF 61 (s1 dS KS λs=>.bool (CH s)) (AF 62 (s2 Kj dI (λa n=>Aq a/\0<=n) λa n=>.bool (Cm a n.toNat)) (AF 63 (s3 A3 dI dI (λa n _=>Aq a/\0<=n) λa n k=>.bool (Fb a n.toNat k))
 (AF 64 (s3 dQ dI dI (λq n m=>(Aq q.cs/\Aq q.ls)/\0<=n/\0<=m) λq n m=>.bool (CJ q n.toNat m.toNat)) wD)))
def jE:AH prog Yd:=(((AH.wD.add (q3 λq n m h=>by
 obtain⟨j,rfl⟩:∃j:Nat,n=j:=⟨n.toNat,zo⟩;obtain⟨k,rfl⟩:∃j:Nat,m=j:=⟨m.toNat,zo⟩;exact p64 q j k h.1.1 h.1.2)).add (q3 λa n k h=>by
 obtain⟨j,rfl⟩:∃j:Nat,n=j:=⟨n.toNat,zo⟩;exact p63 a j k h.1)).add (q2 λa n h=>by
 obtain⟨j,rfl⟩:∃j:Nat,n=j:=⟨n.toNat,zo⟩;exact p62 a j h.1)).add (q1 λs _=>p61 s)
def few1(c:Int):Aq [c]=True:=r9 (by show 1<_;decide)
def JA(x:zk):Int:=if FY x=true then 0 else 300
def hd0(x:zk):Bool:=CH x.nm&&decide (1<=x.lv)&&decide (x.lv<=8)&&Cm x.cs 4&&Cm x.ls 3&&decide ((x.qs.length:Int)<=6)
def hd1(x:zk):Bool:=hd0 x&&Fb [x.c] x.cs.length 1&&Fb [x.l] x.ls.length 1
def rT(x:zk)(i:Nat):Bool:=hd1 x&&(x.qs.take i).all λq=>CJ q x.cs.length x.ls.length
def kT(x:zk)(i:Nat):Bool:=rT x x.qs.length&&(x.ps.take i).all λp=>Fb p.ls x.ls.length 1
def di{x:zk}{i:Nat}(h:i<x.qs.length):rT x (i+1)=(rT x i&&CJ x.qs[i] x.cs.length x.ls.length):=by
 unfold rT;rw[TH h,Bool.and_assoc]
def dk{x:zk}{i:Nat}(h:i<x.ps.length):kT x (i+1)=(kT x i&&Fb x.ps[i].ls x.ls.length 1):=by
 unfold kT;rw[TH h,Bool.and_assoc]
def ind1(c:Int)(n:Nat):Fb [c] n 1=CI [c] n:=by unfold Fb;simp
def jF(x:zk):(kT x x.ps.length&&Fb (x.ps.map (·.c)) x.cs.length 0)=FY x:=by
 unfold kT rT hd1 hd0 FY;rw[ind1,ind1,sD,sD];have e1:Fb (x.ps.map (·.c)) x.cs.length 0=CI (x.ps.map (·.c)) x.cs.length:=by unfold Fb;simp
 have e2:(x.ps.all λp=>Fb p.ls x.ls.length 1)=x.ps.all λp=>CI p.ls x.ls.length&&decide (1<=p.ls.length):=by
  congr 1;funext p;unfold Fb;congr 1;simp;omega
 have e3:decide ((x.qs.length:Int)<=6)=decide (x.qs.length<=6):=by rw[decide_eq_decide];omega
 rw[e1,e2,e3]
abbrev Aa(x:zk):List Fs:=[.str x.nm,.int .i64 x.lv,FN x.cs,FN x.ls,.sl (.none 4) (x.qs.map GQ),.sl (.none 2) (x.ps.map F4),.int .i64 x.c,.int .i64 x.l]
structure Vh where
 i:Nat
 H:AB
 n:Nat
structure Ih(len:Nat)(cs:List Fs)(v:Vh):Prop where
 hi:v.i<=len
 fr:AO v.H v.n
 b:AD v.H 0=some (.box cs)
 hn:1<=v.n
structure Ip(len:Nat)(cs:List Fs)(v:Vg):Prop where
 hi:v.i<=len
 fr:AO v.H v.n
 b:AD v.H 0=some (.box cs)
 hn:1<=v.n
 tok:C8 1 1 v.H v.tk
 es:v.tk.esz=1\/v.i=0
abbrev Tj(H:AB)(n:Nat)(p:Prm):AB:=wB (wB H (n+2) (.box [.int .i64 0,.sl .nil []])) (n+2) (.box [.int .i64 p.c,Aj p.ls])
def p35(x:zk)(hx:wq x):Av prog 35 [Cl x] (eI (JA x)):=by
 refine .mk ⟨BN 0 x,zt⟩ zt (c35.a (AI jE (AJ ?_)));simp only[eZ,seval,sm,sr,ry,c35,Yd,s1,s2,s3,dS,Kj,A3,dI,HL,C1,JR,GR,CG,A9,Ct,hx.cs,hx.ls,few1,AF];refine AQ (λv:Vh=>⟨[(1,true,.ptr 0 0),(3,true,.sl .nil []),(4,true,.bool (rT x v.i)),(58,true,.sl (.none 4) (x.qs.map GQ)),(59,true,.int .i64 x.qs.length),(60,true,.int .i64 v.i)],v.H,v.n⟩) (Ih x.qs.length (Aa x)) (λv=>x.qs.length-v.i)
  ⟨0,wB Ak 0 (.box (Aa x)),2⟩ (by simp only[rT,hd1,hd0,uo,List.all_nil,Bool.and_true];rfl) ⟨sk _,AO.nil.wB (sk 2) (Nat.zero_lt_succ 1),rfl,Nat.succ_le_succ (sk 1)⟩ ?_
 rintro⟨i,H,n⟩ ⟨hi,l9,hb,hn⟩;simp only at hi l9 hb hn;have z1:(0=n+2)=False:=sb zo;have hqn:=hx.qs;have hpn:=hx.ps;by_cases e9:i<x.qs.length
 ·have hg:=rz e9;have e:=AK (k:=i) zo;have hq:=hx.q _ (sC e9);generalize hqq:x.qs[i]=q at hg hq;simp only[eZ,seval,sw,sm,sr,ry,sF,AN e9,hg,Bq l9,hb,Yd,s3,MP,It,dI,CG,A9,hq.1,hq.2,e,AF];refine .mk ⟨i+1,wB (wB H (n+2) (.box [.int .i64 0,.sl .nil [],.sl .nil [],.int .i64 0])) (n+2) (.box [.int .i64 q.k,Aj q.cs,Aj q.ls,.int .i64 q.n]),n+4⟩ ?_ ⟨e9,?_,?_,zp⟩ zp
  ·rw[di e9,hqq]
  ·exact(l9.wB (m:=n+4) zo zo).wB (sj (n+4)) (show n+2<n+4 by omega)
  ·simp only[];rw[AA _ _ _ _ zo,AA _ _ _ _ zo];exact hb
 obtain rfl:i=x.qs.length:=zo
 simp only[eZ,seval,ry,Ag e9,hb];refine AQ (λv:Vg=>⟨[(1,true,.ptr 0 0),(3,true,.sl v.tk ((x.ps.take v.i).map λp=>eI p.c)),(4,true,.bool (kT x v.i)),(77,true,.sl (.none 2) (x.ps.map F4)),(78,true,.int .i64 x.ps.length),(79,true,.int .i64 v.i)],v.H,v.n⟩) (Ip x.ps.length (Aa x)) (λv=>x.ps.length-v.i)
  ⟨0,.nil,H,n⟩ (by simp only[kT,uo,List.all_nil,Bool.and_true,t6];rfl) ⟨sk _,l9,hb,hn,.inl rfl,.inr rfl⟩ ?_
 clear e9 hb l9 hn hi z1;rintro⟨i,tk,H,n⟩ ⟨hi,l9,hb,hn,l7,s7⟩;simp only at hi l9 hb hn l7 s7;by_cases e9:i<x.ps.length
 ·have hg:=rz e9;have e:=AK (k:=i) zo;have hp:=hx.p _ (sC e9);generalize hqq:x.ps[i]=p at hg hp;have z2:(0=n+2)=False:=sb zo;have z3:(0=n+4+4)=False:=sb zo;have wn:AO (Tj H n p) (n+4):=(l9.wB (m:=n+4) zo zo).wB (sj (n+4)) zo;have wp:C8 1 1 (Tj H n p) tk:=(l7.set (.inr (.inr (l9 _ zo)))).set (.inr (.inl ⟨_,AC ..⟩));have my:AD (Tj H n p) 0=some (.box (Aa x)):=by
   rw[AA _ _ _ _ zo,AA _ _ _ _ zo];exact hb
  have hb3:AD (Tj H n p) (n+2)=some (.box [.int .i64 p.c,Aj p.ls]):=AC ..;have k0:AD (AU (Tj H n p) tk) 0=some (.box (Aa x)):=by rw[Ac wp (.inl zo)];exact my
  have k2:AD (AU (Tj H n p) tk) (n+2)=some (.box [.int .i64 p.c,Aj p.ls]):=by rw[Ac wp (.inr ⟨_,hb3⟩)];exact hb3
  have q1:BB (Tj H n p) 1 tk=True:=r9 wp.app;have q2:(i<=35184372088831)=True:=r9 zo;have q3:Al (i+1) 8=True:=r9 (Ae zo zd);have ln:((x.ps.take i).map λp=>eI p.c).length=i:=by simp;omega
  have z4:(n+4+4=0)=False:=sb zo;have z5:(n+8=n+2)=False:=sb zo;have z6:(n+8=0)=False:=sb zo;have z7:(n+2=0)=False:=sb zo;have h8:=l9 (n+8) zo;simp only[eZ,seval,sw,sm,sr,ry,sF,AN e9,hg,Bq l9,z4,z5,q1,q2,q3,ln,k0,k2,Yd,s3,A3,dI,HL,C1,CG,Aw,A9,hp,e,natE3,AF];refine .mk ⟨i+1,.own (n+8) 1,wB (AU (Tj H n p) tk) (n+8) .tok,n+10⟩ (by rw[dk e9,map_take e9,hqq]) ⟨e9,(Ab wp wn).wB (m:=n+10) zo zo,?_,zp,.inr (.inr ⟨n+8,rfl,zo,AC ..⟩),.inl rfl⟩ zp;simp only[];rw[AA _ _ _ _ zo];exact k0
 obtain rfl:i=x.ps.length:=zo
 have hc:x.ps.map (λp=>eI p.c)=(x.ps.map (·.c)).map eI:=by rw[uP];rfl
 have hes':(tk.esz=1\/(x.ps.map (·.c)).map eI=[])=True:=r9 (s7.imp id λe=>by rw[tZ.1 e];rfl);have xg:Aq (x.ps.map (·.c))=True:=r9 (by show(x.ps.map _).length<_;rw[ry];exact hpn);have hfin:=jF x;cases h1:kT x x.ps.length with
 |false=>
  have hl:FY x=false:=by rw[<-hfin,h1];rfl
  simp only[eZ,seval,sa,se,Ag e9];unfold JA;rw[sg (by rw[hl];decide)]
 |true=>
  rw[h1,tS]at hfin;cases hl:FY x with
  |true=>
   simp only[eZ,seval,sa,sm,sr,ry,Ag e9,hb,sD,hc,Yd,s3,A3,dI,HL,C1,CG,Aw,A9,hes',xg,hfin.trans hl,AF];unfold JA;rw[sn hl]
  |false=>
   simp only[eZ,seval,sa,se,sm,sr,ry,Ag e9,hb,sD,hc,Yd,s3,A3,dI,HL,C1,CG,Aw,A9,hes',xg,hfin.trans hl,AF];unfold JA;rw[sg (by rw[hl];decide)]
def kU:Bg:=AF 99 (s1 dS KS λs=>.bool (CH s)) (AF 100 (s2 Kj dI (λa n=>Aq a/\0<=n) λa n=>.bool (Cm a n.toNat)) (AF 102 (s2 A3 dI (λa n=>Aq a/\0<=n) λa n=>.bool (CI a n.toNat))
 (AF 101 (s3 dQ dI dI (λq n m=>(Aq q.cs/\Aq q.ls)/\0<=n/\0<=m) λq n m=>.bool (CJ q n.toNat m.toNat)) wD)))
def rU:AH prog kU:=(((AH.wD.add (q3 λq n m h=>by
 obtain⟨j,rfl⟩:∃j:Nat,n=j:=⟨n.toNat,zo⟩;obtain⟨k,rfl⟩:∃j:Nat,m=j:=⟨m.toNat,zo⟩;exact p101 q j k h.1.1 h.1.2)).add (q2 λa n h=>by
 obtain⟨j,rfl⟩:∃j:Nat,n=j:=⟨n.toNat,zo⟩;exact p102 a j h.1)).add (q2 λa n h=>by
 obtain⟨j,rfl⟩:∃j:Nat,n=j:=⟨n.toNat,zo⟩;exact p100 a j h.1)).add (q1 λs _=>p99 s)
def dif1{c:Int}{n:Nat}:CI [c] n=(decide (0<=c)&&decide (c<n)):=by simp [CI,Bn]
def rV(x:zk):Bool:=CH x.nm&&decide (1<=x.lv)&&decide (x.lv<=8)&&Cm x.cs 4&&Cm x.ls 3&&decide (x.qs.length<=6)
def VP(x:zk):Bool:=decide (0<=x.c)&&decide (x.c<x.cs.length)&&(decide (0<=x.l)&&decide (x.l<x.ls.length))
def rW(x:zk)(p:Prm):Bool:=CI p.ls x.ls.length&&decide (1<=p.ls.length)
def kV(x:zk):FY x=(rV x&&VP x&&(x.qs.all λq=>CJ q x.cs.length x.ls.length)&&x.ps.all (rW x)&&CI (x.ps.map (·.c)) x.cs.length):=by
 unfold FY rV VP;rw[dif1,dif1];simp only[Bool.and_assoc];rfl
def p68(x:zk)(hx:wq x):Av prog 68 [Cl x] (.bool (FY x)):=by
 refine .mk ⟨BN 0 x,zt⟩ zt (c68.a (AI rU (AJ ?_)));have hqn:=hx.qs;have hpn:=hx.ps;simp only[eZ,seval,ry,c68,kU,s1,s2,dS,Kj,dI,HL,C1,JR,GR,CG,A9,Ct,hx.cs,hx.ls,AF];rw[cK_i];refine⟨λhB=>?_,λhB=>?_⟩
 ·simp only[eE,eN,seval];have:rV x=false:=by
   cases q:rV x with
   |false=>rfl
   |true=>
    unfold rV at q;simp only[sf,si]at q;simp only[sQ,tJ,si,q.1.1.1.1.1,q.1.1.2,q.1.2,vW,vZ,false_or]at hB;omega
  rw[kV,this];simp only[uk]
 have hV:rV x=true:=by
  simp only[tY,vg,ti]at hB;unfold rV;simp only[sf,si];exact⟨⟨⟨⟨⟨hB.1.1.1.1.1,zo⟩,zo⟩,hB.1.1.2⟩,hB.1.2⟩,zo⟩
 clear hB;rw[show FY x=_ from kV x,hV,tS];simp only[eZ,seval,ry];rw[cK_i];refine⟨λhB=>?_,λhB=>?_⟩
 ·simp only[eE,eN,seval];have:VP x=false:=by
   cases q:VP x with
   |false=>rfl
   |true=>
    unfold VP at q;simp only[sf,sQ,si]at q hB;omega
  rw[this];simp only[uk]
 have hC:VP x=true:=by
  simp only[tY,ti]at hB;unfold VP;simp only[sf,si];omega
 clear hB;rw[hC,tS];simp only[eE,eN,seval];refine AQ (λi:Nat=>⟨[(1,true,.ptr 0 0),(3,true,.int .i64 i)],wB Ak 0 (.box (Aa x)),2⟩) (λi=>i<=x.qs.length/\∀j (hj:j<x.qs.length),j<i->CJ x.qs[j] x.cs.length x.ls.length=true) (λi=>x.qs.length-i) 0 rfl ⟨sk _,λj hj h=>zo⟩ ?_;rintro i ⟨hi,l5⟩;by_cases e9:i<x.qs.length
 ·have hg:=rz e9;have e:=AK (k:=i) zo;have hq:=hx.q _ (sC e9);cases hc:CJ x.qs[i] x.cs.length x.ls.length with
  |true=>
   simp only[eZ,seval,sa,sw,sm,sr,ry,sF,AN e9,hg,kU,s3,MP,It,dI,CG,A9,hq.1,hq.2,e,hc,AF];refine .mk (i+1) rfl ⟨e9,λj hj h=>?_⟩ zo;by_cases q:j=i
   ·subst q;exact hc
   ·exact l5 j hj zo
  |false=>
   simp only[eZ,seval,se,sw,sm,sr,ry,sF,AN e9,hg,kU,s3,MP,It,dI,CG,A9,hq.1,hq.2,hc,AF];have:(x.qs.all λq=>CJ q x.cs.length x.ls.length)=false:=vq.2 ⟨_,sC e9,by rw[hc];decide⟩;rw[this];simp only[uk]
 have hqa:(x.qs.all λq=>CJ q x.cs.length x.ls.length)=true:=sE.2 λq hq=>by
  obtain⟨j,hj,rfl⟩:=sV.1 hq;exact l5 j hj zo
 rw[hqa,tS];simp only[eZ,seval,ry,Ag e9];clear e9 l5 hi;refine AQ (λv:Vg=>⟨[(1,true,.ptr 0 0),(4,true,.sl v.tk ((x.ps.take v.i).map λp=>eI p.c)),(5,true,.int .i64 v.i)],v.H,v.n⟩) (λv=>Ip x.ps.length (Aa x) v/\v.tk.esz=1/\∀j (hj:j<x.ps.length),j<v.i->rW x x.ps[j]=true) (λv=>x.ps.length-v.i)
  ⟨0,.exact 1,wB Ak 0 (.box (Aa x)),2⟩ rfl ⟨⟨sk _,AO.nil.wB (sk 2) (Nat.zero_lt_succ 1),rfl,Nat.succ_le_succ (sk 1),.inr (.inl rfl),.inl rfl⟩,rfl,λj hj h=>absurd h (tH _)⟩ ?_
 rintro⟨i,tk,H,n⟩ ⟨⟨hi,l9,hb,hn,l7,s7⟩,hes1,l5⟩;simp only at hi l9 hb hn l7 s7 hes1 l5;by_cases e9:i<x.ps.length
 ·have hg:=rz e9;have e:=AK (k:=i) zo;have hp:=hx.p _ (sC e9);generalize hqq:x.ps[i]=p at hg hp;have k0:AD (AU H tk) 0=some (.box (Aa x)):=by rw[Ac l7 (.inl zo)];exact hb
  have q1:BB H 1 tk=True:=r9 l7.app;have q2:(i<=35184372088831)=True:=r9 zo;have q3:Al (i+1) 8=True:=r9 (Ae zo zd);have ln:((x.ps.take i).map λp=>eI p.c).length=i:=by simp;omega
  have z6:(n+8=0)=False:=sb zo;have h8:=l9 (n+8) zo;by_cases hpo:rW x p=true
  ·have hpo':=hpo;unfold rW at hpo';rw[sf,si]at hpo';have l0:((p.ls.length:Int)=0)=False:=sb zo;simp only[eZ,seval,sa,sw,sm,sr,ry,sF,AN e9,hg,Bq l9,hb,z6,q1,q2,q3,ln,k0,kU,s2,A3,dI,HL,C1,CG,Aw,A9,hp,e,l0,hpo'.1,AF];refine .mk ⟨i+1,.own (n+8) 1,wB (AU H tk) (n+8) .tok,n+10⟩ (by rw[map_take e9,hqq]) ⟨⟨e9,(Ab l7 l9).wB (m:=n+10) zo zo,?_,zp,.inr (.inr ⟨n+8,rfl,zo,AC ..⟩),.inl rfl⟩,rfl,?_⟩ zp
   ·simp only[];rw[AA _ _ _ _ zo];exact k0
   ·intro j hj h;simp only[]at h;by_cases q:j=i
    ·subst q;rw[hqq];exact hpo
    ·exact l5 j hj zo
  ·have hpf:x.ps.all (rW x)=false:=vq.2 ⟨_,sC e9,by rw[hqq];exact hpo⟩;rw[hpf,uk];by_cases l1:p.ls.length=0
   ·have l0:((p.ls.length:Int)=0)=True:=r9 zo;simp only[eZ,seval,sa,sw,sm,sr,ry,sF,AN e9,hg,Bq l9,hb,z6,q1,q2,q3,ln,k0,kU,s2,A3,dI,HL,C1,CG,Aw,A9,hp,l0,AF]
   ·have l0:((p.ls.length:Int)=0)=False:=sb zo;have hd:CI p.ls x.ls.length=false:=by
     cases q:CI p.ls x.ls.length with
     |false=>rfl
     |true=>exact absurd (by unfold rW;rw[q,sK (by omega:1<=p.ls.length)];rfl) hpo
    simp only[eZ,seval,se,sw,sm,sr,ry,sF,AN e9,hg,Bq l9,hb,z6,q1,q2,q3,ln,k0,kU,s2,A3,dI,HL,C1,CG,Aw,A9,hp,l0,hd,AF]
 obtain rfl:i=x.ps.length:=zo
 have hpa:x.ps.all (rW x)=true:=sE.2 λq hq=>by
  obtain⟨j,hj,rfl⟩:=sV.1 hq;exact l5 j hj hj
 rw[hpa,tS];have hc:x.ps.map (λp=>eI p.c)=(x.ps.map (·.c)).map eI:=by rw[uP];rfl
 have xg:Aq (x.ps.map (·.c))=True:=r9 (by show(x.ps.map _).length<_;rw[ry];exact hpn);simp only[eZ,seval,sm,sr,ry,Ag e9,hb,sD,hc,kU,s2,A3,dI,HL,C1,CG,Aw,A9,hes1,xg,AF]
def Tzk:Bg:=AF 68 (s1 dX wq λx=>.bool (FY x)) wD
def rX:AH prog Tzk:=AH.wD.add (q1 λx h=>p68 x h)
def p40(x:zk)(hx:wq x):Av prog 40 [Cl x] (eI (JA x)):=by
 refine .mk ⟨BN 0 x,zt⟩ zt (c40.a (AI rX (AJ ?_)));cases hl:FY x with
 |true=>
  simp only[eZ,seval,c40,Tzk,s1,Gm,Ei,r9 hx,hl,AF];unfold JA;rw[sn hl]
 |false=>
  simp only[eZ,seval,c40,Tzk,s1,Gm,Ei,r9 hx,hl,AF];unfold JA;rw[sg (by rw[hl];decide)]
end Go.AM
