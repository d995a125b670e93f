/-
  Parts of the proof. Conditions: none.
-/
import Derived.Test.YtabcmhkkohbdeaaGreatB10
import Derived.Test.YtabcmhkkohbdeaaGreatB7
set_option maxRecDepth 20000
set_option linter.all false
namespace Go.AM
open Go.Lib Go.Proofs Go.Proofs.Tryz
def p173(a b:List Int)(ha:wide a):Av prog 173 [Aj a,Aj b] (.bool (decide (a=b))):=by
 refine .mk ⟨AV 0 _,AV 0 _,zt⟩ zt (iD.a (AI AH.wD (AJ ?_)));have wu:a.length<1125899906842624:=ha;by_cases hl:a.length=b.length;case neg=>
  have hR:decide (a=b)=false:=sA λq=>hl (by rw[q])
  have hq:((a.length:Int)=(b.length:Int))=False:=sb zo;rw[hR];simp only[eZ,seval,se,ry,iD,hq]
 have hq:((a.length:Int)=(b.length:Int))=True:=r9 zo;simp only[eZ,seval,sa,ry,iD,hq];refine AQ (λi:Nat=>⟨[(0,true,Aj a),(1,true,Aj b),(5,true,.int .i64 i)],Ak,0⟩) (λi=>i<=a.length/\a.take i=b.take i) (λi=>a.length-i) 0 rfl ⟨sk _,rfl⟩ ?_;rintro i ⟨hi,l7⟩;by_cases e9:i<a.length
 ·have wO:i<b.length:=zo
  have hg:=rz e9;have wQ:=rz wO;have e:=AK (k:=i) zo;have ta:a.take (i+1)=a.take i++[a[i]]:=by rw[sG,hg];rfl
  have tb:b.take (i+1)=b.take i++[b[i]]:=by rw[sG,wQ];rfl
  generalize a[i]=x at hg ta;generalize b[i]=y at wQ tb;by_cases xH:x=y
  ·simp only[eZ,seval,sa,eY,AN e9,AN wO,hg,wQ,e,xH];exact .mk (i+1) rfl ⟨e9,by rw[ta,tb,l7,xH]⟩ zo
  ·have hR:decide (a=b)=false:=sA λq=>xH (by rw[q]at hg;rw[hg]at wQ;exact Option.some.inj wQ)
   rw[hR];simp only[eZ,seval,se,eY,AN e9,AN wO,hg,wQ,A5 xH]
 obtain rfl:i=a.length:=zo
 have hR:decide (a=b)=true:=sK (by rw[sD,hl,sD]at l7;exact l7);rw[hR];simp only[eZ,seval,ry,Ag e9]
def p234(a b:List Bs)(ha:wide a):Av prog 234 [FN a,FN b] (.bool (decide (a=b))):=by
 refine .mk ⟨CR 0 _,CR 0 _,zt⟩ zt (iF.a (AI AH.wD (AJ ?_)));have wu:a.length<1125899906842624:=ha;by_cases hl:a.length=b.length;case neg=>
  have hR:decide (a=b)=false:=sA λq=>hl (by rw[q])
  have hq:((a.length:Int)=(b.length:Int))=False:=sb zo;rw[hR];simp only[eZ,seval,se,ry,iF,hq]
 have hq:((a.length:Int)=(b.length:Int))=True:=r9 zo;simp only[eZ,seval,sa,ry,iF,hq];refine AQ (λi:Nat=>⟨[(0,true,FN a),(1,true,FN b),(5,true,.int .i64 i)],Ak,0⟩) (λi=>i<=a.length/\a.take i=b.take i) (λi=>a.length-i) 0 rfl ⟨sk _,rfl⟩ ?_;rintro i ⟨hi,l7⟩;by_cases e9:i<a.length
 ·have wO:i<b.length:=zo
  have hg:=rz e9;have wQ:=rz wO;have e:=AK (k:=i) zo;have ta:a.take (i+1)=a.take i++[a[i]]:=by rw[sG,hg];rfl
  have tb:b.take (i+1)=b.take i++[b[i]]:=by rw[sG,wQ];rfl
  generalize a[i]=x at hg ta;generalize b[i]=y at wQ tb;by_cases xH:x=y
  ·simp only[eZ,seval,sa,eY,AN e9,AN wO,hg,wQ,e,A6,BU xH];exact .mk (i+1) rfl ⟨e9,by rw[ta,tb,l7,xH]⟩ zo
  ·have hR:decide (a=b)=false:=sA λq=>xH (by rw[q]at hg;rw[hg]at wQ;exact Option.some.inj wQ)
   rw[hR];simp only[eZ,seval,se,eY,AN e9,AN wO,hg,wQ,A6,A5 xH]
 obtain rfl:i=a.length:=zo
 have hR:decide (a=b)=true:=sK (by rw[sD,hl,sD]at l7;exact l7);rw[hR];simp only[eZ,seval,ry,Ag e9]
def Tsi:Bg:=AF 173 (s2 A3 A3 (λa _=>wide a) λa b=>.bool (decide (a=b))) wD
def lJ:AH prog Tsi:=AH.wD.add (q2 p173)
def p174(a b:List (List Int))(ha:Aq a)(hf:∀x∈a,wide x):Av prog 174 [Br a,Br b] (.bool (decide (a=b))):=by
 refine .mk ⟨BC 0 _,BC 0 _,zt⟩ zt (iE.a (AI lJ (AJ ?_)));have wu:a.length<1000000000:=ha;by_cases hl:a.length=b.length;case neg=>
  have hR:decide (a=b)=false:=sA λq=>hl (by rw[q])
  have hq:((a.length:Int)=(b.length:Int))=False:=sb zo;rw[hR];simp only[eZ,seval,se,ry,iE,hq]
 have hq:((a.length:Int)=(b.length:Int))=True:=r9 zo;simp only[eZ,seval,sa,ry,iE,hq];refine AQ (λi:Nat=>⟨[(0,true,Br a),(1,true,Br b),(5,true,.int .i64 i)],Ak,0⟩) (λi=>i<=a.length/\a.take i=b.take i) (λi=>a.length-i) 0 rfl ⟨sk _,rfl⟩ ?_;rintro i ⟨hi,l7⟩;by_cases e9:i<a.length
 ·have wO:i<b.length:=zo
  have hg:=rz e9;have wQ:=rz wO;have e:=AK (k:=i) zo;have ta:a.take (i+1)=a.take i++[a[i]]:=by rw[sG,hg];rfl
  have tb:b.take (i+1)=b.take i++[b[i]]:=by rw[sG,wQ];rfl
  have hxf:=hf _ (sC e9);generalize a[i]=x at hg ta hxf;generalize b[i]=y at wQ tb;by_cases xH:x=y
  ·simp only[eZ,seval,sa,eY,AN e9,AN wO,hg,wQ,e,Tsi,s2,Ah,Ad,r9 hxf,BU xH,AF];exact .mk (i+1) rfl ⟨e9,by rw[ta,tb,l7,xH]⟩ zo
  ·have hR:decide (a=b)=false:=sA λq=>xH (by rw[q]at hg;rw[hg]at wQ;exact Option.some.inj wQ)
   rw[hR];simp only[eZ,seval,se,eY,AN e9,AN wO,hg,wQ,Tsi,s2,Ah,Ad,r9 hxf,A5 xH,AF]
 obtain rfl:i=a.length:=zo
 have hR:decide (a=b)=true:=sK (by rw[sD,hl,sD]at l7;exact l7);rw[hR];simp only[eZ,seval,ry,Ag e9]
def Tsn:Bg:=AF 234 (s2 Kj Kj (λa _=>wide a) λa b=>.bool (decide (a=b))) wD
def lK:AH prog Tsn:=AH.wD.add (q2 p234)
def p175(a b:zj)(ha:Gl a):Av prog 175 [Bt a,Bt b] (.bool (decide (a=b))):=by
 refine .mk ⟨BP 0 _,BP 0 _,zt⟩ zt (qH.a (AI lK (AJ ?_)));obtain⟨h1,h2⟩:=ha;simp only[eZ,seval,qH,Tsn,s2,Hi,Fz,r9 h1,r9 h2,BR,AF];rw[sP,si,RW];simp only[sf,si];constructor
 ·intro h;simp only[h,and_self]
 ·intro h;simp only[h,and_self]
def jL:Bg:=AF 173 (s2 A3 A3 (λa _=>wide a) λa b=>.bool (decide (a=b))) (AF 174 (s2 OF OF (λa _=>B7 a) λa b=>.bool (decide (a=b))) (AF 175 (s2 Mq Mq (λa _=>Gl a) λa b=>.bool (decide (a=b))) wD))
def lL:AH prog jL:=((AH.wD.add (q2 p175)).add (q2 λa b h=>p174 a b h.1 h.2)).add (q2 p173)
def Y1(x y:xz):(scmp .neq x.nm y.nm|| !decide (x.ls=y.ls))= !decide (x=y):=by
 rw[A6];cases x;cases y;rw[sP];simp [xz.mk.injEq]
def p120(a b:xj)(hd:zy a):Av prog 120 [B6 a,B6 b] (.bool (decide (a=b))):=by
 refine .mk ⟨At 0 _,At 0 _,zt⟩ zt (a120 (AI lL (AJ ?_)));cases h1:decide (a.nm=b.nm/\a.yN=b.yN/\a.sh=b.sh/\a.w=b.w/\a.h=b.h/\a.wC=b.wC)with
 |false=>
  have h1:=vE h1;have hR:decide (a=b)=false:=sA λq=>h1 (by rw[q];exact⟨rfl,rfl,rfl,rfl,rfl,rfl⟩)
  have hb:(scmp .neq a.nm b.nm|| !decide (a.yN=b.yN)|| !decide (a.sh=b.sh)|| !decide (a.w=b.w)|| !decide (a.h=b.h)|| !decide (a.wC=b.wC))=true:=by
   rw[A6,<-vG];intro q;simp only[tY,vg,si,ux]at q;exact h1 q
  rw[hR];simp only[eZ,seval,iG,jL,s2,Ah,Ad,r9 (Dr hd.ho),hb,AF]
 |true=>
 obtain⟨a1,a2,a3,a4,a5,a6⟩:=th h1;have hb:(scmp .neq a.nm b.nm|| !decide (a.yN=b.yN)|| !decide (a.sh=b.sh)|| !decide (a.w=b.w)|| !decide (a.h=b.h)|| !decide (a.wC=b.wC))=false:=by
  rw[A6];simp [a1,a2,a3,a4,a5,a6]
 clear h1;cases h2:decide (a.wE.length=b.wE.length/\a.wK.length=b.wK.length/\a.wG.length=b.wG.length/\a.wF.length=b.wF.length)with
 |false=>
  have h2:=vE h2;have hR:decide (a=b)=false:=sA λq=>h2 (by rw[q];exact⟨rfl,rfl,rfl,rfl⟩)
  have my:(!decide ((a.wE.length:Int)=(b.wE.length:Int))|| !decide ((a.wK.length:Int)=(b.wK.length:Int))|| !decide ((a.wG.length:Int)=(b.wG.length:Int))|| !decide ((a.wF.length:Int)=(b.wF.length:Int)))=true:=by
   rw[<-vG];intro q;simp only[tY,vg,si,ux]at q;exact h2 zo
  rw[hR];simp only[eZ,seval,ry,iG,jL,s2,Ah,Ad,r9 (Dr hd.ho),hb,my,AF]
 |true=>
 obtain⟨l1,l2,l3,l4⟩:=th h2;have my:(!decide ((a.wE.length:Int)=(b.wE.length:Int))|| !decide ((a.wK.length:Int)=(b.wK.length:Int))|| !decide ((a.wG.length:Int)=(b.wG.length:Int))|| !decide ((a.wF.length:Int)=(b.wF.length:Int)))=false:=by
  simp [l1,l2,l3,l4]
 clear h2;simp only[eZ,seval,ry,iG,jL,s2,Ah,Ad,r9 (Dr hd.ho),hb,my,AF];refine AQ (λi:Nat=>⟨[(2,true,.ptr 0 0),(3,true,.ptr 1 0),(5,true,.int .i64 i)],wB (wB Ak 0 (.box (AL a))) 1 (.box (AL b)),3⟩) (λi=>i<=a.wE.length/\a.wE.take i=b.wE.take i) (λi=>a.wE.length-i) 0 rfl ⟨sk _,rfl⟩ ?_;rintro i ⟨hi,l7⟩;have hfl:a.wE.length<1000000000:=hd.sy;by_cases e9:i<a.wE.length
 ·have wO:i<b.wE.length:=zo
  have hg:=rz e9;have wQ:=rz wO;have e:=AK (k:=i) zo;have ta:a.wE.take (i+1)=a.wE.take i++[a.wE[i]]:=by rw[sG,hg];rfl
  have tb:b.wE.take (i+1)=b.wE.take i++[b.wE[i]]:=by rw[sG,wQ];rfl
  generalize a.wE[i]=x at hg ta;generalize b.wE[i]=y at wQ tb;by_cases xH:x=y
  ·have hc:=LS x y;rw[sK xH]at hc;simp only[eZ,seval,sa,eY,AN e9,AN wO,hg,wQ,e,hc,D2];exact .mk (i+1) rfl ⟨e9,by rw[ta,tb,l7,xH]⟩ zo
  ·have hR:decide (a=b)=false:=sA λq=>xH (by rw[q]at hg;rw[hg]at wQ;exact Option.some.inj wQ)
   have hc:=LS x y;rw[sA xH]at hc;rw[hR];simp only[eZ,seval,se,eY,AN e9,AN wO,hg,wQ,hc,D2]
 obtain rfl:i=a.wE.length:=zo
 have b_syms:a.wE=b.wE:=by rw[sD,l1,sD]at l7;exact l7
 simp only[eZ,seval,ry,Ag e9];clear hi l7 hfl e9;refine AQ (λi:Nat=>⟨[(2,true,.ptr 0 0),(3,true,.ptr 1 0),(6,true,.int .i64 i)],wB (wB Ak 0 (.box (AL a))) 1 (.box (AL b)),3⟩) (λi=>i<=a.wK.length/\a.wK.take i=b.wK.take i) (λi=>a.wK.length-i) 0 rfl ⟨sk _,rfl⟩ ?_;rintro i ⟨hi,l7⟩;have hfl:a.wK.length<1000000000:=hd.rg;by_cases e9:i<a.wK.length
 ·have wO:i<b.wK.length:=zo
  have hg:=rz e9;have wQ:=rz wO;have e:=AK (k:=i) zo;have ta:a.wK.take (i+1)=a.wK.take i++[a.wK[i]]:=by rw[sG,hg];rfl
  have tb:b.wK.take (i+1)=b.wK.take i++[b.wK[i]]:=by rw[sG,wQ];rfl
  have hxf:B7 a.wK[i].ls:=hd.rgs _ (sC e9);generalize a.wK[i]=x at hg ta hxf;generalize b.wK[i]=y at wQ tb;by_cases xH:x=y
  ·have hc:=Y1 x y;rw[sK xH]at hc;simp only[eZ,seval,sa,eY,AN e9,AN wO,hg,wQ,e,jL,s2,Db,Cv,r9 hxf,hc,AF];exact .mk (i+1) rfl ⟨e9,by rw[ta,tb,l7,xH]⟩ zo
  ·have hR:decide (a=b)=false:=sA λq=>xH (by rw[q]at hg;rw[hg]at wQ;exact Option.some.inj wQ)
   have hc:=Y1 x y;rw[sA xH]at hc;rw[hR];simp only[eZ,seval,se,eY,AN e9,AN wO,hg,wQ,jL,s2,Db,Cv,r9 hxf,hc,AF]
 obtain rfl:i=a.wK.length:=zo
 have b_regs:a.wK=b.wK:=by rw[sD,l2,sD]at l7;exact l7
 simp only[eZ,seval,ry,Ag e9];clear hi l7 hfl e9;refine AQ (λi:Nat=>⟨[(2,true,.ptr 0 0),(3,true,.ptr 1 0),(7,true,.int .i64 i)],wB (wB Ak 0 (.box (AL a))) 1 (.box (AL b)),3⟩) (λi=>i<=a.wG.length/\a.wG.take i=b.wG.take i) (λi=>a.wG.length-i) 0 rfl ⟨sk _,rfl⟩ ?_;rintro i ⟨hi,l7⟩;have hfl:a.wG.length<1000000000:=hd.cl;by_cases e9:i<a.wG.length
 ·have wO:i<b.wG.length:=zo
  have hg:=rz e9;have wQ:=rz wO;have e:=AK (k:=i) zo;have ta:a.wG.take (i+1)=a.wG.take i++[a.wG[i]]:=by rw[sG,hg];rfl
  have tb:b.wG.take (i+1)=b.wG.take i++[b.wG[i]]:=by rw[sG,wQ];rfl
  generalize a.wG[i]=x at hg ta;generalize b.wG[i]=y at wQ tb;by_cases xH:x=y
  ·have hc:=LT x y;rw[sK xH]at hc;simp only[eZ,seval,sa,eY,AN e9,AN wO,hg,wQ,e,hc,D2];exact .mk (i+1) rfl ⟨e9,by rw[ta,tb,l7,xH]⟩ zo
  ·have hR:decide (a=b)=false:=sA λq=>xH (by rw[q]at hg;rw[hg]at wQ;exact Option.some.inj wQ)
   have hc:=LT x y;rw[sA xH]at hc;rw[hR];simp only[eZ,seval,se,eY,AN e9,AN wO,hg,wQ,hc,D2]
 obtain rfl:i=a.wG.length:=zo
 have b_clus:a.wG=b.wG:=by rw[sD,l3,sD]at l7;exact l7
 simp only[eZ,seval,ry,Ag e9];clear hi l7 hfl e9;refine AQ (λi:Nat=>⟨[(2,true,.ptr 0 0),(3,true,.ptr 1 0),(8,true,.int .i64 i)],wB (wB Ak 0 (.box (AL a))) 1 (.box (AL b)),3⟩) (λi=>i<=a.wF.length/\a.wF.take i=b.wF.take i) (λi=>a.wF.length-i) 0 rfl ⟨sk _,rfl⟩ ?_;rintro i ⟨hi,l7⟩;have hfl:a.wF.length<1000000000:=hd.ru;by_cases e9:i<a.wF.length
 ·have wO:i<b.wF.length:=zo
  have hg:=rz e9;have wQ:=rz wO;have e:=AK (k:=i) zo;have ta:a.wF.take (i+1)=a.wF.take i++[a.wF[i]]:=by rw[sG,hg];rfl
  have tb:b.wF.take (i+1)=b.wF.take i++[b.wF[i]]:=by rw[sG,wQ];rfl
  have hxf:Gl a.wF[i]:=hd.rus _ (sC e9);generalize a.wF[i]=x at hg ta hxf;generalize b.wF[i]=y at wQ tb;by_cases xH:x=y
  ·simp only[eZ,seval,sa,eY,AN e9,AN wO,hg,wQ,e,jL,s2,CC,Bi,r9 hxf,BU xH,AF];exact .mk (i+1) rfl ⟨e9,by rw[ta,tb,l7,xH]⟩ zo
  ·have hR:decide (a=b)=false:=sA λq=>xH (by rw[q]at hg;rw[hg]at wQ;exact Option.some.inj wQ)
   rw[hR];simp only[eZ,seval,se,eY,AN e9,AN wO,hg,wQ,jL,s2,CC,Bi,r9 hxf,A5 xH,AF]
 obtain rfl:i=a.wF.length:=zo
 have b_ruls:a.wF=b.wF:=by rw[sD,l4,sD]at l7;exact l7
 have hR:decide (a=b)=true:=sK (by
  cases a;cases b;simp only at a1 a2 a3 a4 a5 a6 b_syms b_regs b_clus b_ruls;subst a1 a2 a3 a4 a5 a6 b_syms b_regs b_clus b_ruls;rfl)
 rw[hR];simp only[eZ,seval,ry,Ag e9]
def p124(l:List Int)(x:Int)(hl:Aq l):Av prog 124 [Aj l,.int .i64 x] (.bool (l.contains x)):=by
 refine .mk ⟨AV 0 _,zt,zt⟩ zt (pz.a (AI AH.wD (AJ ?_)));have wm:l.length<1000000000:=hl;simp only[eE,eN,seval,pz];refine AQ (λi:Nat=>⟨[(0,true,Aj l),(1,true,.int .i64 x),(5,true,.int .i64 i)],Ak,0⟩) (λi=>i<=l.length/\l.contains x=(l.drop i).contains x) (λi=>l.length-i) 0 rfl ⟨sk _,rfl⟩ ?_;rintro i ⟨hi,hc⟩;by_cases e9:i<l.length
 ·have hg:=rz e9;have e:=AK (k:=i) zo;rw[sO e9,List.contains_cons]at hc;generalize l[i]=y at hg hc;by_cases hy:y=x
  ·have hR:l.contains x=true:=by rw[hc,hy];simp
   rw[hR];simp only[eZ,seval,eY,AN e9,hg,BU hy]
  ·have hy':(x==y)=false:=beq_eq_false_iff_ne.2 λq=>hy q.symm
   rw[hy',ub]at hc;simp only[eZ,seval,eY,AN e9,hg,e,A5 hy];exact .mk (i+1) rfl ⟨e9,hc⟩ zo
 obtain rfl:i=l.length:=zo
 rw[t5]at hc;rw[hc];simp only[eZ,seval,ry,Ag e9];rfl
def jM:Bg:=AF 124 (s2 A3 dI (λl _=>Aq l) λl x=>.bool (l.contains x)) wD
def Tn:AH prog jM:=AH.wD.add (q2 p124)
def JM(wC:List Int)(k:Nat):List Int:=((List.range k).map λ(i:Nat)=>(i:Int)).filter λp=>wC.contains p
def W8(wC:List Int)(k:Nat):JM wC (k+1)=if wC.contains (k:Int)then JM wC k++[(k:Int)]else JM wC k:=by
 unfold JM;rw[uc,su,uh];cases h:wC.contains (k:Int)<;>simp only[sS,t6,tE,uV,h,tD,sY,sN,sR]
def eD(wC:List Int)(k:Nat):(JM wC k).length<=k:=by
 have:=tN (λp=>wC.contains p) ((List.range k).map λ(i:Nat)=>(i:Int));simpa [JM]using this
structure VMh where
 i:Nat
 last:Int
structure VMm where
 k:Nat
 t1:v8
 t2:v8
 H:AB
 n:Nat
structure IMr(sh w h:Int)(wC:List Int)(m:Nat)(v:VMm):Prop where
 hk:v.k<=m
 hn:8<=v.n
 fr:AO v.H v.n
 h0:AD v.H 0=some (.box [z0,z0,z0,zs,zs])
 h6:AD v.H 6=some (.box [.int .i64 sh,.int .i64 w,.int .i64 h,.sl v.t1 ((JM wC v.k).map eI),.sl v.t2 ((Du wC v.k).map eI)])
 tok1:C8 1 7 v.H v.t1
 tok2:C8 1 7 v.H v.t2
 dj:∀i,v.t1= .own i 1->v.t2≠ .own i 1
 es1:v.t1.esz=1\/JM wC v.k=[]
 es2:v.t2.esz=1\/Du wC v.k=[]
def p78(sh w h:Int)(wC:List Int)(hl:Aq wC):Av prog 78 [.int .i64 sh,.int .i64 w,.int .i64 h,Aj wC] (Bf sh w h wC):=by
 refine .mk ⟨zt,zt,zt,AV 0 _,zt⟩ (MK sh w h wC) (c78.a (AI Tn (AJ ?_)));have wm:wC.length<1000000000:=hl;by_cases hc:(sh=1\/sh=2)/\1<=w/\w<=16/\1<=h/\h<=16;case neg=>
  have hn:Bf sh w h wC= .wJ [Ej 0 0 0 [] [],.int .i64 130]:=by
   unfold Bf Au;rw[sg λq=>hc ⟨q.1,q.2.1,q.2.2.1,q.2.2.2.1,q.2.2.2.2.1⟩]
  have hb:(!decide (sh=1)&& !decide (sh=2)||decide (w<1)||decide (16<w)||decide (h<1)||decide (16<h))=true:=by
   rw[<-vG];intro q;simp only[tY,vp,vg,si,ti]at q;exact hc zo
  rw[hn];simp only[eZ,seval,BO,c78,hb];exact RX (Wk.sl (.inr rfl)) (Wk.sl (.inr rfl))
 have hb:(!decide (sh=1)&& !decide (sh=2)||decide (w<1)||decide (16<w)||decide (h<1)||decide (16<h))=false:=by
  simp only[tY,vp,vg,si,ti];omega
 obtain⟨hsh,hw1,hw2,hh1,hh2⟩:=hc;obtain⟨p1,p2⟩:=cu hw1 hw2 hh1 hh2;have hwh:IntKind.wrap .i64 (w*h)=w*h:=A4 zo zo;have am:(Cn (-1) wC&&wC.all λp=>decide (p<w*h))=false->Bf sh w h wC= .wJ [Ej 0 0 0 [] [],.int .i64 130]:=λq=>by
  unfold Bf Au;rw[sg];intro z;rw[z.2.2.2.2.2.2.1,z.2.2.2.2.2.2.2]at q;cases q
 simp only[eZ,seval,c78,hb];refine AQ (λv:VMh=>⟨[(0,true,.int .i64 sh),(1,true,.int .i64 w),(2,true,.int .i64 h),(3,true,Aj wC),(8,true,.ptr 0 0),(10,true,.int .i64 v.i)],wB Ak 0 (.box [z0,z0,z0,zs,zs]),2⟩)
  (λv=>v.i<=wC.length/\(Cn (-1) wC&&wC.all λp=>decide (p<w*h))=(Cn v.last (wC.drop v.i)&&(wC.drop v.i).all λp=>decide (p<w*h))/\(v.i=0->v.last= -1)/\∀j,v.i=j+1->wC[j]?=some v.last/\0<=v.last) (λv=>wC.length-v.i)
  ⟨0,-1⟩ rfl ⟨sk _,rfl,λ_=>rfl,λj q=>by cases q⟩ ?_
 rintro⟨i,last⟩ ⟨hi,he,hz,hs⟩;simp only at hi he hz hs;by_cases e9:i<wC.length
 ·have hg:=rz e9;have e:=AK (k:=i) zo;rw[sO e9,Cn,uR]at he;generalize wC[i]=x at hg he;have xf:last<x/\x<w*h->(Cn (-1) wC&&wC.all λp=>decide (p<w*h))=(Cn x (wC.drop (i+1))&&(wC.drop (i+1)).all λp=>decide (p<w*h)):=λq=>by
   rw[he,sK q.1,sK q.2];simp
  have hstop:¬(last<x/\x<w*h)->(Cn (-1) wC&&wC.all λp=>decide (p<w*h))=false:=λq=>by
   rw[he,<-Bool.not_eq_true];intro z;simp only[sf,si]at z;exact q ⟨z.1.1,z.2.1⟩
  cases i with
  |zero=>
   have hl1:=hz rfl;have h0l:((0:Int)<(wC.length:Int))=True:=r9 zo;have e1:IntKind.wrap .i64 ((0:Int)+1)=1:=zd
   by_cases s9:last<x/\x<w*h
   ·have hd:(decide (x<0)||decide (w*h<=x))=false:=by simp;omega
    simp only[eZ,seval,eY,h0l,hg,e1,hwh,hd];refine .mk ⟨1,x⟩ rfl ⟨e9,xf s9,(λq=>by cases q),λj q=>?_⟩ zp;have q':1=j+1:=q;have:j=0:=zo
    subst this;exact⟨hg,zp⟩
   ·have hd:(decide (x<0)||decide (w*h<=x))=true:=by simp;omega
    rw[am (hstop s9)];simp only[eZ,seval,sa,eY,BO,h0l,hg,hwh,hd];exact RX (Wk.sl (.inr rfl)) (Wk.sl (.inr rfl))
  |succ j=>
   obtain⟨hgl,hl0⟩:=hs j rfl;have hjl:j<wC.length:=zo
   have ej:IntKind.wrap .i64 (((j+1:Nat):Int)-1)=(j:Int):=by rw[A4 zo zo];omega
   by_cases s9:last<x/\x<w*h
   ·have hd:(decide (x<0)||decide (w*h<=x))=false:=by simp;omega
    have hd2:(x<=last)=False:=sb zo;simp only[eZ,seval,eY,AN e9,hg,e,hwh,hd,cS1,ej,AN hjl,hgl,hd2];refine .mk ⟨j+2,x⟩ rfl ⟨e9,xf s9,(λq=>by cases q),λj' q=>?_⟩ zp;have q':j+2=j'+1:=q;have:j'=j+1:=zo
    subst this;exact⟨hg,zp⟩
   ·by_cases hd:(decide (x<0)||decide (w*h<=x))=true
    ·rw[am (hstop s9)];simp only[eZ,seval,sa,eY,BO,AN e9,hg,hwh,hd];exact RX (Wk.sl (.inr rfl)) (Wk.sl (.inr rfl))
    ·have hd:(decide (x<0)||decide (w*h<=x))=false:=by simpa using hd
     have hd':=hd;simp only[tY,ti]at hd';have hd2:(x<=last)=True:=r9 zo;rw[am (hstop s9)];simp only[eZ,seval,eY,BO,AN e9,hg,hwh,hd,cS1,ej,AN hjl,hgl,hd2];exact RX (Wk.sl (.inr rfl)) (Wk.sl (.inr rfl))
 obtain rfl:i=wC.length:=zo
 rw[t5]at he;have he':(Cn (-1) wC&&wC.all λp=>decide (p<w*h))=true:=he;obtain⟨hr1,hr2⟩:=(sf _ _).mp he';obtain⟨r1,r2⟩:=Hc.1 hr1;have wl:∀x∈wC,0<=x/\x<w*h:=λx hx=>⟨by have:=r1 x hx;omega,th (sE.1 hr2 x hx)⟩
 obtain⟨m,hm⟩:∃m:Nat,w*h=(m:Int):=⟨(w*h).toNat,zo⟩;have hmt:(w*h).toNat=m:=zo
 have hwm:IntKind.wrap .i64 (m:Int)=m:=by rw[<-hm];exact hwh
 have hHos:JM wC m=wC:=by
  have:=YT wl r2;unfold Ca at this;rw[hmt]at this;exact this
 have hC:Au sh w h wC=if Du wC m≠[]then some (Du wC m)else none:=by
  rw[<-YR];unfold U7;have ep:((Ca (w*h)).filter λp=>!wC.contains p)=Du wC m:=by unfold Ca Du;rw[hmt]
  rw[ep];by_cases q:Du wC m=[]
  ·rw[sg λz=>z.2.2.2.2.2.2.2 q,sg (λz=>z q)]
  ·rw[sn ⟨hsh,hw1,hw2,hh1,hh2,wl,r2,q⟩,sn q]
 simp only[eZ,seval,ry,Ag e9,hm,AW];refine AQ (λv:VMm=>⟨[(1,true,.int .i64 w),(2,true,.int .i64 h),(3,true,Aj wC),(8,true,.ptr 0 0),(11,true,.ptr 6 0),(12,true,.int .i64 v.k)],v.H,v.n⟩) (IMr sh w h wC m) (λv=>m-v.k)
  ⟨0,.nil,.nil,wB (wB Ak 0 (.box [z0,z0,z0,zs,zs])) 6 (.box [.int .i64 sh,.int .i64 w,.int .i64 h,zs,zs]),8⟩ rfl ⟨sk _,sj _,(AO.nil.wB (m:=8) (sk 8) (show 0<8 by decide)).wB (sj 8) (show 6<8 by decide),rfl,rfl,.inl rfl,.inl rfl,λi q=>(by cases q),.inr rfl,.inr rfl⟩ ?_
 rintro⟨k,t1,t2,H,n⟩ ⟨hk,hn,l9,h0,h6,me,wp,hdj,hes1,hes2⟩;simp only at hk hn l9 h0 h6 me wp hdj hes1 hes2;by_cases yZ:k<m
 ·have e:=AK (k:=k) zo;have hps:=QF wC k;have hhs:=W8 wC k;have xg:=Ww wC k;have hhl:=eD wC k;have y0:∀j,(n+j=6)=False:=λj=>sb zo
  have y1:∀j,(n+j=0)=False:=λj=>sb zo
  cases hin2:wC.contains (k:Int)with
  |true=>
   rw[hin2,sn rfl]at hps hhs;have q1:BB H 1 t1=True:=r9 me.app;have q2:((JM wC k).length<=35184372088831)=True:=r9 zo;have q3:Al ((JM wC k).length+1) 8=True:=r9 (Ae zo zd);have kx:AD (AU H t1) 6=some (.box [.int .i64 sh,.int .i64 w,.int .i64 h,.sl t1 ((JM wC k).map eI),.sl t2 ((Du wC k).map eI)]):=by rw[Ac me (.inl zo)];exact h6
   simp only[eZ,seval,ry,hwm,hm,AN yZ,jM,s2,Ah,Ad,Ay,An,r9 hl,hin2,e,h6,q1,q2,q3,Bq l9,kx,y0,AF];have hdn:∀i,((.own (n+4) 1:v8)= .own i 1)->(t2:v8)≠ .own i 1:=λi q z=>by
    cases q;rcases wp with h|h|⟨id,h,-,h'⟩<;>rw[h]at z<;>cases z
    rw[Bq l9 4]at h';cases h'
   refine .mk ⟨k+1,.own (n+4) 1,t2,wB (wB (AU H t1) (n+4) .tok) 6 (.box [.int .i64 sh,.int .i64 w,.int .i64 h,.sl (.own (n+4) 1) ((JM wC (k+1)).map eI),.sl t2 ((Du wC (k+1)).map eI)]),n+7⟩ ?_ ⟨yZ,zp,((Ab me l9).wB (m:=n+7) zo zo).wB (sj (n+7)) (show 6<n+7 by omega),?_,AC ..,.inr (.inr ⟨n+4,rfl,zo,by rw[AA _ _ _ _ zo];exact AC ..⟩),(((wp.kill me (λi q z=>hdj i z q)).set (.inr (.inr (P8 me (Bq l9 4))))).set (.inl zo)),hdn,.inl rfl,by simp only[hps];exact hes2⟩ zp
   ·simp only[hps,hhs,su];rfl
   ·simp only[];rw[AA _ _ _ _ zo,AA _ _ _ _ zo,Ac me (.inl zo)];exact h0
  |false=>
   rw[hin2,sg zd]at hps hhs;have q1:BB H 1 t2=True:=r9 wp.app;have q2:((Du wC k).length<=35184372088831)=True:=r9 zo;have q3:Al ((Du wC k).length+1) 8=True:=r9 (Ae zo zd);have kx:AD (AU H t2) 6=some (.box [.int .i64 sh,.int .i64 w,.int .i64 h,.sl t1 ((JM wC k).map eI),.sl t2 ((Du wC k).map eI)]):=by rw[Ac wp (.inl zo)];exact h6
   simp only[eZ,seval,ry,hwm,hm,AN yZ,jM,s2,Ah,Ad,Ay,An,r9 hl,hin2,e,h6,q1,q2,q3,Bq l9,kx,y0,AF];have hdn:∀i,((t1:v8)= .own i 1)->(.own (n+4) 1:v8)≠ .own i 1:=λi q z=>by
    cases z;rcases me with h|h|⟨id,h,-,h'⟩<;>rw[h]at q<;>cases q
    rw[Bq l9 4]at h';cases h'
   refine .mk ⟨k+1,t1,.own (n+4) 1,wB (wB (AU H t2) (n+4) .tok) 6 (.box [.int .i64 sh,.int .i64 w,.int .i64 h,.sl t1 ((JM wC (k+1)).map eI),.sl (.own (n+4) 1) ((Du wC (k+1)).map eI)]),n+7⟩ ?_ ⟨yZ,zp,((Ab wp l9).wB (m:=n+7) zo zo).wB (sj (n+7)) (show 6<n+7 by omega),?_,AC ..,(((me.kill wp (λi q=>hdj i q)).set (.inr (.inr (P8 wp (Bq l9 4))))).set (.inl zo)),.inr (.inr ⟨n+4,rfl,zo,by rw[AA _ _ _ _ zo];exact AC ..⟩),hdn,by simp only[hhs];exact hes1,.inl rfl⟩ zp
   ·simp only[hps,hhs,su];rfl
   ·simp only[];rw[AA _ _ _ _ zo,AA _ _ _ _ zo,Ac wp (.inl zo)];exact h0
 obtain rfl:k=m:=zo
 by_cases hp0:Du wC k=[]
 ·have hM:Bf sh w h wC= .wJ [Ej 0 0 0 [] [],.int .i64 130]:=by unfold Bf;rw[hC,sg (λz=>z hp0)]
  have hl0:(((Du wC k).length:Int)=0)=True:=r9 (by rw[hp0];rfl);rw[hM];simp only[eZ,seval,BO,ry,hwm,hm,Ag yZ,h6,h0,hl0];exact RX (Wk.sl (.inr rfl)) (Wk.sl (.inr rfl))
 ·have hM:Bf sh w h wC= .wJ [Ej sh w h wC (Du wC k),.int .i64 0]:=by unfold Bf;rw[hC,sn hp0]
  have hl0:(((Du wC k).length:Int)=0)=False:=sb (λq=>hp0 (tZ.1 zo));rw[hM];simp only[eZ,seval,BO,ry,hwm,hm,Ag yZ,h6,h0,hl0];rw[hHos]at hes1⊢;exact RX (Wk.sl (hes1.imp id λq=>by rw[q];rfl)) (Wk.sl (hes2.imp id λq=>by rw[q];rfl))
def dm:List Fs->AB->Prop×Fs:=λa H=>match a with
 |[.int .i64 sh,.int .i64 w,.int .i64 h,x]=>(A3.ok x/\Aq (A3.dec x),Bf sh w h (A3.dec x))
 |_=>(False,.wJ [])
def qMk:∀args H n,(dm args H).1->Ao prog 78 args H n (dm args H).2:=by
 intro args H n hh;unfold dm at hh⊢;split at hh
 ·obtain⟨h1,h2⟩:=hh;refine AX.args ((p78 _ _ _ _ h2).quiet H n) ?_;rintro g vs ⟨v,r,rfl,k1,w,r',rfl,k2,u,r2,rfl,k3,z,r3,rfl,k4,k5⟩;exact⟨v,_,rfl,k1,w,_,rfl,k2,u,_,rfl,k3,z,_,rfl,A3.wk _ h1 _ _ k4,k5⟩
 ·exact hh.elim
def Tck:Bg:=AF 78 dm (AF 167 (s2 A3 A3 (λa _=>Aq a) λa b=>.bool (decide (a=b))) wD)
def lM:AH prog Tck:=(AH.wD.add (q2 p167)).add qMk
theorem Y2(sh w h:Int)(x:Fs)(H:AB):Tck 78 [.int .i64 sh,.int .i64 w,.int .i64 h,x] H=(A3.ok x/\Aq (A3.dec x),Bf sh w h (A3.dec x)):=rfl
theorem jN(a:List Fs)(H:AB):Tck 167 a H=s2 A3 A3 (λa _=>Aq a) (λa b=>.bool (decide (a=b))) a H:=rfl
def p125(g:v7)(hh:Aq g.wC):Av prog 125 [CM g] (Jh g):=by
 refine .mk ⟨BM 0 ..,zt⟩ zt (cH.a (AI lM (AJ ?_)));unfold Jh GT;cases hc:Au g.sh g.w g.h g.wC with
 |none=>
  have hv:Bf g.sh g.w g.h g.wC= .wJ [Ej 0 0 0 [] [],.int .i64 130]:=by unfold Bf;rw[hc]
  simp only[eZ,seval,sa,se,eY,cH,Y2,Ah,Ad,r9 hh,hv]
 |some c=>
  have hv:Bf g.sh g.w g.h g.wC= .wJ [Ej g.sh g.w g.h g.wC c,.int .i64 0]:=by unfold Bf;rw[hc]
  have hfc:Aq c:=show c.length<_ by have:=(Ba hc).2.1;omega
  by_cases hcc:c=g.cells
  ·have hR:decide (some c=some g.cells)=true:=sK (by rw[hcc]);rw[hR];simp only[eZ,seval,sa,eY,cH,Y2,jN,s2,Ah,Ad,r9 hh,hv,r9 hfc,BU hcc]
  ·have hR:decide (some c=some g.cells)=false:=sA (λq=>hcc (Option.some.inj q));rw[hR];simp only[eZ,seval,sa,se,eY,cH,Y2,jN,s2,Ah,Ad,r9 hh,hv,r9 hfc,A5 hcc]
def Ye(cells:List Int)(p:Int):Fs:=if cells.contains p=true then .wJ [.int .i64 (Fi cells p),.bool true]else .wJ [.int .i64 0,.bool false]
def p129(g:v7)(p:Int)(hf:Aq g.cells)(hs:List.Pairwise (λx y=>x<y) g.cells):Av prog 129 [CM g,.int .i64 p] (Ye g.cells p):=by
 refine .mk ⟨BM 0 ..,zt,zt⟩ (by unfold Ye;split<;>exact⟨zt,zt,zt⟩) (qA.a (AI AH.wD (AJ ?_)));have wm:g.cells.length<1000000000:=hf;simp only[eE,eN,seval,qA];refine AQ (λi:Nat=>⟨[(1,true,.int .i64 p),(2,true,.ptr 0 0),(6,true,.int .i64 i)],wB Ak 0 (.box (AE g.sh g.w g.h g.wC g.cells)),3⟩) (λi=>i<=g.cells.length/\g.cells.contains p=(g.cells.drop i).contains p) (λi=>g.cells.length-i) 0 rfl ⟨sk _,rfl⟩ ?_;rintro i ⟨hi,hc⟩;by_cases e9:i<g.cells.length
 ·have hg:=rz e9;have e:=AK (k:=i) zo;have hlow:=U9 hs e9;rw[sO e9,List.contains_cons]at hc;generalize g.cells[i]=y at hg hc hlow;by_cases hy:y=p
  ·have hR:Ye g.cells p= .wJ [.int .i64 i,.bool true]:=by unfold Ye;rw[sn (by rw[hc,hy];simp),<-hy,hlow]
   rw[hR];simp only[eZ,seval,eY,AN e9,hg,BU hy];exact Wk.refl _
  ·have hy':(p==y)=false:=beq_eq_false_iff_ne.2 λq=>hy q.symm
   rw[hy',ub]at hc;simp only[eZ,seval,eY,AN e9,hg,e,A5 hy];exact .mk (i+1) rfl ⟨e9,hc⟩ zo
 obtain rfl:i=g.cells.length:=zo
 rw[t5]at hc;have hR:Ye g.cells p= .wJ [.int .i64 0,.bool false]:=by unfold Ye;rw[sg (by rw[hc];simp)]
 rw[hR];simp only[eZ,seval,ry,Ag e9];exact Wk.refl _
def rc:Bg:=AF 125 (s1 DS (λg=>Aq g.wC) Jh) (AF 129 (s2 DS dI (λg _=>Aq g.cells/\List.Pairwise (λx y=>x<y) g.cells) λg p=>Ye g.cells p) jM)
def To:AH prog rc:=(Tn.add (q2 λg p h=>p129 g p h.1 h.2)).add (q1 p125)
theorem jO(a:List Fs)(H:AB):rc 125 a H=s1 DS (λg=>Aq g.wC) Jh a H:=rfl
theorem Y3(a:List Fs)(H:AB):rc 129 a H=s2 DS dI (λg _=>Aq g.cells/\List.Pairwise (λx y=>x<y) g.cells) (λg p=>Ye g.cells p) a H:=rfl
theorem jP(a:List Fs)(H:AB):rc 124 a H=s2 A3 dI (λl _=>Aq l) (λl x=>.bool (l.contains x)) a H:=rfl
structure IRj(g:v7)(x:List Int)(H0:AB)(n0:Nat)(v:VRi):Prop where
 hj:v.j<=x.length
 hn:n0<=v.n
 fr:AO v.H v.n
 hk:∀id,id<n0->AD v.H id=AD H0 id
 tok:C8 1 n0 v.H v.tc
 es:v.tc.esz=1\/v.j=0
 sub:∀q∈x.take v.j,q∈g.cells
 eq:HE g.cells [] x=HE g.cells (x.take v.j) (x.drop v.j)
 nd:(x.take v.j).Nodup
def p81(g:v7)(lists:List (List Int))(hG:Au g.sh g.w g.h g.wC=some g.cells)(hh:Aq g.wC)(hl:B7 lists):Av prog 81 [CM g,Br lists] (EB g.cells lists):=by
 refine .mk ⟨BM 0 ..,BC 0 _,zt⟩ (by unfold EB;split<;>exact⟨BC 0 _,zt,zt⟩) (c81.a (AI To (AJ ?_)));obtain⟨hr1,hr2,hr3⟩:=Ba hG;have hfc:Aq g.cells:=show g.cells.length<_ by omega
 have hgo:GT g.sh g.w g.h g.wC g.cells=true:=by unfold GT;rw[hG];simp
 have wm:lists.length<1000000000:=hl.1;by_cases h64:64<lists.length
 ·have hv:EB g.cells lists= .wJ [Br [],.int .i64 130]:=by unfold EB;rw[sg];simp;omega
  have l64:((64:Int)<(lists.length:Int))=True:=r9 zo;rw[hv];simp only[eZ,seval,sa,ry,c81,jO,s1,Fu,Dk,r9 hh,hgo,l64];exact Wk.wJ (.cons (Wk.sl (.inr rfl)) (.cons (Wk.refl _) .nil))
 have l64:((64:Int)<(lists.length:Int))=False:=sb zo;simp only[eZ,seval,sa,ry,c81,jO,s1,Fu,Dk,r9 hh,hgo,l64];have am:lists.all (Ee g.cells)=false->EB g.cells lists= .wJ [Br [],.int .i64 130]:=λq=>by unfold EB;rw[q,vh,sg zd]
 refine AQ (λv:VRg=>⟨[(1,true,Br lists),(2,true,.ptr 0 0),(6,true,.sl v.tl v.E),(7,true,.int .i64 v.i)],v.H,v.n⟩) (IRg g lists) (λv=>lists.length-v.i)
  ⟨0,[],.nil,wB Ak 0 (.box (AE g.sh g.w g.h g.wC g.cells)),3⟩ rfl ⟨sk _,sj _,AO.nil.wB (m:=3) (sk 3) (show 0<3 by decide),rfl,.inl rfl,.inr rfl,.nil,rfl⟩ ?_
 rintro⟨i,E,tl,H,n⟩ hI;have hi:=hI.hi;have hn:=hI.hn;have l9:=hI.fr;have h0:=hI.h0;have l7:=hI.tok;have s7:=hI.es;have hE:=hI.hE;have heq:=hI.eq;simp only at hi hn l9 h0 l7 s7 hE heq;by_cases e9:i<lists.length;case neg=>
  have z9:i=lists.length:=zo
  subst z9;rw[t5]at heq;rw[sD]at hE;have hv:EB g.cells lists= .wJ [Br (lists.map (Bo g.cells)),.int .i64 0]:=by
   unfold EB;rw[heq,sn];simp;omega
  rw[hv];simp only[eZ,seval,ry,Ag e9];exact Wk.wJ (.cons (Wk.yY s7 hE) (.cons (Wk.refl _) .nil))
 have hg:=rz e9;have e:=AK (k:=i) zo;have hxf:=hl.2 _ (sC e9);have hxe:=map_take (f:=Bo g.cells) e9;rw[sO e9,uR]at heq;generalize hx:lists[i]=x at hg hxf heq hxe;have hxl:x.length<1125899906842624:=hxf;simp only[eZ,seval,ry,AN e9];refine AQ (λv:VRi=>⟨[(1,true,Br lists),(2,true,.ptr 0 0),(6,true,.sl tl E),(7,true,.int .i64 i),(8,true,.sl v.tc ((Bo g.cells (x.take v.j)).map eI)),(9,true,.int .i64 v.j)],v.H,v.n⟩)
  (IRj g x H n) (λv=>x.length-v.j) ⟨0,.nil,H,n⟩ rfl ⟨sk _,sj _,l9,λid s5=>rfl,.inl rfl,.inr rfl,λq hq=>by(simp at hq),rfl,zw⟩ ?_
 rintro⟨j,tc,H1,n1⟩ ⟨hj,to,wW,hk,htc,hec,hsub,hme,hnd⟩;simp only at hj to wW hk htc hec hsub hme hnd;have hj256:j<=256:=by
  have:=KZ hnd hsub;rw[sU]at this;omega
 have wh:AD H1 0=some (.box (AE g.sh g.w g.h g.wC g.cells)):=by rw[hk 0 zo];exact h0
 by_cases s6:j<x.length
 ·have yT:=rz s6;have ej:=AK (k:=j) zo;have htx:=map_take (f:=λp=>(Fi g.cells p:Int)) s6;have yW:x.take (j+1)=x.take j++[x[j]]:=by rw[sG,yT];rfl
  rw[sO s6,HE]at hme;have hlen:(Bo g.cells (x.take j)).length=j:=by rw[I4,sU];omega
  have hcf:Aq (Bo g.cells (x.take j)):=show(Bo g.cells (x.take j)).length<_ by omega
  generalize hp:x[j]=p at yT htx yW hme;have v9:(g.cells.contains p&& !(x.take j).contains p)=false->EB g.cells lists= .wJ [Br [],.int .i64 130]:=λq=>am (by
   rw[heq,HF,hme,q];simp)
  cases wl:g.cells.contains p with
  |false=>
   have hat:Ye g.cells p= .wJ [.int .i64 0,.bool false]:=by unfold Ye;rw[wl,sg zd]
   rw[v9 (by rw[wl];rfl)];simp only[eZ,seval,sa,se,eY,AN e9,hg,AN s6,yT,wh,Y3,s2,Fu,Dk,Ay,An,r9 hfc,r9 hr1,hat];exact Wk.wJ (.cons (Wk.sl (.inr rfl)) (.cons (Wk.refl _) .nil))
  |true=>
   have hat:Ye g.cells p= .wJ [.int .i64 (Fi g.cells p),.bool true]:=by unfold Ye;rw[wl,sn rfl]
   have hpm:p∈g.cells:=t9.1 wl;have hcm:=TQ hr1 hsub hpm;have htcok:A3.ok (.sl tc ((Bo g.cells (x.take j)).map eI))=True:=r9 ⟨hec.imp id λq=>by rw[q];rfl,by rw[Aw]⟩;have htcdec:A3.dec (.sl tc ((Bo g.cells (x.take j)).map eI))=Bo g.cells (x.take j):=Aw _;cases hmt:(x.take j).contains p with
   |true=>
    rw[v9 (by rw[wl,hmt];rfl)];rw[hmt]at hcm;simp only[eZ,seval,sa,eY,AN e9,hg,AN s6,yT,wh,Y3,jP,s2,Fu,Dk,Ay,An,htcok,htcdec,r9 hfc,r9 hr1,r9 hcf,hat,hcm];exact Wk.wJ (.cons (Wk.sl (.inr rfl)) (.cons (Wk.refl _) .nil))
   |false=>
    rw[hmt]at hcm;have q1:BB H1 1 tc=True:=r9 htc.app;have q2:(j<=35184372088831)=True:=r9 zo;have q3:Al (j+1) 8=True:=r9 (Ae zo zd);simp only[eZ,seval,sa,eY,AN e9,hg,AN s6,yT,wh,Y3,jP,s2,Fu,Dk,Ay,An,htcok,htcdec,r9 hfc,r9 hr1,r9 hcf,hat,hcm,ej,q1,q2,q3,hlen,Bq wW];have wx:Bo g.cells (x.take (j+1))=Bo g.cells (x.take j)++[(Fi g.cells p:Int)]:=htx;refine .mk ⟨j+1,.own (n1+3) 1,wB (AU H1 tc) (n1+3) .tok,n1+5⟩ ?_ ⟨s6,zp,(Ab htc wW).wB (m:=n1+5) zo zo,λid s5=>?_,.inr (.inr ⟨n1+3,rfl,zo,AC ..⟩),.inl rfl,λq hq=>?_,?_,?_⟩ zp
    ·rw[wx,su];rfl
    ·simp only[];rw[AA _ _ _ _ zo,Ac htc (.inl s5)];exact hk id s5
    ·simp only[yW]at hq;rcases tP.1 hq with q1|q1
     ·exact hsub q q1
     ·rw[tB.1 q1];exact hpm
    ·simp only[];rw[yW,hme,wl,hmt];rfl
    ·simp only[];rw[yW,uD];refine⟨hnd,zw,λa ha b hb e=>?_⟩;rw[tB]at hb;subst hb;subst e;rw[t9.2 ha]at hmt;cases hmt
 have hj':j=x.length:=zo
 subst hj';rw[t5,sD]at hme;have hlx:(Bo g.cells (x.take x.length)).length=x.length:=by rw[I4,sD]
 by_cases hx0:x.length=0
 ·have v9:EB g.cells lists= .wJ [Br [],.int .i64 130]:=am (by rw[heq,HF,hx0];simp);rw[v9];simp only[eZ,seval,eY,AN e9,hg,Ag s6,hlx,BU (show((x.length:Nat):Int)=0 by omega)];exact Wk.wJ (.cons (Wk.sl (.inr rfl)) (.cons (Wk.refl _) .nil))
 have hEl:E.length<=64:=by
  have:=hE.len;simp only[ry,sU]at this;omega
 have me:C8 1 1 H1 tl:=by
  rcases l7 with rfl|rfl|⟨id,rfl,h1,h2⟩
  ·exact .inl rfl
  ·exact .inr (.inl rfl)
  ·exact .inr (.inr ⟨id,rfl,h1,by rw[hk id (l9.lt h2)];exact h2⟩)
 have q1:BB H1 1 tl=True:=r9 me.app;have q2:(E.length<=35184372088831)=True:=r9 zo;have q3:Al (E.length+1) 24=True:=r9 (Ae zo zd);simp only[eZ,seval,eY,AN e9,hg,Ag s6,hlx,A5 (show ¬((x.length:Nat):Int)=0 by omega),e,q1,q2,q3,Bq wW];refine .mk ⟨i+1,E++[.sl tc ((Bo g.cells x).map eI)],.own (n1+3) 1,wB (AU H1 tl) (n1+3) .tok,n1+5⟩ ?_ ⟨e9,zp,(Ab me wW).wB (m:=n1+5) zo zo,?_,.inr (.inr ⟨n1+3,rfl,zo,AC ..⟩),.inl rfl,?_,?_⟩ zp
 ·rw[sD]
 ·simp only[];rw[AA _ _ _ _ zo,Ac me (.inl zo)];exact wh
 ·simp only[];rw[hxe,su];exact hE.app (.cons (Wk.sl (hec.imp id λq=>by rw[tZ.1 q];rfl)) .nil)
 ·simp only[];have s9:Ee g.cells x=true:=by rw[HF,hme];simp [HE];omega
  rw[heq,s9,tS]
def Iv{α:Type}{p:α->Bool}{l:List α}{i:Nat}(h:i<l.length):(l.drop i).all p=(p l[i]&&(l.drop (i+1)).all p):=by
 rw[sO h,uR]
def p176(a b:List Int)(ha:Aq a)(hb:Aq b):Av prog 176 [Aj a,Aj b] (.bool (DY a b)):=by
 refine .mk ⟨AV 0 _,AV 0 _,zt⟩ zt (qC.a (AI Tn (AJ ?_)));have wu:a.length<1000000000:=ha;have hbl:b.length<1000000000:=hb;simp only[eE,eN,seval,qC];refine AQ (λi:Nat=>⟨[(0,true,Aj a),(1,true,Aj b),(5,true,.int .i64 i)],Ak,0⟩) (λi=>i<=a.length/\(a.all λx=>b.contains x)=((a.drop i).all λx=>b.contains x)) (λi=>a.length-i) 0 rfl ⟨sk _,rfl⟩ ?_;rintro i ⟨hi,hc⟩;by_cases e9:i<a.length
 ·have hg:=rz e9;have e:=AK (k:=i) zo;rw[Iv e9]at hc;generalize a[i]=x at hg hc;cases hx:b.contains x with
  |false=>
   have hR:DY a b=false:=by unfold DY;rw[hc,hx];simp
   rw[hR];simp only[eZ,seval,se,eY,AN e9,hg,jM,s2,Ah,Ad,Ay,An,r9 hb,hx,AF]
  |true=>
   rw[hx,tS]at hc;simp only[eZ,seval,sa,eY,AN e9,hg,e,jM,s2,Ah,Ad,Ay,An,r9 hb,hx,AF];exact .mk (i+1) rfl ⟨e9,hc⟩ zo
 obtain rfl:i=a.length:=zo
 rw[t5]at hc;have hc:(a.all λx=>b.contains x)=true:=hc;simp only[eZ,seval,ry,Ag e9];refine AQ (λi:Nat=>⟨[(0,true,Aj a),(1,true,Aj b),(6,true,.int .i64 i)],Ak,0⟩) (λi=>i<=b.length/\(b.all λx=>a.contains x)=((b.drop i).all λx=>a.contains x)) (λi=>b.length-i) 0 rfl ⟨sk _,rfl⟩ ?_;rintro i ⟨hi2,hc2⟩;by_cases yZ:i<b.length
 ·have hg:=rz yZ;have e:=AK (k:=i) zo;rw[Iv yZ]at hc2;generalize b[i]=x at hg hc2;cases hx:a.contains x with
  |false=>
   have hR:DY a b=false:=by unfold DY;rw[hc2,hx];simp
   rw[hR];simp only[eZ,seval,se,eY,AN yZ,hg,jM,s2,Ah,Ad,Ay,An,r9 ha,hx,AF]
  |true=>
   rw[hx,tS]at hc2;simp only[eZ,seval,sa,eY,AN yZ,hg,e,jM,s2,Ah,Ad,Ay,An,r9 ha,hx,AF];exact .mk (i+1) rfl ⟨yZ,hc2⟩ zo
 obtain rfl:i=b.length:=zo
 rw[t5]at hc2;have hc2:(b.all λx=>a.contains x)=true:=hc2;have hR:DY a b=true:=by unfold DY;rw[hc,hc2];rfl
 rw[hR];simp only[eZ,seval,ry,Ag yZ]
def Tzr:Bg:=AF 81 (s2 DS OF (λg l=>Au g.sh g.w g.h g.wC=some g.cells/\Aq g.wC/\B7 l) λg l=>EB g.cells l) (AF 176 (s2 A3 A3 (λa b=>Aq a/\Aq b) λa b=>.bool (DY a b)) wD)
def lN:AH prog Tzr:=(AH.wD.add (q2 λa b h=>p176 a b h.1 h.2)).add (q2 λg l h=>p81 g l h.1 h.2.1 h.2.2)
def p121(d:xj)(g:v7)(hd:zy d)(hG:Au g.sh g.w g.h g.wC=some g.cells)(hh:Aq g.wC):Av prog 121 [B6 d,CM g] (.int .i64 (DO g.cells d.wK)):=by
 refine .mk ⟨At 0 d,BM 0 ..,zt⟩ zt (qD.a (AI lN (AJ ?_)));have hrl:d.wK.length<1000000000:=hd.rg;simp only[eE,eN,seval,qD];refine AQ (λi:Nat=>⟨[(2,true,.ptr 0 0),(3,true,.ptr 1 0),(5,true,.int .i64 i)],wB (wB Ak 0 (.box (AL d))) 1 (.box (AE g.sh g.w g.h g.wC g.cells)),3⟩) (λi=>i<=d.wK.length/\DO g.cells d.wK=DO g.cells (d.wK.drop i)) (λi=>d.wK.length-i)
  0 rfl ⟨sk _,rfl⟩ ?_
 rintro i ⟨hi,heq⟩;by_cases e9:i<d.wK.length;case neg=>
  obtain rfl:i=d.wK.length:=zo
  rw[t5]at heq;rw[heq];simp only[eZ,seval,ry,Ag e9];rfl
 have hg:=rz e9;have e:=AK (k:=i) zo;have hrf:OI d.wK[i]:=hd.rgs _ (sC e9);rw[QC _ _ _ e9]at heq;generalize d.wK[i]=r at hg hrf heq;have hc:=r9 (⟨hG,hh,hrf⟩:Au g.sh g.w g.h g.wC=some g.cells/\Aq g.wC/\B7 r.ls);by_cases hb:(decide (r.ls.length<=64)&&r.ls.all (Ee g.cells))=true;case neg=>
  have hv:EB g.cells r.ls= .wJ [Br [],.int .i64 130]:=sg hb;have hE:LK g.cells r=130:=sn (by simpa using hb);rw[hE,sg zd]at heq;rw[heq];simp only[eZ,seval,se,eY,AN e9,hg,Tzr,s2,Fu,Dk,Db,Cv,hc,hv,AF]
 have hv:EB g.cells r.ls= .wJ [Br (r.ls.map (Bo g.cells)),.int .i64 0]:=sn hb;have hregE:LK g.cells r=if Cq r.ls=true then 161 else 0:=by unfold LK;rw[hb,sg zd]
 have wm:r.ls.length<1000000000:=hrf.1;have hfw:∀l∈r.ls,Aq l:=λl hl=>by
  obtain⟨q1,-,q3⟩:=Hd (sE.1 ((sf _ _).mp hb).2 _ hl);have h1:=KZ q1 q3;have h2:=(Ba hG).2.1;show l.length<_;omega
 simp only[eZ,seval,sa,eY,AN e9,hg,Tzr,s2,Fu,Dk,Db,Cv,hc,hv,AF];refine AQ (λa:Nat=>⟨[(2,true,.ptr 0 0),(3,true,.ptr 1 0),(5,true,.int .i64 i),(6,true,Br r.ls),(9,true,.int .i64 a)],wB (wB Ak 0 (.box (AL d))) 1 (.box (AE g.sh g.w g.h g.wC g.cells)),3⟩) (λa=>a<=r.ls.length/\∀x y (hx:x<r.ls.length) (hy:y<r.ls.length),x<a->y<x->DY r.ls[x] r.ls[y]=false) (λa=>r.ls.length-a)
  0 rfl ⟨sk _,λx y _ _ q=>absurd q (tH _)⟩ ?_
 rintro a ⟨ha,v9⟩;by_cases hla:a<r.ls.length
 ·have xW:=rz hla;have ea:=AK (k:=a) zo;have hfa:Aq r.ls[a]:=hfw _ (sC hla);simp only[eZ,seval,ry,AN hla];refine AQ (λb:Nat=>⟨[(2,true,.ptr 0 0),(3,true,.ptr 1 0),(5,true,.int .i64 i),(6,true,Br r.ls),(9,true,.int .i64 a),(10,true,.int .i64 b)],wB (wB Ak 0 (.box (AL d))) 1 (.box (AE g.sh g.w g.h g.wC g.cells)),3⟩) (λb=>b<=a/\∀y (hy:y<r.ls.length),y<b->DY r.ls[a] r.ls[y]=false) (λb=>a-b)
   0 rfl ⟨sk _,λy _ q=>absurd q (tH _)⟩ ?_
  rintro b ⟨my,xn⟩;by_cases hlb:b<a
  ·have hbl:b<r.ls.length:=zo
   have wQ:=rz hbl;have eb:=AK (k:=b) zo;have hfb:Aq r.ls[b]:=hfw _ (sC hbl);cases wu:DY r.ls[a] r.ls[b]with
   |true=>
    rw[hregE,sn (Ii.2 ⟨a,b,hla,hbl,hlb,wu⟩),sg zd]at heq;rw[heq];generalize r.ls[a]=la at xW hfa wu;generalize r.ls[b]=lb at wQ hfb wu;simp only[eZ,seval,eY,AN hlb,AN hla,AN hbl,xW,wQ,Tzr,s2,Ah,Ad,r9 hfa,r9 hfb,wu,AF]
   |false=>
    have hnx:∀y (hy:y<r.ls.length),y<b+1->DY r.ls[a] r.ls[y]=false:=λy hy q=>by
     by_cases z:y=b
     ·subst z;exact wu
     ·exact xn y hy zo
    generalize hA:r.ls[a]=la at xW hfa wu;generalize hB:r.ls[b]=lb at wQ hfb wu;simp only[eZ,seval,eY,AN hlb,AN hla,AN hbl,xW,wQ,Tzr,s2,Ah,Ad,r9 hfa,r9 hfb,wu,eb,AF];exact .mk (b+1) rfl ⟨hlb,λy hy q=>by rw[<-hA];exact hnx y hy q⟩ zo
  obtain rfl:b=a:=zo
  simp only[eZ,seval,Ag hlb,ea];refine .mk (b+1) rfl ⟨hla,λx y hx hy q1 q2=>?_⟩ zo;by_cases z:x=b
  ·subst z;exact xn y hy q2
  ·exact v9 x y hx hy zo q2
 obtain rfl:a=r.ls.length:=zo
 have hpt:Cq r.ls=false:=by
  cases q:Cq r.ls with
  |false=>rfl
  |true=>
   obtain⟨x,y,hx,hy,xH,h2⟩:=Ii.1 q;rw[v9 x y hx hy hx xH]at h2;cases h2
 have hE0:LK g.cells r=0:=by rw[hregE,hpt];rfl
 rw[hE0,sn rfl]at heq;simp only[eZ,seval,ry,Ag hla,e];exact .mk (i+1) rfl ⟨e9,heq⟩ zo
def p178(c:x8):Av prog 178 [Cb c] (.bool (Ds c)):=by
 refine .mk ⟨Gk 0 c,zt⟩ zt (YL.a (AI AH.wD (AJ ?_)));unfold Ds;by_cases h1:c.ty=1
 ·simp only[eZ,seval,YL,h1]
 by_cases h2:c.ty=2
 ·simp only[eZ,seval,YL,h2]
 by_cases h3:c.ty=3
 ·simp only[eZ,seval,YL,h3];rw[show(decide (1<=c.xX)&&decide (c.xX<=3)||decide (8<=c.xX))=(decide (c.xX=1)||decide (c.xX=2)||decide (c.xX=3)||decide (8<=c.xX))by
   rw[sP];simp;omega]
 simp only[eZ,seval,YL,h1,h2,h3]
def p236(d:xj)(r:zj)(w:Int)(on:Bool):Av prog 236 [B6 d,Bt r,.int .i64 w,.bool on] (.bool (DQ d.wG r w on)):=by
 refine .mk ⟨At 0 d,BP 0 r,zt,zt,zt⟩ zt (cI.a (AI AH.wD (AJ ?_)));by_cases hc:r.wP<0\/(d.wG.length:Int)<=r.wP
 ·have wo:(decide (r.wP<0)||decide ((d.wG.length:Int)<=r.wP))=true:=by simpa using hc
  have hP:DQ d.wG r w on=false:=by unfold DQ;rw[sn hc]
  rw[hP];simp only[eZ,seval,ry,cI,wo]
 ·have wo:(decide (r.wP<0)||decide ((d.wG.length:Int)<=r.wP))=false:=by simp;omega
  obtain⟨j,hj⟩:∃j:Nat,r.wP=(j:Int):=⟨r.wP.toNat,zo⟩;have hjl:j<d.wG.length:=zo
  have hg:=rz hjl;generalize d.wG[j]=c at hg;have hP:DQ d.wG r w on=(decide (c.ty=w)&&(!on||decide (c.xX=r.xX))):=by
   unfold DQ;(rw[sg hc,hj,sm,hg])<;>rfl
  rw[hP];rw[hj]at wo;cases on
  ·simp only[eZ,seval,sa,se,eY,cI,hj,wo,AN hjl,hg]
  ·simp only[eZ,seval,sa,eY,cI,hj,wo,AN hjl,hg]
def sCl:List Fs->AB->Prop×Fs:=λa H=>match a with
 |[x,y,.int .i64 w,.bool on]=>(dD.ok x/\Mq.ok y,.bool (DQ (dD.dec x).wG (Mq.dec y) w on))
 |_=>(False,.wJ [])
def qCl:∀args H n,(sCl args H).1->Ao prog 236 args H n (sCl args H).2:=by
 intro args H n hh;unfold sCl at hh⊢;split at hh
 ·obtain⟨h1,h2⟩:=hh;refine AX.args ((p236 _ _ _ _).quiet H n) ?_;rintro g vs ⟨v,r,rfl,k1,w,r',rfl,k2,k3⟩;exact⟨v,_,rfl,dD.wk _ h1 _ _ k1,w,_,rfl,Mq.wk _ h2 _ _ k2,k3⟩
 ·exact hh.elim
def Tzc:Bg:=AF 236 sCl wD
def Y4:AH prog Tzc:=AH.wD.add qCl
theorem Tzc_e(x y:Fs)(w:Int)(on:Bool)(H:AB):Tzc 236 [x,y,.int .i64 w,.bool on] H=(dD.ok x/\Mq.ok y,.bool (DQ (dD.dec x).wG (Mq.dec y) w on)):=rfl
def p235(d:xj)(r:zj):Av prog 235 [B6 d,Bt r] (.bool (Fh d.wG r)):=by
 refine .mk ⟨At 0 d,BP 0 r,zt⟩ zt (cJ.a (AI Y4 (AJ ?_)));unfold Fh;by_cases ho:r.op<1\/3<r.op
 ·have hb:(decide (r.op<1)||decide (3<r.op))=true:=by simpa using ho
  rw[sn ho];simp only[eZ,seval,cJ,hb]
 have hb:(decide (r.op<1)||decide (3<r.op))=false:=by simp;omega
 rw[sg ho];by_cases hn:r.yI=[]
 ·rw[sn hn];simp only[eZ,seval,cJ,hb,BR,BU hn]
 ·rw[sg hn];simp only[eZ,seval,cJ,hb,BR,A5 hn,Tzc_e,BT,Ax,CC,Bi]
def MR:z8->z8
 | .seq _ b=>b
 |c=>c
def Er:Nat->z8->z8
 |0,c=>c
 |k+1,c=>Er k (MR c)
def eF:Nat->z8->z8->z8
 |0,_,R=>R
 |k+1,.seq a b,R=>.seq a (eF k b R)
 |_+1,c,_=>c
def QT:Bg:=AF 235 (s2 dD Mq cZ λd r=>.bool (Fh d.wG r)) Tzc
def lO:AH prog QT:=Y4.add (q2 λd r _=>p235 d r)
theorem VX(a:List Fs)(H:AB):QT 235 a H=s2 dD Mq cZ (λd r=>.bool (Fh d.wG r)) a H:=rfl
theorem VY(x y:Fs)(w:Int)(on:Bool)(H:AB):QT 236 [x,y,.int .i64 w,.bool on] H=(dD.ok x/\Mq.ok y,.bool (DQ (dD.dec x).wG (Mq.dec y) w on)):=rfl
def eG(cl:List x8)(r:zj)(on set wU num yE lim:Bool):Bool:=
 if(!on&&(decide (r.on≠[])||decide (r.xX≠0)))||(!set&&(decide (0<r.ns.length)||decide (r.set≠0)))||(!wU&&(decide (0<r.os.length)||decide (r.wU≠0)))then false
 else if(on&&decide (r.on=[]))||(set&&decide (r.set=0))||(wU&&decide (r.wU=0))then false
 else if !lim&&(decide (r.op≠0)||(!num&&decide (r.n≠0))||(!yE&&(decide (r.yI≠[])||decide (r.wP≠ -1))))then false
 else if(lim&& !Fh cl r)||(num&&(decide (r.n<0)||decide (65536<r.n)))then false
 else if r.kind=5 then DQ cl r 3 true
 else if r.kind=11 then DQ cl r 1 false else true
theorem Y5:Dp=eF 8 Dp (Er 8 Dp):=rfl
def rr1(d:xj)(r:zj)(on set wU num yE lim:Bool)(X:List (Nat×Bool×Fs))(hA1:(!on&&(!decide (r.on=[])|| !decide (r.xX=0))|| !set&&(decide (0<r.ns.length)|| !decide (r.set=0))|| !wU&&(decide (0<r.os.length)|| !decide (r.wU=0)))=true):Gw prog QT (Er 8 Dp) [] (Dj [.t 4] (TG (.bool (false))))
  ⟨(2,true,.ptr 0 0)::(3,true,.ptr 1 0)::(5,true,.bool on)::(6,true,.bool set)::(7,true,.bool wU)::(8,true,.bool num)::(9,true,.bool yE)::(10,true,.bool lim)::X,wB (wB Ak 0 (.box (AL d))) 1 (.box (B3 r)),3⟩:=by
 have e1:∀(l:List Bs),decide ((0:Int)<(l.length:Int))=decide (0<l.length):=λl=>by
  rw[sP,si,si];omega
 simp only[eZ,seval,ry,Dp,Er,MR,A6,e1,hA1]
def rr2(d:xj)(r:zj)(on set wU num yE lim:Bool)(X:List (Nat×Bool×Fs))(hA1:(!on&&(!decide (r.on=[])|| !decide (r.xX=0))|| !set&&(decide (0<r.ns.length)|| !decide (r.set=0))|| !wU&&(decide (0<r.os.length)|| !decide (r.wU=0)))=false)(hA2:(on&&decide (r.on=[])||set&&decide (r.set=0)||wU&&decide (r.wU=0))=true):Gw prog QT (Er 8 Dp) [] (Dj [.t 4] (TG (.bool (false))))
  ⟨(2,true,.ptr 0 0)::(3,true,.ptr 1 0)::(5,true,.bool on)::(6,true,.bool set)::(7,true,.bool wU)::(8,true,.bool num)::(9,true,.bool yE)::(10,true,.bool lim)::X,wB (wB Ak 0 (.box (AL d))) 1 (.box (B3 r)),3⟩:=by
 have e1:∀(l:List Bs),decide ((0:Int)<(l.length:Int))=decide (0<l.length):=λl=>by
  rw[sP,si,si];omega
 simp only[eZ,seval,ry,Dp,Er,MR,A6,BR,e1,hA1,hA2]
def rr3(d:xj)(r:zj)(on set wU num yE:Bool)(X:List (Nat×Bool×Fs))(hA1:(!on&&(!decide (r.on=[])|| !decide (r.xX=0))|| !set&&(decide (0<r.ns.length)|| !decide (r.set=0))|| !wU&&(decide (0<r.os.length)|| !decide (r.wU=0)))=false)(hA2:(on&&decide (r.on=[])||set&&decide (r.set=0)||wU&&decide (r.wU=0))=false)(hA3:(!decide (r.op=0)|| !num&& !decide (r.n=0)|| !yE&&(!decide (r.yI=[])|| !decide (r.wP= -1)))=true):Gw prog QT (Er 8 Dp) [] (Dj [.t 4] (TG (.bool (false))))
  ⟨(2,true,.ptr 0 0)::(3,true,.ptr 1 0)::(5,true,.bool on)::(6,true,.bool set)::(7,true,.bool wU)::(8,true,.bool num)::(9,true,.bool yE)::(10,true,.bool false)::X,wB (wB Ak 0 (.box (AL d))) 1 (.box (B3 r)),3⟩:=by
 have e1:∀(l:List Bs),decide ((0:Int)<(l.length:Int))=decide (0<l.length):=λl=>by
  rw[sP,si,si];omega
 simp only[eZ,seval,se,ry,Dp,Er,MR,A6,BR,e1,hA1,hA2,hA3]
def rr4a(d:xj)(r:zj)(on set wU num yE:Bool)(X:List (Nat×Bool×Fs))(hA1:(!on&&(!decide (r.on=[])|| !decide (r.xX=0))|| !set&&(decide (0<r.ns.length)|| !decide (r.set=0))|| !wU&&(decide (0<r.os.length)|| !decide (r.wU=0)))=false)(hA2:(on&&decide (r.on=[])||set&&decide (r.set=0)||wU&&decide (r.wU=0))=false)(hb:(!Fh d.wG r||num&&(decide (r.n<0)||decide (65536<r.n)))=true):Gw prog QT (Er 8 Dp) [] (Dj [.t 4] (TG (.bool (false))))
  ⟨(2,true,.ptr 0 0)::(3,true,.ptr 1 0)::(5,true,.bool on)::(6,true,.bool set)::(7,true,.bool wU)::(8,true,.bool num)::(9,true,.bool yE)::(10,true,.bool true)::X,wB (wB Ak 0 (.box (AL d))) 1 (.box (B3 r)),3⟩:=by
 have e1:∀(l:List Bs),decide ((0:Int)<(l.length:Int))=decide (0<l.length):=λl=>by
  rw[sP,si,si];omega
 simp only[eZ,seval,sa,ry,Dp,Er,MR,A6,BR,e1,hA1,hA2,QT,s2,BT,Ax,CC,Bi,hb,AF]
def rr4b(d:xj)(r:zj)(on set wU num yE:Bool)(X:List (Nat×Bool×Fs))(hA1:(!on&&(!decide (r.on=[])|| !decide (r.xX=0))|| !set&&(decide (0<r.ns.length)|| !decide (r.set=0))|| !wU&&(decide (0<r.os.length)|| !decide (r.wU=0)))=false)(hA2:(on&&decide (r.on=[])||set&&decide (r.set=0)||wU&&decide (r.wU=0))=false)(hb:(!Fh d.wG r||num&&(decide (r.n<0)||decide (65536<r.n)))=false)(h5:r.kind=5):Gw prog QT (Er 8 Dp) [] (Dj [.t 4] (TG (.bool (DQ d.wG r 3 true))))
  ⟨(2,true,.ptr 0 0)::(3,true,.ptr 1 0)::(5,true,.bool on)::(6,true,.bool set)::(7,true,.bool wU)::(8,true,.bool num)::(9,true,.bool yE)::(10,true,.bool true)::X,wB (wB Ak 0 (.box (AL d))) 1 (.box (B3 r)),3⟩:=by
 have e1:∀(l:List Bs),decide ((0:Int)<(l.length:Int))=decide (0<l.length):=λl=>by
  rw[sP,si,si];omega
 simp only[eZ,seval,sa,ry,Dp,Er,MR,A6,BR,e1,hA1,hA2,VX,VY,s2,BT,Ax,CC,Bi,hb,BU h5]
def rr4c(d:xj)(r:zj)(on set wU num yE:Bool)(X:List (Nat×Bool×Fs))(hA1:(!on&&(!decide (r.on=[])|| !decide (r.xX=0))|| !set&&(decide (0<r.ns.length)|| !decide (r.set=0))|| !wU&&(decide (0<r.os.length)|| !decide (r.wU=0)))=false)(hA2:(on&&decide (r.on=[])||set&&decide (r.set=0)||wU&&decide (r.wU=0))=false)(hb:(!Fh d.wG r||num&&(decide (r.n<0)||decide (65536<r.n)))=false)(h5:¬r.kind=5)(h11:r.kind=11):Gw prog QT (Er 8 Dp) [] (Dj [.t 4] (TG (.bool (DQ d.wG r 1 false))))
  ⟨(2,true,.ptr 0 0)::(3,true,.ptr 1 0)::(5,true,.bool on)::(6,true,.bool set)::(7,true,.bool wU)::(8,true,.bool num)::(9,true,.bool yE)::(10,true,.bool true)::X,wB (wB Ak 0 (.box (AL d))) 1 (.box (B3 r)),3⟩:=by
 have e1:∀(l:List Bs),decide ((0:Int)<(l.length:Int))=decide (0<l.length):=λl=>by
  rw[sP,si,si];omega
 simp only[eZ,seval,sa,ry,Dp,Er,MR,A6,BR,e1,hA1,hA2,VX,VY,s2,BT,Ax,CC,Bi,hb,A5 h5,r9 h11]
def rr4d(d:xj)(r:zj)(on set wU num yE:Bool)(X:List (Nat×Bool×Fs))(hA1:(!on&&(!decide (r.on=[])|| !decide (r.xX=0))|| !set&&(decide (0<r.ns.length)|| !decide (r.set=0))|| !wU&&(decide (0<r.os.length)|| !decide (r.wU=0)))=false)(hA2:(on&&decide (r.on=[])||set&&decide (r.set=0)||wU&&decide (r.wU=0))=false)(hb:(!Fh d.wG r||num&&(decide (r.n<0)||decide (65536<r.n)))=false)(h5:¬r.kind=5)(h11:¬r.kind=11):Gw prog QT (Er 8 Dp) [] (Dj [.t 4] (TG (.bool (true))))
  ⟨(2,true,.ptr 0 0)::(3,true,.ptr 1 0)::(5,true,.bool on)::(6,true,.bool set)::(7,true,.bool wU)::(8,true,.bool num)::(9,true,.bool yE)::(10,true,.bool true)::X,wB (wB Ak 0 (.box (AL d))) 1 (.box (B3 r)),3⟩:=by
 have e1:∀(l:List Bs),decide ((0:Int)<(l.length:Int))=decide (0<l.length):=λl=>by
  rw[sP,si,si];omega
 simp only[eZ,seval,sa,se,ry,Dp,Er,MR,A6,BR,e1,hA1,hA2,QT,s2,BT,Ax,CC,Bi,hb,A5 h5,sb h11,AF]
def rr5a(d:xj)(r:zj)(on set wU num yE:Bool)(X:List (Nat×Bool×Fs))(hA1:(!on&&(!decide (r.on=[])|| !decide (r.xX=0))|| !set&&(decide (0<r.ns.length)|| !decide (r.set=0))|| !wU&&(decide (0<r.os.length)|| !decide (r.wU=0)))=false)(hA2:(on&&decide (r.on=[])||set&&decide (r.set=0)||wU&&decide (r.wU=0))=false)(hA3:(!decide (r.op=0)|| !num&& !decide (r.n=0)|| !yE&&(!decide (r.yI=[])|| !decide (r.wP= -1)))=false)(hb:(num&&(decide (r.n<0)||decide (65536<r.n)))=true):Gw prog QT (Er 8 Dp) [] (Dj [.t 4] (TG (.bool (false))))
  ⟨(2,true,.ptr 0 0)::(3,true,.ptr 1 0)::(5,true,.bool on)::(6,true,.bool set)::(7,true,.bool wU)::(8,true,.bool num)::(9,true,.bool yE)::(10,true,.bool false)::X,wB (wB Ak 0 (.box (AL d))) 1 (.box (B3 r)),3⟩:=by
 have e1:∀(l:List Bs),decide ((0:Int)<(l.length:Int))=decide (0<l.length):=λl=>by
  rw[sP,si,si];omega
 simp only[eZ,seval,se,ry,Dp,Er,MR,A6,BR,e1,hA1,hA2,hA3,QT,s2,BT,Ax,CC,Bi,hb,AF]
def rr5b(d:xj)(r:zj)(on set wU num yE:Bool)(X:List (Nat×Bool×Fs))(hA1:(!on&&(!decide (r.on=[])|| !decide (r.xX=0))|| !set&&(decide (0<r.ns.length)|| !decide (r.set=0))|| !wU&&(decide (0<r.os.length)|| !decide (r.wU=0)))=false)(hA2:(on&&decide (r.on=[])||set&&decide (r.set=0)||wU&&decide (r.wU=0))=false)(hA3:(!decide (r.op=0)|| !num&& !decide (r.n=0)|| !yE&&(!decide (r.yI=[])|| !decide (r.wP= -1)))=false)(hb:(num&&(decide (r.n<0)||decide (65536<r.n)))=false)(h5:r.kind=5):Gw prog QT (Er 8 Dp) [] (Dj [.t 4] (TG (.bool (DQ d.wG r 3 true))))
  ⟨(2,true,.ptr 0 0)::(3,true,.ptr 1 0)::(5,true,.bool on)::(6,true,.bool set)::(7,true,.bool wU)::(8,true,.bool num)::(9,true,.bool yE)::(10,true,.bool false)::X,wB (wB Ak 0 (.box (AL d))) 1 (.box (B3 r)),3⟩:=by
 have e1:∀(l:List Bs),decide ((0:Int)<(l.length:Int))=decide (0<l.length):=λl=>by
  rw[sP,si,si];omega
 simp only[eZ,seval,se,ry,Dp,Er,MR,A6,BR,e1,hA1,hA2,hA3,VX,VY,s2,BT,Ax,CC,Bi,hb,BU h5]
def rr5c(d:xj)(r:zj)(on set wU num yE:Bool)(X:List (Nat×Bool×Fs))(hA1:(!on&&(!decide (r.on=[])|| !decide (r.xX=0))|| !set&&(decide (0<r.ns.length)|| !decide (r.set=0))|| !wU&&(decide (0<r.os.length)|| !decide (r.wU=0)))=false)(hA2:(on&&decide (r.on=[])||set&&decide (r.set=0)||wU&&decide (r.wU=0))=false)(hA3:(!decide (r.op=0)|| !num&& !decide (r.n=0)|| !yE&&(!decide (r.yI=[])|| !decide (r.wP= -1)))=false)(hb:(num&&(decide (r.n<0)||decide (65536<r.n)))=false)(h5:¬r.kind=5)(h11:r.kind=11):Gw prog QT (Er 8 Dp) [] (Dj [.t 4] (TG (.bool (DQ d.wG r 1 false))))
  ⟨(2,true,.ptr 0 0)::(3,true,.ptr 1 0)::(5,true,.bool on)::(6,true,.bool set)::(7,true,.bool wU)::(8,true,.bool num)::(9,true,.bool yE)::(10,true,.bool false)::X,wB (wB Ak 0 (.box (AL d))) 1 (.box (B3 r)),3⟩:=by
 have e1:∀(l:List Bs),decide ((0:Int)<(l.length:Int))=decide (0<l.length):=λl=>by
  rw[sP,si,si];omega
 simp only[eZ,seval,sa,se,ry,Dp,Er,MR,A6,BR,e1,hA1,hA2,hA3,VX,VY,s2,BT,Ax,CC,Bi,hb,A5 h5,r9 h11]
def rr5d(d:xj)(r:zj)(on set wU num yE:Bool)(X:List (Nat×Bool×Fs))(hA1:(!on&&(!decide (r.on=[])|| !decide (r.xX=0))|| !set&&(decide (0<r.ns.length)|| !decide (r.set=0))|| !wU&&(decide (0<r.os.length)|| !decide (r.wU=0)))=false)(hA2:(on&&decide (r.on=[])||set&&decide (r.set=0)||wU&&decide (r.wU=0))=false)(hA3:(!decide (r.op=0)|| !num&& !decide (r.n=0)|| !yE&&(!decide (r.yI=[])|| !decide (r.wP= -1)))=false)(hb:(num&&(decide (r.n<0)||decide (65536<r.n)))=false)(h5:¬r.kind=5)(h11:¬r.kind=11):Gw prog QT (Er 8 Dp) [] (Dj [.t 4] (TG (.bool (true))))
  ⟨(2,true,.ptr 0 0)::(3,true,.ptr 1 0)::(5,true,.bool on)::(6,true,.bool set)::(7,true,.bool wU)::(8,true,.bool num)::(9,true,.bool yE)::(10,true,.bool false)::X,wB (wB Ak 0 (.box (AL d))) 1 (.box (B3 r)),3⟩:=by
 have e1:∀(l:List Bs),decide ((0:Int)<(l.length:Int))=decide (0<l.length):=λl=>by
  rw[sP,si,si];omega
 simp only[eZ,seval,sa,se,ry,Dp,Er,MR,A6,BR,e1,hA1,hA2,hA3,QT,s2,BT,Ax,CC,Bi,hb,A5 h5,sb h11,AF]
theorem W9(d:xj)(r:zj)(on set wU num yE lim:Bool)(X:List (Nat×Bool×Fs)):Gw prog QT (Er 8 Dp) [] (Dj [.t 4] (TG (.bool (eG d.wG r on set wU num yE lim))))
  ⟨(2,true,.ptr 0 0)::(3,true,.ptr 1 0)::(5,true,.bool on)::(6,true,.bool set)::(7,true,.bool wU)::(8,true,.bool num)::(9,true,.bool yE)::(10,true,.bool lim)::X,wB (wB Ak 0 (.box (AL d))) 1 (.box (B3 r)),3⟩:=by
 unfold eG;simp only[ne_eq,decide_not];cases hA1:(!on&&(!decide (r.on=[])|| !decide (r.xX=0))|| !set&&(decide (0<r.ns.length)|| !decide (r.set=0))|| !wU&&(decide (0<r.os.length)|| !decide (r.wU=0)))with
 |true=>rw[sn rfl];exact rr1 d r on set wU num yE lim X hA1
 |false=>
 rw[sg zd];cases hA2:(on&&decide (r.on=[])||set&&decide (r.set=0)||wU&&decide (r.wU=0))with
 |true=>rw[sn rfl];exact rr2 d r on set wU num yE lim X hA1 hA2
 |false=>
 rw[sg zd];cases lim with
 |true=>
  rw[sa,uk,sg zd,tS];cases hb:(!Fh d.wG r||num&&(decide (r.n<0)||decide (65536<r.n)))with
  |true=>rw[sn rfl];exact rr4a d r on set wU num yE X hA1 hA2 hb
  |false=>
  rw[sg zd];by_cases h5:r.kind=5
  ·rw[sn h5];exact rr4b d r on set wU num yE X hA1 hA2 hb h5
  rw[sg h5];by_cases h11:r.kind=11
  ·rw[sn h11];exact rr4c d r on set wU num yE X hA1 hA2 hb h5 h11
  rw[sg h11];exact rr4d d r on set wU num yE X hA1 hA2 hb h5 h11
 |false=>
  rw[se,tS,uk,ub];cases hA3:(!decide (r.op=0)|| !num&& !decide (r.n=0)|| !yE&&(!decide (r.yI=[])|| !decide (r.wP= -1)))with
  |true=>rw[sn rfl];exact rr3 d r on set wU num yE X hA1 hA2 hA3
  |false=>
  rw[sg zd];cases hb:(num&&(decide (r.n<0)||decide (65536<r.n)))with
  |true=>rw[sn rfl];exact rr5a d r on set wU num yE X hA1 hA2 hA3 hb
  |false=>
  rw[sg zd];by_cases h5:r.kind=5
  ·rw[sn h5];exact rr5b d r on set wU num yE X hA1 hA2 hA3 hb h5
  rw[sg h5];by_cases h11:r.kind=11
  ·rw[sn h11];exact rr5c d r on set wU num yE X hA1 hA2 hA3 hb h5 h11
  rw[sg h11];exact rr5d d r on set wU num yE X hA1 hA2 hA3 hb h5 h11
def p177(d:xj)(r:zj):Av prog 177 [B6 d,Bt r] (.bool (FZ d.wG r)):=by
 refine .mk ⟨At 0 d,BP 0 r,zt⟩ zt (Dp.a (AI lO (AJ ?_)));have hrest:=W9 d r;rw[Y5];rw[iX];have hrr:∀on set wU num yE lim rdb wP,DJ r.kind=⟨on,set,wU,lim,num,rdb,true,wP⟩->yE=decide (wP≠0)->LL d.wG r=eG d.wG r on set wU num yE lim:=λon set wU num yE lim rdb wP h q=>by
  subst q;unfold LL eG;rw[h];rfl
 by_cases hk:r.kind<1\/13<r.kind
 ·have hR:LL d.wG r=false:=by
   have hkn:(DJ r.kind).knw=false:=by unfold DJ;repeat rw[sg zo]
   unfold LL;simp only[];rw[sn hkn]
  have n1:(r.kind=1)=False:=sb zo;have n2:(r.kind=2)=False:=sb zo;have n3:(r.kind=3)=False:=sb zo;have n4:(r.kind=4)=False:=sb zo;have n5:(r.kind=5)=False:=sb zo;have n6:(r.kind=6)=False:=sb zo;have n7:(r.kind=7)=False:=sb zo;have n8:(r.kind=8)=False:=sb zo;have n9:(r.kind=9)=False:=sb zo;have n10:(r.kind=10)=False:=sb zo;have n11:(r.kind=11)=False:=sb zo;have n12:(r.kind=12)=False:=sb zo;have n13:(r.kind=13)=False:=sb zo;rw[hR];generalize Er 8 Dp=R;simp only[eZ,seval,Dp,eF,n1,n2,n3,n4,n5,n6,n7,n8,n9,n10,n11,n12,n13]
 generalize Er 8 Dp=R at hrest⊢;have so:r.kind=1\/r.kind=2\/r.kind=3\/r.kind=4\/r.kind=5\/r.kind=6\/r.kind=7\/r.kind=8\/r.kind=9\/r.kind=10\/r.kind=11\/r.kind=12\/r.kind=13:=zo
 rcases so with so|so|so|so|so|so|so|so|so|so|so|so|so
 all_goals
  rw[hrr _ _ _ _ _ _ _ _ (by rw[so];rfl) rfl];simp only[eZ,seval,Dp,eF,so];exact hrest _ _ _ _ _ _ _
def Tfo:Bg:=AF 177 (s2 dD Mq cZ λd r=>.bool (FZ d.wG r)) (AF 178 (s1 dCl KS λc=>.bool (Ds c)) wD)
def lP:AH prog Tfo:=(AH.wD.add (q1 λc _=>p178 c)).add (q2 λd r _=>p177 d r)
def p122(d:xj)(hd:zy d):Av prog 122 [B6 d] (.bool (CA d)):=by
 refine .mk ⟨At 0 d,zt⟩ zt (qE.a (AI lP (AJ ?_)));have yk:d.wE.length<1000000000:=hd.sy;have hrl:d.wF.length<1000000000:=hd.ru;have wi:d.wG.length<1000000000:=hd.cl;simp only[eE,eN,seval,qE];refine AQ (λi:Nat=>⟨[(1,true,.ptr 0 0),(3,true,.int .i64 i)],wB Ak 0 (.box (AL d)),2⟩) (λi=>i<=d.wE.length/\(d.wE.all λs=>decide (0<=s.v)&&decide (s.v<=99))=((d.wE.drop i).all λs=>decide (0<=s.v)&&decide (s.v<=99))) (λi=>d.wE.length-i)
  0 rfl ⟨sk _,rfl⟩ ?_
 rintro i ⟨hi,l5⟩;by_cases e9:i<d.wE.length
 ·have hg:=rz e9;have e:=AK (k:=i) zo;rw[Iv e9]at l5;generalize d.wE[i]=s at hg l5;by_cases hs:0<=s.v/\s.v<=99
  ·have hb:(decide (s.v<0)||decide (99<s.v))=false:=by simp;omega
   simp only[eZ,seval,eY,AN e9,hg,e,hb];exact .mk (i+1) rfl ⟨e9,by rw[l5,BU hs.1,BU hs.2];rfl⟩ zo
  ·have hb:(decide (s.v<0)||decide (99<s.v))=true:=by simp;omega
   have hR:CA d=false:=by
    unfold CA;rw[l5,show(decide (0<=s.v)&&decide (s.v<=99))=false by simp;omega];rfl
   rw[hR];simp only[eZ,seval,eY,AN e9,hg,hb]
 obtain rfl:i=d.wE.length:=zo
 rw[t5]at l5;simp only[eZ,seval,ry,Ag e9];refine AQ (λi:Nat=>⟨[(1,true,.ptr 0 0),(4,true,.int .i64 i)],wB Ak 0 (.box (AL d)),2⟩) (λi=>i<=d.wF.length/\d.wF.all (FZ d.wG)=(d.wF.drop i).all (FZ d.wG)) (λi=>d.wF.length-i)
  0 rfl ⟨sk _,rfl⟩ ?_
 rintro k ⟨hk,s9⟩;by_cases xh:k<d.wF.length
 ·have hg:=rz xh;have e:=AK (k:=k) zo;rw[Iv xh]at s9;generalize d.wF[k]=r at hg s9;cases hr:FZ d.wG r with
  |false=>
   have hR:CA d=false:=by
    unfold CA;rw[s9,hr];simp
   rw[hR];simp only[eZ,seval,se,eY,AN xh,hg,Tfo,s2,BT,Ax,CC,Bi,hr,AF]
  |true=>
   rw[hr,tS]at s9;simp only[eZ,seval,sa,eY,AN xh,hg,Tfo,s2,BT,Ax,CC,Bi,hr,e,AF];exact .mk (k+1) rfl ⟨xh,s9⟩ zo
 obtain rfl:k=d.wF.length:=zo
 rw[t5]at s9;simp only[eZ,seval,ry,Ag xh];refine AQ (λj:Nat=>⟨[(1,true,.ptr 0 0),(5,true,.int .i64 j)],wB Ak 0 (.box (AL d)),2⟩) (λi=>i<=d.wG.length/\∀j (h:j<d.wG.length),j<i->Ef d.wF j=1/\Ds d.wG[j]=true) (λi=>d.wG.length-i)
  0 rfl ⟨sk _,λj h q=>absurd q (tH _)⟩ ?_
 rintro j ⟨hj,wu⟩;by_cases s6:j<d.wG.length
 ·have hg:=rz s6;have ej:=AK (k:=j) zo;have am:¬(Ef d.wF j=1/\Ds d.wG[j]=true)->CA d=false:=λq=>by
   unfold CA;rw[l5,s9];cases q1:((List.range d.wG.length).all λi=>decide (Ef d.wF i=1))with
   |false=>rfl
   |true=>
   cases q2:d.wG.all Ds with
   |false=>rfl
   |true=>exact absurd ⟨th (sE.1 q1 j (tF.2 s6)),sE.1 q2 _ (sC s6)⟩ q
  have xf:Ef d.wF j=1/\Ds d.wG[j]=true->∀q (h:q<d.wG.length),q<j+1->Ef d.wF q=1/\Ds d.wG[q]=true:=λz q h hq=>by
   by_cases w:q=j
   ·subst w;exact z
   ·exact wu q h zo
  generalize hx:d.wG[j]=x at hg am xf;simp only[eZ,seval,ry,AN s6];refine AQ (λk:Nat=>⟨[(1,true,.ptr 0 0),(5,true,.int .i64 j),(6,true,.int .i64 (Jg (d.wF.take k) j)),(7,true,.int .i64 k)],wB Ak 0 (.box (AL d)),2⟩) (λk=>k<=d.wF.length) (λk=>d.wF.length-k)
   0 rfl (sk _) ?_
  intro k hk;by_cases xh:k<d.wF.length
  ·have hgk:=rz xh;have ek:=AK (k:=k) zo;have l7:d.wF.take (k+1)=d.wF.take k++[d.wF[k]]:=by rw[sG,rz xh];rfl
   have hcle:=dG (d.wF.take k) (j:Int);rw[sU]at hcle;have ew:=AK (k:=Jg (d.wF.take k) (j:Int)) zo;generalize d.wF[k]=r at hgk l7;have hcn:=Wv (d.wF.take k) r (j:Int);rw[<-l7]at hcn;by_cases hrc:r.wP=j
   ·rw[sn hrc]at hcn;simp only[eZ,seval,eY,AN xh,hgk,ek,r9 hrc,ew];exact .mk (k+1) (by simp only[hcn]) xh zo
   ·replace hcn:Jg (d.wF.take (k+1)) (j:Int)=Jg (d.wF.take k) (j:Int):=by rw[hcn,sg hrc];rfl
    simp only[eZ,seval,eY,AN xh,hgk,ek,sb hrc];exact .mk (k+1) (by simp only[hcn]) xh zo
  obtain rfl:k=d.wF.length:=zo
  have hmc0:Jg d.wF (j:Int)=Ef d.wF j:=TO _ _;by_cases hmc:Ef d.wF j=1
  ·have hmb:(((Ef d.wF j:Nat):Int)=1)=True:=r9 zo;cases hc:Ds x with
   |false=>
    rw[am (by rw[hc];simp)];simp only[eZ,seval,sa,se,eY,Ag xh,sD,hmc0,hmb,AN s6,hg,Tfo,s1,Je,Hg,hc,AF]
   |true=>
    simp only[eZ,seval,sa,eY,Ag xh,sD,hmc0,hmb,AN s6,hg,Tfo,s1,Je,Hg,hc,ej,AF];exact .mk (j+1) rfl ⟨s6,λq h z=>xf ⟨hmc,hc⟩ q h z⟩ zo
  ·have hmb:(((Ef d.wF j:Nat):Int)=1)=False:=sb zo;rw[am (λq=>hmc q.1)];simp only[eZ,seval,sa,se,eY,Ag xh,sD,hmc0,hmb]
 obtain rfl:j=d.wG.length:=zo
 have hR:CA d=true:=by
  have z2:d.wG.all Ds=true:=sE.2 λq hq=>by
   obtain⟨m,hm,rfl⟩:=sV.1 hq;exact(wu m hm hm).2
  unfold CA;rw[l5,s9,sE.2 λq hq=>sK (wu q (tF.1 hq) (tF.1 hq)).1,z2];rfl
 rw[hR];simp only[eZ,seval,ry,Ag s6]
def p117:Av prog 117 [] (FN CZ):=by
 refine .mk zt (CR 0 _) (cM.a (AI AH.wD (AJ ?_)));simp only[eE,eN,seval,cM];exact Wk.sl (.inl rfl)
def Cr(l:List Bs)(s:Bs):Fs:=match Bb l s with
 |some i=>.wJ [.int .i64 i,.bool true]
 |none=>.wJ [.int .i64 0,.bool false]
def JN(n:Nat)(l:List Bs)(s:Bs):(Cr l s).under n:=by unfold Cr;split<;>exact⟨zt,zt,zt⟩
def Ma{α:Type}(f:α->Bs){l:List α}{s:Bs}{i:Nat}(hi:i<l.length)(h:f l[i]=s)(hb:∀k (hk:k<l.length),k<i->¬f l[k]=s):Bb (l.map f) s=some (i:Int):=by
 unfold Bb;rw[t7.2 ⟨by simpa using hi,by simpa using h,λj hj=>by simpa using hb j zo hj⟩];rfl
def Jm{α:Type}(f:α->Bs){l:List α}{s:Bs}(hb:∀k (hk:k<l.length),¬f l[k]=s):Bb (l.map f) s=none:=by
 rw[Ck];intro h;obtain⟨y,hy,e⟩:=tn.1 h;obtain⟨k,hk,rfl⟩:=sV.1 hy;exact hb k hk e
def p255(d:xj)(s:Bs)(hd:zy d):Av prog 255 [B6 d,.str s] (Cr (d.wE.map (·.nm)) s):=by
 refine .mk ⟨At 0 d,zt,zt⟩ (JN 0 _ _) (qJ.a (AI AH.wD (AJ ?_)));have wm:d.wE.length<1000000000:=hd.sy;simp only[eE,eN,seval,qJ];refine AQ (λi:Nat=>⟨[(1,true,.str s),(2,true,.ptr 0 0),(6,true,.int .i64 i)],wB Ak 0 (.box (AL d)),3⟩) (λi=>i<=d.wE.length/\∀k (hk:k<d.wE.length),k<i->¬d.wE[k].nm=s) (λi=>d.wE.length-i)
  0 rfl ⟨sk _,λk _ q=>absurd q (tH _)⟩ ?_
 rintro i ⟨hi,hb⟩;by_cases e9:i<d.wE.length
 ·have hg:=rz e9;have e:=AK (k:=i) zo;have hhit:=λq=>Ma (λx=>x.nm) (s:=s) e9 q hb
  have hnx:¬d.wE[i].nm=s->∀k (hk:k<d.wE.length),k<i+1->¬d.wE[k].nm=s:=λq k hk h=>by
   by_cases z:k=i
   ·subst z;exact q
   ·exact hb k hk zo
  generalize d.wE[i]=x at hg hhit hnx;by_cases hx:x.nm=s
  ·have hR:Cr (d.wE.map (·.nm)) s= .wJ [.int .i64 i,.bool true]:=by unfold Cr;rw[hhit hx]
   rw[hR];simp only[eZ,seval,eY,AN e9,hg,BR,BU hx];exact Wk.refl _
  ·simp only[eZ,seval,eY,AN e9,hg,e,BR,A5 hx];exact .mk (i+1) rfl ⟨e9,hnx hx⟩ zo
 obtain rfl:i=d.wE.length:=zo
 have hR:Cr (d.wE.map (·.nm)) s= .wJ [.int .i64 0,.bool false]:=by unfold Cr;rw[Jm _ λk hk=>hb k hk hk]
 rw[hR];simp only[eZ,seval,ry,Ag e9];exact Wk.refl _
def p233(d:xj)(s:Bs)(hd:zy d):Av prog 233 [B6 d,.str s] (Cr (d.wG.map (·.nm)) s):=by
 refine .mk ⟨At 0 d,zt,zt⟩ (JN 0 _ _) (qK.a (AI AH.wD (AJ ?_)));have wm:d.wG.length<1000000000:=hd.cl;simp only[eE,eN,seval,qK];refine AQ (λi:Nat=>⟨[(1,true,.str s),(2,true,.ptr 0 0),(6,true,.int .i64 i)],wB Ak 0 (.box (AL d)),3⟩) (λi=>i<=d.wG.length/\∀k (hk:k<d.wG.length),k<i->¬d.wG[k].nm=s) (λi=>d.wG.length-i)
  0 rfl ⟨sk _,λk _ q=>absurd q (tH _)⟩ ?_
 rintro i ⟨hi,hb⟩;by_cases e9:i<d.wG.length
 ·have hg:=rz e9;have e:=AK (k:=i) zo;have hhit:=λq=>Ma (λx=>x.nm) (s:=s) e9 q hb
  have hnx:¬d.wG[i].nm=s->∀k (hk:k<d.wG.length),k<i+1->¬d.wG[k].nm=s:=λq k hk h=>by
   by_cases z:k=i
   ·subst z;exact q
   ·exact hb k hk zo
  generalize d.wG[i]=x at hg hhit hnx;by_cases hx:x.nm=s
  ·have hR:Cr (d.wG.map (·.nm)) s= .wJ [.int .i64 i,.bool true]:=by unfold Cr;rw[hhit hx]
   rw[hR];simp only[eZ,seval,eY,AN e9,hg,BR,BU hx];exact Wk.refl _
  ·simp only[eZ,seval,eY,AN e9,hg,e,BR,A5 hx];exact .mk (i+1) rfl ⟨e9,hnx hx⟩ zo
 obtain rfl:i=d.wG.length:=zo
 have hR:Cr (d.wG.map (·.nm)) s= .wJ [.int .i64 0,.bool false]:=by unfold Cr;rw[Jm _ λk hk=>hb k hk hk]
 rw[hR];simp only[eZ,seval,ry,Ag e9];exact Wk.refl _
def sGv:List Fs->AB->Prop×Fs:=λa _=>match a with
 |[]=>(True,FN CZ)
 |_=>(False,.wJ [])
def qGv:∀args H n,(sGv args H).1->Ao prog 117 args H n (sGv args H).2:=by
 intro args H n hh;unfold sGv at hh⊢;split at hh
 ·exact p117.quiet H n
 ·exact hh.elim
def Tgv:Bg:=AF 117 sGv wD
def lQ:AH prog Tgv:=AH.wD.add qGv
def p171(d:xj)(s:Bs)(hd:zy d):Av prog 171 [B6 d,.str s] (Cr (B0 d) s):=by
 refine .mk ⟨At 0 d,zt,zt⟩ (JN 0 _ _) (qI.a (AI lQ (AJ ?_)));have wm:d.wK.length<1000000000:=hd.rg;have l9:=ib d s;obtain⟨G,hG⟩:∃G:List Bs,G=CZ:=⟨_,rfl⟩;have hGl:G.length=8:=by rw[hG];rfl
 rw[<-hG]at l9;have hsg:sGv []=λ_=>(True,FN G):=by rw[hG];rfl
 simp only[eE,eN,seval,qI,Tgv,hsg,AF];refine AQ (λi:Nat=>⟨[(1,true,.str s),(2,true,.ptr 0 0),(6,true,FN G),(7,true,.int .i64 i)],wB Ak 0 (.box (AL d)),3⟩) (λi=>i<=G.length/\∀k (hk:k<G.length),k<i->¬G[k]=s) (λi=>G.length-i)
  0 rfl ⟨sk _,λk _ q=>absurd q (tH _)⟩ ?_
 rintro i ⟨hi,hb⟩;by_cases e9:i<G.length
 ·have hg:=rz e9;have e:=AK (k:=i) zo;have hhit:=λq=>Ma (λx:Bs=>x) (s:=s) e9 q hb
  rw[show G.map (λx:Bs=>x)=G from List.map_id _]at hhit;have hnx:¬G[i]=s->∀k (hk:k<G.length),k<i+1->¬G[k]=s:=λq k hk h=>by
   by_cases z:k=i
   ·subst z;exact q
   ·exact hb k hk zo
  generalize G[i]=x at hg hhit hnx;by_cases hx:x=s
  ·have hR:Cr (B0 d) s= .wJ [.int .i64 i,.bool true]:=by unfold Cr;rw[l9,hhit hx]
   rw[hR];simp only[eZ,seval,eY,AN e9,hg,BR,BU hx];exact Wk.refl _
  ·simp only[eZ,seval,eY,AN e9,hg,e,BR,A5 hx];exact .mk (i+1) rfl ⟨e9,hnx hx⟩ zo
 obtain rfl:i=G.length:=zo
 have v9:Bb G s=none:=by
  have:=Jm (λx:Bs=>x) (l:=G) (s:=s) λk hk=>hb k hk hk
  rw[show G.map (λx:Bs=>x)=G from List.map_id _]at this;exact this
 rw[v9]at l9;simp only at l9;simp only[eZ,seval,ry,Ag e9];refine AQ (λi:Nat=>⟨[(1,true,.str s),(2,true,.ptr 0 0),(8,true,.int .i64 i)],wB Ak 0 (.box (AL d)),3⟩) (λi=>i<=d.wK.length/\∀k (hk:k<d.wK.length),k<i->¬d.wK[k].nm=s) (λi=>d.wK.length-i)
  0 rfl ⟨sk _,λk _ q=>absurd q (tH _)⟩ ?_
 rintro i ⟨hi,hb⟩;by_cases yZ:i<d.wK.length
 ·have hg:=rz yZ;have e:=AK (k:=i) zo;have e8:IntKind.wrap .i64 (8+(i:Int))=8+(i:Int):=A4 zo zo;have hhit:=λq=>Ma (λx:xz=>x.nm) (s:=s) yZ q hb
  have hnx:¬d.wK[i].nm=s->∀k (hk:k<d.wK.length),k<i+1->¬d.wK[k].nm=s:=λq k hk h=>by
   by_cases z:k=i
   ·subst z;exact q
   ·exact hb k hk zo
  generalize d.wK[i]=x at hg hhit hnx;by_cases hx:x.nm=s
  ·have hR:Cr (B0 d) s= .wJ [.int .i64 (8+(i:Int)),.bool true]:=by unfold Cr;rw[l9,hhit hx];rfl
   rw[hR];simp only[eZ,seval,eY,AN yZ,hg,e8,BR,BU hx];exact Wk.refl _
  ·simp only[eZ,seval,eY,AN yZ,hg,e,BR,A5 hx];exact .mk (i+1) rfl ⟨yZ,hnx hx⟩ zo
 obtain rfl:i=d.wK.length:=zo
 have hR:Cr (B0 d) s= .wJ [.int .i64 0,.bool false]:=by unfold Cr;rw[l9,Jm (λx:xz=>x.nm) λk hk=>hb k hk hk];rfl
 rw[hR];simp only[eZ,seval,ry,Ag yZ];exact Wk.refl _
def O7{l:List Bs}:Ap l=true↔∃(a b:Nat) (ha:a<l.length) (hb:b<l.length),b<a/\l[a]=l[b]:=by
 constructor
 ·intro h;apply Classical.byContradiction;intro q;have:Ap l=false:=C9.2 (List.nodup_iff_pairwise_ne.2 (ul.2 λi j hi hj hij e=>q ⟨j,i,hj,hi,hij,e.symm⟩));rw[this]at h;cases h
 ·rintro⟨a,b,ha,hb,xd,e⟩;cases h:Ap l with
  |true=>rfl
  |false=>exact absurd e.symm (ul.1 (List.nodup_iff_pairwise_ne.1 (C9.1 h)) b a hb ha xd)
def lR(l:List Bs)(hl:Aq l):Av prog 116 [FN l] (.bool (Ap l)):=by
 refine .mk ⟨CR 0 _,zt⟩ zt (qL.a (AI AH.wD (AJ ?_)));have wm:l.length<1000000000:=hl;simp only[eE,eN,seval,qL];refine AQ (λa:Nat=>⟨[(0,true,FN l),(3,true,.int .i64 a)],Ak,0⟩) (λa=>a<=l.length/\∀x y (hx:x<l.length) (hy:y<l.length),x<a->y<x->¬l[x]=l[y]) (λa=>l.length-a)
  0 rfl ⟨sk _,λx y _ _ q=>absurd q (tH _)⟩ ?_
 rintro a ⟨ha,v9⟩;by_cases hla:a<l.length
 ·have xW:=rz hla;have ea:=AK (k:=a) zo;simp only[eZ,seval,ry,AN hla];refine AQ (λb:Nat=>⟨[(0,true,FN l),(3,true,.int .i64 a),(4,true,.int .i64 b)],Ak,0⟩) (λb=>b<=a/\∀y (hy:y<l.length),y<b->¬l[a]=l[y]) (λb=>a-b)
   0 rfl ⟨sk _,λy _ q=>absurd q (tH _)⟩ ?_
  rintro b ⟨my,xn⟩;by_cases hlb:b<a
  ·have hbl:b<l.length:=zo
   have wQ:=rz hbl;have eb:=AK (k:=b) zo;by_cases wu:l[a]=l[b]
   ·have hR:Ap l=true:=O7.2 ⟨a,b,hla,hbl,hlb,wu⟩;rw[hR];generalize l[a]=la at xW wu;generalize l[b]=lb at wQ wu;simp only[eZ,seval,eY,AN hlb,AN hla,AN hbl,xW,wQ,BR,BU wu]
   ·have hnx:∀y (hy:y<l.length),y<b+1->¬l[a]=l[y]:=λy hy q=>by
     by_cases z:y=b
     ·subst z;exact wu
     ·exact xn y hy zo
    generalize hA:l[a]=la at xW wu;generalize hB:l[b]=lb at wQ wu;simp only[eZ,seval,eY,AN hlb,AN hla,AN hbl,xW,wQ,BR,A5 wu,eb];exact .mk (b+1) rfl ⟨hlb,λy hy q=>by rw[<-hA];exact hnx y hy q⟩ zo
  obtain rfl:b=a:=zo
  simp only[eZ,seval,Ag hlb,ea];refine .mk (b+1) rfl ⟨hla,λx y hx hy q1 q2=>?_⟩ zo;by_cases z:x=b
  ·subst z;exact xn y hy q2
  ·exact v9 x y hx hy zo q2
 obtain rfl:a=l.length:=zo
 have hR:Ap l=false:=by
  cases q:Ap l with
  |false=>rfl
  |true=>
   obtain⟨x,y,hx,hy,xH,h2⟩:=O7.1 q;exact absurd h2 (v9 x y hx hy hx xH)
 rw[hR];simp only[eZ,seval,ry,Ag hla]
def XA(l ss:List Bs):Fs:=match Cu l ss with
 |some n=>.wJ [.int .i64 n,.bool true]
 |none=>.wJ [.int .i64 0,.bool false]
def Tsy:Bg:=AF 255 (s2 dD dS (λd _=>zy d) λd s=>Cr (d.wE.map (·.nm)) s) wD
def lS:AH prog Tsy:=AH.wD.add (q2 p255)
def p232(d:xj)(ss:List Bs)(hd:zy d)(xe:d.wE.length<=16)(yg:wide ss):Av prog 232 [B6 d,FN ss] (XA (d.wE.map (·.nm)) ss):=by
 refine .mk ⟨At 0 d,CR 0 _,zt⟩ (by unfold XA;split<;>exact⟨zt,zt,zt⟩) (qM.a (AI lS (AJ ?_)));have yk:ss.length<1125899906842624:=yg;unfold XA;rw[<-Rl];generalize hl:d.wE.map (·.nm)=l;have wm:l.length<=16:=by rw[<-hl,ry];exact xe
 simp only[eE,eN,seval,qM];refine AQ (λv:Nat×Nat=>⟨[(1,true,FN ss),(2,true,.ptr 0 0),(6,true,.int .i64 v.2),(7,true,.int .i64 v.1)],wB Ak 0 (.box (AL d)),3⟩) (λv=>v.1<=ss.length/\v.2<65536/\F7 l 0 ss=F7 l v.2 (ss.drop v.1)) (λv=>ss.length-v.1) (0,0) rfl ⟨sk _,zd,rfl⟩ ?_;rintro⟨i,acc⟩ ⟨hi,yo,heq⟩;simp only at hi yo heq;by_cases e9:i<ss.length
 ·have hg:=rz e9;have e:=AK (k:=i) zo;rw[sO e9,Lf]at heq;generalize ss[i]=s at hg heq;cases v9:Bb l s with
  |none=>
   have wg:Cr l s= .wJ [.int .i64 0,.bool false]:=by unfold Cr;rw[v9]
   rw[v9]at heq;simp only at heq;rw[heq];simp only[eZ,seval,se,eY,AN e9,hg,Tsy,s2,BT,Ax,Hz,Fj,r9 hd,hl,wg,AF];exact Wk.refl _
  |some k=>
   have wg:Cr l s= .wJ [.int .i64 k,.bool true]:=by unfold Cr;rw[v9]
   rw[v9]at heq;simp only at heq;obtain⟨h0,h1⟩:=QA v9;obtain⟨j,rfl⟩:∃j:Nat,k=j:=⟨k.toNat,zo⟩;rw[sm]at heq;simp only[eZ,seval,sa,eY,AN e9,hg,Tsy,s2,BT,Ax,Hz,Fj,r9 hd,hl,wg,VQ (show j<16 by omega),Yo yo (QN (show j<16 by omega)),e,AF];exact .mk (i+1,acc|||1<<<j) rfl ⟨e9,Nat.or_lt_two_pow (n:=16) yo (QN zo),heq⟩ zp
 obtain rfl:i=ss.length:=zo
 rw[t5,Mu]at heq;rw[heq];simp only[eZ,seval,ry,Ag e9];exact Wk.refl _
section
structure VNm where
 i:Nat
 tk:v8
 H:AB
 n:Nat
structure INm(d:xj)(lo m:Nat)(ns:List Bs)(v:VNm):Prop where
 hi:v.i<=m
 fr:AO v.H v.n
 hn:lo<=v.n
 h0:AD v.H 0=some (.box (AL d))
 tok:C8 1 lo v.H v.tk
 es:v.tk.esz=1\/ns=[]
def Dw{t:v8}{l:List Bs}(ht:t.esz=1\/l=[]):Kj.ok (.sl t (l.map .str))=True:=r9 ⟨ht.imp id λq=>by rw[q];rfl,by rw[Ct]⟩
def DD{t:v8}(l:List Bs):Kj.dec (.sl t (l.map .str))=l:=Ct l
def tw:Bg:=AF 116 (s1 Kj Aq λl=>.bool (Ap l)) wD
def twS:List Fs->AB->Prop×Fs:=s1 Kj Aq λl=>.bool (Ap l)
structure VRs(α:Type) where
 i:Nat
 tk:v8
 dn:List α
 H:AB
 n:Nat
structure IRs{α β:Type}(d:xj)(e:Nat)(l:List α)(f:α->Option β)(v:VRs β):Prop where
 hi:v.i<=l.length
 dl:v.dn.length=v.i
 fr:AO v.H v.n
 hn:3<=v.n
 h0:AD v.H 0=some (.box (AL d))
 tok:C8 e 3 v.H v.tk
 es:v.tk.esz=e\/v.dn=[]
 eq:Ar f l=(Ar f (l.drop v.i)).map λr=>v.dn++r
variable {α:Type}
def M1(init:List Bs)(f:α->Bs)(l:List α)(i:Nat):List Bs:=init++(l.take i).map f
theorem Jn(init:List Bs)(f:α->Bs){l:List α}{i:Nat}(h:i<l.length):M1 init f l (i+1)=M1 init f l i++[f l[i]]:=by
 unfold M1;rw[map_take h,te]
theorem Mb(init:List Bs)(f:α->Bs)(l:List α)(i:Nat):(M1 init f l i).length<=init.length+i:=by
 unfold M1;rw[sH,ry,sU];omega
theorem Mc(init:List Bs)(f:α->Bs)(l:List α):M1 init f l l.length=init++l.map f:=by
 unfold M1;rw[sD]
def Dy(d:xj):Fs:=if Ap (d.wG.map λx:x8=>x.nm)=true then .wJ [Eh [],.int .i64 161]else match Ar (CK d) d.wG with
 |none=>.wJ [Eh [],.int .i64 160]
 |some cs=>.wJ [Eh cs,.int .i64 0]
def Tcv:Bg:=AF 116 twS (AF 171 (s2 dD dS (λd _=>zy d) λd s=>Cr (B0 d) s) wD)
theorem lT:AH prog Tcv:=(AH.wD.add (q2 p171)).add (q1 lR)
theorem jQ(a:List Fs)(H:AB):Tcv 116 a H=s1 Kj Aq (λl=>.bool (Ap l)) a H:=rfl
theorem jR(a:List Fs)(H:AB):Tcv 171 a H=s2 dD dS (λd _=>zy d) (λd s=>Cr (B0 d) s) a H:=rfl
theorem lU{a b:Fs}{e:Int}(h:Wk a b):Wk (.wJ [a,.int .i64 e]) (.wJ [b,.int .i64 e]):=Wk.wJ (.cons h (.cons (Wk.refl _) .nil))
theorem p118(d:xj)(hd:zy d):Av prog 118 [B6 d] (Dy d):=by
 refine .mk ⟨At 0 d,zt⟩ (by unfold Dy;split;exact⟨E7 0 _,zt,zt⟩;split<;>exact⟨E7 0 _,zt,zt⟩) (qN.a (AI lT (AJ ?_)));have wi:d.wG.length<1000000000:=hd.cl;simp only[eE,eN,seval,qN];refine AQ (λv:VNm=>⟨[(1,true,.ptr 0 0),(4,true,.sl v.tk ((M1 [] (λx:x8=>x.nm) d.wG v.i).map .str)),(5,true,.int .i64 v.i)],v.H,v.n⟩) (λv=>INm d 3 d.wG.length (M1 [] (λx:x8=>x.nm) d.wG v.i) v) (λv=>d.wG.length-v.i)
  ⟨0,.nil,wB Ak 0 (.box (AL d)),3⟩ rfl ⟨sk _,AO.nil.wB (m:=3) (sk 3) (show 0<3 by decide),sj _,rfl,.inl rfl,.inr rfl⟩ ?_
 rintro⟨i,tk,H,n⟩ ⟨hi,l9,hn,h0,l7,s7⟩;simp only at hi l9 hn h0 l7 s7;by_cases e9:i<d.wG.length
 ·have hg:=rz e9;have e:=AK (k:=i) zo;have htx:=Jn [] (λx:x8=>x.nm) e9;have hnl:=Mb [] (λx:x8=>x.nm) d.wG i;have xo:([]:List Bs).length<=8:=zd
  generalize d.wG[i]=x at hg htx;generalize hL:M1 [] (λx:x8=>x.nm) d.wG i=L at htx l7 s7 hnl⊢;have q1:BB H 1 tk=True:=r9 l7.app;have q2:(L.length<=35184372088831)=True:=r9 zo;have q3:Al (L.length+1) 16=True:=r9 (by unfold Al;omega);simp only[eZ,seval,eY,AN e9,hg,e,h0,Bq l9,q1,q2,q3];refine .mk ⟨i+1,.own (n+8) 1,wB (AU H tk) (n+8) .tok,n+10⟩ ?_ ?_ zp
  ·simp only[htx,su];rfl
  ·refine⟨e9,(Ab l7 l9).wB (m:=n+10) zo zo,zp,?_,.inr (.inr ⟨n+8,rfl,zo,AC ..⟩),.inl rfl⟩;simp only[];rw[AA _ _ _ _ zo,Ac l7 (.inr ⟨_,h0⟩)];exact h0
 obtain rfl:i=d.wG.length:=zo
 have hNA:=Mc [] (λx:x8=>x.nm) d.wG;have xo:([]:List Bs).length<=8:=zd
 rw[hNA]at s7;have hnf:Aq (d.wG.map λx:x8=>x.nm):=show(d.wG.map λx:x8=>x.nm).length<_ by first|(rw[ry];omega)|(rw[sH,ry];omega)
 rw[sI]at hNA s7;cases ht:Ap (d.wG.map λx:x8=>x.nm)with
 |true=>
  have hR:Dy d= .wJ [Eh [],.int .i64 161]:=by unfold Dy;rw[sn ht]
  rw[hR];simp only[eZ,seval,ry,Ag e9,h0,hNA,jQ,s1,Dw s7,DD,r9 hnf,ht];exact lU (Wk.sl (.inr rfl))
 |false=>
 have hR:Dy d=match Ar (CK d) d.wG with
  |none=>.wJ [Eh [],.int .i64 160]
  |some cs=>.wJ [Eh cs,.int .i64 0]:=by unfold Dy;rw[sg (by rw[ht];decide)]
 rw[hR];simp only[eZ,seval,ry,Ag e9,h0,hNA,jQ,s1,Dw s7,DD,r9 hnf,ht];refine AQ (λv:VRs x8=>⟨[(1,true,.ptr 0 0),(6,true,.sl v.tk (v.dn.map Cb)),(7,true,.int .i64 v.i)],v.H,v.n⟩) (IRs d 6 d.wG (CK d)) (λv=>d.wG.length-v.i)
  ⟨0,.nil,[],H,n⟩ rfl ⟨sk _,rfl,l9,hn,h0,.inl rfl,.inr rfl,by simp only[vI];cases Ar (CK d) d.wG<;>rfl⟩ ?_
 rintro⟨j,tk,dn,H1,n1⟩ ⟨hj,hdl,wW,to,wh,me,he1,heq⟩;simp only at hj hdl wW to wh me he1 heq;by_cases s6:j<d.wG.length
 ·have hg:=rz s6;have e:=AK (k:=j) zo;rw[sO s6,ES]at heq;generalize d.wG[j]=c at hg heq;have y0:∀q,(n1+q=0)=False:=λq=>sb zo
  cases v9:Bb (B0 d) c.on with
  |none=>
   have wg:Cr (B0 d) c.on= .wJ [.int .i64 0,.bool false]:=by unfold Cr;rw[v9]
   rw[show CK d c=none by unfold CK;rw[v9];rfl]at heq;simp only[tU]at heq;rw[heq];simp only[eZ,seval,se,eY,AN s6,hg,wh,Bq wW,y0,AW,jR,s2,BT,Ax,Hz,Fj,r9 hd,wg];exact lU (Wk.sl (.inr rfl))
  |some f=>
   have wg:Cr (B0 d) c.on= .wJ [.int .i64 f,.bool true]:=by unfold Cr;rw[v9]
   rw[show CK d c=some {c with xX:=f}by unfold CK;rw[v9];rfl]at heq;simp only at heq;have q1:∀ob1,BB (wB H1 (n1+5) ob1) 6 tk=True:=λob1=>r9 (me.set (.inr (.inr (Bq wW 5)))).app
   have q2:(dn.length<=35184372088831)=True:=r9 zo;have q3:Al (dn.length+1) 64=True:=r9 (Ae zo zd);simp only[eZ,seval,sa,eY,AN s6,hg,e,wh,Bq wW,y0,AW,jR,s2,BT,Ax,Hz,Fj,r9 hd,wg,q1,q2,q3];obtain⟨H2,hH2⟩:∃H2,H2=wB H1 (n1+5) (.box (Cb {c with xX:=f}).cells):=⟨_,rfl⟩;have gt:C8 6 3 H2 tk:=by rw[hH2];exact me.set (.inr (.inr (Bq wW 5)))
   have gf:AO H2 (n1+12):=by rw[hH2];exact wW.wB (m:=n1+12) zo zo
   have g0:AD H2 0=some (.box (AL d)):=by rw[hH2,AA _ _ _ _ zo];exact wh
   refine .mk ⟨j+1,.own (n1+10) 6,dn++[{c with xX:=f}],wB (AU H2 tk) (n1+10) .tok,n1+12⟩ ?_ ?_ zp
   ·rw[hH2];simp only[su];rfl
   ·refine⟨s6,by simp [hdl],(Ab gt gf).wB (sj _) (show n1+10<n1+12 by omega),zp,?_,.inr (.inr ⟨n1+10,rfl,zo,AC ..⟩),.inl rfl,?_⟩
    ·simp only[];rw[AA _ _ _ _ zo,Ac gt (.inl zo)];exact g0
    ·simp only[];rw[heq];cases Ar (CK d) (d.wG.drop (j+1))<;>simp
 obtain rfl:j=d.wG.length:=zo
 rw[t5]at heq;have heq:Ar (CK d) d.wG=some dn:=by rw[heq];simp [Ar]
 rw[heq];simp only[eZ,seval,ry,Ag s6,wh];exact lU (Wk.sl (he1.imp id λq=>by rw[q];rfl))
def Rt(d:xj)(r:zj):zj×Bool:=match (if r.on=[]then some 0 else Bb (B0 d) r.on)with
 |none=>({r with xX:=0},false)
 |some f=>match (if r.yI=[]then some (-1)else Bb (d.wG.map (·.nm)) r.yI)with
  |none=>({r with xX:=f,set:=(Cu (d.wE.map (·.nm)) r.ns).getD 0,wU:=(Cu (d.wE.map (·.nm)) r.os).getD 0,wP:=-1},false)
  |some c=>({r with xX:=f,set:=(Cu (d.wE.map (·.nm)) r.ns).getD 0,wU:=(Cu (d.wE.map (·.nm)) r.os).getD 0,wP:=c},(Cu (d.wE.map (·.nm)) r.ns).isSome&&(Cu (d.wE.map (·.nm)) r.os).isSome)
theorem Y6(d:xj)(r:zj):Bh d r=if(Rt d r).2=true then some (Rt d r).1 else none:=by
 unfold Bh Rt;cases (if r.on=[]then some 0 else Bb (B0 d) r.on)with
 |none=>rfl
 |some f=>
 cases (if r.yI=[]then some (-1)else Bb (d.wG.map (·.nm)) r.yI)with
 |none=>cases Cu (d.wE.map (·.nm)) r.ns<;>cases Cu (d.wE.map (·.nm)) r.os<;>rfl
 |some c=>cases Cu (d.wE.map (·.nm)) r.ns<;>cases Cu (d.wE.map (·.nm)) r.os<;>rfl
abbrev VZ(x:zj×Bool):Fs:=.wJ [Bt x.1,.bool x.2]
theorem Kl(l ss:List Bs):XA l ss= .wJ [.int .i64 ((Cu l ss).getD 0),.bool (Cu l ss).isSome]:=by unfold XA;cases Cu l ss<;>rfl
def jS:Bg:=AF 171 (s2 dD dS (λd _=>zy d) λd s=>Cr (B0 d) s) (AF 233 (s2 dD dS (λd _=>zy d) λd s=>Cr (d.wG.map (·.nm)) s) (AF 232 (s2 dD Kj (λd ss=>zy d/\d.wE.length<=16/\wide ss) λd ss=>XA (d.wE.map (·.nm)) ss) wD))
theorem lV:AH prog jS:=((AH.wD.add (q2 λd ss h=>p232 d ss h.1 h.2.1 h.2.2)).add (q2 p233)).add (q2 p171)
theorem p172(d:xj)(r:zj)(hd:zy d)(xe:d.wE.length<=16)(hr:Gl r):Av prog 172 [B6 d,Bt r] (VZ (Rt d r)):=by
 refine .mk ⟨At 0 d,BP 0 r,zt⟩ ⟨BP 0 _,zt,zt⟩ (Q8.a (AI lV (AJ ?_)));have wr:=r9 (⟨hd,xe,hr.1⟩:zy d/\d.wE.length<=16/\wide r.ns);have yc:=r9 (⟨hd,xe,hr.2⟩:zy d/\d.wE.length<=16/\wide r.os);unfold Rt;by_cases h1:r.on=[]
 ·rw[sn h1];by_cases h2:r.yI=[]
  ·rw[sn h2];simp only[eZ,seval,sa,eY,BO,Q8,A6,BU h1,BU h2,jS,s2,BT,Ax,Hi,Fz,r9 hd,r9 xe,r9 hr.1,r9 hr.2,Kl,AF];exact Wk.refl _
  ·rw[sg h2];cases hc:Bb (d.wG.map (·.nm)) r.yI with
   |none=>
    have wg:Cr (d.wG.map (·.nm)) r.yI= .wJ [.int .i64 0,.bool false]:=by unfold Cr;rw[hc]
    simp only[eZ,seval,sa,se,eY,BO,Q8,A6,BU h1,A5 h2,jS,s2,BT,Ax,Hi,Fz,Hz,Fj,r9 hd,r9 xe,r9 hr.1,r9 hr.2,Kl,wg,AF];exact Wk.refl _
   |some c=>
    have wg:Cr (d.wG.map (·.nm)) r.yI= .wJ [.int .i64 c,.bool true]:=by unfold Cr;rw[hc]
    simp only[eZ,seval,sa,se,eY,BO,Q8,A6,BU h1,A5 h2,jS,s2,BT,Ax,Hi,Fz,Hz,Fj,r9 hd,r9 xe,r9 hr.1,r9 hr.2,Kl,wg,AF];exact Wk.refl _
 ·rw[sg h1];cases hf:Bb (B0 d) r.on with
  |none=>
   have hnf:Cr (B0 d) r.on= .wJ [.int .i64 0,.bool false]:=by unfold Cr;rw[hf]
   simp only[eZ,seval,se,eY,BO,Q8,A6,A5 h1,jS,s2,BT,Ax,Hz,Fj,r9 hd,hnf,AF];exact Wk.refl _
  |some f=>
   have hnf:Cr (B0 d) r.on= .wJ [.int .i64 f,.bool true]:=by unfold Cr;rw[hf]
   by_cases h2:r.yI=[]
   ·rw[sn h2];simp only[eZ,seval,sa,se,eY,BO,Q8,A6,A5 h1,BU h2,jS,s2,BT,Ax,Hi,Fz,Hz,Fj,r9 hd,r9 xe,r9 hr.1,r9 hr.2,Kl,hnf,AF];exact Wk.refl _
   ·rw[sg h2];cases hc:Bb (d.wG.map (·.nm)) r.yI with
    |none=>
     have wg:Cr (d.wG.map (·.nm)) r.yI= .wJ [.int .i64 0,.bool false]:=by unfold Cr;rw[hc]
     simp only[eZ,seval,sa,se,eY,BO,Q8,A6,A5 h1,A5 h2,jS,s2,BT,Ax,Hi,Fz,Hz,Fj,r9 hd,r9 xe,r9 hr.1,r9 hr.2,Kl,hnf,wg,AF];exact Wk.refl _
    |some c=>
     have wg:Cr (d.wG.map (·.nm)) r.yI= .wJ [.int .i64 c,.bool true]:=by unfold Cr;rw[hc]
     simp only[eZ,seval,sa,se,eY,BO,Q8,A6,A5 h1,A5 h2,jS,s2,BT,Ax,Hi,Fz,Hz,Fj,r9 hd,r9 xe,r9 hr.1,r9 hr.2,Kl,hnf,wg,AF];exact Wk.refl _
def EV(d:xj):Fs:=if Ap (d.wF.map λx:zj=>x.nm)=true then .wJ [DZ [],.int .i64 161]else match Ar (Bh d) d.wF with
 |none=>.wJ [DZ [],.int .i64 160]
 |some cs=>.wJ [DZ cs,.int .i64 0]
def Trv:Bg:=AF 116 twS (AF 172 (s2 dD Mq (λd r=>zy d/\d.wE.length<=16/\Gl r) λd r=>VZ (Rt d r)) wD)
theorem lW:AH prog Trv:=(AH.wD.add (q2 λd r h=>p172 d r h.1 h.2.1 h.2.2)).add (q1 lR)
theorem jT(a:List Fs)(H:AB):Trv 116 a H=s1 Kj Aq (λl=>.bool (Ap l)) a H:=rfl
theorem jU(a:List Fs)(H:AB):Trv 172 a H=s2 dD Mq (λd r=>zy d/\d.wE.length<=16/\Gl r) (λd r=>VZ (Rt d r)) a H:=rfl
theorem p119(d:xj)(hd:zy d)(xe:d.wE.length<=16):Av prog 119 [B6 d] (EV d):=by
 refine .mk ⟨At 0 d,zt⟩ (by unfold EV;split;exact⟨Da 0 _,zt,zt⟩;split<;>exact⟨Da 0 _,zt,zt⟩) (qO.a (AI lW (AJ ?_)));have wi:d.wF.length<1000000000:=hd.ru;simp only[eE,eN,seval,qO];refine AQ (λv:VNm=>⟨[(1,true,.ptr 0 0),(4,true,.sl v.tk ((M1 [] (λx:zj=>x.nm) d.wF v.i).map .str)),(5,true,.int .i64 v.i)],v.H,v.n⟩) (λv=>INm d 3 d.wF.length (M1 [] (λx:zj=>x.nm) d.wF v.i) v) (λv=>d.wF.length-v.i)
  ⟨0,.nil,wB Ak 0 (.box (AL d)),3⟩ rfl ⟨sk _,AO.nil.wB (m:=3) (sk 3) (show 0<3 by decide),sj _,rfl,.inl rfl,.inr rfl⟩ ?_
 rintro⟨i,tk,H,n⟩ ⟨hi,l9,hn,h0,l7,s7⟩;simp only at hi l9 hn h0 l7 s7;by_cases e9:i<d.wF.length
 ·have hg:=rz e9;have e:=AK (k:=i) zo;have htx:=Jn [] (λx:zj=>x.nm) e9;have hnl:=Mb [] (λx:zj=>x.nm) d.wF i;have xo:([]:List Bs).length<=8:=zd
  generalize d.wF[i]=x at hg htx;generalize hL:M1 [] (λx:zj=>x.nm) d.wF i=L at htx l7 s7 hnl⊢;have q1:BB H 1 tk=True:=r9 l7.app;have q2:(L.length<=35184372088831)=True:=r9 zo;have q3:Al (L.length+1) 16=True:=r9 (by unfold Al;omega);simp only[eZ,seval,eY,AN e9,hg,e,h0,Bq l9,q1,q2,q3];refine .mk ⟨i+1,.own (n+8) 1,wB (AU H tk) (n+8) .tok,n+10⟩ ?_ ?_ zp
  ·simp only[htx,su];rfl
  ·refine⟨e9,(Ab l7 l9).wB (m:=n+10) zo zo,zp,?_,.inr (.inr ⟨n+8,rfl,zo,AC ..⟩),.inl rfl⟩;simp only[];rw[AA _ _ _ _ zo,Ac l7 (.inr ⟨_,h0⟩)];exact h0
 obtain rfl:i=d.wF.length:=zo
 have hNA:=Mc [] (λx:zj=>x.nm) d.wF;have xo:([]:List Bs).length<=8:=zd
 rw[hNA]at s7;have hnf:Aq (d.wF.map λx:zj=>x.nm):=show(d.wF.map λx:zj=>x.nm).length<_ by first|(rw[ry];omega)|(rw[sH,ry];omega)
 rw[sI]at hNA s7;cases ht:Ap (d.wF.map λx:zj=>x.nm)with
 |true=>
  have hR:EV d= .wJ [DZ [],.int .i64 161]:=by unfold EV;rw[sn ht]
  rw[hR];simp only[eZ,seval,ry,Ag e9,h0,hNA,jT,s1,Dw s7,DD,r9 hnf,ht];exact lU (Wk.sl (.inr rfl))
 |false=>
 have hR:EV d=match Ar (Bh d) d.wF with
  |none=>.wJ [DZ [],.int .i64 160]
  |some cs=>.wJ [DZ cs,.int .i64 0]:=by unfold EV;rw[sg (by rw[ht];decide)]
 rw[hR];simp only[eZ,seval,ry,Ag e9,h0,hNA,jT,s1,Dw s7,DD,r9 hnf,ht];refine AQ (λv:VRs zj=>⟨[(1,true,.ptr 0 0),(6,true,.sl v.tk (v.dn.map Bt)),(7,true,.int .i64 v.i)],v.H,v.n⟩) (IRs d 12 d.wF (Bh d)) (λv=>d.wF.length-v.i)
  ⟨0,.nil,[],H,n⟩ rfl ⟨sk _,rfl,l9,hn,h0,.inl rfl,.inr rfl,by simp only[vI];cases Ar (Bh d) d.wF<;>rfl⟩ ?_
 rintro⟨j,tk,dn,H1,n1⟩ ⟨hj,hdl,wW,to,wh,me,he1,heq⟩;simp only at hj hdl wW to wh me he1 heq;by_cases s6:j<d.wF.length
 ·have hg:=rz s6;have e:=AK (k:=j) zo;have hrf:=hd.rus _ (sC s6);rw[sO s6,ES]at heq;generalize d.wF[j]=r at hg heq hrf;have y0:∀q,(n1+q=0)=False:=λq=>sb zo
  rw[Y6]at heq;obtain⟨r',ok,hv⟩:∃a b,Rt d r=(a,b):=⟨_,_,rfl⟩;rw[hv]at heq;have u1:wN 0 [B6 d,Bt r]=True:=r9 ⟨At 0 d,BP 0 r,zt⟩;have u2:∀b,Fs.under 0 (VZ (r',b))=True:=λb=>r9 ⟨BP 0 _,zt,zt⟩
  cases ok with
  |false=>
   simp only[sN,sY,tU]at heq;rw[heq];simp only[eZ,seval,se,eY,AN s6,hg,wh,Bq wW,AW,jU,s2,BT,Ax,CC,Bi,r9 hd,r9 xe,r9 hrf,hv,u1,u2];exact lU (Wk.sl (.inr rfl))
  |true=>
   simp only[tD]at heq;have q1:∀ob1,BB (wB H1 (n1+10) ob1) 12 tk=True:=λob1=>r9 (me.set (.inr (.inr (Bq wW 10)))).app
   have q2:(dn.length<=35184372088831)=True:=r9 zo;have q3:Al (dn.length+1) 152=True:=r9 (Ae zo zd);simp only[eZ,seval,sa,eY,AN s6,hg,e,wh,Bq wW,AW,jU,s2,BT,Ax,CC,Bi,r9 hd,r9 xe,r9 hrf,hv,u1,u2,q1,q2,q3];obtain⟨H2,hH2⟩:∃H2,H2=wB H1 (n1+10) (.box (B3 r')):=⟨_,rfl⟩;have gt:C8 12 3 H2 tk:=by rw[hH2];exact me.set (.inr (.inr (Bq wW 10)))
   have gf:AO H2 (n1+18):=by rw[hH2];exact wW.wB (m:=n1+18) zo zo
   have g0:AD H2 0=some (.box (AL d)):=by rw[hH2,AA _ _ _ _ zo];exact wh
   refine .mk ⟨j+1,.own (n1+16) 12,dn++[r'],wB (AU H2 tk) (n1+16) .tok,n1+18⟩ ?_ ?_ zp
   ·rw[hH2];simp only[su];rfl
   ·refine⟨s6,by simp [hdl],(Ab gt gf).wB (sj _) (show n1+16<n1+18 by omega),zp,?_,.inr (.inr ⟨n1+16,rfl,zo,AC ..⟩),.inl rfl,?_⟩
    ·simp only[];rw[AA _ _ _ _ zo,Ac gt (.inl zo)];exact g0
    ·simp only[];rw[heq];cases Ar (Bh d) (d.wF.drop (j+1))<;>simp
 obtain rfl:j=d.wF.length:=zo
 rw[t5]at heq;have heq:Ar (Bh d) d.wF=some dn:=by rw[heq];simp [Ar]
 rw[heq];simp only[eZ,seval,ry,Ag s6,wh];exact lU (Wk.sl (he1.imp id λq=>by rw[q];rfl))
end
def eJ:Fs:=.sl (.exact 1) (CZ.map .str)
def pGvX:Av prog 117 [] eJ:=by
 refine .mk zt (CR 0 CZ) (cM.a (AI AH.wD (AJ ?_)));simp only[eE,eN,seval,cM];exact Wk.refl _
def re:List Fs->AB->Prop×Fs:=λa _=>match a with
 |[]=>(True,eJ)
 |_=>(False,.wJ [])
def qGx:∀args H n,(re args H).1->Ao prog 117 args H n (re args H).2:=by
 intro args H n hh;unfold re at hh⊢;split at hh
 ·exact pGvX.quiet H n
 ·exact hh.elim
def Tre:Bg:=AF 116 twS (AF 117 re (AF 118 (s1 dD zy Dy) (AF 119 (s1 dD (λd=>zy d/\d.wE.length<=16) EV) wD)))
def lX:AH prog Tre:=(((AH.wD.add (q1 λd h=>p119 d h.1 h.2)).add (q1 p118)).add qGx).add (q1 lR)
theorem Lh(a:List Fs)(H:AB):Tre 116 a H=s1 Kj Aq (λl=>.bool (Ap l)) a H:=rfl
theorem Tre_g(a:List Fs)(H:AB):Tre 117 a H=re a H:=rfl
theorem Ru(a:List Fs)(H:AB):Tre 118 a H=s1 dD zy Dy a H:=rfl
theorem Y7(a:List Fs)(H:AB):Tre 119 a H=s1 dD (λd=>zy d/\d.wE.length<=16) EV a H:=rfl
def lY{e:Int}:Wk (.wJ [.agg JB,.int .i64 e]) (.wJ [B6 KW,.int .i64 e]):=lU (wk_Dk (Wk.sl (.inr rfl)) (Wk.sl (.inr rfl)) (Wk.sl (.inr rfl)) (Wk.sl (.inr rfl)) (Wk.sl (.inr rfl)))
def p76(d:xj)(hd:zy d)(hq9:d.wK.length<999999000):Av prog 76 [B6 d] (Cd d):=by
 refine .mk ⟨At 0 d,zt⟩ (by unfold Cd;split<;>exact⟨At 0 _,zt,zt⟩) (c76.a (AI lX (AJ ?_)));have yk:d.wE.length<1000000000:=hd.sy;have hrl:d.wK.length<1000000000:=hd.rg;have hE:∀e,CL d= .error e->Cd d= .wJ [B6 KW,.int .i64 e]:=λe h=>by unfold Cd;rw[h]
 have hO:∀x,CL d= .ok x->Cd d= .wJ [B6 x,.int .i64 0]:=λx h=>by unfold Cd;rw[h]
 by_cases xe:16<d.wE.length
 ·have hb:((16:Int)<(d.wE.length:Int))=True:=r9 zo;rw[hE 2 (by unfold CL;rw[sn xe])];simp only[eZ,seval,BO,ry,c76,hb];exact lY
 have hb:((16:Int)<(d.wE.length:Int))=False:=sb zo;have h16':d.wE.length<=16:=zo
 simp only[eZ,seval,ry,c76,hb];refine AQ (λv:VNm=>⟨[(1,true,.ptr 0 0),(2,true,.ptr 1 0),(4,true,.sl v.tk ((M1 [] (λx:xk=>x.nm) d.wE v.i).map .str)),(5,true,.int .i64 v.i)],v.H,v.n⟩) (λv=>(AD v.H 1=some (.box JB))/\INm d 3 d.wE.length (M1 [] (λx:xk=>x.nm) d.wE v.i) v) (λv=>d.wE.length-v.i)
  ⟨0,.nil,wB (wB Ak 0 (.box (AL d))) 1 (.box JB),3⟩ rfl ⟨rfl,sk _,(AO.nil.wB (m:=3) (sk 3) (show 0<3 by decide)).wB (sj 3) (show 1<3 by decide),sj _,rfl,.inl rfl,.inr rfl⟩ ?_
 rintro⟨i,tk,H,n⟩ ⟨h1,hi,l9,hn,h0,l7,s7⟩;simp only at h1 hi l9 hn h0 l7 s7;by_cases e9:i<d.wE.length
 ·have hg:=rz e9;have e:=AK (k:=i) zo;have htx:=Jn [] (λx:xk=>x.nm) e9;have hnl:=Mb [] (λx:xk=>x.nm) d.wE i;have xo:([]:List Bs).length<=8:=zd
  generalize d.wE[i]=x at hg htx;generalize hL:M1 [] (λx:xk=>x.nm) d.wE i=L at htx l7 s7 hnl⊢;have q1:BB H 1 tk=True:=r9 l7.app;have q2:(L.length<=35184372088831)=True:=r9 zo;have q3:Al (L.length+1) 16=True:=r9 (by unfold Al;omega);simp only[eZ,seval,eY,AN e9,hg,e,h0,Bq l9,q1,q2,q3];refine .mk ⟨i+1,.own (n+8) 1,wB (AU H tk) (n+8) .tok,n+10⟩ ?_ ?_ zp
  ·simp only[htx,su];rfl
  ·refine⟨by simp only[];rw[AA _ _ _ _ zo,Ac l7 (.inr ⟨_,h1⟩)];exact h1,e9,(Ab l7 l9).wB (m:=n+10) zo zo,zp,?_,.inr (.inr ⟨n+8,rfl,zo,AC ..⟩),.inl rfl⟩;simp only[];rw[AA _ _ _ _ zo,Ac l7 (.inr ⟨_,h0⟩)];exact h0
 obtain rfl:i=d.wE.length:=zo
 have hNA:=Mc [] (λx:xk=>x.nm) d.wE;have xo:([]:List Bs).length<=8:=zd
 rw[hNA]at s7;have hnf:Aq (d.wE.map λx:xk=>x.nm):=show(d.wE.map λx:xk=>x.nm).length<_ by first|(rw[ry];omega)|(unfold B0;rw[sH,ry];omega)
 rw[sI]at hNA s7;cases ht:Ap (d.wE.map λx:xk=>x.nm)with
 |true=>
  rw[hE 161 (by unfold CL;rw[sg xe,sn ht])];simp only[eZ,seval,BO,ry,Ag e9,h0,h1,hNA,Lh,s1,Dw s7,DD,r9 hnf,ht];exact lY
 |false=>
 have hgx:re []=λ_=>(True,eJ):=rfl
 have hg0:eJ= .sl (.exact 1) ((M1 CZ (λx:xz=>x.nm) d.wK 0).map .str):=by unfold M1;rw[uo,t6,sR];rfl
 simp only[eZ,seval,ry,Ag e9,h0,hNA,Lh,Tre_g,hgx,s1,Dw s7,DD,r9 hnf,ht];rw[hg0];clear s7 l7 hi e9 hNA xo hnf;refine AQ (λv:VNm=>⟨[(1,true,.ptr 0 0),(2,true,.ptr 1 0),(6,true,.sl v.tk ((M1 CZ (λx:xz=>x.nm) d.wK v.i).map .str)),(7,true,.int .i64 v.i)],v.H,v.n⟩) (λv=>(AD v.H 1=some (.box JB))/\INm d 3 d.wK.length (M1 CZ (λx:xz=>x.nm) d.wK v.i) v) (λv=>d.wK.length-v.i)
  ⟨0,.exact 1,H,n⟩ rfl ⟨h1,sk _,l9,hn,h0,.inr (.inl rfl),.inl rfl⟩ ?_
 rintro⟨i,tk,H,n⟩ ⟨h1,hi,l9,hn,h0,l7,s7⟩;simp only at h1 hi l9 hn h0 l7 s7;by_cases e9:i<d.wK.length
 ·have hg:=rz e9;have e:=AK (k:=i) zo;have htx:=Jn CZ (λx:xz=>x.nm) e9;have hnl:=Mb CZ (λx:xz=>x.nm) d.wK i;have xo:(CZ:List Bs).length<=8:=zd
  generalize d.wK[i]=x at hg htx;generalize hL:M1 CZ (λx:xz=>x.nm) d.wK i=L at htx l7 s7 hnl⊢;have q1:BB H 1 tk=True:=r9 l7.app;have q2:(L.length<=35184372088831)=True:=r9 zo;have q3:Al (L.length+1) 16=True:=r9 (by unfold Al;omega);simp only[eZ,seval,eY,AN e9,hg,e,h0,Bq l9,q1,q2,q3];refine .mk ⟨i+1,.own (n+8) 1,wB (AU H tk) (n+8) .tok,n+10⟩ ?_ ?_ zp
  ·simp only[htx,su];rfl
  ·refine⟨by simp only[];rw[AA _ _ _ _ zo,Ac l7 (.inr ⟨_,h1⟩)];exact h1,e9,(Ab l7 l9).wB (m:=n+10) zo zo,zp,?_,.inr (.inr ⟨n+8,rfl,zo,AC ..⟩),.inl rfl⟩;simp only[];rw[AA _ _ _ _ zo,Ac l7 (.inr ⟨_,h0⟩)];exact h0
 obtain rfl:i=d.wK.length:=zo
 have hNA:=Mc CZ (λx:xz=>x.nm) d.wK;have xo:(CZ:List Bs).length<=8:=zd
 rw[hNA]at s7;have hnf:Aq (B0 d):=show(B0 d).length<_ by first|(rw[ry];omega)|(unfold B0;rw[sH,ry];omega)
 cases wp:Ap (B0 d)with
 |true=>
  rw[hE 161 (by unfold CL;rw[sg xe,sg (by rw[ht];decide),sn wp])];have hNA:M1 CZ (λx:xz=>x.nm) d.wK d.wK.length=B0 d:=hNA;have s7:tk.esz=1\/B0 d=[]:=s7;simp only[eZ,seval,BO,ry,Ag e9,h0,h1,hNA,Lh,s1,Dw s7,DD,r9 hnf,wp];exact lY
 |false=>
 have hNA:M1 CZ (λx:xz=>x.nm) d.wK d.wK.length=B0 d:=hNA;have s7:tk.esz=1\/B0 d=[]:=s7;have xR:CL d=if Ap (d.wG.map λx:x8=>x.nm)=true then .error 161 else match Ar (CK d) d.wG with
   |none=>.error 160
   |some cs=>if Ap (d.wF.map λx:zj=>x.nm)=true then .error 161 else match Ar (Bh d) d.wF with
    |none=>.error 160
    |some rs=>.ok {d with wG:=cs,wF:=rs}:=by unfold CL;rw[sg xe,sg (by rw[ht];decide),sg (by rw[wp];decide)];rfl
 have base:=λ(X:Fs) (hX:Dy d=X)=>hX
 cases yj:Ap (d.wG.map λx:x8=>x.nm)with
 |true=>
  have hc:Dy d= .wJ [Eh [],.int .i64 161]:=by unfold Dy;rw[sn yj]
  rw[hE 161 (by rw[xR,sn yj])];simp only[eZ,seval,se,eY,BO,Ag e9,h0,h1,hNA,Lh,Ru,s1,Dw s7,DD,BT,Ax,r9 hd,r9 hnf,wp,hc];exact lY
 |false=>
 rw[sg (by rw[yj];decide)]at xR;cases xl:Ar (CK d) d.wG with
 |none=>
  have hc:Dy d= .wJ [Eh [],.int .i64 160]:=by unfold Dy;rw[sg (by rw[yj];decide),xl]
  rw[hE 160 (by rw[xR,xl])];simp only[eZ,seval,se,eY,BO,Ag e9,h0,h1,hNA,Lh,Ru,s1,Dw s7,DD,BT,Ax,r9 hd,r9 hnf,wp,hc];exact lY
 |some cs=>
 have hc:Dy d= .wJ [Eh cs,.int .i64 0]:=by unfold Dy;rw[sg (by rw[yj];decide),xl]
 rw[xl]at xR;simp only at xR;cases ht4:Ap (d.wF.map λx:zj=>x.nm)with
 |true=>
  have hr:EV d= .wJ [DZ [],.int .i64 161]:=by unfold EV;rw[sn ht4]
  rw[hE 161 (by rw[xR,sn ht4])];simp only[eZ,seval,sa,se,eY,BO,Ag e9,h0,h1,hNA,Lh,Ru,Y7,s1,Dw s7,DD,BT,Ax,r9 hd,r9 h16',r9 hnf,wp,hc,hr];exact lY
 |false=>
 rw[sg (by rw[ht4];decide)]at xR;cases hrs:Ar (Bh d) d.wF with
 |none=>
  have hr:EV d= .wJ [DZ [],.int .i64 160]:=by unfold EV;rw[sg (by rw[ht4];decide),hrs]
  rw[hE 160 (by rw[xR,hrs])];simp only[eZ,seval,sa,se,eY,BO,Ag e9,h0,h1,hNA,Lh,Ru,Y7,s1,Dw s7,DD,BT,Ax,r9 hd,r9 h16',r9 hnf,wp,hc,hr];exact lY
 |some rs=>
  have hr:EV d= .wJ [DZ rs,.int .i64 0]:=by unfold EV;rw[sg (by rw[ht4];decide),hrs]
  rw[hO _ (by rw[xR,hrs])];simp only[eZ,seval,sa,eY,BO,Ag e9,h0,h1,hNA,Lh,Ru,Y7,s1,Dw s7,DD,BT,Ax,r9 hd,r9 h16',r9 hnf,wp,hc,hr,AW];exact Wk.refl _
abbrev QU(d:xj):Prop:=zy d/\d.wK.length<999999000
def lZ:Bg:=AF 76 (s1 dD QU Cd) (AF 120 (s2 dD dD (λa _=>zy a) λa b=>.bool (decide (a=b))) (AF 78 dm (AF 121 (s2 dD DS (λd g=>zy d/\Au g.sh g.w g.h g.wC=some g.cells/\Aq g.wC) λd g=>.int .i64 (DO g.cells d.wK)) (AF 122 (s1 dD zy λd=>.bool (CA d)) (AF 123 (s1 dD (λd=>Aq d.wF) λd=>Aj (B2 d.wF)) wD)))))
def lf:AH prog lZ:=(((((AH.wD.add (q1 λd h=>p123 d h)).add (q1 λd h=>p122 d h)).add (q2 λd g h=>p121 d g h.1 h.2.1 h.2.2)).add qMk).add (q2 λa b h=>p120 a b h)).add (q1 λd h=>p76 d h.1 h.2)
theorem Lk(a:List Fs)(H:AB):lZ 76 a H=s1 dD QU Cd a H:=rfl
theorem M2(a:List Fs)(H:AB):lZ 120 a H=s2 dD dD (λa _=>zy a) (λa b=>.bool (decide (a=b))) a H:=rfl
theorem Rv(sh w h:Int)(x:Fs)(H:AB):lZ 78 [.int .i64 sh,.int .i64 w,.int .i64 h,x] H=(A3.ok x/\Aq (A3.dec x),Bf sh w h (A3.dec x)):=rfl
theorem Va(a:List Fs)(H:AB):lZ 121 a H=s2 dD DS (λd g=>zy d/\Au g.sh g.w g.h g.wC=some g.cells/\Aq g.wC) (λd g=>.int .i64 (DO g.cells d.wK)) a H:=rfl
theorem Y8(a:List Fs)(H:AB):lZ 122 a H=s1 dD zy (λd=>.bool (CA d)) a H:=rfl
theorem jV(a:List Fs)(H:AB):lZ 123 a H=s1 dD (λd=>Aq d.wF) (λd=>Aj (B2 d.wF)) a H:=rfl
theorem IF{α β:Type}{f:α->Option β}:∀{l:List α} {r:List β},Ar f l=some r->r.length=l.length/\∀y∈r,∃x∈l,f x=some y
 |[],r,h=>by
  simp only[Ar,Option.some.injEq]at h;subst h;exact⟨rfl,λy hy=>by cases hy⟩
 |x::l,r,h=>by
  rw[ES]at h;cases hx:f x with
  |none=>rw[hx]at h;cases h
  |some z=>
   rw[hx]at h;simp only at h;cases hl:Ar f l with
   |none=>rw[hl]at h;cases h
   |some s=>
    rw[hl]at h;simp only[td,Option.some.injEq]at h;subst h;obtain⟨h1,h2⟩:=IF hl;refine⟨by simp [h1],λy hy=>?_⟩;rcases tg.1 hy with rfl|hy
    ·exact⟨x,zw,hx⟩
    ·obtain⟨w,hw,e⟩:=h2 y hy;exact⟨w,by simp [hw],e⟩
def XB{d:xj}{r r':zj}(h:Bh d r=some r'):r'.ns=r.ns/\r'.os=r.os:=by
 unfold Bh at h;split at h
 ·cases h;exact⟨rfl,rfl⟩
 ·cases h
def Iw{d x:xj}(hd:zy d)(h:CL d= .ok x):zy x:=by
 obtain⟨-,-,-,-,-,e1,e2,e3⟩:=TL h
 have key:∃cs rs,Ar (CK d) d.wG=some cs/\Ar (Bh d) d.wF=some rs/\x.wG=cs/\x.wF=rs:=by
  unfold CL at h
  repeat' split at h
  all_goals first
   |(cases h;done)
   |(rename_i cs xl _ _ rs hrs
     cases h
     exact⟨_,_,xl,hrs,rfl,rfl⟩)
 obtain⟨cs,rs,h1,h2,h3,h4⟩:=key
 obtain⟨l1,-⟩:=IF h1
 obtain⟨l2,m2⟩:=IF h2
 refine⟨by rw[e1];exact hd.ho,by rw[e2];exact hd.sy,by rw[e3];exact hd.rg,by rw[e3];exact hd.rgs,?_,?_,λr hr=>?_⟩
 ·rw[h3];show cs.length<_;rw[l1];exact hd.cl
 ·rw[h4];show rs.length<_;rw[l2];exact hd.ru
 ·rw[h4]at hr
  obtain⟨r0,hr0,e⟩:=m2 r hr
  obtain⟨q1,q2⟩:=XB e
  have:=hd.rus r0 hr0
  exact⟨by rw[q1];exact this.1,by rw[q2];exact this.2⟩
def eK(d:xj):(decide ((d.wE.length:Int)=0)||decide ((16:Int)<d.wE.length)||decide ((4:Int)<d.wK.length)||decide ((4:Int)<d.wG.length)||decide ((16:Int)<d.wF.length))= !KV d:=by
 rw[sP];unfold KV;simp only[sQ,si,tJ,vp,ti];omega
def p77(d:xj)(hd:zy d):Av prog 77 [B6 d] (.int .i64 (Dt d)):=by
 refine .mk ⟨At 0 d,zt⟩ zt (cK.a (AI lf (AJ ?_)));unfold Dt;have hlb:=eK d;cases hl:KV d with
 |false=>
  rw[hl]at hlb;rw[sn rfl];simp only[eZ,seval,se,ry,cK,hlb,se]
 |true=>
 rw[hl]at hlb;rw[sg zd];have l9:QU d:=⟨hd,by
  unfold KV at hl;simp only[sf,si]at hl;omega⟩
 cases hr:CL d with
 |error e=>
  have hv:Cd d= .wJ [B6 KW,.int .i64 e]:=by unfold Cd;rw[hr]
  have he:(e=0)=False:=sb (GX hr);simp only[eZ,seval,sa,se,eY,cK,hlb,sa,Lk,s1,BT,Ax,r9 l9,hv,he]
 |ok x=>
 have hv:Cd d= .wJ [B6 x,.int .i64 0]:=by unfold Cd;rw[hr]
 have hfx:=Iw hd hr;simp only[];by_cases hx:x=d;case neg=>
  rw[sn hx];simp only[eZ,seval,sa,se,eY,cK,hlb,sa,Lk,M2,s1,s2,BT,Ax,r9 l9,r9 hfx,hv,A5 hx]
 rw[sg (λz=>z hx)];subst hx;by_cases hver:x.yN<1\/255<x.yN
 ·have hvb:(decide (x.yN<1)||decide (255<x.yN))=true:=by simpa using hver
  rw[sn hver];simp only[eZ,seval,sa,eY,cK,hlb,sa,Lk,M2,s1,s2,BT,Ax,r9 l9,r9 hd,hv,hvb]
 have hvb:(decide (x.yN<1)||decide (255<x.yN))=false:=by simp;omega
 rw[sg hver];cases hc:Au x.sh x.w x.h x.wC with
 |none=>
  have hm:Bf x.sh x.w x.h x.wC= .wJ [Ej 0 0 0 [] [],.int .i64 130]:=by unfold Bf;rw[hc]
  simp only[eZ,seval,sa,se,eY,cK,hlb,sa,Lk,M2,Rv,s1,s2,BT,Ax,Ah,Ad,r9 l9,r9 hd,r9 hd.ho,hv,hvb,hm]
 |some cells=>
 have hm:Bf x.sh x.w x.h x.wC= .wJ [Ej x.sh x.w x.h x.wC cells,.int .i64 0]:=by unfold Bf;rw[hc]
 simp only[];by_cases hre:DO cells x.wK=0;case neg=>
  rw[sn hre];simp only[eZ,seval,sa,se,eY,cK,hlb,sa,Lk,M2,Rv,Va,s1,s2,BT,Ax,Ah,Ad,Fu,Dk,r9 l9,r9 hd,r9 hd.ho,hv,hvb,hm,hc,sb hre]
 rw[sg (λz=>z hre)];cases hf:CA x with
 |false=>
  rw[sn rfl];simp only[eZ,seval,sa,se,eY,cK,hlb,sa,Lk,M2,Rv,Va,Y8,s1,s2,BT,Ax,Ah,Ad,Fu,Dk,r9 l9,r9 hd,r9 hd.ho,hv,hvb,hm,hc,hre,hf]
 |true=>
 rw[sg zd];by_cases hu:B2 x.wF=[]
 ·rw[sg (λz=>z hu)];simp only[eZ,seval,sa,eY,cK,hlb,sa,Lk,M2,Rv,Va,Y8,jV,s1,s2,BT,Ax,Ah,Ad,Fu,Dk,r9 l9,r9 hd,r9 hd.ho,r9 hd.ru,hv,hvb,hm,hc,hre,hf,hu]
 ·rw[sn hu];have hup:((0:Int)<((B2 x.wF).length:Int))=True:=r9 (by have:=List.length_pos_iff.2 hu;omega);simp only[eZ,seval,sa,eY,cK,hlb,sa,Lk,M2,Rv,Va,Y8,jV,s1,s2,BT,Ax,Ah,Ad,Fu,Dk,r9 l9,r9 hd,r9 hd.ho,r9 hd.ru,hv,hvb,hm,hc,hre,hf,hup]
abbrev Jo(ls:List (List (List Int))):Fs:=.sl (.none 1) (ls.map Br)
abbrev AG(k:zx):List Fs:=AL k.d++(AE k.g.sh k.g.w k.g.h k.g.wC k.g.cells++[Br k.nb,Jo k.ls])
abbrev BA(k:zx):Fs:=.agg (AG k)
def Tp:Fs->List (List (List Int))
 | .sl _ L=>L.map QE
 |_=>[]
def jW:Fs->zx
 | .agg [nm,v,sh,w,h,ho,sy,rg,cl,ru,gs,gw,gh,gho,gce,nb,ls]=>⟨cw (.agg [nm,v,sh,w,h,ho,sy,rg,cl,ru]),TP (.agg [gs,gw,gh,gho,gce]),QE nb,Tp ls⟩
 |_=>⟨KW,⟨0,0,0,[],[]⟩,[],[]⟩
def F8(n:Nat)(l:List (List (List Int))):(Jo l).under n:=⟨zt,BW (BC n) _⟩
def Am(n:Nat)(k:zx):(BA k).under n:=⟨zt,zt,zt,zt,zt,AV n _,Hf n _,E6 n _,E7 n _,Da n _,zt,zt,zt,AV n _,AV n _,BC n _,F8 n _,zt⟩
def Tq(l:List (List (List Int))):Tp (Jo l)=l:=Dx HG l
def O8(k:zx):jW (BA k)=k:=by
 have h1:=OE k.d;have h2:=LU k.g;show zx.mk (cw (B6 k.d)) (TP (CM k.g)) (QE (Br k.nb)) (Tp (Jo k.ls))=k;rw[h1,h2,HG,Tq]
def XD:Dc (List (List (List Int))):=kR 1 Br QE
def eL(l:List (List (List Int))):XD.ok (Jo l)=True:=Jf HG (.inl rfl)
def Y9(l:List (List (List Int))):XD.dec (Jo l)=l:=Hh HG
def CQ:Dc zx:=ig BA jW
def Ce(x:zx):CQ.ok (BA x)=True:=Ij O8 x
def Bx(x:zx):CQ.dec (BA x)=x:=O8 x
def p111(a b:List (List Int))(hb:B7 b):Av prog 111 [Br a,Br b] (.bool (decide (a=b))):=by
 refine .mk ⟨BC 0 a,BC 0 b,zt⟩ zt (c111.a (AI dO (AJ ?_)));simp only[eE,eN,seval,c111,Tcl,Yi,Db,Cv,r9 hb,AF]
def Tke:Bg:=AF 111 (s2 OF OF (λ_ b=>B7 b) λa b=>.bool (decide (a=b))) wD
def ZA:AH prog Tke:=AH.wD.add (q2 p111)
def p112(a b:List (List (List Int)))(hb:Aq b)(hx:∀x∈b,B7 x):Av prog 112 [Jo a,Jo b,.fn (.func 111) [] []] (.bool (decide (a=b))):=by
 refine .mk ⟨F8 0 a,F8 0 b,by simp [Fs.under,wN],zt⟩ zt (qv.a (AI ZA (AJ ?_)));by_cases hl:a.length=b.length;case neg=>
  simp only[eZ,seval,se,ry,qv,HY hl,se];exact(sA λe=>hl (by rw[e])).symm
 simp only[eZ,seval,sa,ry,qv,HZ hl];refine AQ (λi:Nat=>⟨[(1,true,Jo b),(2,true,.fn (.func 111) [] []),(15,true,Jo a),(16,true,.int .i64 a.length),(17,true,.int .i64 i)],Ak,0⟩) (λi=>i<=a.length/\∀j,j<i->a[j]?=b[j]?) (λi=>a.length-i) 0 rfl ⟨sk _,λj hj=>zo⟩ ?_;rintro i ⟨hi,l5⟩;by_cases e9:i<a.length;case neg=>
  simp only[eZ,seval,Ag e9];exact(sK (Ed hl λj hj=>l5 j zo)).symm
 have wO:i<b.length:=zo
 have xW:=rz e9;have wQ:=rz wO;have e:=AK (k:=i) (by have:b.length<1000000000:=hb;omega);have hf:=hx _ (sC wO);by_cases hs:a[i]=b[i]
 ·simp only[eZ,seval,sa,sw,sm,sr,ry,sF,AN e9,AN wO,xW,wQ,e,Tke,s2,Db,Cv,r9 hf,BU hs,AF];refine dw.drop (i+1) rfl rfl rfl rfl AO.nil (λ_ _ h=>by cases h) ⟨F8 0 b,by simp [Fs.under,wN],F8 0 a,zt,zt,zt⟩ ⟨e9,λj h=>?_⟩ zo;by_cases q:j=i
  ·subst q;rw[xW,wQ,hs]
  ·exact l5 j zo
 ·simp only[eZ,seval,se,sw,sm,sr,ry,sF,AN e9,AN wO,xW,wQ,Tke,s2,Db,Cv,r9 hf,A5 hs,AF];exact(sA λq=>hs (by simp [q])).symm
structure FewKn(k:zx):Prop where
 d:zy k.d
 ho:wide k.g.wC
 ce:wide k.g.cells
 nb:B7 k.nb
 ls:Aq k.ls
 lx:∀x∈k.ls,B7 x
def Tks:Bg:=AF 109 (s2 A3 A3 (λ_ b=>wide b) λa b=>.bool (decide (a=b))) (AF 110 (s2 dD dD (λ_ b=>zy b) λa b=>.bool (decide (a=b))) (AF 112 (Yi 111 XD XD (λ_ b=>Aq b/\∀x∈b,B7 x) λa b=>.bool (decide (a=b))) Tke))
def lg:AH prog Tks:=((ZA.add (q2f λa b h=>p112 a b h.1 h.2)).add (q2 p110)).add (q2 YU)
theorem Tks_i(a:List Fs)(H:AB):Tks 109 a H=s2 A3 A3 (λ_ b=>wide b) (λa b=>.bool (decide (a=b))) a H:=rfl
theorem Tks_s(a:List Fs)(H:AB):Tks 110 a H=s2 dD dD (λ_ b=>zy b) (λa b=>.bool (decide (a=b))) a H:=rfl
theorem Tks_f(a:List Fs)(H:AB):Tks 112 a H=Yi 111 XD XD (λ_ b=>Aq b/\∀x∈b,B7 x) (λa b=>.bool (decide (a=b))) a H:=rfl
theorem Tks_e(a:List Fs)(H:AB):Tks 111 a H=s2 OF OF (λ_ b=>B7 b) (λa b=>.bool (decide (a=b))) a H:=rfl
def eM{a b:zx}:a=b↔(((((((a.g.sh=b.g.sh/\a.g.w=b.g.w)/\a.g.h=b.g.h)/\a.g.wC=b.g.wC)/\a.g.cells=b.g.cells)/\a.d=b.d)/\a.nb=b.nb)/\a.ls=b.ls):=by
 obtain⟨ad,⟨a1,a2,a3,a4,a5⟩,an,al⟩:=a;obtain⟨bd,⟨b1,b2,b3,b4,b5⟩,bn,bl⟩:=b;simp only[zx.mk.injEq,v7.mk.injEq];constructor
 ·simp_all
 ·simp_all
def p74(a b:zx)(hb:FewKn b):Av prog 74 [BA a,BA b] (.bool (decide (a=b))):=by
 refine .mk ⟨Am 0 a,Am 0 b,zt⟩ zt (c74.a (AI lg (AJ ?_)));have e1:dD.ok (.agg (AL a.d))=True:=BT a.d;have e2:dD.dec (.agg (AL a.d))=a.d:=Ax a.d;have e3:dD.ok (.agg (AL b.d))=True:=BT b.d;have e4:dD.dec (.agg (AL b.d))=b.d:=Ax b.d;simp only[AL]at e1 e2 e3 e4;simp only[eZ,seval,c74,AG,AE,AL,Tks_i,Tks_s,Tks_f,Tks_e,s2,Yi,Ah,Ad,Db,Cv,eL,Y9,e1,e2,e3,e4,r9 hb.d,r9 hb.ho,r9 hb.ce,r9 hb.nb,r9 hb.ls,r9 hb.lx];rw[sP];simp only[sf,si,eM]
def p168(a b:List Int)(ha:wide a):Av prog 168 [Aj a,Aj b] (.bool (decide (a=b))):=by
 refine .mk ⟨AV 0 _,AV 0 _,zt⟩ zt (qk.a (AI AH.wD (AJ ?_)));have wu:a.length<1125899906842624:=ha;by_cases hl:a.length=b.length;case neg=>
  have hR:decide (a=b)=false:=sA λq=>hl (by rw[q])
  have hq:((a.length:Int)=(b.length:Int))=False:=sb zo;rw[hR];simp only[eZ,seval,se,ry,qk,hq]
 have hq:((a.length:Int)=(b.length:Int))=True:=r9 zo;simp only[eZ,seval,sa,ry,qk,hq];refine AQ (λi:Nat=>⟨[(0,true,Aj a),(1,true,Aj b),(5,true,.int .i64 i)],Ak,0⟩) (λi=>i<=a.length/\a.take i=b.take i) (λi=>a.length-i) 0 rfl ⟨sk _,rfl⟩ ?_;rintro i ⟨hi,l7⟩;by_cases e9:i<a.length
 ·have wO:i<b.length:=zo
  have hg:=rz e9;have wQ:=rz wO;have e:=AK (k:=i) zo;have ta:a.take (i+1)=a.take i++[a[i]]:=by rw[sG,hg];rfl
  have tb:b.take (i+1)=b.take i++[b[i]]:=by rw[sG,wQ];rfl
  generalize a[i]=x at hg ta;generalize b[i]=y at wQ tb;by_cases xH:x=y
  ·simp only[eZ,seval,sa,eY,AN e9,AN wO,hg,wQ,e,xH];exact .mk (i+1) rfl ⟨e9,by rw[ta,tb,l7,xH]⟩ zo
  ·have hR:decide (a=b)=false:=sA λq=>xH (by rw[q]at hg;rw[hg]at wQ;exact Option.some.inj wQ)
   rw[hR];simp only[eZ,seval,se,eY,AN e9,AN wO,hg,wQ,A5 xH]
 obtain rfl:i=a.length:=zo
 have hR:decide (a=b)=true:=sK (by rw[sD,hl,sD]at l7;exact l7);rw[hR];simp only[eZ,seval,ry,Ag e9]
def p231(a b:List Bs)(ha:wide a):Av prog 231 [FN a,FN b] (.bool (decide (a=b))):=by
 refine .mk ⟨CR 0 _,CR 0 _,zt⟩ zt (qm.a (AI AH.wD (AJ ?_)));have wu:a.length<1125899906842624:=ha;by_cases hl:a.length=b.length;case neg=>
  have hR:decide (a=b)=false:=sA λq=>hl (by rw[q])
  have hq:((a.length:Int)=(b.length:Int))=False:=sb zo;rw[hR];simp only[eZ,seval,se,ry,qm,hq]
 have hq:((a.length:Int)=(b.length:Int))=True:=r9 zo;simp only[eZ,seval,sa,ry,qm,hq];refine AQ (λi:Nat=>⟨[(0,true,FN a),(1,true,FN b),(5,true,.int .i64 i)],Ak,0⟩) (λi=>i<=a.length/\a.take i=b.take i) (λi=>a.length-i) 0 rfl ⟨sk _,rfl⟩ ?_;rintro i ⟨hi,l7⟩;by_cases e9:i<a.length
 ·have wO:i<b.length:=zo
  have hg:=rz e9;have wQ:=rz wO;have e:=AK (k:=i) zo;have ta:a.take (i+1)=a.take i++[a[i]]:=by rw[sG,hg];rfl
  have tb:b.take (i+1)=b.take i++[b[i]]:=by rw[sG,wQ];rfl
  generalize a[i]=x at hg ta;generalize b[i]=y at wQ tb;by_cases xH:x=y
  ·simp only[eZ,seval,sa,eY,AN e9,AN wO,hg,wQ,e,A6,BU xH];exact .mk (i+1) rfl ⟨e9,by rw[ta,tb,l7,xH]⟩ zo
  ·have hR:decide (a=b)=false:=sA λq=>xH (by rw[q]at hg;rw[hg]at wQ;exact Option.some.inj wQ)
   rw[hR];simp only[eZ,seval,se,eY,AN e9,AN wO,hg,wQ,A6,A5 xH]
 obtain rfl:i=a.length:=zo
 have hR:decide (a=b)=true:=sK (by rw[sD,hl,sD]at l7;exact l7);rw[hR];simp only[eZ,seval,ry,Ag e9]
def T6n:Bg:=AF 231 (s2 Kj Kj (λa _=>wide a) λa b=>.bool (decide (a=b))) wD
def lh:AH prog T6n:=AH.wD.add (q2 p231)
def T6i:Bg:=AF 168 (s2 A3 A3 (λa _=>wide a) λa b=>.bool (decide (a=b))) wD
def lj:AH prog T6i:=AH.wD.add (q2 p168)
def T3i:Bg:=AF 167 (s2 A3 A3 (λa _=>wide a) λa b=>.bool (decide (a=b))) wD
def ZB:AH prog T3i:=AH.wD.add (q2 jK)
def p170(a b:zj)(ha:Gl a):Av prog 170 [Bt a,Bt b] (.bool (decide (a=b))):=by
 refine .mk ⟨BP 0 _,BP 0 _,zt⟩ zt (c170.a (AI lh (AJ ?_)));obtain⟨h1,h2⟩:=ha;simp only[eZ,seval,c170,T6n,s2,Hi,Fz,r9 h1,r9 h2,BR,AF];rw[sP,si,RW];simp only[sf,si];constructor
 ·intro h;simp only[h,and_self]
 ·intro h;simp only[h,and_self]
def p113(a b:List (List Int))(ha:Aq a)(hf:∀x∈a,wide x):Av prog 113 [Br a,Br b] (.bool (decide (a=b))):=by
 refine .mk ⟨BC 0 _,BC 0 _,zt⟩ zt (qe.a (AI ZB (AJ ?_)));have wu:a.length<1000000000:=ha;by_cases hl:a.length=b.length;case neg=>
  have hR:decide (a=b)=false:=sA λq=>hl (by rw[q])
  have hq:((a.length:Int)=(b.length:Int))=False:=sb zo;rw[hR];simp only[eZ,seval,se,ry,qe,hq]
 have hq:((a.length:Int)=(b.length:Int))=True:=r9 zo;simp only[eZ,seval,sa,ry,qe,hq];refine AQ (λi:Nat=>⟨[(0,true,Br a),(1,true,Br b),(5,true,.int .i64 i)],Ak,0⟩) (λi=>i<=a.length/\a.take i=b.take i) (λi=>a.length-i) 0 rfl ⟨sk _,rfl⟩ ?_;rintro i ⟨hi,l7⟩;by_cases e9:i<a.length
 ·have wO:i<b.length:=zo
  have hg:=rz e9;have wQ:=rz wO;have e:=AK (k:=i) zo;have ta:a.take (i+1)=a.take i++[a[i]]:=by rw[sG,hg];rfl
  have tb:b.take (i+1)=b.take i++[b[i]]:=by rw[sG,wQ];rfl
  have hxf:=hf _ (sC e9);generalize a[i]=x at hg ta hxf;generalize b[i]=y at wQ tb;by_cases xH:x=y
  ·simp only[eZ,seval,sa,eY,AN e9,AN wO,hg,wQ,e,T3i,s2,Ah,Ad,r9 hxf,BU xH,AF];exact .mk (i+1) rfl ⟨e9,by rw[ta,tb,l7,xH]⟩ zo
  ·have hR:decide (a=b)=false:=sA λq=>xH (by rw[q]at hg;rw[hg]at wQ;exact Option.some.inj wQ)
   rw[hR];simp only[eZ,seval,se,eY,AN e9,AN wO,hg,wQ,T3i,s2,Ah,Ad,r9 hxf,A5 xH,AF]
 obtain rfl:i=a.length:=zo
 have hR:decide (a=b)=true:=sK (by rw[sD,hl,sD]at l7;exact l7);rw[hR];simp only[eZ,seval,ry,Ag e9]
def p169(x y:xz)(hx:B7 x.ls):Av prog 169 [Gj x,Gj y] (.bool (decide (x=y))):=by
 refine .mk ⟨EN 0 x,EN 0 y,zt⟩ zt (iR.a (AI lj (AJ ?_)));obtain⟨nm,a⟩:=x;obtain⟨nn,b⟩:=y;have ha:Aq a:=hx.1;have hf:∀x∈a,wide x:=hx.2;have wu:a.length<1000000000:=ha;by_cases hn:nm=nn;case neg=>
  have hR:decide ((⟨nm,a⟩:xz)=⟨nn,b⟩)=false:=sA λq=>hn (by injection q)
  rw[hR];simp only[eZ,seval,sa,se,ry,iR,A6,A5 hn]
 subst hn;by_cases hl:a.length=b.length;case neg=>
  have hR:decide ((⟨nm,a⟩:xz)=⟨nm,b⟩)=false:=sA λq=>hl (by injection q with _ q;rw[q])
  have hq:((a.length:Int)=(b.length:Int))=False:=sb zo;rw[hR];simp only[eZ,seval,sa,se,ry,iR,hq,A6]
 have hq:((a.length:Int)=(b.length:Int))=True:=r9 zo;have hS:decide ((⟨nm,a⟩:xz)=⟨nm,b⟩)=decide (a=b):=by rw[sP];simp [xz.mk.injEq]
 rw[hS];simp only[eZ,seval,sa,ry,iR,hq,A6];refine AQ (λi:Nat=>⟨[(2,true,.ptr 0 0),(3,true,.ptr 1 0),(5,true,.int .i64 i)],wB (wB Ak 0 (.box [.str nm,Br a])) 1 (.box [.str nm,Br b]),3⟩) (λi=>i<=a.length/\a.take i=b.take i) (λi=>a.length-i) 0 rfl ⟨sk _,rfl⟩ ?_;rintro i ⟨hi,l7⟩;by_cases e9:i<a.length
 ·have wO:i<b.length:=zo
  have hg:=rz e9;have wQ:=rz wO;have e:=AK (k:=i) zo;have ta:a.take (i+1)=a.take i++[a[i]]:=by rw[sG,hg];rfl
  have tb:b.take (i+1)=b.take i++[b[i]]:=by rw[sG,wQ];rfl
  have hxf:=hf _ (sC e9);generalize a[i]=x at hg ta hxf;generalize b[i]=y at wQ tb;by_cases xH:x=y
  ·simp only[eZ,seval,sa,eY,AN e9,AN wO,hg,wQ,e,T6i,s2,Ah,Ad,r9 hxf,BU xH,AF];exact .mk (i+1) rfl ⟨e9,by rw[ta,tb,l7,xH]⟩ zo
  ·have hR:decide (a=b)=false:=sA λq=>xH (by rw[q]at hg;rw[hg]at wQ;exact Option.some.inj wQ)
   rw[hR];simp only[eZ,seval,se,eY,AN e9,AN wO,hg,wQ,T6i,s2,Ah,Ad,r9 hxf,A5 xH,AF]
 obtain rfl:i=a.length:=zo
 have hR:decide (a=b)=true:=sK (by rw[sD,hl,sD]at l7;exact l7);rw[hR];simp only[eZ,seval,ry,Ag e9]
def p115(a b:v7)(h1:wide a.wC)(h2:wide a.cells):Av prog 115 [CM a,CM b] (.bool (decide (a=b))):=by
 refine .mk ⟨⟨zt,zt,zt,AV 0 _,AV 0 _,zt⟩,⟨zt,zt,zt,AV 0 _,AV 0 _,zt⟩,zt⟩ zt (c115.a (AI ZB (AJ ?_)));simp only[eZ,seval,c115,T3i,s2,Ah,Ad,r9 h1,r9 h2,AF];rw[sP];simp only[sf,si];constructor
 ·intro h;obtain⟨a1,a2,a3,a4,a5⟩:=a;obtain⟨b1,b2,b3,b4,b5⟩:=b;simp only at h;simp only[h]
 ·intro h;simp only[h,and_self]
def jX:Bg:=AF 168 (s2 A3 A3 (λa _=>wide a) λa b=>.bool (decide (a=b))) (AF 169 (s2 rC rC (λa _=>B7 a.ls) λa b=>.bool (decide (a=b))) (AF 170 (s2 Mq Mq (λa _=>Gl a) λa b=>.bool (decide (a=b))) wD))
def lr:AH prog jX:=((AH.wD.add (q2 p170)).add (q2 p169)).add (q2 p168)
def p114(a b:xj)(hd:zy a):Av prog 114 [B6 a,B6 b] (.bool (decide (a=b))):=by
 refine .mk ⟨At 0 _,At 0 _,zt⟩ zt (a114 (AI lr (AJ ?_)));cases h1:decide (a.nm=b.nm/\a.yN=b.yN/\a.sh=b.sh/\a.w=b.w/\a.h=b.h/\a.wC=b.wC)with
 |false=>
  have h1:=vE h1;have hR:decide (a=b)=false:=sA λq=>h1 (by rw[q];exact⟨rfl,rfl,rfl,rfl,rfl,rfl⟩)
  have hb:(scmp .neq a.nm b.nm|| !decide (a.yN=b.yN)|| !decide (a.sh=b.sh)|| !decide (a.w=b.w)|| !decide (a.h=b.h)|| !decide (a.wC=b.wC))=true:=by
   rw[A6,<-vG];intro q;simp only[tY,vg,si,ux]at q;exact h1 q
  rw[hR];simp only[eZ,seval,sa,ry,iQ,jX,s2,Ah,Ad,r9 (Dr hd.ho),hb,AF]
 |true=>
 obtain⟨a1,a2,a3,a4,a5,a6⟩:=th h1;have hb:(scmp .neq a.nm b.nm|| !decide (a.yN=b.yN)|| !decide (a.sh=b.sh)|| !decide (a.w=b.w)|| !decide (a.h=b.h)|| !decide (a.wC=b.wC))=false:=by
  rw[A6];simp [a1,a2,a3,a4,a5,a6]
 clear h1;cases h2:decide (a.wE.length=b.wE.length/\a.wK.length=b.wK.length/\a.wG.length=b.wG.length/\a.wF.length=b.wF.length)with
 |false=>
  have h2:=vE h2;have hR:decide (a=b)=false:=sA λq=>h2 (by rw[q];exact⟨rfl,rfl,rfl,rfl⟩)
  have my:(!decide ((a.wE.length:Int)=(b.wE.length:Int))|| !decide ((a.wK.length:Int)=(b.wK.length:Int))|| !decide ((a.wG.length:Int)=(b.wG.length:Int))|| !decide ((a.wF.length:Int)=(b.wF.length:Int)))=true:=by grind
  rw[hR];simp only[eZ,seval,ry,iQ,jX,s2,Ah,Ad,r9 (Dr hd.ho),hb,my,AF]
 |true=>
 obtain⟨l1,l2,l3,l4⟩:=th h2;have my:(!decide ((a.wE.length:Int)=(b.wE.length:Int))|| !decide ((a.wK.length:Int)=(b.wK.length:Int))|| !decide ((a.wG.length:Int)=(b.wG.length:Int))|| !decide ((a.wF.length:Int)=(b.wF.length:Int)))=false:=by
  simp [l1,l2,l3,l4]
 clear h2;simp only[eZ,seval,ry,iQ,jX,s2,Ah,Ad,r9 (Dr hd.ho),hb,my,AF];refine AQ (λi:Nat=>⟨[(2,true,.ptr 0 0),(3,true,.ptr 1 0),(5,true,.int .i64 i)],wB (wB Ak 0 (.box (AL a))) 1 (.box (AL b)),3⟩) (λi=>i<=a.wE.length/\a.wE.take i=b.wE.take i) (λi=>a.wE.length-i) 0 rfl ⟨sk _,rfl⟩ ?_;rintro i ⟨hi,l7⟩;have hfl:a.wE.length<1000000000:=hd.sy;by_cases e9:i<a.wE.length
 ·have wO:i<b.wE.length:=zo
  have hg:=rz e9;have wQ:=rz wO;have e:=AK (k:=i) zo;have ta:a.wE.take (i+1)=a.wE.take i++[a.wE[i]]:=by rw[sG,hg];rfl
  have tb:b.wE.take (i+1)=b.wE.take i++[b.wE[i]]:=by rw[sG,wQ];rfl
  generalize a.wE[i]=x at hg ta;generalize b.wE[i]=y at wQ tb;by_cases xH:x=y
  ·have hc:=LS x y;rw[sK xH]at hc;simp only[eZ,seval,sa,eY,AN e9,AN wO,hg,wQ,e,hc,D2];exact .mk (i+1) rfl ⟨e9,by rw[ta,tb,l7,xH]⟩ zo
  ·have hR:decide (a=b)=false:=sA λq=>xH (by rw[q]at hg;rw[hg]at wQ;exact Option.some.inj wQ)
   have hc:=LS x y;rw[sA xH]at hc;rw[hR];simp only[eZ,seval,se,eY,AN e9,AN wO,hg,wQ,hc,D2]
 obtain rfl:i=a.wE.length:=zo
 have b_syms:a.wE=b.wE:=by rw[sD,l1,sD]at l7;exact l7
 simp only[eZ,seval,ry,Ag e9];clear hi l7 hfl e9;refine AQ (λi:Nat=>⟨[(2,true,.ptr 0 0),(3,true,.ptr 1 0),(6,true,.int .i64 i)],wB (wB Ak 0 (.box (AL a))) 1 (.box (AL b)),3⟩) (λi=>i<=a.wK.length/\a.wK.take i=b.wK.take i) (λi=>a.wK.length-i) 0 rfl ⟨sk _,rfl⟩ ?_;rintro i ⟨hi,l7⟩;have hfl:a.wK.length<1000000000:=hd.rg;by_cases e9:i<a.wK.length
 ·have wO:i<b.wK.length:=zo
  have hg:=rz e9;have wQ:=rz wO;have e:=AK (k:=i) zo;have ta:a.wK.take (i+1)=a.wK.take i++[a.wK[i]]:=by rw[sG,hg];rfl
  have tb:b.wK.take (i+1)=b.wK.take i++[b.wK[i]]:=by rw[sG,wQ];rfl
  have hxf:B7 a.wK[i].ls:=hd.rgs _ (sC e9);generalize a.wK[i]=x at hg ta hxf;generalize b.wK[i]=y at wQ tb;by_cases xH:x=y
  ·simp only[eZ,seval,sa,eY,AN e9,AN wO,hg,wQ,e,jX,s2,LM,I3,r9 hxf,BU xH,AF];exact .mk (i+1) rfl ⟨e9,by rw[ta,tb,l7,xH]⟩ zo
  ·have hR:decide (a=b)=false:=sA λq=>xH (by rw[q]at hg;rw[hg]at wQ;exact Option.some.inj wQ)
   rw[hR];simp only[eZ,seval,se,eY,AN e9,AN wO,hg,wQ,jX,s2,LM,I3,r9 hxf,A5 xH,AF]
 obtain rfl:i=a.wK.length:=zo
 have b_regs:a.wK=b.wK:=by rw[sD,l2,sD]at l7;exact l7
 simp only[eZ,seval,ry,Ag e9];clear hi l7 hfl e9;refine AQ (λi:Nat=>⟨[(2,true,.ptr 0 0),(3,true,.ptr 1 0),(7,true,.int .i64 i)],wB (wB Ak 0 (.box (AL a))) 1 (.box (AL b)),3⟩) (λi=>i<=a.wG.length/\a.wG.take i=b.wG.take i) (λi=>a.wG.length-i) 0 rfl ⟨sk _,rfl⟩ ?_;rintro i ⟨hi,l7⟩;have hfl:a.wG.length<1000000000:=hd.cl;by_cases e9:i<a.wG.length
 ·have wO:i<b.wG.length:=zo
  have hg:=rz e9;have wQ:=rz wO;have e:=AK (k:=i) zo;have ta:a.wG.take (i+1)=a.wG.take i++[a.wG[i]]:=by rw[sG,hg];rfl
  have tb:b.wG.take (i+1)=b.wG.take i++[b.wG[i]]:=by rw[sG,wQ];rfl
  generalize a.wG[i]=x at hg ta;generalize b.wG[i]=y at wQ tb;by_cases xH:x=y
  ·have hc:=LT x y;rw[sK xH]at hc;simp only[eZ,seval,sa,eY,AN e9,AN wO,hg,wQ,e,hc,D2];exact .mk (i+1) rfl ⟨e9,by rw[ta,tb,l7,xH]⟩ zo
  ·have hR:decide (a=b)=false:=sA λq=>xH (by rw[q]at hg;rw[hg]at wQ;exact Option.some.inj wQ)
   have hc:=LT x y;rw[sA xH]at hc;rw[hR];simp only[eZ,seval,se,eY,AN e9,AN wO,hg,wQ,hc,D2]
 obtain rfl:i=a.wG.length:=zo
 have b_clus:a.wG=b.wG:=by rw[sD,l3,sD]at l7;exact l7
 simp only[eZ,seval,ry,Ag e9];clear hi l7 hfl e9;refine AQ (λi:Nat=>⟨[(2,true,.ptr 0 0),(3,true,.ptr 1 0),(8,true,.int .i64 i)],wB (wB Ak 0 (.box (AL a))) 1 (.box (AL b)),3⟩) (λi=>i<=a.wF.length/\a.wF.take i=b.wF.take i) (λi=>a.wF.length-i) 0 rfl ⟨sk _,rfl⟩ ?_;rintro i ⟨hi,l7⟩;have hfl:a.wF.length<1000000000:=hd.ru;by_cases e9:i<a.wF.length
 ·have wO:i<b.wF.length:=zo
  have hg:=rz e9;have wQ:=rz wO;have e:=AK (k:=i) zo;have ta:a.wF.take (i+1)=a.wF.take i++[a.wF[i]]:=by rw[sG,hg];rfl
  have tb:b.wF.take (i+1)=b.wF.take i++[b.wF[i]]:=by rw[sG,wQ];rfl
  have hxf:Gl a.wF[i]:=hd.rus _ (sC e9);generalize a.wF[i]=x at hg ta hxf;generalize b.wF[i]=y at wQ tb;by_cases xH:x=y
  ·simp only[eZ,seval,sa,eY,AN e9,AN wO,hg,wQ,e,jX,s2,CC,Bi,r9 hxf,BU xH,AF];exact .mk (i+1) rfl ⟨e9,by rw[ta,tb,l7,xH]⟩ zo
  ·have hR:decide (a=b)=false:=sA λq=>xH (by rw[q]at hg;rw[hg]at wQ;exact Option.some.inj wQ)
   rw[hR];simp only[eZ,seval,se,eY,AN e9,AN wO,hg,wQ,jX,s2,CC,Bi,r9 hxf,A5 xH,AF]
 obtain rfl:i=a.wF.length:=zo
 have b_ruls:a.wF=b.wF:=by rw[sD,l4,sD]at l7;exact l7
 have hR:decide (a=b)=true:=sK (by
  cases a;cases b;simp only at a1 a2 a3 a4 a5 a6 b_syms b_regs b_clus b_ruls;subst a1 a2 a3 a4 a5 a6 b_syms b_regs b_clus b_ruls;rfl)
 rw[hR];simp only[eZ,seval,ry,Ag e9]
def T8l:Bg:=AF 113 (s2 OF OF (λa _=>B7 a) λa b=>.bool (decide (a=b))) (AF 115 (s2 DS DS (λa _=>wide a.wC/\wide a.cells) λa b=>.bool (decide (a=b))) (AF 114 (s2 dD dD (λa _=>zy a) λa b=>.bool (decide (a=b))) wD))
def lu:AH prog T8l:=((AH.wD.add (q2 p114)).add (q2 λa b h=>p115 a b h.1 h.2)).add (q2 λa b h=>p113 a b h.1 h.2)
structure FewKr(k:zx):Prop where
 d:zy k.d
 ho:wide k.g.wC
 ce:wide k.g.cells
 nb:B7 k.nb
 ls:wide k.ls
 lx:∀x∈k.ls,B7 x
def p75(x y:zx)(hx:FewKr x):Av prog 75 [BA x,BA y] (.bool (decide (x=y))):=by
 refine .mk ⟨Am 0 x,Am 0 y,zt⟩ zt (c75.a (AI lu (AJ ?_)));have wu:x.ls.length<1125899906842624:=hx.ls;by_cases hl:x.ls.length=y.ls.length;case neg=>
  have hR:decide (x=y)=false:=sA λq=>hl (by rw[q])
  have hq:((x.ls.length:Int)=(y.ls.length:Int))=False:=sb zo;rw[hR];simp only[eZ,seval,se,ry,c75,AG,AE,AL,hq]
 have hq:((x.ls.length:Int)=(y.ls.length:Int))=True:=r9 zo;simp only[eZ,seval,sa,ry,c75,AG,AE,AL,hq];refine AQ (λi:Nat=>⟨[(2,true,.ptr 0 0),(3,true,.ptr 1 0),(5,true,.int .i64 i)],wB (wB Ak 0 (.box (AG x))) 1 (.box (AG y)),3⟩) (λi=>i<=x.ls.length/\x.ls.take i=y.ls.take i) (λi=>x.ls.length-i) 0 rfl ⟨sk _,rfl⟩ ?_;rintro i ⟨hi,l7⟩;by_cases e9:i<x.ls.length
 ·have wO:i<y.ls.length:=zo
  have hg:=rz e9;have wQ:=rz wO;have e:=AK (k:=i) zo;have ta:x.ls.take (i+1)=x.ls.take i++[x.ls[i]]:=by rw[sG,hg];rfl
  have tb:y.ls.take (i+1)=y.ls.take i++[y.ls[i]]:=by rw[sG,wQ];rfl
  have hxf:=hx.lx _ (sC e9);generalize x.ls[i]=u at hg ta hxf;generalize y.ls[i]=v at wQ tb;by_cases xH:u=v
  ·simp only[eZ,seval,sa,eY,AG,AE,AL,AN e9,AN wO,hg,wQ,e,T8l,s2,Db,Cv,r9 hxf,BU xH,AF];exact .mk (i+1) rfl ⟨e9,by rw[ta,tb,l7,xH]⟩ zo
  ·have hR:decide (x=y)=false:=sA λq=>xH (by rw[q]at hg;rw[hg]at wQ;exact Option.some.inj wQ)
   rw[hR];simp only[eZ,seval,se,eY,AG,AE,AL,AN e9,AN wO,hg,wQ,T8l,s2,Db,Cv,r9 hxf,A5 xH,AF]
 obtain rfl:i=x.ls.length:=zo
 have xu:x.ls=y.ls:=by rw[sD,hl,sD]at l7;exact l7
 have e1:dD.ok (.agg (AL x.d))=True:=BT x.d;have e2:dD.dec (.agg (AL x.d))=x.d:=Ax x.d;have e3:dD.ok (.agg (AL y.d))=True:=BT y.d;have e4:dD.dec (.agg (AL y.d))=y.d:=Ax y.d;have f1:DS.ok (.agg (AE x.g.sh x.g.w x.g.h x.g.wC x.g.cells))=True:=EA x.g;have f2:DS.dec (.agg (AE x.g.sh x.g.w x.g.h x.g.wC x.g.cells))=x.g:=DC x.g;have f3:DS.ok (.agg (AE y.g.sh y.g.w y.g.h y.g.wC y.g.cells))=True:=EA y.g;have f4:DS.dec (.agg (AE y.g.sh y.g.w y.g.h y.g.wC y.g.cells))=y.g:=DC y.g;simp only[AL]at e1 e2 e3 e4;simp only[AE]at f1 f2 f3 f4;simp only[eZ,seval,ry,AG,AE,AL,Ag e9,T8l,s2,Db,Cv,e1,e2,e3,e4,f1,f2,f3,f4,r9 hx.d,r9 hx.ho,r9 hx.ce,r9 hx.nb,AF];rw[sP];simp only[sf,si];constructor
 ·rintro⟨⟨h1,h2⟩,h3⟩;obtain⟨a1,a2,a3,a4⟩:=x;obtain⟨b1,b2,b3,b4⟩:=y;simp only at h1 h2 h3 xu;subst h1 h2 h3 xu;rfl
 ·rintro rfl;exact⟨⟨rfl,rfl⟩,rfl⟩
end Go.AM
