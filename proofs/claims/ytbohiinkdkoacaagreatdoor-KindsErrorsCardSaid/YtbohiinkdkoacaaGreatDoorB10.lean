/-
  Parts of the proof. Conditions: none.
-/
import Derived.Test.YtbohiinkdkoacaaGreatDoorB9
set_option maxRecDepth 20000
set_option linter.all false
namespace Go.AM
open Go.Lib Go.Proofs Go.Proofs.Tryz
def p85W(a b:List Int)(ha:wide a):Pur prog 85 [eIs a,eIs b] (.bool (decide (a=b))):=by
 refine .mk ⟨Ai 0 _,Ai 0 _,trivial⟩ trivial (c85.a (AE AI.tnil (AF ?_)));have l6:a.length<1125899906842624:=ha;by_cases hl:a.length=b.length;case neg=>
  have hR:decide (a=b)=false:=W2 λq=>hl (by rw[q])
  have hq:((a.length:Int)=(b.length:Int))=False:=Vs zo;rw[hR];simp only[eZ,seval,V6,V0,c85,hq]
 have hq:((a.length:Int)=(b.length:Int))=True:=V1 zo;simp only[eZ,seval,V3,V0,c85,hq];refine AO (λi:Nat=>⟨[(0,true,eIs a),(1,true,eIs b),(5,true,.int .i64 i)],hnil,0⟩) (λi=>i<=a.length/\a.take i=b.take i) (λi=>a.length-i) 0 rfl ⟨V8 _,rfl⟩ ?_;rintro i ⟨hi,c7⟩;by_cases c6:i<a.length
 ·have d4:i<b.length:=zo
  have hg:=V2 c6;have d8:=V2 d4;have e:=AG (k:=i) zo;have ta:a.take (i+1)=a.take i++[a[i]]:=by rw[Vx,hg];rfl
  have tb:b.take (i+1)=b.take i++[b[i]]:=by rw[Vx,d8];rfl
  generalize a[i]=x at hg ta;generalize b[i]=y at d8 tb;by_cases i6:x=y
  ·simp only[eZ,seval,V3,eY,lt_T c6,lt_T d4,hg,d8,e,i6];exact .mk (i+1) rfl ⟨c6,by rw[ta,tb,c7,i6]⟩ zo
  ·have hR:decide (a=b)=false:=W2 λq=>i6 (by rw[q]at hg;rw[hg]at d8;exact Option.some.inj d8)
   rw[hR];simp only[eZ,seval,V6,eY,lt_T c6,lt_T d4,hg,d8,Az i6]
 obtain rfl:i=a.length:=zo
 have hR:decide (a=b)=true:=Wo (by rw[Vw,hl,Vw]at c7;exact c7);rw[hR];simp only[eZ,seval,V0,lt_F c6]
def p85(a b:List Int)(ha:few a):Pur prog 85 [eIs a,eIs b] (.bool (decide (a=b))):=p85W a b (Ca ha)
def p159(r:Yz):Pur prog 159 [BQ r] (.bool (HJ r)):=by
 refine .mk ⟨Ao 0 r,trivial⟩ trivial (c159.a (AE AI.tnil (AF ?_)));simp only[eZ,seval,c159];rfl
def Tr7:Tab:=tadd 159 (s1 dRu any1 λr=>.bool (HJ r)) tnil
def Tr7_ok:AI prog Tr7:=AI.tnil.add (q1 λr _=>p159 r)
structure IUr(d:Z8)(v:VU):Prop where
 hi:v.i<=d.ruls.length
 fr:AR v.H v.n
 hn:2<=v.n
 h0:hget v.H 0=some (.box (AK d))
 tok:tkG 1 1 v.H v.tk
 es:v.tk.esz=1\/Bc (d.ruls.take v.i)=[]
def p96(d:Z8)(hr:few d.ruls):Pur prog 96 [encD d] (eIs (Bc d.ruls)):=by
 refine .mk ⟨AW 0 d,trivial⟩ (Ai 0 _) (c96.a (AE Tr7_ok (AF ?_)));have v7:d.ruls.length<1000000000:=hr;simp only[eE,eN,seval,c96];refine AO (λv:VU=>⟨[(1,true,.ptr 0 0),(3,true,.sl v.tk ((Bc (d.ruls.take v.i)).map eI)),(4,true,.int .i64 v.i)],v.H,v.n⟩) (IUr d) (λv=>d.ruls.length-v.i)
  ⟨0,.nil,hset hnil 0 (.box (AK d)),2⟩ rfl ⟨V8 _,AR.nil.hset (m:=2) (V8 2) (show 0<2 by decide),V4 _,rfl,.inl rfl,.inr rfl⟩ ?_
 rintro⟨i,tk,H,n⟩ ⟨hi,d5,hn,h0,c7,d9⟩;simp only at hi d5 hn h0 c7 d9;by_cases c6:i<d.ruls.length
 ·have hg:=V2 c6;have e:=AG (k:=i) zo;have hu:=Ha c6;have hul:=Ig (d.ruls.take i);rw[W0]at hul;generalize d.ruls[i]=r at hg hu;cases u0:HJ r with
  |true=>
   rw[u0,Vv rfl,W9]at hu;simp only[eZ,seval,V3,eY,lt_T c6,hg,Tr7,s1,BV,A7,u0,e,h0,tadd];refine .mk ⟨i+1,tk,H,n⟩ ?_ ⟨c6,d5,hn,h0,c7,by simp only[hu];exact d9⟩ zp;simp only[hu]
  |false=>
   rw[u0,V5 zd]at hu;have q1:At H 1 tk=True:=V1 c7.app;have q2:((Bc (d.ruls.take i)).length<=35184372088831)=True:=V1 zo;have q3:small ((Bc (d.ruls.take i)).length+1) 8=True:=V1 (AP zo zd);simp only[eZ,seval,V6,eY,lt_T c6,hg,fr1 d5,Tr7,s1,BV,A7,u0,e,h0,q1,q2,q3,tadd];refine .mk ⟨i+1,.own (n+3) 1,hset (AL H tk) (n+3) .tok,n+5⟩ ?_ ⟨c6,(AT c7 d5).hset (m:=n+5) zo zo,zp,?_,.inr (.inr ⟨n+3,rfl,zo,AB ..⟩),.inl rfl⟩ zp
   ·simp only[hu,Vt];rfl
   ·simp only[];rw[AA _ _ _ _ zo,AX c7 (.inr ⟨_,h0⟩)];exact h0
 obtain rfl:i=d.ruls.length:=zo
 rw[Vw]at d9;simp only[eZ,seval,V0,lt_F c6,Vw,h0];exact Wk.sl (d9.imp id λq=>by rw[q];rfl)
def p153(a b:List Int)(ha:wide a):Pur prog 153 [eIs a,eIs b] (.bool (decide (a=b))):=by
 refine .mk ⟨Ai 0 _,Ai 0 _,trivial⟩ trivial (c153.a (AE AI.tnil (AF ?_)));have l6:a.length<1125899906842624:=ha;by_cases hl:a.length=b.length;case neg=>
  have hR:decide (a=b)=false:=W2 λq=>hl (by rw[q])
  have hq:((a.length:Int)=(b.length:Int))=False:=Vs zo;rw[hR];simp only[eZ,seval,V6,V0,c153,hq]
 have hq:((a.length:Int)=(b.length:Int))=True:=V1 zo;simp only[eZ,seval,V3,V0,c153,hq];refine AO (λi:Nat=>⟨[(0,true,eIs a),(1,true,eIs b),(5,true,.int .i64 i)],hnil,0⟩) (λi=>i<=a.length/\a.take i=b.take i) (λi=>a.length-i) 0 rfl ⟨V8 _,rfl⟩ ?_;rintro i ⟨hi,c7⟩;by_cases c6:i<a.length
 ·have d4:i<b.length:=zo
  have hg:=V2 c6;have d8:=V2 d4;have e:=AG (k:=i) zo;have ta:a.take (i+1)=a.take i++[a[i]]:=by rw[Vx,hg];rfl
  have tb:b.take (i+1)=b.take i++[b[i]]:=by rw[Vx,d8];rfl
  generalize a[i]=x at hg ta;generalize b[i]=y at d8 tb;by_cases i6:x=y
  ·simp only[eZ,seval,V3,eY,lt_T c6,lt_T d4,hg,d8,e,i6];exact .mk (i+1) rfl ⟨c6,by rw[ta,tb,c7,i6]⟩ zo
  ·have hR:decide (a=b)=false:=W2 λq=>i6 (by rw[q]at hg;rw[hg]at d8;exact Option.some.inj d8)
   rw[hR];simp only[eZ,seval,V6,eY,lt_T c6,lt_T d4,hg,d8,Az i6]
 obtain rfl:i=a.length:=zo
 have hR:decide (a=b)=true:=Wo (by rw[Vw,hl,Vw]at c7;exact c7);rw[hR];simp only[eZ,seval,V0,lt_F c6]
def p204(a b:List Bs)(ha:wide a):Pur prog 204 [eSs a,eSs b] (.bool (decide (a=b))):=by
 refine .mk ⟨BK 0 _,BK 0 _,trivial⟩ trivial (c204.a (AE AI.tnil (AF ?_)));have l6:a.length<1125899906842624:=ha;by_cases hl:a.length=b.length;case neg=>
  have hR:decide (a=b)=false:=W2 λq=>hl (by rw[q])
  have hq:((a.length:Int)=(b.length:Int))=False:=Vs zo;rw[hR];simp only[eZ,seval,V6,V0,c204,hq]
 have hq:((a.length:Int)=(b.length:Int))=True:=V1 zo;simp only[eZ,seval,V3,V0,c204,hq];refine AO (λi:Nat=>⟨[(0,true,eSs a),(1,true,eSs b),(5,true,.int .i64 i)],hnil,0⟩) (λi=>i<=a.length/\a.take i=b.take i) (λi=>a.length-i) 0 rfl ⟨V8 _,rfl⟩ ?_;rintro i ⟨hi,c7⟩;by_cases c6:i<a.length
 ·have d4:i<b.length:=zo
  have hg:=V2 c6;have d8:=V2 d4;have e:=AG (k:=i) zo;have ta:a.take (i+1)=a.take i++[a[i]]:=by rw[Vx,hg];rfl
  have tb:b.take (i+1)=b.take i++[b[i]]:=by rw[Vx,d8];rfl
  generalize a[i]=x at hg ta;generalize b[i]=y at d8 tb;by_cases i6:x=y
  ·simp only[eZ,seval,V3,eY,lt_T c6,lt_T d4,hg,d8,e,Ap,BA i6];exact .mk (i+1) rfl ⟨c6,by rw[ta,tb,c7,i6]⟩ zo
  ·have hR:decide (a=b)=false:=W2 λq=>i6 (by rw[q]at hg;rw[hg]at d8;exact Option.some.inj d8)
   rw[hR];simp only[eZ,seval,V6,eY,lt_T c6,lt_T d4,hg,d8,Ap,Az i6]
 obtain rfl:i=a.length:=zo
 have hR:decide (a=b)=true:=Wo (by rw[Vw,hl,Vw]at c7;exact c7);rw[hR];simp only[eZ,seval,V0,lt_F c6]
def Tsi:Tab:=tadd 153 (s2 dIs dIs (λa _=>wide a) λa b=>.bool (decide (a=b))) tnil
def Tsi_ok:AI prog Tsi:=AI.tnil.add (q2 p153)
def p154(a b:List (List Int))(ha:few a)(hf:∀x∈a,wide x):Pur prog 154 [eLl a,eLl b] (.bool (decide (a=b))):=by
 refine .mk ⟨Am 0 _,Am 0 _,trivial⟩ trivial (c154.a (AE Tsi_ok (AF ?_)));have l6:a.length<1000000000:=ha;by_cases hl:a.length=b.length;case neg=>
  have hR:decide (a=b)=false:=W2 λq=>hl (by rw[q])
  have hq:((a.length:Int)=(b.length:Int))=False:=Vs zo;rw[hR];simp only[eZ,seval,V6,V0,c154,hq]
 have hq:((a.length:Int)=(b.length:Int))=True:=V1 zo;simp only[eZ,seval,V3,V0,c154,hq];refine AO (λi:Nat=>⟨[(0,true,eLl a),(1,true,eLl b),(5,true,.int .i64 i)],hnil,0⟩) (λi=>i<=a.length/\a.take i=b.take i) (λi=>a.length-i) 0 rfl ⟨V8 _,rfl⟩ ?_;rintro i ⟨hi,c7⟩;by_cases c6:i<a.length
 ·have d4:i<b.length:=zo
  have hg:=V2 c6;have d8:=V2 d4;have e:=AG (k:=i) zo;have ta:a.take (i+1)=a.take i++[a[i]]:=by rw[Vx,hg];rfl
  have tb:b.take (i+1)=b.take i++[b[i]]:=by rw[Vx,d8];rfl
  have l7:=hf _ (W1 c6);generalize a[i]=x at hg ta l7;generalize b[i]=y at d8 tb;by_cases i6:x=y
  ·simp only[eZ,seval,V3,eY,lt_T c6,lt_T d4,hg,d8,e,Tsi,s2,Al,AZ,V1 l7,BA i6,tadd];exact .mk (i+1) rfl ⟨c6,by rw[ta,tb,c7,i6]⟩ zo
  ·have hR:decide (a=b)=false:=W2 λq=>i6 (by rw[q]at hg;rw[hg]at d8;exact Option.some.inj d8)
   rw[hR];simp only[eZ,seval,V6,eY,lt_T c6,lt_T d4,hg,d8,Tsi,s2,Al,AZ,V1 l7,Az i6,tadd]
 obtain rfl:i=a.length:=zo
 have hR:decide (a=b)=true:=Wo (by rw[Vw,hl,Vw]at c7;exact c7);rw[hR];simp only[eZ,seval,V0,lt_F c6]
def Tsn:Tab:=tadd 204 (s2 dSs dSs (λa _=>wide a) λa b=>.bool (decide (a=b))) tnil
def Tsn_ok:AI prog Tsn:=AI.tnil.add (q2 p204)
def p155(a b:Yz)(ha:Fi a):Pur prog 155 [BQ a,BQ b] (.bool (decide (a=b))):=by
 refine .mk ⟨Ao 0 _,Ao 0 _,trivial⟩ trivial (c155.a (AE Tsn_ok (AF ?_)));obtain⟨h1,h2⟩:=ha;simp only[eZ,seval,c155,Tsn,s2,Ed,DG,V1 h1,V1 h2,A4,tadd];rw[Wg,Vu,Ls];simp only[V7,Vu];constructor
 ·intro h;simp only[h,Yt]
 ·intro h;simp only[h,Yt]
def Tsd:Tab:=tadd 153 (s2 dIs dIs (λa _=>wide a) λa b=>.bool (decide (a=b))) (tadd 154 (s2 dLl dLl (λa _=>Bm a) λa b=>.bool (decide (a=b))) (tadd 155 (s2 dRu dRu (λa _=>Fi a) λa b=>.bool (decide (a=b))) tnil))
def Tsd_ok:AI prog Tsd:=((AI.tnil.add (q2 p155)).add (q2 λa b h=>p154 a b h.1 h.2)).add (q2 p153)
def Sq(x y:Z6):(scmp .neq x.nm y.nm|| !decide (x.ls=y.ls))= !decide (x=y):=by
 rw[Ap];cases x;cases y;rw[Wg];simp [Z6.mk.injEq]
def p93(a b:Z8)(hd:Z4 a):Pur prog 93 [encD a,encD b] (.bool (decide (a=b))):=by
 refine .mk ⟨AW 0 _,AW 0 _,trivial⟩ trivial (a93 (AE Tsd_ok (AF ?_)));cases h1:decide (a.nm=b.nm/\a.ver=b.ver/\a.sh=b.sh/\a.w=b.w/\a.h=b.h/\a.holes=b.holes)with
 |false=>
  have h1:=Yf h1;have hR:decide (a=b)=false:=W2 λq=>h1 (by rw[q];exact⟨rfl,rfl,rfl,rfl,rfl,rfl⟩)
  have hb:(scmp .neq a.nm b.nm|| !decide (a.ver=b.ver)|| !decide (a.sh=b.sh)|| !decide (a.w=b.w)|| !decide (a.h=b.h)|| !decide (a.holes=b.holes))=true:=by
   rw[Ap,<-Yi];intro q;simp only[Xm,XM,Vu,Xa]at q;exact h1 q
  rw[hR];simp only[eZ,seval,c93,Tsd,s2,Al,AZ,V1 (Ca hd.ho),hb,tadd]
 |true=>
 obtain⟨a1,a2,a3,a4,a5,a6⟩:=Wn h1;have hb:(scmp .neq a.nm b.nm|| !decide (a.ver=b.ver)|| !decide (a.sh=b.sh)|| !decide (a.w=b.w)|| !decide (a.h=b.h)|| !decide (a.holes=b.holes))=false:=by
  rw[Ap];simp [a1,a2,a3,a4,a5,a6]
 clear h1;cases h2:decide (a.syms.length=b.syms.length/\a.regs.length=b.regs.length/\a.clus.length=b.clus.length/\a.ruls.length=b.ruls.length)with
 |false=>
  have h2:=Yf h2;have hR:decide (a=b)=false:=W2 λq=>h2 (by rw[q];exact⟨rfl,rfl,rfl,rfl⟩)
  have l5:(!decide ((a.syms.length:Int)=(b.syms.length:Int))|| !decide ((a.regs.length:Int)=(b.regs.length:Int))|| !decide ((a.clus.length:Int)=(b.clus.length:Int))|| !decide ((a.ruls.length:Int)=(b.ruls.length:Int)))=true:=by
   rw[<-Yi];intro q;simp only[Xm,XM,Vu,Xa]at q;exact h2 zo
  rw[hR];simp only[eZ,seval,V0,c93,Tsd,s2,Al,AZ,V1 (Ca hd.ho),hb,l5,tadd]
 |true=>
 obtain⟨l1,l2,l3,l4⟩:=Wn h2;have l5:(!decide ((a.syms.length:Int)=(b.syms.length:Int))|| !decide ((a.regs.length:Int)=(b.regs.length:Int))|| !decide ((a.clus.length:Int)=(b.clus.length:Int))|| !decide ((a.ruls.length:Int)=(b.ruls.length:Int)))=false:=by
  simp [l1,l2,l3,l4]
 clear h2;simp only[eZ,seval,V0,c93,Tsd,s2,Al,AZ,V1 (Ca hd.ho),hb,l5,tadd];refine AO (λi:Nat=>⟨[(2,true,.ptr 0 0),(3,true,.ptr 1 0),(5,true,.int .i64 i)],hset (hset hnil 0 (.box (AK a))) 1 (.box (AK b)),3⟩) (λi=>i<=a.syms.length/\a.syms.take i=b.syms.take i) (λi=>a.syms.length-i) 0 rfl ⟨V8 _,rfl⟩ ?_;rintro i ⟨hi,c7⟩;have q8:a.syms.length<1000000000:=hd.sy;by_cases c6:i<a.syms.length
 ·have d4:i<b.syms.length:=zo
  have hg:=V2 c6;have d8:=V2 d4;have e:=AG (k:=i) zo;have ta:a.syms.take (i+1)=a.syms.take i++[a.syms[i]]:=by rw[Vx,hg];rfl
  have tb:b.syms.take (i+1)=b.syms.take i++[b.syms[i]]:=by rw[Vx,d8];rfl
  generalize a.syms[i]=x at hg ta;generalize b.syms[i]=y at d8 tb;by_cases i6:x=y
  ·have hc:=Ib x y;rw[Wo i6]at hc;simp only[eZ,seval,V3,eY,lt_T c6,lt_T d4,hg,d8,e,hc,cfit];exact .mk (i+1) rfl ⟨c6,by rw[ta,tb,c7,i6]⟩ zo
  ·have hR:decide (a=b)=false:=W2 λq=>i6 (by rw[q]at hg;rw[hg]at d8;exact Option.some.inj d8)
   have hc:=Ib x y;rw[W2 i6]at hc;rw[hR];simp only[eZ,seval,V6,eY,lt_T c6,lt_T d4,hg,d8,hc,cfit]
 obtain rfl:i=a.syms.length:=zo
 have b_syms:a.syms=b.syms:=by rw[Vw,l1,Vw]at c7;exact c7
 simp only[eZ,seval,V0,lt_F c6];clear hi c7 q8 c6;refine AO (λi:Nat=>⟨[(2,true,.ptr 0 0),(3,true,.ptr 1 0),(6,true,.int .i64 i)],hset (hset hnil 0 (.box (AK a))) 1 (.box (AK b)),3⟩) (λi=>i<=a.regs.length/\a.regs.take i=b.regs.take i) (λi=>a.regs.length-i) 0 rfl ⟨V8 _,rfl⟩ ?_;rintro i ⟨hi,c7⟩;have q8:a.regs.length<1000000000:=hd.rg;by_cases c6:i<a.regs.length
 ·have d4:i<b.regs.length:=zo
  have hg:=V2 c6;have d8:=V2 d4;have e:=AG (k:=i) zo;have ta:a.regs.take (i+1)=a.regs.take i++[a.regs[i]]:=by rw[Vx,hg];rfl
  have tb:b.regs.take (i+1)=b.regs.take i++[b.regs[i]]:=by rw[Vx,d8];rfl
  have l7:Bm a.regs[i].ls:=hd.rgs _ (W1 c6);generalize a.regs[i]=x at hg ta l7;generalize b.regs[i]=y at d8 tb;by_cases i6:x=y
  ·have hc:=Sq x y;rw[Wo i6]at hc;simp only[eZ,seval,V3,eY,lt_T c6,lt_T d4,hg,d8,e,Tsd,s2,CM,Bl,V1 l7,hc,tadd];exact .mk (i+1) rfl ⟨c6,by rw[ta,tb,c7,i6]⟩ zo
  ·have hR:decide (a=b)=false:=W2 λq=>i6 (by rw[q]at hg;rw[hg]at d8;exact Option.some.inj d8)
   have hc:=Sq x y;rw[W2 i6]at hc;rw[hR];simp only[eZ,seval,V6,eY,lt_T c6,lt_T d4,hg,d8,Tsd,s2,CM,Bl,V1 l7,hc,tadd]
 obtain rfl:i=a.regs.length:=zo
 have b_regs:a.regs=b.regs:=by rw[Vw,l2,Vw]at c7;exact c7
 simp only[eZ,seval,V0,lt_F c6];clear hi c7 q8 c6;refine AO (λi:Nat=>⟨[(2,true,.ptr 0 0),(3,true,.ptr 1 0),(7,true,.int .i64 i)],hset (hset hnil 0 (.box (AK a))) 1 (.box (AK b)),3⟩) (λi=>i<=a.clus.length/\a.clus.take i=b.clus.take i) (λi=>a.clus.length-i) 0 rfl ⟨V8 _,rfl⟩ ?_;rintro i ⟨hi,c7⟩;have q8:a.clus.length<1000000000:=hd.cl;by_cases c6:i<a.clus.length
 ·have d4:i<b.clus.length:=zo
  have hg:=V2 c6;have d8:=V2 d4;have e:=AG (k:=i) zo;have ta:a.clus.take (i+1)=a.clus.take i++[a.clus[i]]:=by rw[Vx,hg];rfl
  have tb:b.clus.take (i+1)=b.clus.take i++[b.clus[i]]:=by rw[Vx,d8];rfl
  generalize a.clus[i]=x at hg ta;generalize b.clus[i]=y at d8 tb;by_cases i6:x=y
  ·have hc:=Ic x y;rw[Wo i6]at hc;simp only[eZ,seval,V3,eY,lt_T c6,lt_T d4,hg,d8,e,hc,cfit];exact .mk (i+1) rfl ⟨c6,by rw[ta,tb,c7,i6]⟩ zo
  ·have hR:decide (a=b)=false:=W2 λq=>i6 (by rw[q]at hg;rw[hg]at d8;exact Option.some.inj d8)
   have hc:=Ic x y;rw[W2 i6]at hc;rw[hR];simp only[eZ,seval,V6,eY,lt_T c6,lt_T d4,hg,d8,hc,cfit]
 obtain rfl:i=a.clus.length:=zo
 have b_clus:a.clus=b.clus:=by rw[Vw,l3,Vw]at c7;exact c7
 simp only[eZ,seval,V0,lt_F c6];clear hi c7 q8 c6;refine AO (λi:Nat=>⟨[(2,true,.ptr 0 0),(3,true,.ptr 1 0),(8,true,.int .i64 i)],hset (hset hnil 0 (.box (AK a))) 1 (.box (AK b)),3⟩) (λi=>i<=a.ruls.length/\a.ruls.take i=b.ruls.take i) (λi=>a.ruls.length-i) 0 rfl ⟨V8 _,rfl⟩ ?_;rintro i ⟨hi,c7⟩;have q8:a.ruls.length<1000000000:=hd.ru;by_cases c6:i<a.ruls.length
 ·have d4:i<b.ruls.length:=zo
  have hg:=V2 c6;have d8:=V2 d4;have e:=AG (k:=i) zo;have ta:a.ruls.take (i+1)=a.ruls.take i++[a.ruls[i]]:=by rw[Vx,hg];rfl
  have tb:b.ruls.take (i+1)=b.ruls.take i++[b.ruls[i]]:=by rw[Vx,d8];rfl
  have l7:Fi a.ruls[i]:=hd.rus _ (W1 c6);generalize a.ruls[i]=x at hg ta l7;generalize b.ruls[i]=y at d8 tb;by_cases i6:x=y
  ·simp only[eZ,seval,V3,eY,lt_T c6,lt_T d4,hg,d8,e,Tsd,s2,BV,A7,V1 l7,BA i6,tadd];exact .mk (i+1) rfl ⟨c6,by rw[ta,tb,c7,i6]⟩ zo
  ·have hR:decide (a=b)=false:=W2 λq=>i6 (by rw[q]at hg;rw[hg]at d8;exact Option.some.inj d8)
   rw[hR];simp only[eZ,seval,V6,eY,lt_T c6,lt_T d4,hg,d8,Tsd,s2,BV,A7,V1 l7,Az i6,tadd]
 obtain rfl:i=a.ruls.length:=zo
 have b_ruls:a.ruls=b.ruls:=by rw[Vw,l4,Vw]at c7;exact c7
 have hR:decide (a=b)=true:=Wo (by
  cases a;cases b;simp only at a1 a2 a3 a4 a5 a6 b_syms b_regs b_clus b_ruls;subst a1 a2 a3 a4 a5 a6 b_syms b_regs b_clus b_ruls;rfl)
 rw[hR];simp only[eZ,seval,V0,lt_F c6]
def p97(l:List Int)(x:Int)(hl:few l):Pur prog 97 [eIs l,.int .i64 x] (.bool (l.contains x)):=by
 refine .mk ⟨Ai 0 _,trivial,trivial⟩ trivial (c97.a (AE AI.tnil (AF ?_)));have m6:l.length<1000000000:=hl;simp only[eE,eN,seval,c97];refine AO (λi:Nat=>⟨[(0,true,eIs l),(1,true,.int .i64 x),(5,true,.int .i64 i)],hnil,0⟩) (λi=>i<=l.length/\l.contains x=(l.drop i).contains x) (λi=>l.length-i) 0 rfl ⟨V8 _,rfl⟩ ?_;rintro i ⟨hi,hc⟩;by_cases c6:i<l.length
 ·have hg:=V2 c6;have e:=AG (k:=i) zo;rw[Wm c6,List.contains_cons]at hc;generalize l[i]=y at hg hc;by_cases hy:y=x
  ·have hR:l.contains x=true:=by rw[hc,hy];simp
   rw[hR];simp only[eZ,seval,eY,lt_T c6,hg,BA hy]
  ·have hy':(x==y)=false:=beq_eq_false_iff_ne.2 λq=>hy q.symm
   rw[hy',Xx]at hc;simp only[eZ,seval,eY,lt_T c6,hg,e,Az hy];exact .mk (i+1) rfl ⟨c6,hc⟩ zo
 obtain rfl:i=l.length:=zo
 rw[WC]at hc;rw[hc];simp only[eZ,seval,V0,lt_F c6];rfl
def Tin:Tab:=tadd 97 (s2 dIs dI (λl _=>few l) λl x=>.bool (l.contains x)) tnil
def OJ:AI prog Tin:=AI.tnil.add (q2 p97)
def hosL(holes:List Int)(k:Nat):List Int:=((List.range k).map λ(i:Nat)=>(i:Int)).filter λp=>holes.contains p
def OK(holes:List Int)(k:Nat):hosL holes (k+1)=if holes.contains (k:Int)then hosL holes k++[(k:Int)]else hosL holes k:=by
 unfold hosL;rw[WT,Vt,Xh];cases h:holes.contains (k:Int)<;>simp only[W6,Wh,X7,Yp,h,WB,Wf,W5,W9]
def Ti(holes:List Int)(k:Nat):(hosL holes k).length<=k:=by
 have:=X0 (λp=>holes.contains p) ((List.range k).map λ(i:Nat)=>(i:Int));simpa [hosL]using this
structure VMh where
 i:Nat
 last:Int
structure VMm where
 k:Nat
 t1:Zd
 t2:Zd
 H:AC
 n:Nat
structure IMr(sh w h:Int)(holes:List Int)(m:Nat)(v:VMm):Prop where
 hk:v.k<=m
 hn:8<=v.n
 fr:AR v.H v.n
 h0:hget v.H 0=some (.box [z0,z0,z0,zs,zs])
 h6:hget v.H 6=some (.box [.int .i64 sh,.int .i64 w,.int .i64 h,.sl v.t1 ((hosL holes v.k).map eI),.sl v.t2 ((posL holes v.k).map eI)])
 tok1:tkG 1 7 v.H v.t1
 tok2:tkG 1 7 v.H v.t2
 dj:∀i,v.t1= .own i 1->v.t2≠ .own i 1
 es1:v.t1.esz=1\/hosL holes v.k=[]
 es2:v.t2.esz=1\/posL holes v.k=[]
def p32(sh w h:Int)(holes:List Int)(hl:few holes):Pur prog 32 [.int .i64 sh,.int .i64 w,.int .i64 h,eIs holes] (BL sh w h holes):=by
 refine .mk ⟨trivial,trivial,trivial,Ai 0 _,trivial⟩ (HT sh w h holes) (c32.a (AE OJ (AF ?_)));have m6:holes.length<1000000000:=hl;by_cases hc:(sh=1\/sh=2)/\1<=w/\w<=16/\1<=h/\h<=16;case neg=>
  have hn:BL sh w h holes= .tup [encG 0 0 0 [] [],.int .i64 130]:=by
   unfold BL Ak;rw[V5 λq=>hc ⟨q.1,q.2.1,q.2.2.1,q.2.2.2.1,q.2.2.2.2.1⟩]
  have hb:(!decide (sh=1)&& !decide (sh=2)||decide (w<1)||decide (16<w)||decide (h<1)||decide (16<h))=true:=by
   rw[<-Yi];intro q;simp only[Xm,Bool.and_eq_false_iff,XM,Vu,Xf]at q;exact hc zo
  rw[hn];simp only[eZ,seval,Au,c32,hb];exact wk_G (Wk.sl (.inr rfl)) (Wk.sl (.inr rfl))
 have hb:(!decide (sh=1)&& !decide (sh=2)||decide (w<1)||decide (16<w)||decide (h<1)||decide (16<h))=false:=by
  simp only[Xm,Bool.and_eq_false_iff,XM,Vu,Xf];omega
 obtain⟨hsh,hw1,hw2,hh1,hh2⟩:=hc;obtain⟨p1,p2⟩:=Vi hw1 hw2 hh1 hh2;have m8:IntKind.wrap .i64 (w*h)=w*h:=Ae zo zo;have j7:(Bk (-1) holes&&holes.all λp=>decide (p<w*h))=false->BL sh w h holes= .tup [encG 0 0 0 [] [],.int .i64 130]:=λq=>by
  unfold BL Ak;rw[V5];intro z;rw[z.2.2.2.2.2.2.1,z.2.2.2.2.2.2.2]at q;cases q
 simp only[eZ,seval,c32,hb];refine AO (λv:VMh=>⟨[(0,true,.int .i64 sh),(1,true,.int .i64 w),(2,true,.int .i64 h),(3,true,eIs holes),(8,true,.ptr 0 0),(10,true,.int .i64 v.i)],hset hnil 0 (.box [z0,z0,z0,zs,zs]),2⟩)
  (λv=>v.i<=holes.length/\(Bk (-1) holes&&holes.all λp=>decide (p<w*h))=(Bk v.last (holes.drop v.i)&&(holes.drop v.i).all λp=>decide (p<w*h))/\(v.i=0->v.last= -1)/\∀j,v.i=j+1->holes[j]?=some v.last/\0<=v.last) (λv=>holes.length-v.i)
  ⟨0,-1⟩ rfl ⟨V8 _,rfl,λ_=>rfl,λj q=>by cases q⟩ ?_
 rintro⟨i,last⟩ ⟨hi,he,hz,hs⟩;simp only at hi he hz hs;by_cases c6:i<holes.length
 ·have hg:=V2 c6;have e:=AG (k:=i) zo;rw[Wm c6,Bk,Xr]at he;generalize holes[i]=x at hg he;have o6:last<x/\x<w*h->(Bk (-1) holes&&holes.all λp=>decide (p<w*h))=(Bk x (holes.drop (i+1))&&(holes.drop (i+1)).all λp=>decide (p<w*h)):=λq=>by
   rw[he,Wo q.1,Wo q.2];simp
  have x8:¬(last<x/\x<w*h)->(Bk (-1) holes&&holes.all λp=>decide (p<w*h))=false:=λq=>by
   rw[he,<-Bool.not_eq_true];intro z;simp only[V7,Vu]at z;exact q ⟨z.1.1,z.2.1⟩
  cases i with
  |zero=>
   have hl1:=hz rfl;have h0l:((0:Int)<(holes.length:Int))=True:=V1 zo;have e1:IntKind.wrap .i64 ((0:Int)+1)=1:=zd
   by_cases i5:last<x/\x<w*h
   ·have hd:(decide (x<0)||decide (w*h<=x))=false:=by simp;omega
    simp only[eZ,seval,eY,h0l,hg,e1,m8,hd];refine .mk ⟨1,x⟩ rfl ⟨c6,o6 i5,(λq=>by cases q),λj q=>?_⟩ zp;have q':1=j+1:=q;have:j=0:=zo
    subst this;exact⟨hg,zp⟩
   ·have hd:(decide (x<0)||decide (w*h<=x))=true:=by simp;omega
    rw[j7 (x8 i5)];simp only[eZ,seval,V3,eY,Au,h0l,hg,m8,hd];exact wk_G (Wk.sl (.inr rfl)) (Wk.sl (.inr rfl))
  |succ j=>
   obtain⟨hgl,l9⟩:=hs j rfl;have u9:j<holes.length:=zo
   have ej:IntKind.wrap .i64 (((j+1:Nat):Int)-1)=(j:Int):=by rw[Ae zo zo];omega
   by_cases i5:last<x/\x<w*h
   ·have hd:(decide (x<0)||decide (w*h<=x))=false:=by simp;omega
    have o9:(x<=last)=False:=Vs zo;simp only[eZ,seval,eY,lt_T c6,hg,e,m8,hd,cS1,ej,lt_T u9,hgl,o9];refine .mk ⟨j+2,x⟩ rfl ⟨c6,o6 i5,(λq=>by cases q),λj' q=>?_⟩ zp;have q':j+2=j'+1:=q;have:j'=j+1:=zo
    subst this;exact⟨hg,zp⟩
   ·by_cases hd:(decide (x<0)||decide (w*h<=x))=true
    ·rw[j7 (x8 i5)];simp only[eZ,seval,V3,eY,Au,lt_T c6,hg,m8,hd];exact wk_G (Wk.sl (.inr rfl)) (Wk.sl (.inr rfl))
    ·have hd:(decide (x<0)||decide (w*h<=x))=false:=by simpa using hd
     have hd':=hd;simp only[Xm,Xf]at hd';have o9:(x<=last)=True:=V1 zo;rw[j7 (x8 i5)];simp only[eZ,seval,eY,Au,lt_T c6,hg,m8,hd,cS1,ej,lt_T u9,hgl,o9];exact wk_G (Wk.sl (.inr rfl)) (Wk.sl (.inr rfl))
 obtain rfl:i=holes.length:=zo
 rw[WC]at he;have t9:(Bk (-1) holes&&holes.all λp=>decide (p<w*h))=true:=he;obtain⟨q9,v8⟩:=(V7 _ _).mp t9;obtain⟨r1,r2⟩:=En.1 q9;have j8:∀x∈holes,0<=x/\x<w*h:=λx hx=>⟨by have:=r1 x hx;omega,Wn (W4.1 v8 x hx)⟩
 obtain⟨m,hm⟩:∃m:Nat,w*h=(m:Int):=⟨(w*h).toNat,zo⟩;have o7:(w*h).toNat=m:=zo
 have hwm:IntKind.wrap .i64 (m:Int)=m:=by rw[<-hm];exact m8
 have hHos:hosL holes m=holes:=by
  have:=Qo j8 r2;unfold Bp at this;rw[o7]at this;exact this
 have hC:Ak sh w h holes=if posL holes m≠[]then some (posL holes m)else none:=by
  rw[<-Qd];unfold Qb;have ep:((Bp (w*h)).filter λp=>!holes.contains p)=posL holes m:=by unfold Bp posL;rw[o7]
  rw[ep];by_cases q:posL holes m=[]
  ·rw[V5 λz=>z.2.2.2.2.2.2.2 q,V5 (λz=>z q)]
  ·rw[Vv ⟨hsh,hw1,hw2,hh1,hh2,j8,r2,q⟩,Vv q]
 simp only[eZ,seval,V0,lt_F c6,hm,AD];refine AO (λv:VMm=>⟨[(1,true,.int .i64 w),(2,true,.int .i64 h),(3,true,eIs holes),(8,true,.ptr 0 0),(11,true,.ptr 6 0),(12,true,.int .i64 v.k)],v.H,v.n⟩) (IMr sh w h holes m) (λv=>m-v.k)
  ⟨0,.nil,.nil,hset (hset hnil 0 (.box [z0,z0,z0,zs,zs])) 6 (.box [.int .i64 sh,.int .i64 w,.int .i64 h,zs,zs]),8⟩ rfl ⟨V8 _,V4 _,(AR.nil.hset (m:=8) (V8 8) (show 0<8 by decide)).hset (V4 8) (show 6<8 by decide),rfl,rfl,.inl rfl,.inl rfl,λi q=>(by cases q),.inr rfl,.inr rfl⟩ ?_
 rintro⟨k,t1,t2,H,n⟩ ⟨hk,hn,d5,h0,h6,j0,k9,hdj,hes1,v9⟩;simp only at hk hn d5 h0 h6 j0 k9 hdj hes1 v9;by_cases i9:k<m
 ·have e:=AG (k:=k) zo;have o8:=Ka holes k;have hhs:=OK holes k;have r9:=Qu holes k;have hhl:=Ti holes k;have y0:∀j,(n+j=6)=False:=λj=>Vs zo
  have y1:∀j,(n+j=0)=False:=λj=>Vs zo
  cases hin2:holes.contains (k:Int)with
  |true=>
   rw[hin2,Vv rfl]at o8 hhs;have q1:At H 1 t1=True:=V1 j0.app;have q2:((hosL holes k).length<=35184372088831)=True:=V1 zo;have q3:small ((hosL holes k).length+1) 8=True:=V1 (AP zo zd);have kx:hget (AL H t1) 6=some (.box [.int .i64 sh,.int .i64 w,.int .i64 h,.sl t1 ((hosL holes k).map eI),.sl t2 ((posL holes k).map eI)]):=by rw[AX j0 (.inl zo)];exact h6
   simp only[eZ,seval,V0,hwm,hm,lt_T i9,Tin,s2,Al,AZ,BH,As,V1 hl,hin2,e,h6,q1,q2,q3,fr1 d5,kx,y0,tadd];have hdn:∀i,((.own (n+4) 1:Zd)= .own i 1)->(t2:Zd)≠ .own i 1:=λi q z=>by
    cases q;rcases k9 with h|h|⟨id,h,-,h'⟩<;>rw[h]at z<;>cases z
    rw[fr1 d5 4]at h';cases h'
   refine .mk ⟨k+1,.own (n+4) 1,t2,hset (hset (AL H t1) (n+4) .tok) 6 (.box [.int .i64 sh,.int .i64 w,.int .i64 h,.sl (.own (n+4) 1) ((hosL holes (k+1)).map eI),.sl t2 ((posL holes (k+1)).map eI)]),n+7⟩ ?_ ⟨i9,zp,((AT j0 d5).hset (m:=n+7) zo zo).hset (V4 (n+7)) (show 6<n+7 by omega),?_,AB ..,.inr (.inr ⟨n+4,rfl,zo,by rw[AA _ _ _ _ zo];exact AB ..⟩),(((k9.kill j0 (λi q z=>hdj i z q)).set (.inr (.inr (KU j0 (fr1 d5 4))))).set (.inl zo)),hdn,.inl rfl,by simp only[o8];exact v9⟩ zp
   ·simp only[o8,hhs,Vt];rfl
   ·simp only[];rw[AA _ _ _ _ zo,AA _ _ _ _ zo,AX j0 (.inl zo)];exact h0
  |false=>
   rw[hin2,V5 zd]at o8 hhs;have q1:At H 1 t2=True:=V1 k9.app;have q2:((posL holes k).length<=35184372088831)=True:=V1 zo;have q3:small ((posL holes k).length+1) 8=True:=V1 (AP zo zd);have kx:hget (AL H t2) 6=some (.box [.int .i64 sh,.int .i64 w,.int .i64 h,.sl t1 ((hosL holes k).map eI),.sl t2 ((posL holes k).map eI)]):=by rw[AX k9 (.inl zo)];exact h6
   simp only[eZ,seval,V0,hwm,hm,lt_T i9,Tin,s2,Al,AZ,BH,As,V1 hl,hin2,e,h6,q1,q2,q3,fr1 d5,kx,y0,tadd];have hdn:∀i,((t1:Zd)= .own i 1)->(.own (n+4) 1:Zd)≠ .own i 1:=λi q z=>by
    cases z;rcases j0 with h|h|⟨id,h,-,h'⟩<;>rw[h]at q<;>cases q
    rw[fr1 d5 4]at h';cases h'
   refine .mk ⟨k+1,t1,.own (n+4) 1,hset (hset (AL H t2) (n+4) .tok) 6 (.box [.int .i64 sh,.int .i64 w,.int .i64 h,.sl t1 ((hosL holes (k+1)).map eI),.sl (.own (n+4) 1) ((posL holes (k+1)).map eI)]),n+7⟩ ?_ ⟨i9,zp,((AT k9 d5).hset (m:=n+7) zo zo).hset (V4 (n+7)) (show 6<n+7 by omega),?_,AB ..,(((j0.kill k9 (λi q=>hdj i q)).set (.inr (.inr (KU k9 (fr1 d5 4))))).set (.inl zo)),.inr (.inr ⟨n+4,rfl,zo,by rw[AA _ _ _ _ zo];exact AB ..⟩),hdn,by simp only[hhs];exact hes1,.inl rfl⟩ zp
   ·simp only[o8,hhs,Vt];rfl
   ·simp only[];rw[AA _ _ _ _ zo,AA _ _ _ _ zo,AX k9 (.inl zo)];exact h0
 obtain rfl:k=m:=zo
 by_cases hp0:posL holes k=[]
 ·have hM:BL sh w h holes= .tup [encG 0 0 0 [] [],.int .i64 130]:=by unfold BL;rw[hC,V5 (λz=>z hp0)]
  have l9:(((posL holes k).length:Int)=0)=True:=V1 (by rw[hp0];rfl);rw[hM];simp only[eZ,seval,Au,V0,hwm,hm,lt_F i9,h6,h0,l9];exact wk_G (Wk.sl (.inr rfl)) (Wk.sl (.inr rfl))
 ·have hM:BL sh w h holes= .tup [encG sh w h holes (posL holes k),.int .i64 0]:=by unfold BL;rw[hC,Vv hp0]
  have l9:(((posL holes k).length:Int)=0)=False:=Vs (λq=>hp0 (X1.1 zo));rw[hM];simp only[eZ,seval,Au,V0,hwm,hm,lt_F i9,h6,h0,l9];rw[hHos]at hes1⊢;exact wk_G (Wk.sl (hes1.imp id λq=>by rw[q];rfl)) (Wk.sl (v9.imp id λq=>by rw[q];rfl))
def sMk:List Fs->AC->Prop×Fs:=λa H=>match a with
 |[.int .i64 sh,.int .i64 w,.int .i64 h,x]=>(dIs.ok x/\few (dIs.dec x),BL sh w h (dIs.dec x))
 |_=>(False,.tup [])
def qMk:∀args H n,(sMk args H).1->Ab prog 32 args H n (sMk args H).2:=by
 intro args H n hh;unfold sMk at hh⊢;split at hh
 ·obtain⟨h1,h2⟩:=hh;refine AN.args ((p32 _ _ _ _ h2).quiet H n) ?_;rintro g vs ⟨v,r,rfl,k1,w,r',rfl,k2,u,r2,rfl,k3,z,r3,rfl,k4,k5⟩;exact⟨v,_,rfl,k1,w,_,rfl,k2,u,_,rfl,k3,z,_,rfl,dIs.wk _ h1 _ _ k4,k5⟩
 ·exact hh.elim
def Tck:Tab:=tadd 32 sMk (tadd 85 (s2 dIs dIs (λa _=>few a) λa b=>.bool (decide (a=b))) tnil)
def Tck_ok:AI prog Tck:=(AI.tnil.add (q2 p85)).add qMk
theorem Tj(sh w h:Int)(x:Fs)(H:AC):Tck 32 [.int .i64 sh,.int .i64 w,.int .i64 h,x] H=(dIs.ok x/\few (dIs.dec x),BL sh w h (dIs.dec x)):=rfl
theorem Tck_s(a:List Fs)(H:AC):Tck 85 a H=s2 dIs dIs (λa _=>few a) (λa b=>.bool (decide (a=b))) a H:=rfl
def p98(g:Zc)(hh:few g.holes):Pur prog 98 [Bu g] (chkV g):=by
 refine .mk ⟨Ar 0 ..,trivial⟩ trivial (c98.a (AE Tck_ok (AF ?_)));unfold chkV grOK;cases hc:Ak g.sh g.w g.h g.holes with
 |none=>
  have hv:BL g.sh g.w g.h g.holes= .tup [encG 0 0 0 [] [],.int .i64 130]:=by unfold BL;rw[hc]
  simp only[eZ,seval,V3,V6,eY,c98,Tj,Al,AZ,V1 hh,hv]
 |some c=>
  have hv:BL g.sh g.w g.h g.holes= .tup [encG g.sh g.w g.h g.holes c,.int .i64 0]:=by unfold BL;rw[hc]
  have x6:few c:=show c.length<_ by have:=(Ax hc).2.1;omega
  by_cases hcc:c=g.cells
  ·have hR:decide (some c=some g.cells)=true:=Wo (by rw[hcc]);rw[hR];simp only[eZ,seval,V3,eY,c98,Tj,Tck_s,s2,Al,AZ,V1 hh,hv,V1 x6,BA hcc]
  ·have hR:decide (some c=some g.cells)=false:=W2 (λq=>hcc (Option.some.inj q));rw[hR];simp only[eZ,seval,V3,V6,eY,c98,Tj,Tck_s,s2,Al,AZ,V1 hh,hv,V1 x6,Az hcc]
def atV(cells:List Int)(p:Int):Fs:=if cells.contains p=true then .tup [.int .i64 (lowB cells p),.bool true]else .tup [.int .i64 0,.bool false]
def p102(g:Zc)(p:Int)(hf:few g.cells)(hs:List.Pairwise (λx y=>x<y) g.cells):Pur prog 102 [Bu g,.int .i64 p] (atV g.cells p):=by
 refine .mk ⟨Ar 0 ..,trivial,trivial⟩ (by unfold atV;split<;>exact⟨trivial,trivial,trivial⟩) (c102.a (AE AI.tnil (AF ?_)));have m6:g.cells.length<1000000000:=hf;simp only[eE,eN,seval,c102];refine AO (λi:Nat=>⟨[(1,true,.int .i64 p),(2,true,.ptr 0 0),(6,true,.int .i64 i)],hset hnil 0 (.box (AH g.sh g.w g.h g.holes g.cells)),3⟩) (λi=>i<=g.cells.length/\g.cells.contains p=(g.cells.drop i).contains p) (λi=>g.cells.length-i) 0 rfl ⟨V8 _,rfl⟩ ?_;rintro i ⟨hi,hc⟩;by_cases c6:i<g.cells.length
 ·have hg:=V2 c6;have e:=AG (k:=i) zo;have m4:=Qq hs c6;rw[Wm c6,List.contains_cons]at hc;generalize g.cells[i]=y at hg hc m4;by_cases hy:y=p
  ·have hR:atV g.cells p= .tup [.int .i64 i,.bool true]:=by unfold atV;rw[Vv (by rw[hc,hy];simp),<-hy,m4]
   rw[hR];simp only[eZ,seval,eY,lt_T c6,hg,BA hy];exact Wk.refl _
  ·have hy':(p==y)=false:=beq_eq_false_iff_ne.2 λq=>hy q.symm
   rw[hy',Xx]at hc;simp only[eZ,seval,eY,lt_T c6,hg,e,Az hy];exact .mk (i+1) rfl ⟨c6,hc⟩ zo
 obtain rfl:i=g.cells.length:=zo
 rw[WC]at hc;have hR:atV g.cells p= .tup [.int .i64 0,.bool false]:=by unfold atV;rw[V5 (by rw[hc];simp)]
 rw[hR];simp only[eZ,seval,V0,lt_F c6];exact Wk.refl _
def Trr:Tab:=tadd 98 (s1 dGd (λg=>few g.holes) chkV) (tadd 102 (s2 dGd dI (λg _=>few g.cells/\List.Pairwise (λx y=>x<y) g.cells) λg p=>atV g.cells p) Tin)
def OL:AI prog Trr:=(OJ.add (q2 λg p h=>p102 g p h.1 h.2)).add (q1 p98)
theorem Trr_c(a:List Fs)(H:AC):Trr 98 a H=s1 dGd (λg=>few g.holes) chkV a H:=rfl
theorem Tk(a:List Fs)(H:AC):Trr 102 a H=s2 dGd dI (λg _=>few g.cells/\List.Pairwise (λx y=>x<y) g.cells) (λg p=>atV g.cells p) a H:=rfl
theorem Trr_i(a:List Fs)(H:AC):Trr 97 a H=s2 dIs dI (λl _=>few l) (λl x=>.bool (l.contains x)) a H:=rfl
structure IRj(g:Zc)(x:List Int)(H0:AC)(n0:Nat)(v:VRi):Prop where
 hj:v.j<=x.length
 hn:n0<=v.n
 fr:AR v.H v.n
 hk:∀id,id<n0->hget v.H id=hget H0 id
 tok:tkG 1 n0 v.H v.tc
 es:v.tc.esz=1\/v.j=0
 sub:∀q∈x.take v.j,q∈g.cells
 eq:F3 g.cells [] x=F3 g.cells (x.take v.j) (x.drop v.j)
 nd:(x.take v.j).Nodup
def p35(g:Zc)(lists:List (List Int))(hG:Ak g.sh g.w g.h g.holes=some g.cells)(hh:few g.holes)(hl:Bm lists):Pur prog 35 [Bu g,eLl lists] (rgsV g.cells lists):=by
 refine .mk ⟨Ar 0 ..,Am 0 _,trivial⟩ (by unfold rgsV;split<;>exact⟨Am 0 _,trivial,trivial⟩) (c35.a (AE OL (AF ?_)));obtain⟨q9,v8,x0⟩:=Ax hG;have x6:few g.cells:=show g.cells.length<_ by omega
 have m7:grOK g.sh g.w g.h g.holes g.cells=true:=by unfold grOK;rw[hG];simp
 have m6:lists.length<1000000000:=hl.1;by_cases h64:64<lists.length
 ·have hv:rgsV g.cells lists= .tup [eLl [],.int .i64 130]:=by unfold rgsV;rw[V5];simp;omega
  have l64:((64:Int)<(lists.length:Int))=True:=V1 zo;rw[hv];simp only[eZ,seval,V3,V0,c35,Trr_c,s1,Es,Co,V1 hh,m7,l64];exact Wk.tup (.cons (Wk.sl (.inr rfl)) (.cons (Wk.refl _) .nil))
 have l64:((64:Int)<(lists.length:Int))=False:=Vs zo;simp only[eZ,seval,V3,V0,c35,Trr_c,s1,Es,Co,V1 hh,m7,l64];have j7:lists.all (DU g.cells)=false->rgsV g.cells lists= .tup [eLl [],.int .i64 130]:=λq=>by unfold rgsV;rw[q,Bool.and_false,V5 zd]
 refine AO (λv:VRg=>⟨[(1,true,eLl lists),(2,true,.ptr 0 0),(6,true,.sl v.tl v.E),(7,true,.int .i64 v.i)],v.H,v.n⟩) (IRg g lists) (λv=>lists.length-v.i)
  ⟨0,[],.nil,hset hnil 0 (.box (AH g.sh g.w g.h g.holes g.cells)),3⟩ rfl ⟨V8 _,V4 _,AR.nil.hset (m:=3) (V8 3) (show 0<3 by decide),rfl,.inl rfl,.inr rfl,.nil,rfl⟩ ?_
 rintro⟨i,E,tl,H,n⟩ hI;have hi:=hI.hi;have hn:=hI.hn;have d5:=hI.fr;have h0:=hI.h0;have c7:=hI.tok;have d9:=hI.es;have hE:=hI.hE;have heq:=hI.eq;simp only at hi hn d5 h0 c7 d9 hE heq;by_cases c6:i<lists.length;case neg=>
  have i8:i=lists.length:=zo
  subst i8;rw[WC]at heq;rw[Vw]at hE;have hv:rgsV g.cells lists= .tup [eLl (lists.map (BO g.cells)),.int .i64 0]:=by
   unfold rgsV;rw[heq,Vv];simp;omega
  rw[hv];simp only[eZ,seval,V0,lt_F c6];exact Wk.tup (.cons (Wk.slx d9 hE) (.cons (Wk.refl _) .nil))
 have hg:=V2 c6;have e:=AG (k:=i) zo;have l7:=hl.2 _ (W1 c6);have w7:=map_take (f:=BO g.cells) c6;rw[Wm c6,Xr]at heq;generalize hx:lists[i]=x at hg l7 heq w7;have hxl:x.length<1125899906842624:=l7;simp only[eZ,seval,V0,lt_T c6];refine AO (λv:VRi=>⟨[(1,true,eLl lists),(2,true,.ptr 0 0),(6,true,.sl tl E),(7,true,.int .i64 i),(8,true,.sl v.tc ((BO g.cells (x.take v.j)).map eI)),(9,true,.int .i64 v.j)],v.H,v.n⟩)
  (IRj g x H n) (λv=>x.length-v.j) ⟨0,.nil,H,n⟩ rfl ⟨V8 _,V4 _,d5,λid d7=>rfl,.inl rfl,.inr rfl,λq hq=>by(simp at hq),rfl,zw⟩ ?_
 rintro⟨j,tc,H1,n1⟩ ⟨hj,j9,e9,hk,m9,s5,t8,w8,m0⟩;simp only at hj j9 e9 hk m9 s5 t8 w8 m0;have hj256:j<=256:=by
  have:=HV m0 t8;rw[W0]at this;omega
 have l0:hget H1 0=some (.box (AH g.sh g.w g.h g.holes g.cells)):=by rw[hk 0 zo];exact h0
 by_cases i4:j<x.length
 ·have s6:=V2 i4;have ej:=AG (k:=j) zo;have t7:=map_take (f:=λp=>(lowB g.cells p:Int)) i4;have m5:x.take (j+1)=x.take j++[x[j]]:=by rw[Vx,s6];rfl
  rw[Wm i4,F3]at w8;have d6:(BO g.cells (x.take j)).length=j:=by rw[Fl,W0];omega
  have hcf:few (BO g.cells (x.take j)):=show(BO g.cells (x.take j)).length<_ by omega
  generalize hp:x[j]=p at s6 t7 m5 w8;have i7:(g.cells.contains p&& !(x.take j).contains p)=false->rgsV g.cells lists= .tup [eLl [],.int .i64 130]:=λq=>j7 (by
   rw[heq,Eo,w8,q];simp)
  cases j8:g.cells.contains p with
  |false=>
   have hat:atV g.cells p= .tup [.int .i64 0,.bool false]:=by unfold atV;rw[j8,V5 zd]
   rw[i7 (by rw[j8];rfl)];simp only[eZ,seval,V3,V6,eY,lt_T c6,hg,lt_T i4,s6,l0,Tk,s2,Es,Co,BH,As,V1 x6,V1 q9,hat];exact Wk.tup (.cons (Wk.sl (.inr rfl)) (.cons (Wk.refl _) .nil))
  |true=>
   have hat:atV g.cells p= .tup [.int .i64 (lowB g.cells p),.bool true]:=by unfold atV;rw[j8,Vv rfl]
   have hpm:p∈g.cells:=WA.1 j8;have x9:=M7 q9 t8 hpm;have htcok:dIs.ok (.sl tc ((BO g.cells (x.take j)).map eI))=True:=V1 ⟨s5.imp id λq=>by rw[q];rfl,by rw[Dk]⟩;have y9:dIs.dec (.sl tc ((BO g.cells (x.take j)).map eI))=BO g.cells (x.take j):=Dk _;cases o7:(x.take j).contains p with
   |true=>
    rw[i7 (by rw[j8,o7];rfl)];rw[o7]at x9;simp only[eZ,seval,V3,eY,lt_T c6,hg,lt_T i4,s6,l0,Tk,Trr_i,s2,Es,Co,BH,As,htcok,y9,V1 x6,V1 q9,V1 hcf,hat,x9];exact Wk.tup (.cons (Wk.sl (.inr rfl)) (.cons (Wk.refl _) .nil))
   |false=>
    rw[o7]at x9;have q1:At H1 1 tc=True:=V1 m9.app;have q2:(j<=35184372088831)=True:=V1 zo;have q3:small (j+1) 8=True:=V1 (AP zo zd);simp only[eZ,seval,V3,eY,lt_T c6,hg,lt_T i4,s6,l0,Tk,Trr_i,s2,Es,Co,BH,As,htcok,y9,V1 x6,V1 q9,V1 hcf,hat,x9,ej,q1,q2,q3,d6,fr1 e9];have w9:BO g.cells (x.take (j+1))=BO g.cells (x.take j)++[(lowB g.cells p:Int)]:=t7;refine .mk ⟨j+1,.own (n1+3) 1,hset (AL H1 tc) (n1+3) .tok,n1+5⟩ ?_ ⟨i4,zp,(AT m9 e9).hset (m:=n1+5) zo zo,λid d7=>?_,.inr (.inr ⟨n1+3,rfl,zo,AB ..⟩),.inl rfl,λq hq=>?_,?_,?_⟩ zp
    ·rw[w9,Vt];rfl
    ·simp only[];rw[AA _ _ _ _ zo,AX m9 (.inl d7)];exact hk id d7
    ·simp only[m5]at hq;rcases WH.1 hq with q1|q1
     ·exact t8 q q1
     ·rw[WV.1 q1];exact hpm
    ·simp only[];rw[m5,w8,j8,o7];rfl
    ·simp only[];rw[m5,Xo];refine⟨m0,zw,λa ha b hb e=>?_⟩;rw[WV]at hb;subst hb;subst e;rw[WA.2 ha]at o7;cases o7
 have x7:j=x.length:=zo
 subst x7;rw[WC,Vw]at w8;have hlx:(BO g.cells (x.take x.length)).length=x.length:=by rw[Fl,Vw]
 by_cases hx0:x.length=0
 ·have i7:rgsV g.cells lists= .tup [eLl [],.int .i64 130]:=j7 (by rw[heq,Eo,hx0];simp);rw[i7];simp only[eZ,seval,eY,lt_T c6,hg,lt_F i4,hlx,BA (show((x.length:Nat):Int)=0 by omega)];exact Wk.tup (.cons (Wk.sl (.inr rfl)) (.cons (Wk.refl _) .nil))
 have hEl:E.length<=64:=by
  have:=hE.len;simp only[V0,W0]at this;omega
 have j0:tkG 1 1 H1 tl:=by
  rcases c7 with rfl|rfl|⟨id,rfl,h1,h2⟩
  ·exact .inl rfl
  ·exact .inr (.inl rfl)
  ·exact .inr (.inr ⟨id,rfl,h1,by rw[hk id (d5.lt h2)];exact h2⟩)
 have q1:At H1 1 tl=True:=V1 j0.app;have q2:(E.length<=35184372088831)=True:=V1 zo;have q3:small (E.length+1) 24=True:=V1 (AP zo zd);simp only[eZ,seval,eY,lt_T c6,hg,lt_F i4,hlx,Az (show ¬((x.length:Nat):Int)=0 by omega),e,q1,q2,q3,fr1 e9];refine .mk ⟨i+1,E++[.sl tc ((BO g.cells x).map eI)],.own (n1+3) 1,hset (AL H1 tl) (n1+3) .tok,n1+5⟩ ?_ ⟨c6,zp,(AT j0 e9).hset (m:=n1+5) zo zo,?_,.inr (.inr ⟨n1+3,rfl,zo,AB ..⟩),.inl rfl,?_,?_⟩ zp
 ·rw[Vw]
 ·simp only[];rw[AA _ _ _ _ zo,AX j0 (.inl zo)];exact l0
 ·simp only[];rw[w7,Vt];exact hE.app (.cons (Wk.sl (s5.imp id λq=>by rw[X1.1 q];rfl)) .nil)
 ·simp only[];have i5:DU g.cells x=true:=by rw[Eo,w8];simp [F3];omega
  rw[heq,i5,Xs]
def FK{α:Type}{p:α->Bool}{l:List α}{i:Nat}(h:i<l.length):(l.drop i).all p=(p l[i]&&(l.drop (i+1)).all p):=by
 rw[Wm h,Xr]
def p156(a b:List Int)(ha:few a)(hb:few b):Pur prog 156 [eIs a,eIs b] (.bool (Cf a b)):=by
 refine .mk ⟨Ai 0 _,Ai 0 _,trivial⟩ trivial (c156.a (AE OJ (AF ?_)));have l6:a.length<1000000000:=ha;have s9:b.length<1000000000:=hb;simp only[eE,eN,seval,c156];refine AO (λi:Nat=>⟨[(0,true,eIs a),(1,true,eIs b),(5,true,.int .i64 i)],hnil,0⟩) (λi=>i<=a.length/\(a.all λx=>b.contains x)=((a.drop i).all λx=>b.contains x)) (λi=>a.length-i) 0 rfl ⟨V8 _,rfl⟩ ?_;rintro i ⟨hi,hc⟩;by_cases c6:i<a.length
 ·have hg:=V2 c6;have e:=AG (k:=i) zo;rw[FK c6]at hc;generalize a[i]=x at hg hc;cases hx:b.contains x with
  |false=>
   have hR:Cf a b=false:=by unfold Cf;rw[hc,hx];simp
   rw[hR];simp only[eZ,seval,V6,eY,lt_T c6,hg,Tin,s2,Al,AZ,BH,As,V1 hb,hx,tadd]
  |true=>
   rw[hx,Xs]at hc;simp only[eZ,seval,V3,eY,lt_T c6,hg,e,Tin,s2,Al,AZ,BH,As,V1 hb,hx,tadd];exact .mk (i+1) rfl ⟨c6,hc⟩ zo
 obtain rfl:i=a.length:=zo
 rw[WC]at hc;have hc:(a.all λx=>b.contains x)=true:=hc;simp only[eZ,seval,V0,lt_F c6];refine AO (λi:Nat=>⟨[(0,true,eIs a),(1,true,eIs b),(6,true,.int .i64 i)],hnil,0⟩) (λi=>i<=b.length/\(b.all λx=>a.contains x)=((b.drop i).all λx=>a.contains x)) (λi=>b.length-i) 0 rfl ⟨V8 _,rfl⟩ ?_;rintro i ⟨hi2,x5⟩;by_cases i9:i<b.length
 ·have hg:=V2 i9;have e:=AG (k:=i) zo;rw[FK i9]at x5;generalize b[i]=x at hg x5;cases hx:a.contains x with
  |false=>
   have hR:Cf a b=false:=by unfold Cf;rw[x5,hx];simp
   rw[hR];simp only[eZ,seval,V6,eY,lt_T i9,hg,Tin,s2,Al,AZ,BH,As,V1 ha,hx,tadd]
  |true=>
   rw[hx,Xs]at x5;simp only[eZ,seval,V3,eY,lt_T i9,hg,e,Tin,s2,Al,AZ,BH,As,V1 ha,hx,tadd];exact .mk (i+1) rfl ⟨i9,x5⟩ zo
 obtain rfl:i=b.length:=zo
 rw[WC]at x5;have x5:(b.all λx=>a.contains x)=true:=x5;have hR:Cf a b=true:=by unfold Cf;rw[hc,x5];rfl
 rw[hR];simp only[eZ,seval,V0,lt_F i9]
def Tzr:Tab:=tadd 35 (s2 dGd dLl (λg l=>Ak g.sh g.w g.h g.holes=some g.cells/\few g.holes/\Bm l) λg l=>rgsV g.cells l) (tadd 156 (s2 dIs dIs (λa b=>few a/\few b) λa b=>.bool (Cf a b)) tnil)
def Tzr_ok:AI prog Tzr:=(AI.tnil.add (q2 λa b h=>p156 a b h.1 h.2)).add (q2 λg l h=>p35 g l h.1 h.2.1 h.2.2)
def p94(d:Z8)(g:Zc)(hd:Z4 d)(hG:Ak g.sh g.w g.h g.holes=some g.cells)(hh:few g.holes):Pur prog 94 [encD d,Bu g] (.int .i64 (Cx g.cells d.regs)):=by
 refine .mk ⟨AW 0 d,Ar 0 ..,trivial⟩ trivial (c94.a (AE Tzr_ok (AF ?_)));have v7:d.regs.length<1000000000:=hd.rg;simp only[eE,eN,seval,c94];refine AO (λi:Nat=>⟨[(2,true,.ptr 0 0),(3,true,.ptr 1 0),(5,true,.int .i64 i)],hset (hset hnil 0 (.box (AK d))) 1 (.box (AH g.sh g.w g.h g.holes g.cells)),3⟩) (λi=>i<=d.regs.length/\Cx g.cells d.regs=Cx g.cells (d.regs.drop i)) (λi=>d.regs.length-i)
  0 rfl ⟨V8 _,rfl⟩ ?_
 rintro i ⟨hi,heq⟩;by_cases c6:i<d.regs.length;case neg=>
  obtain rfl:i=d.regs.length:=zo
  rw[WC]at heq;rw[heq];simp only[eZ,seval,V0,lt_F c6];rfl
 have hg:=V2 c6;have e:=AG (k:=i) zo;have hrf:Lr d.regs[i]:=hd.rgs _ (W1 c6);rw[KY _ _ _ c6]at heq;generalize d.regs[i]=r at hg hrf heq;have hc:=V1 (⟨hG,hh,hrf⟩:Ak g.sh g.w g.h g.holes=some g.cells/\few g.holes/\Bm r.ls);by_cases hb:(decide (r.ls.length<=64)&&r.ls.all (DU g.cells))=true;case neg=>
  have hv:rgsV g.cells r.ls= .tup [eLl [],.int .i64 130]:=V5 hb;have hE:regE g.cells r=130:=Vv (by simpa using hb);rw[hE,V5 zd]at heq;rw[heq];simp only[eZ,seval,V6,eY,lt_T c6,hg,Tzr,s2,Es,Co,CM,Bl,hc,hv,tadd]
 have hv:rgsV g.cells r.ls= .tup [eLl (r.ls.map (BO g.cells)),.int .i64 0]:=Vv hb;have hregE:regE g.cells r=if Bg r.ls=true then 161 else 0:=by unfold regE;rw[hb,V5 zd]
 have m6:r.ls.length<1000000000:=hrf.1;have hfw:∀l∈r.ls,few l:=λl hl=>by
  obtain⟨q1,-,q3⟩:=Ee (W4.1 ((V7 _ _).mp hb).2 _ hl);have h1:=HV q1 q3;have h2:=(Ax hG).2.1;show l.length<_;omega
 simp only[eZ,seval,V3,eY,lt_T c6,hg,Tzr,s2,Es,Co,CM,Bl,hc,hv,tadd];refine AO (λa:Nat=>⟨[(2,true,.ptr 0 0),(3,true,.ptr 1 0),(5,true,.int .i64 i),(6,true,eLl r.ls),(9,true,.int .i64 a)],hset (hset hnil 0 (.box (AK d))) 1 (.box (AH g.sh g.w g.h g.holes g.cells)),3⟩) (λa=>a<=r.ls.length/\∀x y (hx:x<r.ls.length) (hy:y<r.ls.length),x<a->y<x->Cf r.ls[x] r.ls[y]=false) (λa=>r.ls.length-a)
  0 rfl ⟨V8 _,λx y _ _ q=>absurd q (WE _)⟩ ?_
 rintro a ⟨ha,i7⟩;by_cases hla:a<r.ls.length
 ·have hga:=V2 hla;have ea:=AG (k:=a) zo;have hfa:few r.ls[a]:=hfw _ (W1 hla);simp only[eZ,seval,V0,lt_T hla];refine AO (λb:Nat=>⟨[(2,true,.ptr 0 0),(3,true,.ptr 1 0),(5,true,.int .i64 i),(6,true,eLl r.ls),(9,true,.int .i64 a),(10,true,.int .i64 b)],hset (hset hnil 0 (.box (AK d))) 1 (.box (AH g.sh g.w g.h g.holes g.cells)),3⟩) (λb=>b<=a/\∀y (hy:y<r.ls.length),y<b->Cf r.ls[a] r.ls[y]=false) (λb=>a-b)
   0 rfl ⟨V8 _,λy _ q=>absurd q (WE _)⟩ ?_
  rintro b ⟨l5,hnb⟩;by_cases hlb:b<a
  ·have s9:b<r.ls.length:=zo
   have d8:=V2 s9;have eb:=AG (k:=b) zo;have hfb:few r.ls[b]:=hfw _ (W1 s9);cases l6:Cf r.ls[a] r.ls[b]with
   |true=>
    rw[hregE,Vv (Fk.2 ⟨a,b,hla,s9,hlb,l6⟩),V5 zd]at heq;rw[heq];generalize r.ls[a]=la at hga hfa l6;generalize r.ls[b]=lb at d8 hfb l6;simp only[eZ,seval,eY,lt_T hlb,lt_T hla,lt_T s9,hga,d8,Tzr,s2,Al,AZ,V1 hfa,V1 hfb,l6,tadd]
   |false=>
    have hnx:∀y (hy:y<r.ls.length),y<b+1->Cf r.ls[a] r.ls[y]=false:=λy hy q=>by
     by_cases z:y=b
     ·subst z;exact l6
     ·exact hnb y hy zo
    generalize hA:r.ls[a]=la at hga hfa l6;generalize hB:r.ls[b]=lb at d8 hfb l6;simp only[eZ,seval,eY,lt_T hlb,lt_T hla,lt_T s9,hga,d8,Tzr,s2,Al,AZ,V1 hfa,V1 hfb,l6,eb,tadd];exact .mk (b+1) rfl ⟨hlb,λy hy q=>by rw[<-hA];exact hnx y hy q⟩ zo
  obtain rfl:b=a:=zo
  simp only[eZ,seval,lt_F hlb,ea];refine .mk (b+1) rfl ⟨hla,λx y hx hy q1 q2=>?_⟩ zo;by_cases z:x=b
  ·subst z;exact hnb y hy q2
  ·exact i7 x y hx hy zo q2
 obtain rfl:a=r.ls.length:=zo
 have hpt:Bg r.ls=false:=by
  cases q:Bg r.ls with
  |false=>rfl
  |true=>
   obtain⟨x,y,hx,hy,i6,h2⟩:=Fk.1 q;rw[i7 x y hx hy hx i6]at h2;cases h2
 have hE0:regE g.cells r=0:=by rw[hregE,hpt];rfl
 rw[hE0,Vv rfl]at heq;simp only[eZ,seval,V0,lt_F hla,e];exact .mk (i+1) rfl ⟨c6,heq⟩ zo
def p158(c:Z5):Pur prog 158 [B0 c] (.bool (Db c)):=by
 refine .mk ⟨D4 0 c,trivial⟩ trivial (c158.a (AE AI.tnil (AF ?_)));unfold Db;by_cases h1:c.ty=1
 ·simp only[eZ,seval,c158,h1]
 by_cases h2:c.ty=2
 ·simp only[eZ,seval,c158,h2]
 by_cases h3:c.ty=3
 ·simp only[eZ,seval,c158,h3];rw[show(decide (1<=c.fam)&&decide (c.fam<=3)||decide (8<=c.fam))=(decide (c.fam=1)||decide (c.fam=2)||decide (c.fam=3)||decide (8<=c.fam))by
   rw[Wg];simp;omega]
 simp only[eZ,seval,c158,h1,h2,h3]
def p206(d:Z8)(r:Yz)(w:Int)(on:Bool):Pur prog 206 [encD d,BQ r,.int .i64 w,.bool on] (.bool (Cy d.clus r w on)):=by
 refine .mk ⟨AW 0 d,Ao 0 r,trivial,trivial,trivial⟩ trivial (c206.a (AE AI.tnil (AF ?_)));by_cases hc:r.clue<0\/(d.clus.length:Int)<=r.clue
 ·have hcb:(decide (r.clue<0)||decide ((d.clus.length:Int)<=r.clue))=true:=by simpa using hc
  have hP:Cy d.clus r w on=false:=by unfold Cy;rw[Vv hc]
  rw[hP];simp only[eZ,seval,V0,c206,hcb]
 ·have hcb:(decide (r.clue<0)||decide ((d.clus.length:Int)<=r.clue))=false:=by simp;omega
  obtain⟨j,hj⟩:∃j:Nat,r.clue=(j:Int):=⟨r.clue.toNat,zo⟩;have u9:j<d.clus.length:=zo
  have hg:=V2 u9;generalize d.clus[j]=c at hg;have hP:Cy d.clus r w on=(decide (c.ty=w)&&(!on||decide (c.fam=r.fam))):=by
   unfold Cy;(rw[V5 hc,hj,Vy,hg])<;>rfl
  rw[hP];rw[hj]at hcb;cases on
  ·simp only[eZ,seval,V3,V6,eY,c206,hj,hcb,lt_T u9,hg]
  ·simp only[eZ,seval,V3,eY,c206,hj,hcb,lt_T u9,hg]
def sCl:List Fs->AC->Prop×Fs:=λa H=>match a with
 |[x,y,.int .i64 w,.bool on]=>(dD.ok x/\dRu.ok y,.bool (Cy (dD.dec x).clus (dRu.dec y) w on))
 |_=>(False,.tup [])
def qCl:∀args H n,(sCl args H).1->Ab prog 206 args H n (sCl args H).2:=by
 intro args H n hh;unfold sCl at hh⊢;split at hh
 ·obtain⟨h1,h2⟩:=hh;refine AN.args ((p206 _ _ _ _).quiet H n) ?_;rintro g vs ⟨v,r,rfl,k1,w,r',rfl,k2,k3⟩;exact⟨v,_,rfl,dD.wk _ h1 _ _ k1,w,_,rfl,dRu.wk _ h2 _ _ k2,k3⟩
 ·exact hh.elim
def Tzc:Tab:=tadd 206 sCl tnil
def Sr:AI prog Tzc:=AI.tnil.add qCl
theorem Tzc_e(x y:Fs)(w:Int)(on:Bool)(H:AC):Tzc 206 [x,y,.int .i64 w,.bool on] H=(dD.ok x/\dRu.ok y,.bool (Cy (dD.dec x).clus (dRu.dec y) w on)):=rfl
def p205(d:Z8)(r:Yz):Pur prog 205 [encD d,BQ r] (.bool (D8 d.clus r)):=by
 refine .mk ⟨AW 0 d,Ao 0 r,trivial⟩ trivial (c205.a (AE Sr (AF ?_)));unfold D8;by_cases ho:r.op<1\/3<r.op
 ·have hb:(decide (r.op<1)||decide (3<r.op))=true:=by simpa using ho
  rw[Vv ho];simp only[eZ,seval,c205,hb]
 have hb:(decide (r.op<1)||decide (3<r.op))=false:=by simp;omega
 rw[V5 ho];by_cases hn:r.byN=[]
 ·rw[Vv hn];simp only[eZ,seval,c205,hb,A4,BA hn]
 ·rw[V5 hn];simp only[eZ,seval,c205,hb,A4,Az hn,Tzc_e,A0,Aj,BV,A7]
def sndA:Yw->Yw
 | .seq _ b=>b
 |c=>c
def sndN:Nat->Yw->Yw
 |0,c=>c
 |k+1,c=>sndN k (sndA c)
def putN:Nat->Yw->Yw->Yw
 |0,_,R=>R
 |k+1,.seq a b,R=>.seq a (putN k b R)
 |_+1,c,_=>c
def Tru:Tab:=tadd 205 (s2 dD dRu any2 λd r=>.bool (D8 d.clus r)) Tzc
def Tru_ok:AI prog Tru:=Sr.add (q2 λd r _=>p205 d r)
theorem Q8(a:List Fs)(H:AC):Tru 205 a H=s2 dD dRu any2 (λd r=>.bool (D8 d.clus r)) a H:=rfl
theorem Q9(x y:Fs)(w:Int)(on:Bool)(H:AC):Tru 206 [x,y,.int .i64 w,.bool on] H=(dD.ok x/\dRu.ok y,.bool (Cy (dD.dec x).clus (dRu.dec y) w on)):=rfl
def rstR(cl:List Z5)(r:Yz)(on set oth num by' lim:Bool):Bool:=
 if(!on&&(decide (r.on≠[])||decide (r.fam≠0)))||(!set&&(decide (0<r.ns.length)||decide (r.set≠0)))||(!oth&&(decide (0<r.os.length)||decide (r.oth≠0)))then false
 else if(on&&decide (r.on=[]))||(set&&decide (r.set=0))||(oth&&decide (r.oth=0))then false
 else if !lim&&(decide (r.op≠0)||(!num&&decide (r.n≠0))||(!by'&&(decide (r.byN≠[])||decide (r.clue≠ -1))))then false
 else if(lim&& !D8 cl r)||(num&&(decide (r.n<0)||decide (65536<r.n)))then false
 else if r.kind=5 then Cy cl r 3 true
 else if r.kind=11 then Cy cl r 1 false else true
theorem RA:c157=putN 8 c157 (sndN 8 c157):=rfl
def rr1(d:Z8)(r:Yz)(on set oth num by' lim:Bool)(X:List (Nat×Bool×Fs))(hA1:(!on&&(!decide (r.on=[])|| !decide (r.fam=0))|| !set&&(decide (0<r.ns.length)|| !decide (r.set=0))|| !oth&&(decide (0<r.os.length)|| !decide (r.oth=0)))=true):evK prog Tru (sndN 8 c157) [] (Cd [.t 4] (Ret (.bool (false))))
  ⟨(2,true,.ptr 0 0)::(3,true,.ptr 1 0)::(5,true,.bool on)::(6,true,.bool set)::(7,true,.bool oth)::(8,true,.bool num)::(9,true,.bool by')::(10,true,.bool lim)::X,hset (hset hnil 0 (.box (AK d))) 1 (.box (A6 r)),3⟩:=by
 have e1:∀(l:List Bs),decide ((0:Int)<(l.length:Int))=decide (0<l.length):=λl=>by
  rw[Wg,Vu,Vu];omega
 simp only[eZ,seval,V0,c157,sndN,sndA,Ap,e1,hA1]
def rr2(d:Z8)(r:Yz)(on set oth num by' lim:Bool)(X:List (Nat×Bool×Fs))(hA1:(!on&&(!decide (r.on=[])|| !decide (r.fam=0))|| !set&&(decide (0<r.ns.length)|| !decide (r.set=0))|| !oth&&(decide (0<r.os.length)|| !decide (r.oth=0)))=false)(hA2:(on&&decide (r.on=[])||set&&decide (r.set=0)||oth&&decide (r.oth=0))=true):evK prog Tru (sndN 8 c157) [] (Cd [.t 4] (Ret (.bool (false))))
  ⟨(2,true,.ptr 0 0)::(3,true,.ptr 1 0)::(5,true,.bool on)::(6,true,.bool set)::(7,true,.bool oth)::(8,true,.bool num)::(9,true,.bool by')::(10,true,.bool lim)::X,hset (hset hnil 0 (.box (AK d))) 1 (.box (A6 r)),3⟩:=by
 have e1:∀(l:List Bs),decide ((0:Int)<(l.length:Int))=decide (0<l.length):=λl=>by
  rw[Wg,Vu,Vu];omega
 simp only[eZ,seval,V0,c157,sndN,sndA,Ap,A4,e1,hA1,hA2]
def rr3(d:Z8)(r:Yz)(on set oth num by':Bool)(X:List (Nat×Bool×Fs))(hA1:(!on&&(!decide (r.on=[])|| !decide (r.fam=0))|| !set&&(decide (0<r.ns.length)|| !decide (r.set=0))|| !oth&&(decide (0<r.os.length)|| !decide (r.oth=0)))=false)(hA2:(on&&decide (r.on=[])||set&&decide (r.set=0)||oth&&decide (r.oth=0))=false)(hA3:(!decide (r.op=0)|| !num&& !decide (r.n=0)|| !by'&&(!decide (r.byN=[])|| !decide (r.clue= -1)))=true):evK prog Tru (sndN 8 c157) [] (Cd [.t 4] (Ret (.bool (false))))
  ⟨(2,true,.ptr 0 0)::(3,true,.ptr 1 0)::(5,true,.bool on)::(6,true,.bool set)::(7,true,.bool oth)::(8,true,.bool num)::(9,true,.bool by')::(10,true,.bool false)::X,hset (hset hnil 0 (.box (AK d))) 1 (.box (A6 r)),3⟩:=by
 have e1:∀(l:List Bs),decide ((0:Int)<(l.length:Int))=decide (0<l.length):=λl=>by
  rw[Wg,Vu,Vu];omega
 simp only[eZ,seval,V6,V0,c157,sndN,sndA,Ap,A4,e1,hA1,hA2,hA3]
def rr4a(d:Z8)(r:Yz)(on set oth num by':Bool)(X:List (Nat×Bool×Fs))(hA1:(!on&&(!decide (r.on=[])|| !decide (r.fam=0))|| !set&&(decide (0<r.ns.length)|| !decide (r.set=0))|| !oth&&(decide (0<r.os.length)|| !decide (r.oth=0)))=false)(hA2:(on&&decide (r.on=[])||set&&decide (r.set=0)||oth&&decide (r.oth=0))=false)(hb:(!D8 d.clus r||num&&(decide (r.n<0)||decide (65536<r.n)))=true):evK prog Tru (sndN 8 c157) [] (Cd [.t 4] (Ret (.bool (false))))
  ⟨(2,true,.ptr 0 0)::(3,true,.ptr 1 0)::(5,true,.bool on)::(6,true,.bool set)::(7,true,.bool oth)::(8,true,.bool num)::(9,true,.bool by')::(10,true,.bool true)::X,hset (hset hnil 0 (.box (AK d))) 1 (.box (A6 r)),3⟩:=by
 have e1:∀(l:List Bs),decide ((0:Int)<(l.length:Int))=decide (0<l.length):=λl=>by
  rw[Wg,Vu,Vu];omega
 simp only[eZ,seval,V3,V0,c157,sndN,sndA,Ap,A4,e1,hA1,hA2,Tru,s2,A0,Aj,BV,A7,hb,tadd]
def rr4b(d:Z8)(r:Yz)(on set oth num by':Bool)(X:List (Nat×Bool×Fs))(hA1:(!on&&(!decide (r.on=[])|| !decide (r.fam=0))|| !set&&(decide (0<r.ns.length)|| !decide (r.set=0))|| !oth&&(decide (0<r.os.length)|| !decide (r.oth=0)))=false)(hA2:(on&&decide (r.on=[])||set&&decide (r.set=0)||oth&&decide (r.oth=0))=false)(hb:(!D8 d.clus r||num&&(decide (r.n<0)||decide (65536<r.n)))=false)(h5:r.kind=5):evK prog Tru (sndN 8 c157) [] (Cd [.t 4] (Ret (.bool (Cy d.clus r 3 true))))
  ⟨(2,true,.ptr 0 0)::(3,true,.ptr 1 0)::(5,true,.bool on)::(6,true,.bool set)::(7,true,.bool oth)::(8,true,.bool num)::(9,true,.bool by')::(10,true,.bool true)::X,hset (hset hnil 0 (.box (AK d))) 1 (.box (A6 r)),3⟩:=by
 have e1:∀(l:List Bs),decide ((0:Int)<(l.length:Int))=decide (0<l.length):=λl=>by
  rw[Wg,Vu,Vu];omega
 simp only[eZ,seval,V3,V0,c157,sndN,sndA,Ap,A4,e1,hA1,hA2,Q8,Q9,s2,A0,Aj,BV,A7,hb,BA h5]
def rr4c(d:Z8)(r:Yz)(on set oth num by':Bool)(X:List (Nat×Bool×Fs))(hA1:(!on&&(!decide (r.on=[])|| !decide (r.fam=0))|| !set&&(decide (0<r.ns.length)|| !decide (r.set=0))|| !oth&&(decide (0<r.os.length)|| !decide (r.oth=0)))=false)(hA2:(on&&decide (r.on=[])||set&&decide (r.set=0)||oth&&decide (r.oth=0))=false)(hb:(!D8 d.clus r||num&&(decide (r.n<0)||decide (65536<r.n)))=false)(h5:¬r.kind=5)(h11:r.kind=11):evK prog Tru (sndN 8 c157) [] (Cd [.t 4] (Ret (.bool (Cy d.clus r 1 false))))
  ⟨(2,true,.ptr 0 0)::(3,true,.ptr 1 0)::(5,true,.bool on)::(6,true,.bool set)::(7,true,.bool oth)::(8,true,.bool num)::(9,true,.bool by')::(10,true,.bool true)::X,hset (hset hnil 0 (.box (AK d))) 1 (.box (A6 r)),3⟩:=by
 have e1:∀(l:List Bs),decide ((0:Int)<(l.length:Int))=decide (0<l.length):=λl=>by
  rw[Wg,Vu,Vu];omega
 simp only[eZ,seval,V3,V0,c157,sndN,sndA,Ap,A4,e1,hA1,hA2,Q8,Q9,s2,A0,Aj,BV,A7,hb,Az h5,V1 h11]
def rr4d(d:Z8)(r:Yz)(on set oth num by':Bool)(X:List (Nat×Bool×Fs))(hA1:(!on&&(!decide (r.on=[])|| !decide (r.fam=0))|| !set&&(decide (0<r.ns.length)|| !decide (r.set=0))|| !oth&&(decide (0<r.os.length)|| !decide (r.oth=0)))=false)(hA2:(on&&decide (r.on=[])||set&&decide (r.set=0)||oth&&decide (r.oth=0))=false)(hb:(!D8 d.clus r||num&&(decide (r.n<0)||decide (65536<r.n)))=false)(h5:¬r.kind=5)(h11:¬r.kind=11):evK prog Tru (sndN 8 c157) [] (Cd [.t 4] (Ret (.bool (true))))
  ⟨(2,true,.ptr 0 0)::(3,true,.ptr 1 0)::(5,true,.bool on)::(6,true,.bool set)::(7,true,.bool oth)::(8,true,.bool num)::(9,true,.bool by')::(10,true,.bool true)::X,hset (hset hnil 0 (.box (AK d))) 1 (.box (A6 r)),3⟩:=by
 have e1:∀(l:List Bs),decide ((0:Int)<(l.length:Int))=decide (0<l.length):=λl=>by
  rw[Wg,Vu,Vu];omega
 simp only[eZ,seval,V3,V6,V0,c157,sndN,sndA,Ap,A4,e1,hA1,hA2,Tru,s2,A0,Aj,BV,A7,hb,Az h5,Vs h11,tadd]
def rr5a(d:Z8)(r:Yz)(on set oth num by':Bool)(X:List (Nat×Bool×Fs))(hA1:(!on&&(!decide (r.on=[])|| !decide (r.fam=0))|| !set&&(decide (0<r.ns.length)|| !decide (r.set=0))|| !oth&&(decide (0<r.os.length)|| !decide (r.oth=0)))=false)(hA2:(on&&decide (r.on=[])||set&&decide (r.set=0)||oth&&decide (r.oth=0))=false)(hA3:(!decide (r.op=0)|| !num&& !decide (r.n=0)|| !by'&&(!decide (r.byN=[])|| !decide (r.clue= -1)))=false)(hb:(num&&(decide (r.n<0)||decide (65536<r.n)))=true):evK prog Tru (sndN 8 c157) [] (Cd [.t 4] (Ret (.bool (false))))
  ⟨(2,true,.ptr 0 0)::(3,true,.ptr 1 0)::(5,true,.bool on)::(6,true,.bool set)::(7,true,.bool oth)::(8,true,.bool num)::(9,true,.bool by')::(10,true,.bool false)::X,hset (hset hnil 0 (.box (AK d))) 1 (.box (A6 r)),3⟩:=by
 have e1:∀(l:List Bs),decide ((0:Int)<(l.length:Int))=decide (0<l.length):=λl=>by
  rw[Wg,Vu,Vu];omega
 simp only[eZ,seval,V6,V0,c157,sndN,sndA,Ap,A4,e1,hA1,hA2,hA3,Tru,s2,A0,Aj,BV,A7,hb,tadd]
def rr5b(d:Z8)(r:Yz)(on set oth num by':Bool)(X:List (Nat×Bool×Fs))(hA1:(!on&&(!decide (r.on=[])|| !decide (r.fam=0))|| !set&&(decide (0<r.ns.length)|| !decide (r.set=0))|| !oth&&(decide (0<r.os.length)|| !decide (r.oth=0)))=false)(hA2:(on&&decide (r.on=[])||set&&decide (r.set=0)||oth&&decide (r.oth=0))=false)(hA3:(!decide (r.op=0)|| !num&& !decide (r.n=0)|| !by'&&(!decide (r.byN=[])|| !decide (r.clue= -1)))=false)(hb:(num&&(decide (r.n<0)||decide (65536<r.n)))=false)(h5:r.kind=5):evK prog Tru (sndN 8 c157) [] (Cd [.t 4] (Ret (.bool (Cy d.clus r 3 true))))
  ⟨(2,true,.ptr 0 0)::(3,true,.ptr 1 0)::(5,true,.bool on)::(6,true,.bool set)::(7,true,.bool oth)::(8,true,.bool num)::(9,true,.bool by')::(10,true,.bool false)::X,hset (hset hnil 0 (.box (AK d))) 1 (.box (A6 r)),3⟩:=by
 have e1:∀(l:List Bs),decide ((0:Int)<(l.length:Int))=decide (0<l.length):=λl=>by
  rw[Wg,Vu,Vu];omega
 simp only[eZ,seval,V6,V0,c157,sndN,sndA,Ap,A4,e1,hA1,hA2,hA3,Q8,Q9,s2,A0,Aj,BV,A7,hb,BA h5]
def rr5c(d:Z8)(r:Yz)(on set oth num by':Bool)(X:List (Nat×Bool×Fs))(hA1:(!on&&(!decide (r.on=[])|| !decide (r.fam=0))|| !set&&(decide (0<r.ns.length)|| !decide (r.set=0))|| !oth&&(decide (0<r.os.length)|| !decide (r.oth=0)))=false)(hA2:(on&&decide (r.on=[])||set&&decide (r.set=0)||oth&&decide (r.oth=0))=false)(hA3:(!decide (r.op=0)|| !num&& !decide (r.n=0)|| !by'&&(!decide (r.byN=[])|| !decide (r.clue= -1)))=false)(hb:(num&&(decide (r.n<0)||decide (65536<r.n)))=false)(h5:¬r.kind=5)(h11:r.kind=11):evK prog Tru (sndN 8 c157) [] (Cd [.t 4] (Ret (.bool (Cy d.clus r 1 false))))
  ⟨(2,true,.ptr 0 0)::(3,true,.ptr 1 0)::(5,true,.bool on)::(6,true,.bool set)::(7,true,.bool oth)::(8,true,.bool num)::(9,true,.bool by')::(10,true,.bool false)::X,hset (hset hnil 0 (.box (AK d))) 1 (.box (A6 r)),3⟩:=by
 have e1:∀(l:List Bs),decide ((0:Int)<(l.length:Int))=decide (0<l.length):=λl=>by
  rw[Wg,Vu,Vu];omega
 simp only[eZ,seval,V3,V6,V0,c157,sndN,sndA,Ap,A4,e1,hA1,hA2,hA3,Q8,Q9,s2,A0,Aj,BV,A7,hb,Az h5,V1 h11]
def rr5d(d:Z8)(r:Yz)(on set oth num by':Bool)(X:List (Nat×Bool×Fs))(hA1:(!on&&(!decide (r.on=[])|| !decide (r.fam=0))|| !set&&(decide (0<r.ns.length)|| !decide (r.set=0))|| !oth&&(decide (0<r.os.length)|| !decide (r.oth=0)))=false)(hA2:(on&&decide (r.on=[])||set&&decide (r.set=0)||oth&&decide (r.oth=0))=false)(hA3:(!decide (r.op=0)|| !num&& !decide (r.n=0)|| !by'&&(!decide (r.byN=[])|| !decide (r.clue= -1)))=false)(hb:(num&&(decide (r.n<0)||decide (65536<r.n)))=false)(h5:¬r.kind=5)(h11:¬r.kind=11):evK prog Tru (sndN 8 c157) [] (Cd [.t 4] (Ret (.bool (true))))
  ⟨(2,true,.ptr 0 0)::(3,true,.ptr 1 0)::(5,true,.bool on)::(6,true,.bool set)::(7,true,.bool oth)::(8,true,.bool num)::(9,true,.bool by')::(10,true,.bool false)::X,hset (hset hnil 0 (.box (AK d))) 1 (.box (A6 r)),3⟩:=by
 have e1:∀(l:List Bs),decide ((0:Int)<(l.length:Int))=decide (0<l.length):=λl=>by
  rw[Wg,Vu,Vu];omega
 simp only[eZ,seval,V3,V6,V0,c157,sndN,sndA,Ap,A4,e1,hA1,hA2,hA3,Tru,s2,A0,Aj,BV,A7,hb,Az h5,Vs h11,tadd]
theorem OM(d:Z8)(r:Yz)(on set oth num by' lim:Bool)(X:List (Nat×Bool×Fs)):evK prog Tru (sndN 8 c157) [] (Cd [.t 4] (Ret (.bool (rstR d.clus r on set oth num by' lim))))
  ⟨(2,true,.ptr 0 0)::(3,true,.ptr 1 0)::(5,true,.bool on)::(6,true,.bool set)::(7,true,.bool oth)::(8,true,.bool num)::(9,true,.bool by')::(10,true,.bool lim)::X,hset (hset hnil 0 (.box (AK d))) 1 (.box (A6 r)),3⟩:=by
 unfold rstR;simp only[ne_eq,decide_not];cases hA1:(!on&&(!decide (r.on=[])|| !decide (r.fam=0))|| !set&&(decide (0<r.ns.length)|| !decide (r.set=0))|| !oth&&(decide (0<r.os.length)|| !decide (r.oth=0)))with
 |true=>rw[Vv rfl];exact rr1 d r on set oth num by' lim X hA1
 |false=>
 rw[V5 zd];cases hA2:(on&&decide (r.on=[])||set&&decide (r.set=0)||oth&&decide (r.oth=0))with
 |true=>rw[Vv rfl];exact rr2 d r on set oth num by' lim X hA1 hA2
 |false=>
 rw[V5 zd];cases lim with
 |true=>
  rw[V3,Xn,V5 zd,Xs];cases hb:(!D8 d.clus r||num&&(decide (r.n<0)||decide (65536<r.n)))with
  |true=>rw[Vv rfl];exact rr4a d r on set oth num by' X hA1 hA2 hb
  |false=>
  rw[V5 zd];by_cases h5:r.kind=5
  ·rw[Vv h5];exact rr4b d r on set oth num by' X hA1 hA2 hb h5
  rw[V5 h5];by_cases h11:r.kind=11
  ·rw[Vv h11];exact rr4c d r on set oth num by' X hA1 hA2 hb h5 h11
  rw[V5 h11];exact rr4d d r on set oth num by' X hA1 hA2 hb h5 h11
 |false=>
  rw[V6,Xs,Xn,Xx];cases hA3:(!decide (r.op=0)|| !num&& !decide (r.n=0)|| !by'&&(!decide (r.byN=[])|| !decide (r.clue= -1)))with
  |true=>rw[Vv rfl];exact rr3 d r on set oth num by' X hA1 hA2 hA3
  |false=>
  rw[V5 zd];cases hb:(num&&(decide (r.n<0)||decide (65536<r.n)))with
  |true=>rw[Vv rfl];exact rr5a d r on set oth num by' X hA1 hA2 hA3 hb
  |false=>
  rw[V5 zd];by_cases h5:r.kind=5
  ·rw[Vv h5];exact rr5b d r on set oth num by' X hA1 hA2 hA3 hb h5
  rw[V5 h5];by_cases h11:r.kind=11
  ·rw[Vv h11];exact rr5c d r on set oth num by' X hA1 hA2 hA3 hb h5 h11
  rw[V5 h11];exact rr5d d r on set oth num by' X hA1 hA2 hA3 hb h5 h11
def p157(d:Z8)(r:Yz):Pur prog 157 [encD d,BQ r] (.bool (EY d.clus r)):=by
 refine .mk ⟨AW 0 d,Ao 0 r,trivial⟩ trivial (c157.a (AE Tru_ok (AF ?_)));have hrest:=OM d r;rw[RA];rw[Va];have u0:∀on set oth num by' lim rdb clue,Cm r.kind=⟨on,set,oth,lim,num,rdb,true,clue⟩->by'=decide (clue≠0)->IZ d.clus r=rstR d.clus r on set oth num by' lim:=λon set oth num by' lim rdb clue h q=>by
  subst q;unfold IZ rstR;rw[h];rfl
 by_cases hk:r.kind<1\/13<r.kind
 ·have hR:IZ d.clus r=false:=by
   have hkn:(Cm r.kind).knw=false:=by unfold Cm;repeat rw[V5 zo]
   unfold IZ;simp only[];rw[Vv hkn]
  have n1:(r.kind=1)=False:=Vs zo;have n2:(r.kind=2)=False:=Vs zo;have n3:(r.kind=3)=False:=Vs zo;have n4:(r.kind=4)=False:=Vs zo;have n5:(r.kind=5)=False:=Vs zo;have n6:(r.kind=6)=False:=Vs zo;have n7:(r.kind=7)=False:=Vs zo;have n8:(r.kind=8)=False:=Vs zo;have n9:(r.kind=9)=False:=Vs zo;have n10:(r.kind=10)=False:=Vs zo;have n11:(r.kind=11)=False:=Vs zo;have n12:(r.kind=12)=False:=Vs zo;have n13:(r.kind=13)=False:=Vs zo;rw[hR];generalize sndN 8 c157=R;simp only[eZ,seval,c157,putN,n1,n2,n3,n4,n5,n6,n7,n8,n9,n10,n11,n12,n13]
 generalize sndN 8 c157=R at hrest⊢;have hk2:r.kind=1\/r.kind=2\/r.kind=3\/r.kind=4\/r.kind=5\/r.kind=6\/r.kind=7\/r.kind=8\/r.kind=9\/r.kind=10\/r.kind=11\/r.kind=12\/r.kind=13:=zo
 rcases hk2 with hk2|hk2|hk2|hk2|hk2|hk2|hk2|hk2|hk2|hk2|hk2|hk2|hk2
 all_goals
  rw[u0 _ _ _ _ _ _ _ _ (by rw[hk2];rfl) rfl];simp only[eZ,seval,c157,putN,hk2];exact hrest _ _ _ _ _ _ _
def Tfo:Tab:=tadd 157 (s2 dD dRu any2 λd r=>.bool (EY d.clus r)) (tadd 158 (s1 dCl any1 λc=>.bool (Db c)) tnil)
def Tfo_ok:AI prog Tfo:=(AI.tnil.add (q1 λc _=>p158 c)).add (q2 λd r _=>p157 d r)
def p95(d:Z8)(hd:Z4 d):Pur prog 95 [encD d] (.bool (Bb d)):=by
 refine .mk ⟨AW 0 d,trivial⟩ trivial (c95.a (AE Tfo_ok (AF ?_)));have hsl:d.syms.length<1000000000:=hd.sy;have v7:d.ruls.length<1000000000:=hd.ru;have hcl:d.clus.length<1000000000:=hd.cl;simp only[eE,eN,seval,c95];refine AO (λi:Nat=>⟨[(1,true,.ptr 0 0),(3,true,.int .i64 i)],hset hnil 0 (.box (AK d)),2⟩) (λi=>i<=d.syms.length/\(d.syms.all λs=>decide (0<=s.v)&&decide (s.v<=99))=((d.syms.drop i).all λs=>decide (0<=s.v)&&decide (s.v<=99))) (λi=>d.syms.length-i)
  0 rfl ⟨V8 _,rfl⟩ ?_
 rintro i ⟨hi,hall⟩;by_cases c6:i<d.syms.length
 ·have hg:=V2 c6;have e:=AG (k:=i) zo;rw[FK c6]at hall;generalize d.syms[i]=s at hg hall;by_cases hs:0<=s.v/\s.v<=99
  ·have hb:(decide (s.v<0)||decide (99<s.v))=false:=by simp;omega
   simp only[eZ,seval,eY,lt_T c6,hg,e,hb];exact .mk (i+1) rfl ⟨c6,by rw[hall,BA hs.1,BA hs.2];rfl⟩ zo
  ·have hb:(decide (s.v<0)||decide (99<s.v))=true:=by simp;omega
   have hR:Bb d=false:=by
    unfold Bb;rw[hall,show(decide (0<=s.v)&&decide (s.v<=99))=false by simp;omega];rfl
   rw[hR];simp only[eZ,seval,eY,lt_T c6,hg,hb]
 obtain rfl:i=d.syms.length:=zo
 rw[WC]at hall;simp only[eZ,seval,V0,lt_F c6];refine AO (λi:Nat=>⟨[(1,true,.ptr 0 0),(4,true,.int .i64 i)],hset hnil 0 (.box (AK d)),2⟩) (λi=>i<=d.ruls.length/\d.ruls.all (EY d.clus)=(d.ruls.drop i).all (EY d.clus)) (λi=>d.ruls.length-i)
  0 rfl ⟨V8 _,rfl⟩ ?_
 rintro k ⟨hk,i5⟩;by_cases hlk:k<d.ruls.length
 ·have hg:=V2 hlk;have e:=AG (k:=k) zo;rw[FK hlk]at i5;generalize d.ruls[k]=r at hg i5;cases hr:EY d.clus r with
  |false=>
   have hR:Bb d=false:=by
    unfold Bb;rw[i5,hr];simp
   rw[hR];simp only[eZ,seval,V6,eY,lt_T hlk,hg,Tfo,s2,A0,Aj,BV,A7,hr,tadd]
  |true=>
   rw[hr,Xs]at i5;simp only[eZ,seval,V3,eY,lt_T hlk,hg,Tfo,s2,A0,Aj,BV,A7,hr,e,tadd];exact .mk (k+1) rfl ⟨hlk,i5⟩ zo
 obtain rfl:k=d.ruls.length:=zo
 rw[WC]at i5;simp only[eZ,seval,V0,lt_F hlk];refine AO (λj:Nat=>⟨[(1,true,.ptr 0 0),(5,true,.int .i64 j)],hset hnil 0 (.box (AK d)),2⟩) (λi=>i<=d.clus.length/\∀j (h:j<d.clus.length),j<i->D2 d.ruls j=1/\Db d.clus[j]=true) (λi=>d.clus.length-i)
  0 rfl ⟨V8 _,λj h q=>absurd q (WE _)⟩ ?_
 rintro j ⟨hj,l6⟩;by_cases i4:j<d.clus.length
 ·have hg:=V2 i4;have ej:=AG (k:=j) zo;have j7:¬(D2 d.ruls j=1/\Db d.clus[j]=true)->Bb d=false:=λq=>by
   unfold Bb;rw[hall,i5];cases q1:((List.range d.clus.length).all λi=>decide (D2 d.ruls i=1))with
   |false=>rfl
   |true=>
   cases q2:d.clus.all Db with
   |false=>rfl
   |true=>exact absurd ⟨Wn (W4.1 q1 j (Wy.2 i4)),W4.1 q2 _ (W1 i4)⟩ q
  have o6:D2 d.ruls j=1/\Db d.clus[j]=true->∀q (h:q<d.clus.length),q<j+1->D2 d.ruls q=1/\Db d.clus[q]=true:=λz q h hq=>by
   by_cases w:q=j
   ·subst w;exact z
   ·exact l6 q h zo
  generalize hx:d.clus[j]=x at hg j7 o6;simp only[eZ,seval,V0,lt_T i4];refine AO (λk:Nat=>⟨[(1,true,.ptr 0 0),(5,true,.int .i64 j),(6,true,.int .i64 (cntZ (d.ruls.take k) j)),(7,true,.int .i64 k)],hset hnil 0 (.box (AK d)),2⟩) (λk=>k<=d.ruls.length) (λk=>d.ruls.length-k)
   0 rfl (V8 _) ?_
  intro k hk;by_cases hlk:k<d.ruls.length
  ·have hgk:=V2 hlk;have ek:=AG (k:=k) zo;have c7:d.ruls.take (k+1)=d.ruls.take k++[d.ruls[k]]:=by rw[Vx,V2 hlk];rfl
   have hcle:=TY (d.ruls.take k) (j:Int);rw[W0]at hcle;have ew:=AG (k:=cntZ (d.ruls.take k) (j:Int)) zo;generalize d.ruls[k]=r at hgk c7;have hcn:=Qt (d.ruls.take k) r (j:Int);rw[<-c7]at hcn;by_cases hrc:r.clue=j
   ·rw[Vv hrc]at hcn;simp only[eZ,seval,eY,lt_T hlk,hgk,ek,V1 hrc,ew];exact .mk (k+1) (by simp only[hcn]) hlk zo
   ·replace hcn:cntZ (d.ruls.take (k+1)) (j:Int)=cntZ (d.ruls.take k) (j:Int):=by rw[hcn,V5 hrc];rfl
    simp only[eZ,seval,eY,lt_T hlk,hgk,ek,Vs hrc];exact .mk (k+1) (by simp only[hcn]) hlk zo
  obtain rfl:k=d.ruls.length:=zo
  have hmc0:cntZ d.ruls (j:Int)=D2 d.ruls j:=M5 _ _;by_cases hmc:D2 d.ruls j=1
  ·have hmb:(((D2 d.ruls j:Nat):Int)=1)=True:=V1 zo;cases hc:Db x with
   |false=>
    rw[j7 (by rw[hc];simp)];simp only[eZ,seval,V3,V6,eY,lt_F hlk,Vw,hmc0,hmb,lt_T i4,hg,Tfo,s1,GH,Ec,hc,tadd]
   |true=>
    simp only[eZ,seval,V3,eY,lt_F hlk,Vw,hmc0,hmb,lt_T i4,hg,Tfo,s1,GH,Ec,hc,ej,tadd];exact .mk (j+1) rfl ⟨i4,λq h z=>o6 ⟨hmc,hc⟩ q h z⟩ zo
  ·have hmb:(((D2 d.ruls j:Nat):Int)=1)=False:=Vs zo;rw[j7 (λq=>hmc q.1)];simp only[eZ,seval,V3,V6,eY,lt_F hlk,Vw,hmc0,hmb]
 obtain rfl:j=d.clus.length:=zo
 have hR:Bb d=true:=by
  have z2:d.clus.all Db=true:=W4.2 λq hq=>by
   obtain⟨m,hm,rfl⟩:=WP.1 hq;exact(l6 m hm hm).2
  unfold Bb;rw[hall,i5,W4.2 λq hq=>Wo (l6 q (Wy.1 hq) (Wy.1 hq)).1,z2];rfl
 rw[hR];simp only[eZ,seval,V0,lt_F i4]
def p90:Pur prog 90 [] (eSs Bo):=by
 refine .mk trivial (BK 0 _) (c90.a (AE AI.tnil (AF ?_)));simp only[eE,eN,seval,c90];exact Wk.sl (.inl rfl)
def numV(l:List Bs)(s:Bs):Fs:=match BG l s with
 |some i=>.tup [.int .i64 i,.bool true]
 |none=>.tup [.int .i64 0,.bool false]
def Fp(n:Nat)(l:List Bs)(s:Bs):(numV l s).under n:=by unfold numV;split<;>exact⟨trivial,trivial,trivial⟩
def Ij{α:Type}(f:α->Bs){l:List α}{s:Bs}{i:Nat}(hi:i<l.length)(h:f l[i]=s)(hb:∀k (hk:k<l.length),k<i->¬f l[k]=s):BG (l.map f) s=some (i:Int):=by
 unfold BG;rw[X9.2 ⟨by simpa using hi,by simpa using h,λj hj=>by simpa using hb j zo hj⟩];rfl
def GR{α:Type}(f:α->Bs){l:List α}{s:Bs}(hb:∀k (hk:k<l.length),¬f l[k]=s):BG (l.map f) s=none:=by
 rw[BZ];intro h;obtain⟨y,hy,e⟩:=WL.1 h;obtain⟨k,hk,rfl⟩:=WP.1 hy;exact hb k hk e
def p243(d:Z8)(s:Bs)(hd:Z4 d):Pur prog 243 [encD d,.str s] (numV (d.syms.map (·.nm)) s):=by
 refine .mk ⟨AW 0 d,trivial,trivial⟩ (Fp 0 _ _) (c243.a (AE AI.tnil (AF ?_)));have m6:d.syms.length<1000000000:=hd.sy;simp only[eE,eN,seval,c243];refine AO (λi:Nat=>⟨[(1,true,.str s),(2,true,.ptr 0 0),(6,true,.int .i64 i)],hset hnil 0 (.box (AK d)),3⟩) (λi=>i<=d.syms.length/\∀k (hk:k<d.syms.length),k<i->¬d.syms[k].nm=s) (λi=>d.syms.length-i)
  0 rfl ⟨V8 _,λk _ q=>absurd q (WE _)⟩ ?_
 rintro i ⟨hi,hb⟩;by_cases c6:i<d.syms.length
 ·have hg:=V2 c6;have e:=AG (k:=i) zo;have hhit:=λq=>Ij (λx=>x.nm) (s:=s) c6 q hb
  have hnx:¬d.syms[i].nm=s->∀k (hk:k<d.syms.length),k<i+1->¬d.syms[k].nm=s:=λq k hk h=>by
   by_cases z:k=i
   ·subst z;exact q
   ·exact hb k hk zo
  generalize d.syms[i]=x at hg hhit hnx;by_cases hx:x.nm=s
  ·have hR:numV (d.syms.map (·.nm)) s= .tup [.int .i64 i,.bool true]:=by unfold numV;rw[hhit hx]
   rw[hR];simp only[eZ,seval,eY,lt_T c6,hg,A4,BA hx];exact Wk.refl _
  ·simp only[eZ,seval,eY,lt_T c6,hg,e,A4,Az hx];exact .mk (i+1) rfl ⟨c6,hnx hx⟩ zo
 obtain rfl:i=d.syms.length:=zo
 have hR:numV (d.syms.map (·.nm)) s= .tup [.int .i64 0,.bool false]:=by unfold numV;rw[GR _ λk hk=>hb k hk hk]
 rw[hR];simp only[eZ,seval,V0,lt_F c6];exact Wk.refl _
def p203(d:Z8)(s:Bs)(hd:Z4 d):Pur prog 203 [encD d,.str s] (numV (d.clus.map (·.nm)) s):=by
 refine .mk ⟨AW 0 d,trivial,trivial⟩ (Fp 0 _ _) (c203.a (AE AI.tnil (AF ?_)));have m6:d.clus.length<1000000000:=hd.cl;simp only[eE,eN,seval,c203];refine AO (λi:Nat=>⟨[(1,true,.str s),(2,true,.ptr 0 0),(6,true,.int .i64 i)],hset hnil 0 (.box (AK d)),3⟩) (λi=>i<=d.clus.length/\∀k (hk:k<d.clus.length),k<i->¬d.clus[k].nm=s) (λi=>d.clus.length-i)
  0 rfl ⟨V8 _,λk _ q=>absurd q (WE _)⟩ ?_
 rintro i ⟨hi,hb⟩;by_cases c6:i<d.clus.length
 ·have hg:=V2 c6;have e:=AG (k:=i) zo;have hhit:=λq=>Ij (λx=>x.nm) (s:=s) c6 q hb
  have hnx:¬d.clus[i].nm=s->∀k (hk:k<d.clus.length),k<i+1->¬d.clus[k].nm=s:=λq k hk h=>by
   by_cases z:k=i
   ·subst z;exact q
   ·exact hb k hk zo
  generalize d.clus[i]=x at hg hhit hnx;by_cases hx:x.nm=s
  ·have hR:numV (d.clus.map (·.nm)) s= .tup [.int .i64 i,.bool true]:=by unfold numV;rw[hhit hx]
   rw[hR];simp only[eZ,seval,eY,lt_T c6,hg,A4,BA hx];exact Wk.refl _
  ·simp only[eZ,seval,eY,lt_T c6,hg,e,A4,Az hx];exact .mk (i+1) rfl ⟨c6,hnx hx⟩ zo
 obtain rfl:i=d.clus.length:=zo
 have hR:numV (d.clus.map (·.nm)) s= .tup [.int .i64 0,.bool false]:=by unfold numV;rw[GR _ λk hk=>hb k hk hk]
 rw[hR];simp only[eZ,seval,V0,lt_F c6];exact Wk.refl _
def sGv:List Fs->AC->Prop×Fs:=λa _=>match a with
 |[]=>(True,eSs Bo)
 |_=>(False,.tup [])
def qGv:∀args H n,(sGv args H).1->Ab prog 90 args H n (sGv args H).2:=by
 intro args H n hh;unfold sGv at hh⊢;split at hh
 ·exact p90.quiet H n
 ·exact hh.elim
def Tgv:Tab:=tadd 90 sGv tnil
def Tgv_ok:AI prog Tgv:=AI.tnil.add qGv
def p151(d:Z8)(s:Bs)(hd:Z4 d):Pur prog 151 [encD d,.str s] (numV (Be d) s):=by
 refine .mk ⟨AW 0 d,trivial,trivial⟩ (Fp 0 _ _) (c151.a (AE Tgv_ok (AF ?_)));have m6:d.regs.length<1000000000:=hd.rg;have d5:=Vc d s;obtain⟨G,hG⟩:∃G:List Bs,G=Bo:=⟨_,rfl⟩;have hGl:G.length=8:=by rw[hG];rfl
 rw[<-hG]at d5;have hsg:sGv []=λ_=>(True,eSs G):=by rw[hG];rfl
 simp only[eE,eN,seval,c151,Tgv,hsg,tadd];refine AO (λi:Nat=>⟨[(1,true,.str s),(2,true,.ptr 0 0),(6,true,eSs G),(7,true,.int .i64 i)],hset hnil 0 (.box (AK d)),3⟩) (λi=>i<=G.length/\∀k (hk:k<G.length),k<i->¬G[k]=s) (λi=>G.length-i)
  0 rfl ⟨V8 _,λk _ q=>absurd q (WE _)⟩ ?_
 rintro i ⟨hi,hb⟩;by_cases c6:i<G.length
 ·have hg:=V2 c6;have e:=AG (k:=i) zo;have hhit:=λq=>Ij (λx:Bs=>x) (s:=s) c6 q hb
  rw[show G.map (λx:Bs=>x)=G from Yg _]at hhit;have hnx:¬G[i]=s->∀k (hk:k<G.length),k<i+1->¬G[k]=s:=λq k hk h=>by
   by_cases z:k=i
   ·subst z;exact q
   ·exact hb k hk zo
  generalize G[i]=x at hg hhit hnx;by_cases hx:x=s
  ·have hR:numV (Be d) s= .tup [.int .i64 i,.bool true]:=by unfold numV;rw[d5,hhit hx]
   rw[hR];simp only[eZ,seval,eY,lt_T c6,hg,A4,BA hx];exact Wk.refl _
  ·simp only[eZ,seval,eY,lt_T c6,hg,e,A4,Az hx];exact .mk (i+1) rfl ⟨c6,hnx hx⟩ zo
 obtain rfl:i=G.length:=zo
 have i7:BG G s=none:=by
  have:=GR (λx:Bs=>x) (l:=G) (s:=s) λk hk=>hb k hk hk
  rw[show G.map (λx:Bs=>x)=G from Yg _]at this;exact this
 rw[i7]at d5;simp only at d5;simp only[eZ,seval,V0,lt_F c6];refine AO (λi:Nat=>⟨[(1,true,.str s),(2,true,.ptr 0 0),(8,true,.int .i64 i)],hset hnil 0 (.box (AK d)),3⟩) (λi=>i<=d.regs.length/\∀k (hk:k<d.regs.length),k<i->¬d.regs[k].nm=s) (λi=>d.regs.length-i)
  0 rfl ⟨V8 _,λk _ q=>absurd q (WE _)⟩ ?_
 rintro i ⟨hi,hb⟩;by_cases i9:i<d.regs.length
 ·have hg:=V2 i9;have e:=AG (k:=i) zo;have e8:IntKind.wrap .i64 (8+(i:Int))=8+(i:Int):=Ae zo zo;have hhit:=λq=>Ij (λx:Z6=>x.nm) (s:=s) i9 q hb
  have hnx:¬d.regs[i].nm=s->∀k (hk:k<d.regs.length),k<i+1->¬d.regs[k].nm=s:=λq k hk h=>by
   by_cases z:k=i
   ·subst z;exact q
   ·exact hb k hk zo
  generalize d.regs[i]=x at hg hhit hnx;by_cases hx:x.nm=s
  ·have hR:numV (Be d) s= .tup [.int .i64 (8+(i:Int)),.bool true]:=by unfold numV;rw[d5,hhit hx];rfl
   rw[hR];simp only[eZ,seval,eY,lt_T i9,hg,e8,A4,BA hx];exact Wk.refl _
  ·simp only[eZ,seval,eY,lt_T i9,hg,e,A4,Az hx];exact .mk (i+1) rfl ⟨i9,hnx hx⟩ zo
 obtain rfl:i=d.regs.length:=zo
 have hR:numV (Be d) s= .tup [.int .i64 0,.bool false]:=by unfold numV;rw[d5,GR (λx:Z6=>x.nm) λk hk=>hb k hk hk];rfl
 rw[hR];simp only[eZ,seval,V0,lt_F i9];exact Wk.refl _
def JP{l:List Bs}:Ad l=true↔∃(a b:Nat) (ha:a<l.length) (hb:b<l.length),b<a/\l[a]=l[b]:=by
 constructor
 ·intro h;apply Classical.byContradiction;intro q;have:Ad l=false:=Bt.2 (List.nodup_iff_pairwise_ne.2 (WW.2 λi j hi hj hij e=>q ⟨j,i,hj,hi,hij,e.symm⟩));rw[this]at h;cases h
 ·rintro⟨a,b,ha,hb,hab,e⟩;cases h:Ad l with
  |true=>rfl
  |false=>exact absurd e.symm (WW.1 (List.nodup_iff_pairwise_ne.1 (Bt.1 h)) b a hb ha hab)
def p89(l:List Bs)(hl:few l):Pur prog 89 [eSs l] (.bool (Ad l)):=by
 refine .mk ⟨BK 0 _,trivial⟩ trivial (c89.a (AE AI.tnil (AF ?_)));have m6:l.length<1000000000:=hl;simp only[eE,eN,seval,c89];refine AO (λa:Nat=>⟨[(0,true,eSs l),(3,true,.int .i64 a)],hnil,0⟩) (λa=>a<=l.length/\∀x y (hx:x<l.length) (hy:y<l.length),x<a->y<x->¬l[x]=l[y]) (λa=>l.length-a)
  0 rfl ⟨V8 _,λx y _ _ q=>absurd q (WE _)⟩ ?_
 rintro a ⟨ha,i7⟩;by_cases hla:a<l.length
 ·have hga:=V2 hla;have ea:=AG (k:=a) zo;simp only[eZ,seval,V0,lt_T hla];refine AO (λb:Nat=>⟨[(0,true,eSs l),(3,true,.int .i64 a),(4,true,.int .i64 b)],hnil,0⟩) (λb=>b<=a/\∀y (hy:y<l.length),y<b->¬l[a]=l[y]) (λb=>a-b)
   0 rfl ⟨V8 _,λy _ q=>absurd q (WE _)⟩ ?_
  rintro b ⟨l5,hnb⟩;by_cases hlb:b<a
  ·have s9:b<l.length:=zo
   have d8:=V2 s9;have eb:=AG (k:=b) zo;by_cases l6:l[a]=l[b]
   ·have hR:Ad l=true:=JP.2 ⟨a,b,hla,s9,hlb,l6⟩;rw[hR];generalize l[a]=la at hga l6;generalize l[b]=lb at d8 l6;simp only[eZ,seval,eY,lt_T hlb,lt_T hla,lt_T s9,hga,d8,A4,BA l6]
   ·have hnx:∀y (hy:y<l.length),y<b+1->¬l[a]=l[y]:=λy hy q=>by
     by_cases z:y=b
     ·subst z;exact l6
     ·exact hnb y hy zo
    generalize hA:l[a]=la at hga l6;generalize hB:l[b]=lb at d8 l6;simp only[eZ,seval,eY,lt_T hlb,lt_T hla,lt_T s9,hga,d8,A4,Az l6,eb];exact .mk (b+1) rfl ⟨hlb,λy hy q=>by rw[<-hA];exact hnx y hy q⟩ zo
  obtain rfl:b=a:=zo
  simp only[eZ,seval,lt_F hlb,ea];refine .mk (b+1) rfl ⟨hla,λx y hx hy q1 q2=>?_⟩ zo;by_cases z:x=b
  ·subst z;exact hnb y hy q2
  ·exact i7 x y hx hy zo q2
 obtain rfl:a=l.length:=zo
 have hR:Ad l=false:=by
  cases q:Ad l with
  |false=>rfl
  |true=>
   obtain⟨x,y,hx,hy,i6,h2⟩:=JP.1 q;exact absurd h2 (i7 x y hx hy hx i6)
 rw[hR];simp only[eZ,seval,V0,lt_F hla]
def setV(l ss:List Bs):Fs:=match CG l ss with
 |some n=>.tup [.int .i64 n,.bool true]
 |none=>.tup [.int .i64 0,.bool false]
def Tsy:Tab:=tadd 243 (s2 dD dS (λd _=>Z4 d) λd s=>numV (d.syms.map (·.nm)) s) tnil
def Tsy_ok:AI prog Tsy:=AI.tnil.add (q2 p243)
def p202(d:Z8)(ss:List Bs)(hd:Z4 d)(h16:d.syms.length<=16)(hss:wide ss):Pur prog 202 [encD d,eSs ss] (setV (d.syms.map (·.nm)) ss):=by
 refine .mk ⟨AW 0 d,BK 0 _,trivial⟩ (by unfold setV;split<;>exact⟨trivial,trivial,trivial⟩) (c202.a (AE Tsy_ok (AF ?_)));have hsl:ss.length<1125899906842624:=hss;unfold setV;rw[<-M9];generalize hl:d.syms.map (·.nm)=l;have m6:l.length<=16:=by rw[<-hl,V0];exact h16
 simp only[eE,eN,seval,c202];refine AO (λv:Nat×Nat=>⟨[(1,true,eSs ss),(2,true,.ptr 0 0),(6,true,.int .i64 v.2),(7,true,.int .i64 v.1)],hset hnil 0 (.box (AK d)),3⟩) (λv=>v.1<=ss.length/\v.2<65536/\Ef l 0 ss=Ef l v.2 (ss.drop v.1)) (λv=>ss.length-v.1) (0,0) rfl ⟨V8 _,zd,rfl⟩ ?_;rintro⟨i,acc⟩ ⟨hi,hacc,heq⟩;simp only at hi hacc heq;by_cases c6:i<ss.length
 ·have hg:=V2 c6;have e:=AG (k:=i) zo;rw[Wm c6,HZ]at heq;generalize ss[i]=s at hg heq;cases i7:BG l s with
  |none=>
   have hnv:numV l s= .tup [.int .i64 0,.bool false]:=by unfold numV;rw[i7]
   rw[i7]at heq;simp only at heq;rw[heq];simp only[eZ,seval,V6,eY,lt_T c6,hg,Tsy,s2,A0,Aj,FI,DH,V1 hd,hl,hnv,tadd];exact Wk.refl _
  |some k=>
   have hnv:numV l s= .tup [.int .i64 k,.bool true]:=by unfold numV;rw[i7]
   rw[i7]at heq;simp only at heq;obtain⟨h0,h1⟩:=KV i7;obtain⟨j,rfl⟩:∃j:Nat,k=j:=⟨k.toNat,zo⟩;rw[Vy]at heq;simp only[eZ,seval,V3,eY,lt_T c6,hg,Tsy,s2,A0,Aj,FI,DH,V1 hd,hl,hnv,Qx (show j<16 by omega),Ta hacc (M8 (show j<16 by omega)),e,tadd];exact .mk (i+1,acc|||1<<<j) rfl ⟨c6,Nat.or_lt_two_pow (n:=16) hacc (M8 zo),heq⟩ zp
 obtain rfl:i=ss.length:=zo
 rw[WC,Id]at heq;rw[heq];simp only[eZ,seval,V0,lt_F c6];exact Wk.refl _
section
structure VNm where
 i:Nat
 tk:Zd
 H:AC
 n:Nat
structure INm(d:Z8)(lo m:Nat)(ns:List Bs)(v:VNm):Prop where
 hi:v.i<=m
 fr:AR v.H v.n
 hn:lo<=v.n
 h0:hget v.H 0=some (.box (AK d))
 tok:tkG 1 lo v.H v.tk
 es:v.tk.esz=1\/ns=[]
def Cj{t:Zd}{l:List Bs}(ht:t.esz=1\/l=[]):dSs.ok (.sl t (l.map .str))=True:=V1 ⟨ht.imp id λq=>by rw[q];rfl,by rw[Fe]⟩
def B4{t:Zd}(l:List Bs):dSs.dec (.sl t (l.map .str))=l:=Fe l
def tw:Tab:=tadd 89 (s1 dSs few λl=>.bool (Ad l)) tnil
def twS:List Fs->AC->Prop×Fs:=s1 dSs few λl=>.bool (Ad l)
structure VRs(α:Type) where
 i:Nat
 tk:Zd
 dn:List α
 H:AC
 n:Nat
structure IRs{α β:Type}(d:Z8)(e:Nat)(l:List α)(f:α->Option β)(v:VRs β):Prop where
 hi:v.i<=l.length
 dl:v.dn.length=v.i
 fr:AR v.H v.n
 hn:3<=v.n
 h0:hget v.H 0=some (.box (AK d))
 tok:tkG e 3 v.H v.tk
 es:v.tk.esz=e\/v.dn=[]
 eq:Ag f l=(Ag f (l.drop v.i)).map λr=>v.dn++r
variable {α:Type}
def nmF(init:List Bs)(f:α->Bs)(l:List α)(i:Nat):List Bs:=init++(l.take i).map f
theorem GS(init:List Bs)(f:α->Bs){l:List α}{i:Nat}(h:i<l.length):nmF init f l (i+1)=nmF init f l i++[f l[i]]:=by
 unfold nmF;rw[map_take h,Wb]
theorem Ik(init:List Bs)(f:α->Bs)(l:List α)(i:Nat):(nmF init f l i).length<=init.length+i:=by
 unfold nmF;rw[V9,V0,W0];omega
theorem Il(init:List Bs)(f:α->Bs)(l:List α):nmF init f l l.length=init++l.map f:=by
 unfold nmF;rw[Vw]
def C4(d:Z8):Fs:=if Ad (d.clus.map λx:Z5=>x.nm)=true then .tup [eCls [],.int .i64 161]else match Ag (Bf d) d.clus with
 |none=>.tup [eCls [],.int .i64 160]
 |some cs=>.tup [eCls cs,.int .i64 0]
def Tcv:Tab:=tadd 89 twS (tadd 151 (s2 dD dS (λd _=>Z4 d) λd s=>numV (Be d) s) tnil)
theorem Tcv_ok:AI prog Tcv:=(AI.tnil.add (q2 p151)).add (q1 p89)
theorem Tcv_t(a:List Fs)(H:AC):Tcv 89 a H=s1 dSs few (λl=>.bool (Ad l)) a H:=rfl
theorem Tcv_f(a:List Fs)(H:AC):Tcv 151 a H=s2 dD dS (λd _=>Z4 d) (λd s=>numV (Be d) s) a H:=rfl
theorem wk2{a b:Fs}{e:Int}(h:Wk a b):Wk (.tup [a,.int .i64 e]) (.tup [b,.int .i64 e]):=Wk.tup (.cons h (.cons (Wk.refl _) .nil))
theorem p91(d:Z8)(hd:Z4 d):Pur prog 91 [encD d] (C4 d):=by
 refine .mk ⟨AW 0 d,trivial⟩ (by unfold C4;split;exact⟨C3 0 _,trivial,trivial⟩;split<;>exact⟨C3 0 _,trivial,trivial⟩) (c91.a (AE Tcv_ok (AF ?_)));have hcl:d.clus.length<1000000000:=hd.cl;simp only[eE,eN,seval,c91];refine AO (λv:VNm=>⟨[(1,true,.ptr 0 0),(4,true,.sl v.tk ((nmF [] (λx:Z5=>x.nm) d.clus v.i).map .str)),(5,true,.int .i64 v.i)],v.H,v.n⟩) (λv=>INm d 3 d.clus.length (nmF [] (λx:Z5=>x.nm) d.clus v.i) v) (λv=>d.clus.length-v.i)
  ⟨0,.nil,hset hnil 0 (.box (AK d)),3⟩ rfl ⟨V8 _,AR.nil.hset (m:=3) (V8 3) (show 0<3 by decide),V4 _,rfl,.inl rfl,.inr rfl⟩ ?_
 rintro⟨i,tk,H,n⟩ ⟨hi,d5,hn,h0,c7,d9⟩;simp only at hi d5 hn h0 c7 d9;by_cases c6:i<d.clus.length
 ·have hg:=V2 c6;have e:=AG (k:=i) zo;have t7:=GS [] (λx:Z5=>x.nm) c6;have hnl:=Ik [] (λx:Z5=>x.nm) d.clus i;have hil:([]:List Bs).length<=8:=zd
  generalize d.clus[i]=x at hg t7;generalize hL:nmF [] (λx:Z5=>x.nm) d.clus i=L at t7 c7 d9 hnl⊢;have q1:At H 1 tk=True:=V1 c7.app;have q2:(L.length<=35184372088831)=True:=V1 zo;have q3:small (L.length+1) 16=True:=V1 (by unfold small;omega);simp only[eZ,seval,eY,lt_T c6,hg,e,h0,fr1 d5,q1,q2,q3];refine .mk ⟨i+1,.own (n+8) 1,hset (AL H tk) (n+8) .tok,n+10⟩ ?_ ?_ zp
  ·simp only[t7,Vt];rfl
  ·refine⟨c6,(AT c7 d5).hset (m:=n+10) zo zo,zp,?_,.inr (.inr ⟨n+8,rfl,zo,AB ..⟩),.inl rfl⟩;simp only[];rw[AA _ _ _ _ zo,AX c7 (.inr ⟨_,h0⟩)];exact h0
 obtain rfl:i=d.clus.length:=zo
 have hNA:=Il [] (λx:Z5=>x.nm) d.clus;have hil:([]:List Bs).length<=8:=zd
 rw[hNA]at d9;have hnf:few (d.clus.map λx:Z5=>x.nm):=show(d.clus.map λx:Z5=>x.nm).length<_ by first|(rw[V0];omega)|(rw[V9,V0];omega)
 rw[Wi]at hNA d9;cases ht:Ad (d.clus.map λx:Z5=>x.nm)with
 |true=>
  have hR:C4 d= .tup [eCls [],.int .i64 161]:=by unfold C4;rw[Vv ht]
  rw[hR];simp only[eZ,seval,V0,lt_F c6,h0,hNA,Tcv_t,s1,Cj d9,B4,V1 hnf,ht];exact wk2 (Wk.sl (.inr rfl))
 |false=>
 have hR:C4 d=match Ag (Bf d) d.clus with
  |none=>.tup [eCls [],.int .i64 160]
  |some cs=>.tup [eCls cs,.int .i64 0]:=by unfold C4;rw[V5 (by rw[ht];decide)]
 rw[hR];simp only[eZ,seval,V0,lt_F c6,h0,hNA,Tcv_t,s1,Cj d9,B4,V1 hnf,ht];refine AO (λv:VRs Z5=>⟨[(1,true,.ptr 0 0),(6,true,.sl v.tk (v.dn.map B0)),(7,true,.int .i64 v.i)],v.H,v.n⟩) (IRs d 6 d.clus (Bf d)) (λv=>d.clus.length-v.i)
  ⟨0,.nil,[],H,n⟩ rfl ⟨V8 _,rfl,d5,hn,h0,.inl rfl,.inr rfl,by simp only[Xt];cases Ag (Bf d) d.clus<;>rfl⟩ ?_
 rintro⟨j,tk,dn,H1,n1⟩ ⟨hj,hdl,e9,j9,l0,j0,he1,heq⟩;simp only at hj hdl e9 j9 l0 j0 he1 heq;by_cases i4:j<d.clus.length
 ·have hg:=V2 i4;have e:=AG (k:=j) zo;rw[Wm i4,Cg]at heq;generalize d.clus[j]=c at hg heq;have y0:∀q,(n1+q=0)=False:=λq=>Vs zo
  cases i7:BG (Be d) c.on with
  |none=>
   have hnv:numV (Be d) c.on= .tup [.int .i64 0,.bool false]:=by unfold numV;rw[i7]
   rw[show Bf d c=none by unfold Bf;rw[i7];rfl]at heq;simp only[X4]at heq;rw[heq];simp only[eZ,seval,V6,eY,lt_T i4,hg,l0,fr1 e9,y0,AD,Tcv_f,s2,A0,Aj,FI,DH,V1 hd,hnv];exact wk2 (Wk.sl (.inr rfl))
  |some f=>
   have hnv:numV (Be d) c.on= .tup [.int .i64 f,.bool true]:=by unfold numV;rw[i7]
   rw[show Bf d c=some {c with fam:=f}by unfold Bf;rw[i7];rfl]at heq;simp only at heq;have q1:∀ob1,At (hset H1 (n1+5) ob1) 6 tk=True:=λob1=>V1 (j0.set (.inr (.inr (fr1 e9 5)))).app
   have q2:(dn.length<=35184372088831)=True:=V1 zo;have q3:small (dn.length+1) 64=True:=V1 (AP zo zd);simp only[eZ,seval,V3,eY,lt_T i4,hg,e,l0,fr1 e9,y0,AD,Tcv_f,s2,A0,Aj,FI,DH,V1 hd,hnv,q1,q2,q3];obtain⟨H2,hH2⟩:∃H2,H2=hset H1 (n1+5) (.box (B0 {c with fam:=f}).cells):=⟨_,rfl⟩;have gt:tkG 6 3 H2 tk:=by rw[hH2];exact j0.set (.inr (.inr (fr1 e9 5)))
   have gf:AR H2 (n1+12):=by rw[hH2];exact e9.hset (m:=n1+12) zo zo
   have g0:hget H2 0=some (.box (AK d)):=by rw[hH2,AA _ _ _ _ zo];exact l0
   refine .mk ⟨j+1,.own (n1+10) 6,dn++[{c with fam:=f}],hset (AL H2 tk) (n1+10) .tok,n1+12⟩ ?_ ?_ zp
   ·rw[hH2];simp only[Vt];rfl
   ·refine⟨i4,by simp [hdl],(AT gt gf).hset (V4 _) (show n1+10<n1+12 by omega),zp,?_,.inr (.inr ⟨n1+10,rfl,zo,AB ..⟩),.inl rfl,?_⟩
    ·simp only[];rw[AA _ _ _ _ zo,AX gt (.inl zo)];exact g0
    ·simp only[];rw[heq];cases Ag (Bf d) (d.clus.drop (j+1))<;>simp
 obtain rfl:j=d.clus.length:=zo
 rw[WC]at heq;have heq:Ag (Bf d) d.clus=some dn:=by rw[heq];simp [Ag]
 rw[heq];simp only[eZ,seval,V0,lt_F i4,l0];exact wk2 (Wk.sl (he1.imp id λq=>by rw[q];rfl))
def rulV(d:Z8)(r:Yz):Yz×Bool:=match (if r.on=[]then some 0 else BG (Be d) r.on)with
 |none=>({r with fam:=0},false)
 |some f=>match (if r.byN=[]then some (-1)else BG (d.clus.map (·.nm)) r.byN)with
  |none=>({r with fam:=f,set:=(CG (d.syms.map (·.nm)) r.ns).getD 0,oth:=(CG (d.syms.map (·.nm)) r.os).getD 0,clue:=-1},false)
  |some c=>({r with fam:=f,set:=(CG (d.syms.map (·.nm)) r.ns).getD 0,oth:=(CG (d.syms.map (·.nm)) r.os).getD 0,clue:=c},(CG (d.syms.map (·.nm)) r.ns).isSome&&(CG (d.syms.map (·.nm)) r.os).isSome)
theorem RB(d:Z8)(r:Yz):BE d r=if(rulV d r).2=true then some (rulV d r).1 else none:=by
 unfold BE rulV;cases (if r.on=[]then some 0 else BG (Be d) r.on)with
 |none=>rfl
 |some f=>
 cases (if r.byN=[]then some (-1)else BG (d.clus.map (·.nm)) r.byN)with
 |none=>cases CG (d.syms.map (·.nm)) r.ns<;>cases CG (d.syms.map (·.nm)) r.os<;>rfl
 |some c=>cases CG (d.syms.map (·.nm)) r.ns<;>cases CG (d.syms.map (·.nm)) r.os<;>rfl
abbrev RD(x:Yz×Bool):Fs:=.tup [BQ x.1,.bool x.2]
theorem Ho(l ss:List Bs):setV l ss= .tup [.int .i64 ((CG l ss).getD 0),.bool (CG l ss).isSome]:=by unfold setV;cases CG l ss<;>rfl
def Tsr:Tab:=tadd 151 (s2 dD dS (λd _=>Z4 d) λd s=>numV (Be d) s) (tadd 203 (s2 dD dS (λd _=>Z4 d) λd s=>numV (d.clus.map (·.nm)) s) (tadd 202 (s2 dD dSs (λd ss=>Z4 d/\d.syms.length<=16/\wide ss) λd ss=>setV (d.syms.map (·.nm)) ss) tnil))
theorem Tsr_ok:AI prog Tsr:=((AI.tnil.add (q2 λd ss h=>p202 d ss h.1 h.2.1 h.2.2)).add (q2 p203)).add (q2 p151)
theorem p152(d:Z8)(r:Yz)(hd:Z4 d)(h16:d.syms.length<=16)(hr:Fi r):Pur prog 152 [encD d,BQ r] (RD (rulV d r)):=by
 refine .mk ⟨AW 0 d,Ao 0 r,trivial⟩ ⟨Ao 0 _,trivial,trivial⟩ (c152.a (AE Tsr_ok (AF ?_)));have hs1:=V1 (⟨hd,h16,hr.1⟩:Z4 d/\d.syms.length<=16/\wide r.ns);have hs2:=V1 (⟨hd,h16,hr.2⟩:Z4 d/\d.syms.length<=16/\wide r.os);unfold rulV;by_cases h1:r.on=[]
 ·rw[Vv h1];by_cases h2:r.byN=[]
  ·rw[Vv h2];simp only[eZ,seval,V3,eY,Au,c152,Ap,BA h1,BA h2,Tsr,s2,A0,Aj,Ed,DG,V1 hd,V1 h16,V1 hr.1,V1 hr.2,Ho,tadd];exact Wk.refl _
  ·rw[V5 h2];cases hc:BG (d.clus.map (·.nm)) r.byN with
   |none=>
    have hnv:numV (d.clus.map (·.nm)) r.byN= .tup [.int .i64 0,.bool false]:=by unfold numV;rw[hc]
    simp only[eZ,seval,V3,V6,eY,Au,c152,Ap,BA h1,Az h2,Tsr,s2,A0,Aj,Ed,DG,FI,DH,V1 hd,V1 h16,V1 hr.1,V1 hr.2,Ho,hnv,tadd];exact Wk.refl _
   |some c=>
    have hnv:numV (d.clus.map (·.nm)) r.byN= .tup [.int .i64 c,.bool true]:=by unfold numV;rw[hc]
    simp only[eZ,seval,V3,V6,eY,Au,c152,Ap,BA h1,Az h2,Tsr,s2,A0,Aj,Ed,DG,FI,DH,V1 hd,V1 h16,V1 hr.1,V1 hr.2,Ho,hnv,tadd];exact Wk.refl _
 ·rw[V5 h1];cases hf:BG (Be d) r.on with
  |none=>
   have hnf:numV (Be d) r.on= .tup [.int .i64 0,.bool false]:=by unfold numV;rw[hf]
   simp only[eZ,seval,V6,eY,Au,c152,Ap,Az h1,Tsr,s2,A0,Aj,FI,DH,V1 hd,hnf,tadd];exact Wk.refl _
  |some f=>
   have hnf:numV (Be d) r.on= .tup [.int .i64 f,.bool true]:=by unfold numV;rw[hf]
   by_cases h2:r.byN=[]
   ·rw[Vv h2];simp only[eZ,seval,V3,V6,eY,Au,c152,Ap,Az h1,BA h2,Tsr,s2,A0,Aj,Ed,DG,FI,DH,V1 hd,V1 h16,V1 hr.1,V1 hr.2,Ho,hnf,tadd];exact Wk.refl _
   ·rw[V5 h2];cases hc:BG (d.clus.map (·.nm)) r.byN with
    |none=>
     have hnv:numV (d.clus.map (·.nm)) r.byN= .tup [.int .i64 0,.bool false]:=by unfold numV;rw[hc]
     simp only[eZ,seval,V3,V6,eY,Au,c152,Ap,Az h1,Az h2,Tsr,s2,A0,Aj,Ed,DG,FI,DH,V1 hd,V1 h16,V1 hr.1,V1 hr.2,Ho,hnf,hnv,tadd];exact Wk.refl _
    |some c=>
     have hnv:numV (d.clus.map (·.nm)) r.byN= .tup [.int .i64 c,.bool true]:=by unfold numV;rw[hc]
     simp only[eZ,seval,V3,V6,eY,Au,c152,Ap,Az h1,Az h2,Tsr,s2,A0,Aj,Ed,DG,FI,DH,V1 hd,V1 h16,V1 hr.1,V1 hr.2,Ho,hnf,hnv,tadd];exact Wk.refl _
def DN(d:Z8):Fs:=if Ad (d.ruls.map λx:Yz=>x.nm)=true then .tup [eRus [],.int .i64 161]else match Ag (BE d) d.ruls with
 |none=>.tup [eRus [],.int .i64 160]
 |some cs=>.tup [eRus cs,.int .i64 0]
def Trv:Tab:=tadd 89 twS (tadd 152 (s2 dD dRu (λd r=>Z4 d/\d.syms.length<=16/\Fi r) λd r=>RD (rulV d r)) tnil)
theorem Trv_ok:AI prog Trv:=(AI.tnil.add (q2 λd r h=>p152 d r h.1 h.2.1 h.2.2)).add (q1 p89)
theorem Trv_t(a:List Fs)(H:AC):Trv 89 a H=s1 dSs few (λl=>.bool (Ad l)) a H:=rfl
theorem Trv_r(a:List Fs)(H:AC):Trv 152 a H=s2 dD dRu (λd r=>Z4 d/\d.syms.length<=16/\Fi r) (λd r=>RD (rulV d r)) a H:=rfl
theorem p92(d:Z8)(hd:Z4 d)(h16:d.syms.length<=16):Pur prog 92 [encD d] (DN d):=by
 refine .mk ⟨AW 0 d,trivial⟩ (by unfold DN;split;exact⟨B9 0 _,trivial,trivial⟩;split<;>exact⟨B9 0 _,trivial,trivial⟩) (c92.a (AE Trv_ok (AF ?_)));have hcl:d.ruls.length<1000000000:=hd.ru;simp only[eE,eN,seval,c92];refine AO (λv:VNm=>⟨[(1,true,.ptr 0 0),(4,true,.sl v.tk ((nmF [] (λx:Yz=>x.nm) d.ruls v.i).map .str)),(5,true,.int .i64 v.i)],v.H,v.n⟩) (λv=>INm d 3 d.ruls.length (nmF [] (λx:Yz=>x.nm) d.ruls v.i) v) (λv=>d.ruls.length-v.i)
  ⟨0,.nil,hset hnil 0 (.box (AK d)),3⟩ rfl ⟨V8 _,AR.nil.hset (m:=3) (V8 3) (show 0<3 by decide),V4 _,rfl,.inl rfl,.inr rfl⟩ ?_
 rintro⟨i,tk,H,n⟩ ⟨hi,d5,hn,h0,c7,d9⟩;simp only at hi d5 hn h0 c7 d9;by_cases c6:i<d.ruls.length
 ·have hg:=V2 c6;have e:=AG (k:=i) zo;have t7:=GS [] (λx:Yz=>x.nm) c6;have hnl:=Ik [] (λx:Yz=>x.nm) d.ruls i;have hil:([]:List Bs).length<=8:=zd
  generalize d.ruls[i]=x at hg t7;generalize hL:nmF [] (λx:Yz=>x.nm) d.ruls i=L at t7 c7 d9 hnl⊢;have q1:At H 1 tk=True:=V1 c7.app;have q2:(L.length<=35184372088831)=True:=V1 zo;have q3:small (L.length+1) 16=True:=V1 (by unfold small;omega);simp only[eZ,seval,eY,lt_T c6,hg,e,h0,fr1 d5,q1,q2,q3];refine .mk ⟨i+1,.own (n+8) 1,hset (AL H tk) (n+8) .tok,n+10⟩ ?_ ?_ zp
  ·simp only[t7,Vt];rfl
  ·refine⟨c6,(AT c7 d5).hset (m:=n+10) zo zo,zp,?_,.inr (.inr ⟨n+8,rfl,zo,AB ..⟩),.inl rfl⟩;simp only[];rw[AA _ _ _ _ zo,AX c7 (.inr ⟨_,h0⟩)];exact h0
 obtain rfl:i=d.ruls.length:=zo
 have hNA:=Il [] (λx:Yz=>x.nm) d.ruls;have hil:([]:List Bs).length<=8:=zd
 rw[hNA]at d9;have hnf:few (d.ruls.map λx:Yz=>x.nm):=show(d.ruls.map λx:Yz=>x.nm).length<_ by first|(rw[V0];omega)|(rw[V9,V0];omega)
 rw[Wi]at hNA d9;cases ht:Ad (d.ruls.map λx:Yz=>x.nm)with
 |true=>
  have hR:DN d= .tup [eRus [],.int .i64 161]:=by unfold DN;rw[Vv ht]
  rw[hR];simp only[eZ,seval,V0,lt_F c6,h0,hNA,Trv_t,s1,Cj d9,B4,V1 hnf,ht];exact wk2 (Wk.sl (.inr rfl))
 |false=>
 have hR:DN d=match Ag (BE d) d.ruls with
  |none=>.tup [eRus [],.int .i64 160]
  |some cs=>.tup [eRus cs,.int .i64 0]:=by unfold DN;rw[V5 (by rw[ht];decide)]
 rw[hR];simp only[eZ,seval,V0,lt_F c6,h0,hNA,Trv_t,s1,Cj d9,B4,V1 hnf,ht];refine AO (λv:VRs Yz=>⟨[(1,true,.ptr 0 0),(6,true,.sl v.tk (v.dn.map BQ)),(7,true,.int .i64 v.i)],v.H,v.n⟩) (IRs d 12 d.ruls (BE d)) (λv=>d.ruls.length-v.i)
  ⟨0,.nil,[],H,n⟩ rfl ⟨V8 _,rfl,d5,hn,h0,.inl rfl,.inr rfl,by simp only[Xt];cases Ag (BE d) d.ruls<;>rfl⟩ ?_
 rintro⟨j,tk,dn,H1,n1⟩ ⟨hj,hdl,e9,j9,l0,j0,he1,heq⟩;simp only at hj hdl e9 j9 l0 j0 he1 heq;by_cases i4:j<d.ruls.length
 ·have hg:=V2 i4;have e:=AG (k:=j) zo;have hrf:=hd.rus _ (W1 i4);rw[Wm i4,Cg]at heq;generalize d.ruls[j]=r at hg heq hrf;have y0:∀q,(n1+q=0)=False:=λq=>Vs zo
  rw[RB]at heq;obtain⟨r',ok,hv⟩:∃a b,rulV d r=(a,b):=⟨_,_,rfl⟩;rw[hv]at heq;have u1:unders 0 [encD d,BQ r]=True:=V1 ⟨AW 0 d,Ao 0 r,trivial⟩;have u2:∀b,Fs.under 0 (RD (r',b))=True:=λb=>V1 ⟨Ao 0 _,trivial,trivial⟩
  cases ok with
  |false=>
   simp only[W5,Wf,X4]at heq;rw[heq];simp only[eZ,seval,V6,eY,lt_T i4,hg,l0,fr1 e9,AD,Trv_r,s2,A0,Aj,BV,A7,V1 hd,V1 h16,V1 hrf,hv,u1,u2];exact wk2 (Wk.sl (.inr rfl))
  |true=>
   simp only[WB]at heq;have q1:∀ob1,At (hset H1 (n1+10) ob1) 12 tk=True:=λob1=>V1 (j0.set (.inr (.inr (fr1 e9 10)))).app
   have q2:(dn.length<=35184372088831)=True:=V1 zo;have q3:small (dn.length+1) 152=True:=V1 (AP zo zd);simp only[eZ,seval,V3,eY,lt_T i4,hg,e,l0,fr1 e9,AD,Trv_r,s2,A0,Aj,BV,A7,V1 hd,V1 h16,V1 hrf,hv,u1,u2,q1,q2,q3];obtain⟨H2,hH2⟩:∃H2,H2=hset H1 (n1+10) (.box (A6 r')):=⟨_,rfl⟩;have gt:tkG 12 3 H2 tk:=by rw[hH2];exact j0.set (.inr (.inr (fr1 e9 10)))
   have gf:AR H2 (n1+18):=by rw[hH2];exact e9.hset (m:=n1+18) zo zo
   have g0:hget H2 0=some (.box (AK d)):=by rw[hH2,AA _ _ _ _ zo];exact l0
   refine .mk ⟨j+1,.own (n1+16) 12,dn++[r'],hset (AL H2 tk) (n1+16) .tok,n1+18⟩ ?_ ?_ zp
   ·rw[hH2];simp only[Vt];rfl
   ·refine⟨i4,by simp [hdl],(AT gt gf).hset (V4 _) (show n1+16<n1+18 by omega),zp,?_,.inr (.inr ⟨n1+16,rfl,zo,AB ..⟩),.inl rfl,?_⟩
    ·simp only[];rw[AA _ _ _ _ zo,AX gt (.inl zo)];exact g0
    ·simp only[];rw[heq];cases Ag (BE d) (d.ruls.drop (j+1))<;>simp
 obtain rfl:j=d.ruls.length:=zo
 rw[WC]at heq;have heq:Ag (BE d) d.ruls=some dn:=by rw[heq];simp [Ag]
 rw[heq];simp only[eZ,seval,V0,lt_F i4,l0];exact wk2 (Wk.sl (he1.imp id λq=>by rw[q];rfl))
end
def givX:Fs:=.sl (.exact 1) (Bo.map .str)
def pGvX:Pur prog 90 [] givX:=by
 refine .mk trivial (BK 0 Bo) (c90.a (AE AI.tnil (AF ?_)));simp only[eE,eN,seval,c90];exact Wk.refl _
def sGx:List Fs->AC->Prop×Fs:=λa _=>match a with
 |[]=>(True,givX)
 |_=>(False,.tup [])
def qGx:∀args H n,(sGx args H).1->Ab prog 90 args H n (sGx args H).2:=by
 intro args H n hh;unfold sGx at hh⊢;split at hh
 ·exact pGvX.quiet H n
 ·exact hh.elim
def Tre:Tab:=tadd 89 twS (tadd 90 sGx (tadd 91 (s1 dD Z4 C4) (tadd 92 (s1 dD (λd=>Z4 d/\d.syms.length<=16) DN) tnil)))
def Tre_ok:AI prog Tre:=(((AI.tnil.add (q1 λd h=>p92 d h.1 h.2)).add (q1 p91)).add qGx).add (q1 p89)
theorem JQ(a:List Fs)(H:AC):Tre 89 a H=s1 dSs few (λl=>.bool (Ad l)) a H:=rfl
theorem Tre_g(a:List Fs)(H:AC):Tre 90 a H=sGx a H:=rfl
theorem ON(a:List Fs)(H:AC):Tre 91 a H=s1 dD Z4 C4 a H:=rfl
theorem Tl(a:List Fs)(H:AC):Tre 92 a H=s1 dD (λd=>Z4 d/\d.syms.length<=16) DN a H:=rfl
def wk0{e:Int}:Wk (.tup [.agg Hn,.int .i64 e]) (.tup [encD dcl0,.int .i64 e]):=wk2 (wk_Dk (Wk.sl (.inr rfl)) (Wk.sl (.inr rfl)) (Wk.sl (.inr rfl)) (Wk.sl (.inr rfl)) (Wk.sl (.inr rfl)))
def p30(d:Z8)(hd:Z4 d)(hq9:d.regs.length<999999000):Pur prog 30 [encD d] (Bh d):=by
 refine .mk ⟨AW 0 d,trivial⟩ (by unfold Bh;split<;>exact⟨AW 0 _,trivial,trivial⟩) (c30.a (AE Tre_ok (AF ?_)));have hsl:d.syms.length<1000000000:=hd.sy;have v7:d.regs.length<1000000000:=hd.rg;have hE:∀e,resD d= .error e->Bh d= .tup [encD dcl0,.int .i64 e]:=λe h=>by unfold Bh;rw[h]
 have hO:∀x,resD d= .ok x->Bh d= .tup [encD x,.int .i64 0]:=λx h=>by unfold Bh;rw[h]
 by_cases h16:16<d.syms.length
 ·have hb:((16:Int)<(d.syms.length:Int))=True:=V1 zo;rw[hE 2 (by unfold resD;rw[Vv h16])];simp only[eZ,seval,Au,V0,c30,hb];exact wk0
 have hb:((16:Int)<(d.syms.length:Int))=False:=Vs zo;have h16':d.syms.length<=16:=zo
 simp only[eZ,seval,V0,c30,hb];refine AO (λv:VNm=>⟨[(1,true,.ptr 0 0),(2,true,.ptr 1 0),(4,true,.sl v.tk ((nmF [] (λx:Za=>x.nm) d.syms v.i).map .str)),(5,true,.int .i64 v.i)],v.H,v.n⟩) (λv=>(hget v.H 1=some (.box Hn))/\INm d 3 d.syms.length (nmF [] (λx:Za=>x.nm) d.syms v.i) v) (λv=>d.syms.length-v.i)
  ⟨0,.nil,hset (hset hnil 0 (.box (AK d))) 1 (.box Hn),3⟩ rfl ⟨rfl,V8 _,(AR.nil.hset (m:=3) (V8 3) (show 0<3 by decide)).hset (V4 3) (show 1<3 by decide),V4 _,rfl,.inl rfl,.inr rfl⟩ ?_
 rintro⟨i,tk,H,n⟩ ⟨h1,hi,d5,hn,h0,c7,d9⟩;simp only at h1 hi d5 hn h0 c7 d9;by_cases c6:i<d.syms.length
 ·have hg:=V2 c6;have e:=AG (k:=i) zo;have t7:=GS [] (λx:Za=>x.nm) c6;have hnl:=Ik [] (λx:Za=>x.nm) d.syms i;have hil:([]:List Bs).length<=8:=zd
  generalize d.syms[i]=x at hg t7;generalize hL:nmF [] (λx:Za=>x.nm) d.syms i=L at t7 c7 d9 hnl⊢;have q1:At H 1 tk=True:=V1 c7.app;have q2:(L.length<=35184372088831)=True:=V1 zo;have q3:small (L.length+1) 16=True:=V1 (by unfold small;omega);simp only[eZ,seval,eY,lt_T c6,hg,e,h0,fr1 d5,q1,q2,q3];refine .mk ⟨i+1,.own (n+8) 1,hset (AL H tk) (n+8) .tok,n+10⟩ ?_ ?_ zp
  ·simp only[t7,Vt];rfl
  ·refine⟨by simp only[];rw[AA _ _ _ _ zo,AX c7 (.inr ⟨_,h1⟩)];exact h1,c6,(AT c7 d5).hset (m:=n+10) zo zo,zp,?_,.inr (.inr ⟨n+8,rfl,zo,AB ..⟩),.inl rfl⟩;simp only[];rw[AA _ _ _ _ zo,AX c7 (.inr ⟨_,h0⟩)];exact h0
 obtain rfl:i=d.syms.length:=zo
 have hNA:=Il [] (λx:Za=>x.nm) d.syms;have hil:([]:List Bs).length<=8:=zd
 rw[hNA]at d9;have hnf:few (d.syms.map λx:Za=>x.nm):=show(d.syms.map λx:Za=>x.nm).length<_ by first|(rw[V0];omega)|(unfold Be;rw[V9,V0];omega)
 rw[Wi]at hNA d9;cases ht:Ad (d.syms.map λx:Za=>x.nm)with
 |true=>
  rw[hE 161 (by unfold resD;rw[V5 h16,Vv ht])];simp only[eZ,seval,Au,V0,lt_F c6,h0,h1,hNA,JQ,s1,Cj d9,B4,V1 hnf,ht];exact wk0
 |false=>
 have hgx:sGx []=λ_=>(True,givX):=rfl
 have hg0:givX= .sl (.exact 1) ((nmF Bo (λx:Z6=>x.nm) d.regs 0).map .str):=by unfold nmF;rw[WZ,Wh,W9];rfl
 simp only[eZ,seval,V0,lt_F c6,h0,hNA,JQ,Tre_g,hgx,s1,Cj d9,B4,V1 hnf,ht];rw[hg0];clear d9 c7 hi c6 hNA hil hnf;refine AO (λv:VNm=>⟨[(1,true,.ptr 0 0),(2,true,.ptr 1 0),(6,true,.sl v.tk ((nmF Bo (λx:Z6=>x.nm) d.regs v.i).map .str)),(7,true,.int .i64 v.i)],v.H,v.n⟩) (λv=>(hget v.H 1=some (.box Hn))/\INm d 3 d.regs.length (nmF Bo (λx:Z6=>x.nm) d.regs v.i) v) (λv=>d.regs.length-v.i)
  ⟨0,.exact 1,H,n⟩ rfl ⟨h1,V8 _,d5,hn,h0,.inr (.inl rfl),.inl rfl⟩ ?_
 rintro⟨i,tk,H,n⟩ ⟨h1,hi,d5,hn,h0,c7,d9⟩;simp only at h1 hi d5 hn h0 c7 d9;by_cases c6:i<d.regs.length
 ·have hg:=V2 c6;have e:=AG (k:=i) zo;have t7:=GS Bo (λx:Z6=>x.nm) c6;have hnl:=Ik Bo (λx:Z6=>x.nm) d.regs i;have hil:(Bo:List Bs).length<=8:=zd
  generalize d.regs[i]=x at hg t7;generalize hL:nmF Bo (λx:Z6=>x.nm) d.regs i=L at t7 c7 d9 hnl⊢;have q1:At H 1 tk=True:=V1 c7.app;have q2:(L.length<=35184372088831)=True:=V1 zo;have q3:small (L.length+1) 16=True:=V1 (by unfold small;omega);simp only[eZ,seval,eY,lt_T c6,hg,e,h0,fr1 d5,q1,q2,q3];refine .mk ⟨i+1,.own (n+8) 1,hset (AL H tk) (n+8) .tok,n+10⟩ ?_ ?_ zp
  ·simp only[t7,Vt];rfl
  ·refine⟨by simp only[];rw[AA _ _ _ _ zo,AX c7 (.inr ⟨_,h1⟩)];exact h1,c6,(AT c7 d5).hset (m:=n+10) zo zo,zp,?_,.inr (.inr ⟨n+8,rfl,zo,AB ..⟩),.inl rfl⟩;simp only[];rw[AA _ _ _ _ zo,AX c7 (.inr ⟨_,h0⟩)];exact h0
 obtain rfl:i=d.regs.length:=zo
 have hNA:=Il Bo (λx:Z6=>x.nm) d.regs;have hil:(Bo:List Bs).length<=8:=zd
 rw[hNA]at d9;have hnf:few (Be d):=show(Be d).length<_ by first|(rw[V0];omega)|(unfold Be;rw[V9,V0];omega)
 cases k9:Ad (Be d)with
 |true=>
  rw[hE 161 (by unfold resD;rw[V5 h16,V5 (by rw[ht];decide),Vv k9])];have hNA:nmF Bo (λx:Z6=>x.nm) d.regs d.regs.length=Be d:=hNA;have d9:tk.esz=1\/Be d=[]:=d9;simp only[eZ,seval,Au,V0,lt_F c6,h0,h1,hNA,JQ,s1,Cj d9,B4,V1 hnf,k9];exact wk0
 |false=>
 have hNA:nmF Bo (λx:Z6=>x.nm) d.regs d.regs.length=Be d:=hNA;have d9:tk.esz=1\/Be d=[]:=d9;have hres:resD d=if Ad (d.clus.map λx:Z5=>x.nm)=true then .error 161 else match Ag (Bf d) d.clus with
   |none=>.error 160
   |some cs=>if Ad (d.ruls.map λx:Yz=>x.nm)=true then .error 161 else match Ag (BE d) d.ruls with
    |none=>.error 160
    |some rs=>.ok {d with clus:=cs,ruls:=rs}:=by unfold resD;rw[V5 h16,V5 (by rw[ht];decide),V5 (by rw[k9];decide)];rfl
 have base:=λ(X:Fs) (hX:C4 d=X)=>hX
 cases ht3:Ad (d.clus.map λx:Z5=>x.nm)with
 |true=>
  have hc:C4 d= .tup [eCls [],.int .i64 161]:=by unfold C4;rw[Vv ht3]
  rw[hE 161 (by rw[hres,Vv ht3])];simp only[eZ,seval,V6,eY,Au,lt_F c6,h0,h1,hNA,JQ,ON,s1,Cj d9,B4,A0,Aj,V1 hd,V1 hnf,k9,hc];exact wk0
 |false=>
 rw[V5 (by rw[ht3];decide)]at hres;cases hcs:Ag (Bf d) d.clus with
 |none=>
  have hc:C4 d= .tup [eCls [],.int .i64 160]:=by unfold C4;rw[V5 (by rw[ht3];decide),hcs]
  rw[hE 160 (by rw[hres,hcs])];simp only[eZ,seval,V6,eY,Au,lt_F c6,h0,h1,hNA,JQ,ON,s1,Cj d9,B4,A0,Aj,V1 hd,V1 hnf,k9,hc];exact wk0
 |some cs=>
 have hc:C4 d= .tup [eCls cs,.int .i64 0]:=by unfold C4;rw[V5 (by rw[ht3];decide),hcs]
 rw[hcs]at hres;simp only at hres;cases ht4:Ad (d.ruls.map λx:Yz=>x.nm)with
 |true=>
  have hr:DN d= .tup [eRus [],.int .i64 161]:=by unfold DN;rw[Vv ht4]
  rw[hE 161 (by rw[hres,Vv ht4])];simp only[eZ,seval,V3,V6,eY,Au,lt_F c6,h0,h1,hNA,JQ,ON,Tl,s1,Cj d9,B4,A0,Aj,V1 hd,V1 h16',V1 hnf,k9,hc,hr];exact wk0
 |false=>
 rw[V5 (by rw[ht4];decide)]at hres;cases hrs:Ag (BE d) d.ruls with
 |none=>
  have hr:DN d= .tup [eRus [],.int .i64 160]:=by unfold DN;rw[V5 (by rw[ht4];decide),hrs]
  rw[hE 160 (by rw[hres,hrs])];simp only[eZ,seval,V3,V6,eY,Au,lt_F c6,h0,h1,hNA,JQ,ON,Tl,s1,Cj d9,B4,A0,Aj,V1 hd,V1 h16',V1 hnf,k9,hc,hr];exact wk0
 |some rs=>
  have hr:DN d= .tup [eRus rs,.int .i64 0]:=by unfold DN;rw[V5 (by rw[ht4];decide),hrs]
  rw[hO _ (by rw[hres,hrs])];simp only[eZ,seval,V3,eY,Au,lt_F c6,h0,h1,hNA,JQ,ON,Tl,s1,Cj d9,B4,A0,Aj,V1 hd,V1 h16',V1 hnf,k9,hc,hr,AD];exact Wk.refl _
abbrev FewR(d:Z8):Prop:=Z4 d/\d.regs.length<999999000
def Tcz:Tab:=tadd 30 (s1 dD FewR Bh) (tadd 93 (s2 dD dD (λa _=>Z4 a) λa b=>.bool (decide (a=b))) (tadd 32 sMk (tadd 94 (s2 dD dGd (λd g=>Z4 d/\Ak g.sh g.w g.h g.holes=some g.cells/\few g.holes) λd g=>.int .i64 (Cx g.cells d.regs)) (tadd 95 (s1 dD Z4 λd=>.bool (Bb d)) (tadd 96 (s1 dD (λd=>few d.ruls) λd=>eIs (Bc d.ruls)) tnil)))))
def Tcz_ok:AI prog Tcz:=(((((AI.tnil.add (q1 λd h=>p96 d h)).add (q1 λd h=>p95 d h)).add (q2 λd g h=>p94 d g h.1 h.2.1 h.2.2)).add qMk).add (q2 λa b h=>p93 a b h)).add (q1 λd h=>p30 d h.1 h.2)
theorem JR(a:List Fs)(H:AC):Tcz 30 a H=s1 dD FewR Bh a H:=rfl
theorem Km(a:List Fs)(H:AC):Tcz 93 a H=s2 dD dD (λa _=>Z4 a) (λa b=>.bool (decide (a=b))) a H:=rfl
theorem OO(sh w h:Int)(x:Fs)(H:AC):Tcz 32 [.int .i64 sh,.int .i64 w,.int .i64 h,x] H=(dIs.ok x/\few (dIs.dec x),BL sh w h (dIs.dec x)):=rfl
theorem RE(a:List Fs)(H:AC):Tcz 94 a H=s2 dD dGd (λd g=>Z4 d/\Ak g.sh g.w g.h g.holes=some g.cells/\few g.holes) (λd g=>.int .i64 (Cx g.cells d.regs)) a H:=rfl
theorem Tm(a:List Fs)(H:AC):Tcz 95 a H=s1 dD Z4 (λd=>.bool (Bb d)) a H:=rfl
theorem Tcz_u(a:List Fs)(H:AC):Tcz 96 a H=s1 dD (λd=>few d.ruls) (λd=>eIs (Bc d.ruls)) a H:=rfl
theorem Ey{α β:Type}{f:α->Option β}:∀{l:List α} {r:List β},Ag f l=some r->r.length=l.length/\∀y∈r,∃x∈l,f x=some y
 |[],r,h=>by
  simp only[Ag,Option.some.injEq]at h;subst h;exact⟨rfl,λy hy=>by cases hy⟩
 |x::l,r,h=>by
  rw[Cg]at h;cases hx:f x with
  |none=>rw[hx]at h;cases h
  |some z=>
   rw[hx]at h;simp only at h;cases hl:Ag f l with
   |none=>rw[hl]at h;cases h
   |some s=>
    rw[hl]at h;simp only[Wt,Option.some.injEq]at h;subst h;obtain⟨h1,h2⟩:=Ey hl;refine⟨by simp [h1],λy hy=>?_⟩;rcases Wp.1 hy with rfl|hy
    ·exact⟨x,zw,hx⟩
    ·obtain⟨w,hw,e⟩:=h2 y hy;exact⟨w,by simp [hw],e⟩
def OP{d:Z8}{r r':Yz}(h:BE d r=some r'):r'.ns=r.ns/\r'.os=r.os:=by
 unfold BE at h;split at h
 ·cases h;exact⟨rfl,rfl⟩
 ·cases h
def ED{d x:Z8}(hd:Z4 d)(h:resD d= .ok x):Z4 x:=by
 obtain⟨-,-,-,-,-,e1,e2,e3⟩:=Mz h
 have key:∃cs rs,Ag (Bf d) d.clus=some cs/\Ag (BE d) d.ruls=some rs/\x.clus=cs/\x.ruls=rs:=by
  unfold resD at h
  repeat' split at h
  all_goals first
   |(cases h;done)
   |(rename_i cs hcs _ _ rs hrs
     cases h
     exact⟨_,_,hcs,hrs,rfl,rfl⟩)
 obtain⟨cs,rs,h1,h2,h3,h4⟩:=key
 obtain⟨l1,-⟩:=Ey h1
 obtain⟨l2,m2⟩:=Ey h2
 refine⟨by rw[e1];exact hd.ho,by rw[e2];exact hd.sy,by rw[e3];exact hd.rg,by rw[e3];exact hd.rgs,?_,?_,λr hr=>?_⟩
 ·rw[h3];show cs.length<_;rw[l1];exact hd.cl
 ·rw[h4];show rs.length<_;rw[l2];exact hd.ru
 ·rw[h4]at hr
  obtain⟨r0,hr0,e⟩:=m2 r hr
  obtain⟨q1,q2⟩:=OP e
  have:=hd.rus r0 hr0
  exact⟨by rw[q1];exact this.1,by rw[q2];exact this.2⟩
def Tn(d:Z8):(decide ((d.syms.length:Int)=0)||decide ((16:Int)<d.syms.length)||decide ((4:Int)<d.regs.length)||decide ((4:Int)<d.clus.length)||decide ((16:Int)<d.ruls.length))= !limD d:=by
 rw[Wg];unfold limD;simp only[Wd,Vu,Xu,Bool.and_eq_false_iff,Xf];omega
def p31(d:Z8)(hd:Z4 d):Pur prog 31 [encD d] (.int .i64 (chkD d)):=by
 refine .mk ⟨AW 0 d,trivial⟩ trivial (c31.a (AE Tcz_ok (AF ?_)));unfold chkD;have hlb:=Tn d;cases hl:limD d with
 |false=>
  rw[hl]at hlb;rw[Vv rfl];simp only[eZ,seval,V6,V0,c31,hlb,V6]
 |true=>
 rw[hl]at hlb;rw[V5 zd];have d5:FewR d:=⟨hd,by
  unfold limD at hl;simp only[V7,Vu]at hl;omega⟩
 cases hr:resD d with
 |error e=>
  have hv:Bh d= .tup [encD dcl0,.int .i64 e]:=by unfold Bh;rw[hr]
  have he:(e=0)=False:=Vs (Dd hr);simp only[eZ,seval,V3,V6,eY,c31,hlb,V3,JR,s1,A0,Aj,V1 d5,hv,he]
 |ok x=>
 have hv:Bh d= .tup [encD x,.int .i64 0]:=by unfold Bh;rw[hr]
 have hfx:=ED hd hr;simp only[];by_cases hx:x=d;case neg=>
  rw[Vv hx];simp only[eZ,seval,V3,V6,eY,c31,hlb,V3,JR,Km,s1,s2,A0,Aj,V1 d5,V1 hfx,hv,Az hx]
 rw[V5 (λz=>z hx)];subst hx;by_cases hver:x.ver<1\/255<x.ver
 ·have hvb:(decide (x.ver<1)||decide (255<x.ver))=true:=by simpa using hver
  rw[Vv hver];simp only[eZ,seval,V3,eY,c31,hlb,V3,JR,Km,s1,s2,A0,Aj,V1 d5,V1 hd,hv,hvb]
 have hvb:(decide (x.ver<1)||decide (255<x.ver))=false:=by simp;omega
 rw[V5 hver];cases hc:Ak x.sh x.w x.h x.holes with
 |none=>
  have hm:BL x.sh x.w x.h x.holes= .tup [encG 0 0 0 [] [],.int .i64 130]:=by unfold BL;rw[hc]
  simp only[eZ,seval,V3,V6,eY,c31,hlb,V3,JR,Km,OO,s1,s2,A0,Aj,Al,AZ,V1 d5,V1 hd,V1 hd.ho,hv,hvb,hm]
 |some cells=>
 have hm:BL x.sh x.w x.h x.holes= .tup [encG x.sh x.w x.h x.holes cells,.int .i64 0]:=by unfold BL;rw[hc]
 simp only[];by_cases hre:Cx cells x.regs=0;case neg=>
  rw[Vv hre];simp only[eZ,seval,V3,V6,eY,c31,hlb,V3,JR,Km,OO,RE,s1,s2,A0,Aj,Al,AZ,Es,Co,V1 d5,V1 hd,V1 hd.ho,hv,hvb,hm,hc,Vs hre]
 rw[V5 (λz=>z hre)];cases hf:Bb x with
 |false=>
  rw[Vv rfl];simp only[eZ,seval,V3,V6,eY,c31,hlb,V3,JR,Km,OO,RE,Tm,s1,s2,A0,Aj,Al,AZ,Es,Co,V1 d5,V1 hd,V1 hd.ho,hv,hvb,hm,hc,hre,hf]
 |true=>
 rw[V5 zd];by_cases hu:Bc x.ruls=[]
 ·rw[V5 (λz=>z hu)];simp only[eZ,seval,V3,eY,c31,hlb,V3,JR,Km,OO,RE,Tm,Tcz_u,s1,s2,A0,Aj,Al,AZ,Es,Co,V1 d5,V1 hd,V1 hd.ho,V1 hd.ru,hv,hvb,hm,hc,hre,hf,hu]
 ·rw[Vv hu];have hup:((0:Int)<((Bc x.ruls).length:Int))=True:=V1 (by have:=List.length_pos_iff.2 hu;omega);simp only[eZ,seval,V3,eY,c31,hlb,V3,JR,Km,OO,RE,Tm,Tcz_u,s1,s2,A0,Aj,Al,AZ,Es,Co,V1 d5,V1 hd,V1 hd.ho,V1 hd.ru,hv,hvb,hm,hc,hre,hf,hup]
end Go.AM
