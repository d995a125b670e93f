/-
  Parts of the proof. Conditions: none.
-/
import Derived.Test.YtbohiinkdkoacaaGreatDoorB9
set_option maxRecDepth 20000
set_option linter.all false
namespace Go.AM
open Go.Lib Go.Proofs Go.Proofs.Tryz
def p85W(a b:List Int)(ha:wide a):Pur prog 85 [eIs a,eIs b] (.bool (decide (a=b))):=by
 refine .mk ⟨Ai 0 _,Ai 0 _,trivial⟩ trivial (c85.a (AE AI.tnil (AF ?_)));have l5:a.length<1125899906842624:=ha;by_cases hl:a.length=b.length;case neg=>
  have hR:decide (a=b)=false:=W2 λq=>hl (by rw[q])
  have hq:((a.length:Int)=(b.length:Int))=False:=Vs zo;rw[hR];simp only[eZ,seval,V6,V0,c85,hq]
 have hq:((a.length:Int)=(b.length:Int))=True:=V1 zo;simp only[eZ,seval,V3,V0,c85,hq];refine AO (λi:Nat=>⟨[(0,true,eIs a),(1,true,eIs b),(5,true,.int .i64 i)],hnil,0⟩) (λi=>i<=a.length/\a.take i=b.take i) (λi=>a.length-i) 0 rfl ⟨V8 _,rfl⟩ ?_;rintro i ⟨hi,c6⟩;by_cases c5:i<a.length
 ·have c7:i<b.length:=zo
  have hg:=V2 c5;have d7:=V2 c7;have e:=AG (k:=i) zo;have ta:a.take (i+1)=a.take i++[a[i]]:=by rw[Vx,hg];rfl
  have tb:b.take (i+1)=b.take i++[b[i]]:=by rw[Vx,d7];rfl
  generalize a[i]=x at hg ta;generalize b[i]=y at d7 tb;by_cases i5:x=y
  ·simp only[eZ,seval,V3,eY,lt_T c5,lt_T c7,hg,d7,e,i5];exact .mk (i+1) rfl ⟨c5,by rw[ta,tb,c6,i5]⟩ zo
  ·have hR:decide (a=b)=false:=W2 λq=>i5 (by rw[q]at hg;rw[hg]at d7;exact Option.some.inj d7)
   rw[hR];simp only[eZ,seval,V6,eY,lt_T c5,lt_T c7,hg,d7,Az i5]
 obtain rfl:i=a.length:=zo
 have hR:decide (a=b)=true:=Wo (by rw[Vw,hl,Vw]at c6;exact c6);rw[hR];simp only[eZ,seval,V0,lt_F c5]
def p85(a b:List Int)(ha:few a):Pur prog 85 [eIs a,eIs b] (.bool (decide (a=b))):=p85W a b (CY ha)
def p159(r:Yz):Pur prog 159 [BQ r] (.bool (HK r)):=by
 refine .mk ⟨Ao 0 r,trivial⟩ trivial (c159.a (AE AI.tnil (AF ?_)));simp only[eZ,seval,c159];rfl
def Tr7:Tab:=tadd 159 (s1 dRu any1 λr=>.bool (HK r)) tnil
def Tr7_ok:AI prog Tr7:=AI.tnil.add (q1 λr _=>p159 r)
structure IUr(d:Z8)(v:VU):Prop where
 hi:v.i<=d.ruls.length
 fr:AR v.H v.n
 hn:2<=v.n
 h0:hget v.H 0=some (.box (AK d))
 tok:tkG 1 1 v.H v.tk
 es:v.tk.esz=1\/Bc (d.ruls.take v.i)=[]
def p96(d:Z8)(hr:few d.ruls):Pur prog 96 [encD d] (eIs (Bc d.ruls)):=by
 refine .mk ⟨AW 0 d,trivial⟩ (Ai 0 _) (c96.a (AE Tr7_ok (AF ?_)));have u9:d.ruls.length<1000000000:=hr;simp only[eE,eN,seval,c96];refine AO (λv:VU=>⟨[(1,true,.ptr 0 0),(3,true,.sl v.tk ((Bc (d.ruls.take v.i)).map eI)),(4,true,.int .i64 v.i)],v.H,v.n⟩) (IUr d) (λv=>d.ruls.length-v.i)
  ⟨0,.nil,hset hnil 0 (.box (AK d)),2⟩ rfl ⟨V8 _,AR.nil.hset (m:=2) (V8 2) (show 0<2 by decide),V4 _,rfl,.inl rfl,.inr rfl⟩ ?_
 rintro⟨i,tk,H,n⟩ ⟨hi,d4,hn,h0,c6,d8⟩;simp only at hi d4 hn h0 c6 d8;by_cases c5:i<d.ruls.length
 ·have hg:=V2 c5;have e:=AG (k:=i) zo;have hu:=Ha c5;have hul:=Ig (d.ruls.take i);rw[W0]at hul;generalize d.ruls[i]=r at hg hu;cases t9:HK r with
  |true=>
   rw[t9,Vv rfl,W9]at hu;simp only[eZ,seval,V3,eY,lt_T c5,hg,Tr7,s1,BV,A7,t9,e,h0,tadd];refine .mk ⟨i+1,tk,H,n⟩ ?_ ⟨c5,d4,hn,h0,c6,by simp only[hu];exact d8⟩ zp;simp only[hu]
  |false=>
   rw[t9,V5 zd]at hu;have q1:At H 1 tk=True:=V1 c6.app;have q2:((Bc (d.ruls.take i)).length<=35184372088831)=True:=V1 zo;have q3:small ((Bc (d.ruls.take i)).length+1) 8=True:=V1 (AP zo zd);simp only[eZ,seval,V6,eY,lt_T c5,hg,fr1 d4,Tr7,s1,BV,A7,t9,e,h0,q1,q2,q3,tadd];refine .mk ⟨i+1,.own (n+3) 1,hset (AL H tk) (n+3) .tok,n+5⟩ ?_ ⟨c5,(AT c6 d4).hset (m:=n+5) zo zo,zp,?_,.inr (.inr ⟨n+3,rfl,zo,AB ..⟩),.inl rfl⟩ zp
   ·simp only[hu,Vt];rfl
   ·simp only[];rw[AA _ _ _ _ zo,AX c6 (.inr ⟨_,h0⟩)];exact h0
 obtain rfl:i=d.ruls.length:=zo
 rw[Vw]at d8;simp only[eZ,seval,V0,lt_F c5,Vw,h0];exact Wk.sl (d8.imp id λq=>by rw[q];rfl)
def p153(a b:List Int)(ha:wide a):Pur prog 153 [eIs a,eIs b] (.bool (decide (a=b))):=by
 refine .mk ⟨Ai 0 _,Ai 0 _,trivial⟩ trivial (c153.a (AE AI.tnil (AF ?_)));have l5:a.length<1125899906842624:=ha;by_cases hl:a.length=b.length;case neg=>
  have hR:decide (a=b)=false:=W2 λq=>hl (by rw[q])
  have hq:((a.length:Int)=(b.length:Int))=False:=Vs zo;rw[hR];simp only[eZ,seval,V6,V0,c153,hq]
 have hq:((a.length:Int)=(b.length:Int))=True:=V1 zo;simp only[eZ,seval,V3,V0,c153,hq];refine AO (λi:Nat=>⟨[(0,true,eIs a),(1,true,eIs b),(5,true,.int .i64 i)],hnil,0⟩) (λi=>i<=a.length/\a.take i=b.take i) (λi=>a.length-i) 0 rfl ⟨V8 _,rfl⟩ ?_;rintro i ⟨hi,c6⟩;by_cases c5:i<a.length
 ·have c7:i<b.length:=zo
  have hg:=V2 c5;have d7:=V2 c7;have e:=AG (k:=i) zo;have ta:a.take (i+1)=a.take i++[a[i]]:=by rw[Vx,hg];rfl
  have tb:b.take (i+1)=b.take i++[b[i]]:=by rw[Vx,d7];rfl
  generalize a[i]=x at hg ta;generalize b[i]=y at d7 tb;by_cases i5:x=y
  ·simp only[eZ,seval,V3,eY,lt_T c5,lt_T c7,hg,d7,e,i5];exact .mk (i+1) rfl ⟨c5,by rw[ta,tb,c6,i5]⟩ zo
  ·have hR:decide (a=b)=false:=W2 λq=>i5 (by rw[q]at hg;rw[hg]at d7;exact Option.some.inj d7)
   rw[hR];simp only[eZ,seval,V6,eY,lt_T c5,lt_T c7,hg,d7,Az i5]
 obtain rfl:i=a.length:=zo
 have hR:decide (a=b)=true:=Wo (by rw[Vw,hl,Vw]at c6;exact c6);rw[hR];simp only[eZ,seval,V0,lt_F c5]
def p204(a b:List Bs)(ha:wide a):Pur prog 204 [eSs a,eSs b] (.bool (decide (a=b))):=by
 refine .mk ⟨BK 0 _,BK 0 _,trivial⟩ trivial (c204.a (AE AI.tnil (AF ?_)));have l5:a.length<1125899906842624:=ha;by_cases hl:a.length=b.length;case neg=>
  have hR:decide (a=b)=false:=W2 λq=>hl (by rw[q])
  have hq:((a.length:Int)=(b.length:Int))=False:=Vs zo;rw[hR];simp only[eZ,seval,V6,V0,c204,hq]
 have hq:((a.length:Int)=(b.length:Int))=True:=V1 zo;simp only[eZ,seval,V3,V0,c204,hq];refine AO (λi:Nat=>⟨[(0,true,eSs a),(1,true,eSs b),(5,true,.int .i64 i)],hnil,0⟩) (λi=>i<=a.length/\a.take i=b.take i) (λi=>a.length-i) 0 rfl ⟨V8 _,rfl⟩ ?_;rintro i ⟨hi,c6⟩;by_cases c5:i<a.length
 ·have c7:i<b.length:=zo
  have hg:=V2 c5;have d7:=V2 c7;have e:=AG (k:=i) zo;have ta:a.take (i+1)=a.take i++[a[i]]:=by rw[Vx,hg];rfl
  have tb:b.take (i+1)=b.take i++[b[i]]:=by rw[Vx,d7];rfl
  generalize a[i]=x at hg ta;generalize b[i]=y at d7 tb;by_cases i5:x=y
  ·simp only[eZ,seval,V3,eY,lt_T c5,lt_T c7,hg,d7,e,Ap,BA i5];exact .mk (i+1) rfl ⟨c5,by rw[ta,tb,c6,i5]⟩ zo
  ·have hR:decide (a=b)=false:=W2 λq=>i5 (by rw[q]at hg;rw[hg]at d7;exact Option.some.inj d7)
   rw[hR];simp only[eZ,seval,V6,eY,lt_T c5,lt_T c7,hg,d7,Ap,Az i5]
 obtain rfl:i=a.length:=zo
 have hR:decide (a=b)=true:=Wo (by rw[Vw,hl,Vw]at c6;exact c6);rw[hR];simp only[eZ,seval,V0,lt_F c5]
def Tsi:Tab:=tadd 153 (s2 dIs dIs (λa _=>wide a) λa b=>.bool (decide (a=b))) tnil
def Tsi_ok:AI prog Tsi:=AI.tnil.add (q2 p153)
def p154(a b:List (List Int))(ha:few a)(hf:∀x∈a,wide x):Pur prog 154 [eLl a,eLl b] (.bool (decide (a=b))):=by
 refine .mk ⟨Am 0 _,Am 0 _,trivial⟩ trivial (c154.a (AE Tsi_ok (AF ?_)));have l5:a.length<1000000000:=ha;by_cases hl:a.length=b.length;case neg=>
  have hR:decide (a=b)=false:=W2 λq=>hl (by rw[q])
  have hq:((a.length:Int)=(b.length:Int))=False:=Vs zo;rw[hR];simp only[eZ,seval,V6,V0,c154,hq]
 have hq:((a.length:Int)=(b.length:Int))=True:=V1 zo;simp only[eZ,seval,V3,V0,c154,hq];refine AO (λi:Nat=>⟨[(0,true,eLl a),(1,true,eLl b),(5,true,.int .i64 i)],hnil,0⟩) (λi=>i<=a.length/\a.take i=b.take i) (λi=>a.length-i) 0 rfl ⟨V8 _,rfl⟩ ?_;rintro i ⟨hi,c6⟩;by_cases c5:i<a.length
 ·have c7:i<b.length:=zo
  have hg:=V2 c5;have d7:=V2 c7;have e:=AG (k:=i) zo;have ta:a.take (i+1)=a.take i++[a[i]]:=by rw[Vx,hg];rfl
  have tb:b.take (i+1)=b.take i++[b[i]]:=by rw[Vx,d7];rfl
  have l6:=hf _ (W1 c5);generalize a[i]=x at hg ta l6;generalize b[i]=y at d7 tb;by_cases i5:x=y
  ·simp only[eZ,seval,V3,eY,lt_T c5,lt_T c7,hg,d7,e,Tsi,s2,Al,AZ,V1 l6,BA i5,tadd];exact .mk (i+1) rfl ⟨c5,by rw[ta,tb,c6,i5]⟩ zo
  ·have hR:decide (a=b)=false:=W2 λq=>i5 (by rw[q]at hg;rw[hg]at d7;exact Option.some.inj d7)
   rw[hR];simp only[eZ,seval,V6,eY,lt_T c5,lt_T c7,hg,d7,Tsi,s2,Al,AZ,V1 l6,Az i5,tadd]
 obtain rfl:i=a.length:=zo
 have hR:decide (a=b)=true:=Wo (by rw[Vw,hl,Vw]at c6;exact c6);rw[hR];simp only[eZ,seval,V0,lt_F c5]
def Tsn:Tab:=tadd 204 (s2 dSs dSs (λa _=>wide a) λa b=>.bool (decide (a=b))) tnil
def Tsn_ok:AI prog Tsn:=AI.tnil.add (q2 p204)
def p155(a b:Yz)(ha:Fh a):Pur prog 155 [BQ a,BQ b] (.bool (decide (a=b))):=by
 refine .mk ⟨Ao 0 _,Ao 0 _,trivial⟩ trivial (c155.a (AE Tsn_ok (AF ?_)));obtain⟨h1,h2⟩:=ha;simp only[eZ,seval,c155,Tsn,s2,Ec,DE,V1 h1,V1 h2,A4,tadd];rw[Wg,Vu,Lr];simp only[V7,Vu];constructor
 ·intro h;simp only[h,Yt]
 ·intro h;simp only[h,Yt]
def Tsd:Tab:=tadd 153 (s2 dIs dIs (λa _=>wide a) λa b=>.bool (decide (a=b))) (tadd 154 (s2 dLl dLl (λa _=>Bl a) λa b=>.bool (decide (a=b))) (tadd 155 (s2 dRu dRu (λa _=>Fh a) λa b=>.bool (decide (a=b))) tnil))
def Tsd_ok:AI prog Tsd:=((AI.tnil.add (q2 p155)).add (q2 λa b h=>p154 a b h.1 h.2)).add (q2 p153)
def Sp(x y:Z6):(scmp .neq x.nm y.nm|| !decide (x.ls=y.ls))= !decide (x=y):=by
 rw[Ap];cases x;cases y;rw[Wg];simp [Z6.mk.injEq]
def p93(a b:Z8)(hd:Z4 a):Pur prog 93 [encD a,encD b] (.bool (decide (a=b))):=by
 refine .mk ⟨AW 0 _,AW 0 _,trivial⟩ trivial (a93 (AE Tsd_ok (AF ?_)));cases h1:decide (a.nm=b.nm/\a.ver=b.ver/\a.sh=b.sh/\a.w=b.w/\a.h=b.h/\a.holes=b.holes)with
 |false=>
  have h1:=Yf h1;have hR:decide (a=b)=false:=W2 λq=>h1 (by rw[q];exact⟨rfl,rfl,rfl,rfl,rfl,rfl⟩)
  have hb:(scmp .neq a.nm b.nm|| !decide (a.ver=b.ver)|| !decide (a.sh=b.sh)|| !decide (a.w=b.w)|| !decide (a.h=b.h)|| !decide (a.holes=b.holes))=true:=by
   rw[Ap,<-Yi];intro q;simp only[Xm,XM,Vu,Xa]at q;exact h1 q
  rw[hR];simp only[eZ,seval,c93,Tsd,s2,Al,AZ,V1 (CY hd.ho),hb,tadd]
 |true=>
 obtain⟨a1,a2,a3,a4,a5,a6⟩:=Wn h1;have hb:(scmp .neq a.nm b.nm|| !decide (a.ver=b.ver)|| !decide (a.sh=b.sh)|| !decide (a.w=b.w)|| !decide (a.h=b.h)|| !decide (a.holes=b.holes))=false:=by
  rw[Ap];simp [a1,a2,a3,a4,a5,a6]
 clear h1;cases h2:decide (a.syms.length=b.syms.length/\a.regs.length=b.regs.length/\a.clus.length=b.clus.length/\a.ruls.length=b.ruls.length)with
 |false=>
  have h2:=Yf h2;have hR:decide (a=b)=false:=W2 λq=>h2 (by rw[q];exact⟨rfl,rfl,rfl,rfl⟩)
  have l0:(!decide ((a.syms.length:Int)=(b.syms.length:Int))|| !decide ((a.regs.length:Int)=(b.regs.length:Int))|| !decide ((a.clus.length:Int)=(b.clus.length:Int))|| !decide ((a.ruls.length:Int)=(b.ruls.length:Int)))=true:=by
   rw[<-Yi];intro q;simp only[Xm,XM,Vu,Xa]at q;exact h2 zo
  rw[hR];simp only[eZ,seval,V0,c93,Tsd,s2,Al,AZ,V1 (CY hd.ho),hb,l0,tadd]
 |true=>
 obtain⟨l1,l2,l3,l4⟩:=Wn h2;have l0:(!decide ((a.syms.length:Int)=(b.syms.length:Int))|| !decide ((a.regs.length:Int)=(b.regs.length:Int))|| !decide ((a.clus.length:Int)=(b.clus.length:Int))|| !decide ((a.ruls.length:Int)=(b.ruls.length:Int)))=false:=by
  simp [l1,l2,l3,l4]
 clear h2;simp only[eZ,seval,V0,c93,Tsd,s2,Al,AZ,V1 (CY hd.ho),hb,l0,tadd];refine AO (λi:Nat=>⟨[(2,true,.ptr 0 0),(3,true,.ptr 1 0),(5,true,.int .i64 i)],hset (hset hnil 0 (.box (AK a))) 1 (.box (AK b)),3⟩) (λi=>i<=a.syms.length/\a.syms.take i=b.syms.take i) (λi=>a.syms.length-i) 0 rfl ⟨V8 _,rfl⟩ ?_;rintro i ⟨hi,c6⟩;have o9:a.syms.length<1000000000:=hd.sy;by_cases c5:i<a.syms.length
 ·have c7:i<b.syms.length:=zo
  have hg:=V2 c5;have d7:=V2 c7;have e:=AG (k:=i) zo;have ta:a.syms.take (i+1)=a.syms.take i++[a.syms[i]]:=by rw[Vx,hg];rfl
  have tb:b.syms.take (i+1)=b.syms.take i++[b.syms[i]]:=by rw[Vx,d7];rfl
  generalize a.syms[i]=x at hg ta;generalize b.syms[i]=y at d7 tb;by_cases i5:x=y
  ·have hc:=Ib x y;rw[Wo i5]at hc;simp only[eZ,seval,V3,eY,lt_T c5,lt_T c7,hg,d7,e,hc,cfit];exact .mk (i+1) rfl ⟨c5,by rw[ta,tb,c6,i5]⟩ zo
  ·have hR:decide (a=b)=false:=W2 λq=>i5 (by rw[q]at hg;rw[hg]at d7;exact Option.some.inj d7)
   have hc:=Ib x y;rw[W2 i5]at hc;rw[hR];simp only[eZ,seval,V6,eY,lt_T c5,lt_T c7,hg,d7,hc,cfit]
 obtain rfl:i=a.syms.length:=zo
 have b_syms:a.syms=b.syms:=by rw[Vw,l1,Vw]at c6;exact c6
 simp only[eZ,seval,V0,lt_F c5];clear hi c6 o9 c5;refine AO (λi:Nat=>⟨[(2,true,.ptr 0 0),(3,true,.ptr 1 0),(6,true,.int .i64 i)],hset (hset hnil 0 (.box (AK a))) 1 (.box (AK b)),3⟩) (λi=>i<=a.regs.length/\a.regs.take i=b.regs.take i) (λi=>a.regs.length-i) 0 rfl ⟨V8 _,rfl⟩ ?_;rintro i ⟨hi,c6⟩;have o9:a.regs.length<1000000000:=hd.rg;by_cases c5:i<a.regs.length
 ·have c7:i<b.regs.length:=zo
  have hg:=V2 c5;have d7:=V2 c7;have e:=AG (k:=i) zo;have ta:a.regs.take (i+1)=a.regs.take i++[a.regs[i]]:=by rw[Vx,hg];rfl
  have tb:b.regs.take (i+1)=b.regs.take i++[b.regs[i]]:=by rw[Vx,d7];rfl
  have l6:Bl a.regs[i].ls:=hd.rgs _ (W1 c5);generalize a.regs[i]=x at hg ta l6;generalize b.regs[i]=y at d7 tb;by_cases i5:x=y
  ·have hc:=Sp x y;rw[Wo i5]at hc;simp only[eZ,seval,V3,eY,lt_T c5,lt_T c7,hg,d7,e,Tsd,s2,CL,Bk,V1 l6,hc,tadd];exact .mk (i+1) rfl ⟨c5,by rw[ta,tb,c6,i5]⟩ zo
  ·have hR:decide (a=b)=false:=W2 λq=>i5 (by rw[q]at hg;rw[hg]at d7;exact Option.some.inj d7)
   have hc:=Sp x y;rw[W2 i5]at hc;rw[hR];simp only[eZ,seval,V6,eY,lt_T c5,lt_T c7,hg,d7,Tsd,s2,CL,Bk,V1 l6,hc,tadd]
 obtain rfl:i=a.regs.length:=zo
 have b_regs:a.regs=b.regs:=by rw[Vw,l2,Vw]at c6;exact c6
 simp only[eZ,seval,V0,lt_F c5];clear hi c6 o9 c5;refine AO (λi:Nat=>⟨[(2,true,.ptr 0 0),(3,true,.ptr 1 0),(7,true,.int .i64 i)],hset (hset hnil 0 (.box (AK a))) 1 (.box (AK b)),3⟩) (λi=>i<=a.clus.length/\a.clus.take i=b.clus.take i) (λi=>a.clus.length-i) 0 rfl ⟨V8 _,rfl⟩ ?_;rintro i ⟨hi,c6⟩;have o9:a.clus.length<1000000000:=hd.cl;by_cases c5:i<a.clus.length
 ·have c7:i<b.clus.length:=zo
  have hg:=V2 c5;have d7:=V2 c7;have e:=AG (k:=i) zo;have ta:a.clus.take (i+1)=a.clus.take i++[a.clus[i]]:=by rw[Vx,hg];rfl
  have tb:b.clus.take (i+1)=b.clus.take i++[b.clus[i]]:=by rw[Vx,d7];rfl
  generalize a.clus[i]=x at hg ta;generalize b.clus[i]=y at d7 tb;by_cases i5:x=y
  ·have hc:=Ic x y;rw[Wo i5]at hc;simp only[eZ,seval,V3,eY,lt_T c5,lt_T c7,hg,d7,e,hc,cfit];exact .mk (i+1) rfl ⟨c5,by rw[ta,tb,c6,i5]⟩ zo
  ·have hR:decide (a=b)=false:=W2 λq=>i5 (by rw[q]at hg;rw[hg]at d7;exact Option.some.inj d7)
   have hc:=Ic x y;rw[W2 i5]at hc;rw[hR];simp only[eZ,seval,V6,eY,lt_T c5,lt_T c7,hg,d7,hc,cfit]
 obtain rfl:i=a.clus.length:=zo
 have b_clus:a.clus=b.clus:=by rw[Vw,l3,Vw]at c6;exact c6
 simp only[eZ,seval,V0,lt_F c5];clear hi c6 o9 c5;refine AO (λi:Nat=>⟨[(2,true,.ptr 0 0),(3,true,.ptr 1 0),(8,true,.int .i64 i)],hset (hset hnil 0 (.box (AK a))) 1 (.box (AK b)),3⟩) (λi=>i<=a.ruls.length/\a.ruls.take i=b.ruls.take i) (λi=>a.ruls.length-i) 0 rfl ⟨V8 _,rfl⟩ ?_;rintro i ⟨hi,c6⟩;have o9:a.ruls.length<1000000000:=hd.ru;by_cases c5:i<a.ruls.length
 ·have c7:i<b.ruls.length:=zo
  have hg:=V2 c5;have d7:=V2 c7;have e:=AG (k:=i) zo;have ta:a.ruls.take (i+1)=a.ruls.take i++[a.ruls[i]]:=by rw[Vx,hg];rfl
  have tb:b.ruls.take (i+1)=b.ruls.take i++[b.ruls[i]]:=by rw[Vx,d7];rfl
  have l6:Fh a.ruls[i]:=hd.rus _ (W1 c5);generalize a.ruls[i]=x at hg ta l6;generalize b.ruls[i]=y at d7 tb;by_cases i5:x=y
  ·simp only[eZ,seval,V3,eY,lt_T c5,lt_T c7,hg,d7,e,Tsd,s2,BV,A7,V1 l6,BA i5,tadd];exact .mk (i+1) rfl ⟨c5,by rw[ta,tb,c6,i5]⟩ zo
  ·have hR:decide (a=b)=false:=W2 λq=>i5 (by rw[q]at hg;rw[hg]at d7;exact Option.some.inj d7)
   rw[hR];simp only[eZ,seval,V6,eY,lt_T c5,lt_T c7,hg,d7,Tsd,s2,BV,A7,V1 l6,Az i5,tadd]
 obtain rfl:i=a.ruls.length:=zo
 have b_ruls:a.ruls=b.ruls:=by rw[Vw,l4,Vw]at c6;exact c6
 have hR:decide (a=b)=true:=Wo (by
  cases a;cases b;simp only at a1 a2 a3 a4 a5 a6 b_syms b_regs b_clus b_ruls;subst a1 a2 a3 a4 a5 a6 b_syms b_regs b_clus b_ruls;rfl)
 rw[hR];simp only[eZ,seval,V0,lt_F c5]
def p97(l:List Int)(x:Int)(hl:few l):Pur prog 97 [eIs l,.int .i64 x] (.bool (l.contains x)):=by
 refine .mk ⟨Ai 0 _,trivial,trivial⟩ trivial (c97.a (AE AI.tnil (AF ?_)));have m5:l.length<1000000000:=hl;simp only[eE,eN,seval,c97];refine AO (λi:Nat=>⟨[(0,true,eIs l),(1,true,.int .i64 x),(5,true,.int .i64 i)],hnil,0⟩) (λi=>i<=l.length/\l.contains x=(l.drop i).contains x) (λi=>l.length-i) 0 rfl ⟨V8 _,rfl⟩ ?_;rintro i ⟨hi,hc⟩;by_cases c5:i<l.length
 ·have hg:=V2 c5;have e:=AG (k:=i) zo;rw[Wm c5,List.contains_cons]at hc;generalize l[i]=y at hg hc;by_cases hy:y=x
  ·have hR:l.contains x=true:=by rw[hc,hy];simp
   rw[hR];simp only[eZ,seval,eY,lt_T c5,hg,BA hy]
  ·have hy':(x==y)=false:=beq_eq_false_iff_ne.2 λq=>hy q.symm
   rw[hy',Xx]at hc;simp only[eZ,seval,eY,lt_T c5,hg,e,Az hy];exact .mk (i+1) rfl ⟨c5,hc⟩ zo
 obtain rfl:i=l.length:=zo
 rw[WC]at hc;rw[hc];simp only[eZ,seval,V0,lt_F c5];rfl
def Tin:Tab:=tadd 97 (s2 dIs dI (λl _=>few l) λl x=>.bool (l.contains x)) tnil
def OI:AI prog Tin:=AI.tnil.add (q2 p97)
def hosL(holes:List Int)(k:Nat):List Int:=((List.range k).map λ(i:Nat)=>(i:Int)).filter λp=>holes.contains p
def OJ(holes:List Int)(k:Nat):hosL holes (k+1)=if holes.contains (k:Int)then hosL holes k++[(k:Int)]else hosL holes k:=by
 unfold hosL;rw[WT,Vt,Xh];cases h:holes.contains (k:Int)<;>simp only[W6,Wh,X7,Yp,h,WB,Wf,W5,W9]
def Th(holes:List Int)(k:Nat):(hosL holes k).length<=k:=by
 have:=X0 (λp=>holes.contains p) ((List.range k).map λ(i:Nat)=>(i:Int));simpa [hosL]using this
structure VMh where
 i:Nat
 last:Int
structure VMm where
 k:Nat
 t1:Zd
 t2:Zd
 H:AC
 n:Nat
structure IMr(sh w h:Int)(holes:List Int)(m:Nat)(v:VMm):Prop where
 hk:v.k<=m
 hn:8<=v.n
 fr:AR v.H v.n
 h0:hget v.H 0=some (.box [z0,z0,z0,zs,zs])
 h6:hget v.H 6=some (.box [.int .i64 sh,.int .i64 w,.int .i64 h,.sl v.t1 ((hosL holes v.k).map eI),.sl v.t2 ((posL holes v.k).map eI)])
 tok1:tkG 1 7 v.H v.t1
 tok2:tkG 1 7 v.H v.t2
 dj:∀i,v.t1= .own i 1->v.t2≠ .own i 1
 es1:v.t1.esz=1\/hosL holes v.k=[]
 es2:v.t2.esz=1\/posL holes v.k=[]
def p32(sh w h:Int)(holes:List Int)(hl:few holes):Pur prog 32 [.int .i64 sh,.int .i64 w,.int .i64 h,eIs holes] (BL sh w h holes):=by
 refine .mk ⟨trivial,trivial,trivial,Ai 0 _,trivial⟩ (HU sh w h holes) (c32.a (AE OI (AF ?_)));have m5:holes.length<1000000000:=hl;by_cases hc:(sh=1\/sh=2)/\1<=w/\w<=16/\1<=h/\h<=16;case neg=>
  have hn:BL sh w h holes= .tup [encG 0 0 0 [] [],.int .i64 130]:=by
   unfold BL Aj;rw[V5 λq=>hc ⟨q.1,q.2.1,q.2.2.1,q.2.2.2.1,q.2.2.2.2.1⟩]
  have hb:(!decide (sh=1)&& !decide (sh=2)||decide (w<1)||decide (16<w)||decide (h<1)||decide (16<h))=true:=by
   rw[<-Yi];intro q;simp only[Xm,Bool.and_eq_false_iff,XM,Vu,Xf]at q;exact hc zo
  rw[hn];simp only[eZ,seval,Au,c32,hb];exact wk_G (Wk.sl (.inr rfl)) (Wk.sl (.inr rfl))
 have hb:(!decide (sh=1)&& !decide (sh=2)||decide (w<1)||decide (16<w)||decide (h<1)||decide (16<h))=false:=by
  simp only[Xm,Bool.and_eq_false_iff,XM,Vu,Xf];omega
 obtain⟨hsh,hw1,hw2,hh1,hh2⟩:=hc;obtain⟨p1,p2⟩:=Vh hw1 hw2 hh1 hh2;have m7:IntKind.wrap .i64 (w*h)=w*h:=Ae zo zo;have j0:(Bj (-1) holes&&holes.all λp=>decide (p<w*h))=false->BL sh w h holes= .tup [encG 0 0 0 [] [],.int .i64 130]:=λq=>by
  unfold BL Aj;rw[V5];intro z;rw[z.2.2.2.2.2.2.1,z.2.2.2.2.2.2.2]at q;cases q
 simp only[eZ,seval,c32,hb];refine AO (λv:VMh=>⟨[(0,true,.int .i64 sh),(1,true,.int .i64 w),(2,true,.int .i64 h),(3,true,eIs holes),(8,true,.ptr 0 0),(10,true,.int .i64 v.i)],hset hnil 0 (.box [z0,z0,z0,zs,zs]),2⟩)
  (λv=>v.i<=holes.length/\(Bj (-1) holes&&holes.all λp=>decide (p<w*h))=(Bj v.last (holes.drop v.i)&&(holes.drop v.i).all λp=>decide (p<w*h))/\(v.i=0->v.last= -1)/\∀j,v.i=j+1->holes[j]?=some v.last/\0<=v.last) (λv=>holes.length-v.i)
  ⟨0,-1⟩ rfl ⟨V8 _,rfl,λ_=>rfl,λj q=>by cases q⟩ ?_
 rintro⟨i,last⟩ ⟨hi,he,hz,hs⟩;simp only at hi he hz hs;by_cases c5:i<holes.length
 ·have hg:=V2 c5;have e:=AG (k:=i) zo;rw[Wm c5,Bj,Xr]at he;generalize holes[i]=x at hg he;have m9:last<x/\x<w*h->(Bj (-1) holes&&holes.all λp=>decide (p<w*h))=(Bj x (holes.drop (i+1))&&(holes.drop (i+1)).all λp=>decide (p<w*h)):=λq=>by
   rw[he,Wo q.1,Wo q.2];simp
  have x7:¬(last<x/\x<w*h)->(Bj (-1) holes&&holes.all λp=>decide (p<w*h))=false:=λq=>by
   rw[he,<-Bool.not_eq_true];intro z;simp only[V7,Vu]at z;exact q ⟨z.1.1,z.2.1⟩
  cases i with
  |zero=>
   have hl1:=hz rfl;have h0l:((0:Int)<(holes.length:Int))=True:=V1 zo;have e1:IntKind.wrap .i64 ((0:Int)+1)=1:=zd
   by_cases i4:last<x/\x<w*h
   ·have hd:(decide (x<0)||decide (w*h<=x))=false:=by simp;omega
    simp only[eZ,seval,eY,h0l,hg,e1,m7,hd];refine .mk ⟨1,x⟩ rfl ⟨c5,m9 i4,(λq=>by cases q),λj q=>?_⟩ zp;have q':1=j+1:=q;have:j=0:=zo
    subst this;exact⟨hg,zp⟩
   ·have hd:(decide (x<0)||decide (w*h<=x))=true:=by simp;omega
    rw[j0 (x7 i4)];simp only[eZ,seval,V3,eY,Au,h0l,hg,m7,hd];exact wk_G (Wk.sl (.inr rfl)) (Wk.sl (.inr rfl))
  |succ j=>
   obtain⟨hgl,l7⟩:=hs j rfl;have u0:j<holes.length:=zo
   have ej:IntKind.wrap .i64 (((j+1:Nat):Int)-1)=(j:Int):=by rw[Ae zo zo];omega
   by_cases i4:last<x/\x<w*h
   ·have hd:(decide (x<0)||decide (w*h<=x))=false:=by simp;omega
    have o8:(x<=last)=False:=Vs zo;simp only[eZ,seval,eY,lt_T c5,hg,e,m7,hd,cS1,ej,lt_T u0,hgl,o8];refine .mk ⟨j+2,x⟩ rfl ⟨c5,m9 i4,(λq=>by cases q),λj' q=>?_⟩ zp;have q':j+2=j'+1:=q;have:j'=j+1:=zo
    subst this;exact⟨hg,zp⟩
   ·by_cases hd:(decide (x<0)||decide (w*h<=x))=true
    ·rw[j0 (x7 i4)];simp only[eZ,seval,V3,eY,Au,lt_T c5,hg,m7,hd];exact wk_G (Wk.sl (.inr rfl)) (Wk.sl (.inr rfl))
    ·have hd:(decide (x<0)||decide (w*h<=x))=false:=by simpa using hd
     have hd':=hd;simp only[Xm,Xf]at hd';have o8:(x<=last)=True:=V1 zo;rw[j0 (x7 i4)];simp only[eZ,seval,eY,Au,lt_T c5,hg,m7,hd,cS1,ej,lt_T u0,hgl,o8];exact wk_G (Wk.sl (.inr rfl)) (Wk.sl (.inr rfl))
 obtain rfl:i=holes.length:=zo
 rw[WC]at he;have t8:(Bj (-1) holes&&holes.all λp=>decide (p<w*h))=true:=he;obtain⟨q8,v7⟩:=(V7 _ _).mp t8;obtain⟨r1,r2⟩:=Em.1 q8;have j7:∀x∈holes,0<=x/\x<w*h:=λx hx=>⟨by have:=r1 x hx;omega,Wn (W4.1 v7 x hx)⟩
 obtain⟨m,hm⟩:∃m:Nat,w*h=(m:Int):=⟨(w*h).toNat,zo⟩;have o6:(w*h).toNat=m:=zo
 have hwm:IntKind.wrap .i64 (m:Int)=m:=by rw[<-hm];exact m7
 have hHos:hosL holes m=holes:=by
  have:=Qn j7 r2;unfold Bo at this;rw[o6]at this;exact this
 have hC:Aj sh w h holes=if posL holes m≠[]then some (posL holes m)else none:=by
  rw[<-Qb];unfold Qa;have ep:((Bo (w*h)).filter λp=>!holes.contains p)=posL holes m:=by unfold Bo posL;rw[o6]
  rw[ep];by_cases q:posL holes m=[]
  ·rw[V5 λz=>z.2.2.2.2.2.2.2 q,V5 (λz=>z q)]
  ·rw[Vv ⟨hsh,hw1,hw2,hh1,hh2,j7,r2,q⟩,Vv q]
 simp only[eZ,seval,V0,lt_F c5,hm,AD];refine AO (λv:VMm=>⟨[(1,true,.int .i64 w),(2,true,.int .i64 h),(3,true,eIs holes),(8,true,.ptr 0 0),(11,true,.ptr 6 0),(12,true,.int .i64 v.k)],v.H,v.n⟩) (IMr sh w h holes m) (λv=>m-v.k)
  ⟨0,.nil,.nil,hset (hset hnil 0 (.box [z0,z0,z0,zs,zs])) 6 (.box [.int .i64 sh,.int .i64 w,.int .i64 h,zs,zs]),8⟩ rfl ⟨V8 _,V4 _,(AR.nil.hset (m:=8) (V8 8) (show 0<8 by decide)).hset (V4 8) (show 6<8 by decide),rfl,rfl,.inl rfl,.inl rfl,λi q=>(by cases q),.inr rfl,.inr rfl⟩ ?_
 rintro⟨k,t1,t2,H,n⟩ ⟨hk,hn,d4,h0,h6,i9,j9,hdj,hes1,v8⟩;simp only at hk hn d4 h0 h6 i9 j9 hdj hes1 v8;by_cases i8:k<m
 ·have e:=AG (k:=k) zo;have o7:=Ka holes k;have hhs:=OJ holes k;have q9:=Qt holes k;have hhl:=Th holes k;have y0:∀j,(n+j=6)=False:=λj=>Vs zo
  have y1:∀j,(n+j=0)=False:=λj=>Vs zo
  cases hin2:holes.contains (k:Int)with
  |true=>
   rw[hin2,Vv rfl]at o7 hhs;have q1:At H 1 t1=True:=V1 i9.app;have q2:((hosL holes k).length<=35184372088831)=True:=V1 zo;have q3:small ((hosL holes k).length+1) 8=True:=V1 (AP zo zd);have kx:hget (AL H t1) 6=some (.box [.int .i64 sh,.int .i64 w,.int .i64 h,.sl t1 ((hosL holes k).map eI),.sl t2 ((posL holes k).map eI)]):=by rw[AX i9 (.inl zo)];exact h6
   simp only[eZ,seval,V0,hwm,hm,lt_T i8,Tin,s2,Al,AZ,BH,As,V1 hl,hin2,e,h6,q1,q2,q3,fr1 d4,kx,y0,tadd];have hdn:∀i,((.own (n+4) 1:Zd)= .own i 1)->(t2:Zd)≠ .own i 1:=λi q z=>by
    cases q;rcases j9 with h|h|⟨id,h,-,h'⟩<;>rw[h]at z<;>cases z
    rw[fr1 d4 4]at h';cases h'
   refine .mk ⟨k+1,.own (n+4) 1,t2,hset (hset (AL H t1) (n+4) .tok) 6 (.box [.int .i64 sh,.int .i64 w,.int .i64 h,.sl (.own (n+4) 1) ((hosL holes (k+1)).map eI),.sl t2 ((posL holes (k+1)).map eI)]),n+7⟩ ?_ ⟨i8,zp,((AT i9 d4).hset (m:=n+7) zo zo).hset (V4 (n+7)) (show 6<n+7 by omega),?_,AB ..,.inr (.inr ⟨n+4,rfl,zo,by rw[AA _ _ _ _ zo];exact AB ..⟩),(((j9.kill i9 (λi q z=>hdj i z q)).set (.inr (.inr (KU i9 (fr1 d4 4))))).set (.inl zo)),hdn,.inl rfl,by simp only[o7];exact v8⟩ zp
   ·simp only[o7,hhs,Vt];rfl
   ·simp only[];rw[AA _ _ _ _ zo,AA _ _ _ _ zo,AX i9 (.inl zo)];exact h0
  |false=>
   rw[hin2,V5 zd]at o7 hhs;have q1:At H 1 t2=True:=V1 j9.app;have q2:((posL holes k).length<=35184372088831)=True:=V1 zo;have q3:small ((posL holes k).length+1) 8=True:=V1 (AP zo zd);have kx:hget (AL H t2) 6=some (.box [.int .i64 sh,.int .i64 w,.int .i64 h,.sl t1 ((hosL holes k).map eI),.sl t2 ((posL holes k).map eI)]):=by rw[AX j9 (.inl zo)];exact h6
   simp only[eZ,seval,V0,hwm,hm,lt_T i8,Tin,s2,Al,AZ,BH,As,V1 hl,hin2,e,h6,q1,q2,q3,fr1 d4,kx,y0,tadd];have hdn:∀i,((t1:Zd)= .own i 1)->(.own (n+4) 1:Zd)≠ .own i 1:=λi q z=>by
    cases z;rcases i9 with h|h|⟨id,h,-,h'⟩<;>rw[h]at q<;>cases q
    rw[fr1 d4 4]at h';cases h'
   refine .mk ⟨k+1,t1,.own (n+4) 1,hset (hset (AL H t2) (n+4) .tok) 6 (.box [.int .i64 sh,.int .i64 w,.int .i64 h,.sl t1 ((hosL holes (k+1)).map eI),.sl (.own (n+4) 1) ((posL holes (k+1)).map eI)]),n+7⟩ ?_ ⟨i8,zp,((AT j9 d4).hset (m:=n+7) zo zo).hset (V4 (n+7)) (show 6<n+7 by omega),?_,AB ..,(((i9.kill j9 (λi q=>hdj i q)).set (.inr (.inr (KU j9 (fr1 d4 4))))).set (.inl zo)),.inr (.inr ⟨n+4,rfl,zo,by rw[AA _ _ _ _ zo];exact AB ..⟩),hdn,by simp only[hhs];exact hes1,.inl rfl⟩ zp
   ·simp only[o7,hhs,Vt];rfl
   ·simp only[];rw[AA _ _ _ _ zo,AA _ _ _ _ zo,AX j9 (.inl zo)];exact h0
 obtain rfl:k=m:=zo
 by_cases hp0:posL holes k=[]
 ·have hM:BL sh w h holes= .tup [encG 0 0 0 [] [],.int .i64 130]:=by unfold BL;rw[hC,V5 (λz=>z hp0)]
  have l7:(((posL holes k).length:Int)=0)=True:=V1 (by rw[hp0];rfl);rw[hM];simp only[eZ,seval,Au,V0,hwm,hm,lt_F i8,h6,h0,l7];exact wk_G (Wk.sl (.inr rfl)) (Wk.sl (.inr rfl))
 ·have hM:BL sh w h holes= .tup [encG sh w h holes (posL holes k),.int .i64 0]:=by unfold BL;rw[hC,Vv hp0]
  have l7:(((posL holes k).length:Int)=0)=False:=Vs (λq=>hp0 (X1.1 zo));rw[hM];simp only[eZ,seval,Au,V0,hwm,hm,lt_F i8,h6,h0,l7];rw[hHos]at hes1⊢;exact wk_G (Wk.sl (hes1.imp id λq=>by rw[q];rfl)) (Wk.sl (v8.imp id λq=>by rw[q];rfl))
def sMk:List Fs->AC->Prop×Fs:=λa H=>match a with
 |[.int .i64 sh,.int .i64 w,.int .i64 h,x]=>(dIs.ok x/\few (dIs.dec x),BL sh w h (dIs.dec x))
 |_=>(False,.tup [])
def qMk:∀args H n,(sMk args H).1->Ab prog 32 args H n (sMk args H).2:=by
 intro args H n hh;unfold sMk at hh⊢;split at hh
 ·obtain⟨h1,h2⟩:=hh;refine AN.args ((p32 _ _ _ _ h2).quiet H n) ?_;rintro g vs ⟨v,r,rfl,k1,w,r',rfl,k2,u,r2,rfl,k3,z,r3,rfl,k4,k5⟩;exact⟨v,_,rfl,k1,w,_,rfl,k2,u,_,rfl,k3,z,_,rfl,dIs.wk _ h1 _ _ k4,k5⟩
 ·exact hh.elim
def Tck:Tab:=tadd 32 sMk (tadd 85 (s2 dIs dIs (λa _=>few a) λa b=>.bool (decide (a=b))) tnil)
def Tck_ok:AI prog Tck:=(AI.tnil.add (q2 p85)).add qMk
theorem Ti(sh w h:Int)(x:Fs)(H:AC):Tck 32 [.int .i64 sh,.int .i64 w,.int .i64 h,x] H=(dIs.ok x/\few (dIs.dec x),BL sh w h (dIs.dec x)):=rfl
theorem Tck_s(a:List Fs)(H:AC):Tck 85 a H=s2 dIs dIs (λa _=>few a) (λa b=>.bool (decide (a=b))) a H:=rfl
def p98(g:Zc)(hh:few g.holes):Pur prog 98 [Bt g] (chkV g):=by
 refine .mk ⟨Ar 0 ..,trivial⟩ trivial (c98.a (AE Tck_ok (AF ?_)));unfold chkV grOK;cases hc:Aj g.sh g.w g.h g.holes with
 |none=>
  have hv:BL g.sh g.w g.h g.holes= .tup [encG 0 0 0 [] [],.int .i64 130]:=by unfold BL;rw[hc]
  simp only[eZ,seval,V3,V6,eY,c98,Ti,Al,AZ,V1 hh,hv]
 |some c=>
  have hv:BL g.sh g.w g.h g.holes= .tup [encG g.sh g.w g.h g.holes c,.int .i64 0]:=by unfold BL;rw[hc]
  have x5:few c:=show c.length<_ by have:=(Ax hc).2.1;omega
  by_cases hcc:c=g.cells
  ·have hR:decide (some c=some g.cells)=true:=Wo (by rw[hcc]);rw[hR];simp only[eZ,seval,V3,eY,c98,Ti,Tck_s,s2,Al,AZ,V1 hh,hv,V1 x5,BA hcc]
  ·have hR:decide (some c=some g.cells)=false:=W2 (λq=>hcc (Option.some.inj q));rw[hR];simp only[eZ,seval,V3,V6,eY,c98,Ti,Tck_s,s2,Al,AZ,V1 hh,hv,V1 x5,Az hcc]
def atV(cells:List Int)(p:Int):Fs:=if cells.contains p=true then .tup [.int .i64 (lowB cells p),.bool true]else .tup [.int .i64 0,.bool false]
def p102(g:Zc)(p:Int)(hf:few g.cells)(hs:List.Pairwise (λx y=>x<y) g.cells):Pur prog 102 [Bt g,.int .i64 p] (atV g.cells p):=by
 refine .mk ⟨Ar 0 ..,trivial,trivial⟩ (by unfold atV;split<;>exact⟨trivial,trivial,trivial⟩) (c102.a (AE AI.tnil (AF ?_)));have m5:g.cells.length<1000000000:=hf;simp only[eE,eN,seval,c102];refine AO (λi:Nat=>⟨[(1,true,.int .i64 p),(2,true,.ptr 0 0),(6,true,.int .i64 i)],hset hnil 0 (.box (AH g.sh g.w g.h g.holes g.cells)),3⟩) (λi=>i<=g.cells.length/\g.cells.contains p=(g.cells.drop i).contains p) (λi=>g.cells.length-i) 0 rfl ⟨V8 _,rfl⟩ ?_;rintro i ⟨hi,hc⟩;by_cases c5:i<g.cells.length
 ·have hg:=V2 c5;have e:=AG (k:=i) zo;have m0:=Qo hs c5;rw[Wm c5,List.contains_cons]at hc;generalize g.cells[i]=y at hg hc m0;by_cases hy:y=p
  ·have hR:atV g.cells p= .tup [.int .i64 i,.bool true]:=by unfold atV;rw[Vv (by rw[hc,hy];simp),<-hy,m0]
   rw[hR];simp only[eZ,seval,eY,lt_T c5,hg,BA hy];exact Wk.refl _
  ·have hy':(p==y)=false:=beq_eq_false_iff_ne.2 λq=>hy q.symm
   rw[hy',Xx]at hc;simp only[eZ,seval,eY,lt_T c5,hg,e,Az hy];exact .mk (i+1) rfl ⟨c5,hc⟩ zo
 obtain rfl:i=g.cells.length:=zo
 rw[WC]at hc;have hR:atV g.cells p= .tup [.int .i64 0,.bool false]:=by unfold atV;rw[V5 (by rw[hc];simp)]
 rw[hR];simp only[eZ,seval,V0,lt_F c5];exact Wk.refl _
def Trr:Tab:=tadd 98 (s1 dGd (λg=>few g.holes) chkV) (tadd 102 (s2 dGd dI (λg _=>few g.cells/\List.Pairwise (λx y=>x<y) g.cells) λg p=>atV g.cells p) Tin)
def OK:AI prog Trr:=(OI.add (q2 λg p h=>p102 g p h.1 h.2)).add (q1 p98)
theorem Trr_c(a:List Fs)(H:AC):Trr 98 a H=s1 dGd (λg=>few g.holes) chkV a H:=rfl
theorem Tj(a:List Fs)(H:AC):Trr 102 a H=s2 dGd dI (λg _=>few g.cells/\List.Pairwise (λx y=>x<y) g.cells) (λg p=>atV g.cells p) a H:=rfl
theorem Trr_i(a:List Fs)(H:AC):Trr 97 a H=s2 dIs dI (λl _=>few l) (λl x=>.bool (l.contains x)) a H:=rfl
structure IRj(g:Zc)(x:List Int)(H0:AC)(n0:Nat)(v:VRi):Prop where
 hj:v.j<=x.length
 hn:n0<=v.n
 fr:AR v.H v.n
 hk:∀id,id<n0->hget v.H id=hget H0 id
 tok:tkG 1 n0 v.H v.tc
 es:v.tc.esz=1\/v.j=0
 sub:∀q∈x.take v.j,q∈g.cells
 eq:F4 g.cells [] x=F4 g.cells (x.take v.j) (x.drop v.j)
 nd:(x.take v.j).Nodup
def p35(g:Zc)(lists:List (List Int))(hG:Aj g.sh g.w g.h g.holes=some g.cells)(hh:few g.holes)(hl:Bl lists):Pur prog 35 [Bt g,eLl lists] (rgsV g.cells lists):=by
 refine .mk ⟨Ar 0 ..,Am 0 _,trivial⟩ (by unfold rgsV;split<;>exact⟨Am 0 _,trivial,trivial⟩) (c35.a (AE OK (AF ?_)));obtain⟨q8,v7,w9⟩:=Ax hG;have x5:few g.cells:=show g.cells.length<_ by omega
 have m6:grOK g.sh g.w g.h g.holes g.cells=true:=by unfold grOK;rw[hG];simp
 have m5:lists.length<1000000000:=hl.1;by_cases h64:64<lists.length
 ·have hv:rgsV g.cells lists= .tup [eLl [],.int .i64 130]:=by unfold rgsV;rw[V5];simp;omega
  have l64:((64:Int)<(lists.length:Int))=True:=V1 zo;rw[hv];simp only[eZ,seval,V3,V0,c35,Trr_c,s1,Er,Cm,V1 hh,m6,l64];exact Wk.tup (.cons (Wk.sl (.inr rfl)) (.cons (Wk.refl _) .nil))
 have l64:((64:Int)<(lists.length:Int))=False:=Vs zo;simp only[eZ,seval,V3,V0,c35,Trr_c,s1,Er,Cm,V1 hh,m6,l64];have j0:lists.all (DT g.cells)=false->rgsV g.cells lists= .tup [eLl [],.int .i64 130]:=λq=>by unfold rgsV;rw[q,Bool.and_false,V5 zd]
 refine AO (λv:VRg=>⟨[(1,true,eLl lists),(2,true,.ptr 0 0),(6,true,.sl v.tl v.E),(7,true,.int .i64 v.i)],v.H,v.n⟩) (IRg g lists) (λv=>lists.length-v.i)
  ⟨0,[],.nil,hset hnil 0 (.box (AH g.sh g.w g.h g.holes g.cells)),3⟩ rfl ⟨V8 _,V4 _,AR.nil.hset (m:=3) (V8 3) (show 0<3 by decide),rfl,.inl rfl,.inr rfl,.nil,rfl⟩ ?_
 rintro⟨i,E,tl,H,n⟩ hI;have hi:=hI.hi;have hn:=hI.hn;have d4:=hI.fr;have h0:=hI.h0;have c6:=hI.tok;have d8:=hI.es;have hE:=hI.hE;have heq:=hI.eq;simp only at hi hn d4 h0 c6 d8 hE heq;by_cases c5:i<lists.length;case neg=>
  have i7:i=lists.length:=zo
  subst i7;rw[WC]at heq;rw[Vw]at hE;have hv:rgsV g.cells lists= .tup [eLl (lists.map (BO g.cells)),.int .i64 0]:=by
   unfold rgsV;rw[heq,Vv];simp;omega
  rw[hv];simp only[eZ,seval,V0,lt_F c5];exact Wk.tup (.cons (Wk.slx d8 hE) (.cons (Wk.refl _) .nil))
 have hg:=V2 c5;have e:=AG (k:=i) zo;have l6:=hl.2 _ (W1 c5);have v9:=map_take (f:=BO g.cells) c5;rw[Wm c5,Xr]at heq;generalize hx:lists[i]=x at hg l6 heq v9;have hxl:x.length<1125899906842624:=l6;simp only[eZ,seval,V0,lt_T c5];refine AO (λv:VRi=>⟨[(1,true,eLl lists),(2,true,.ptr 0 0),(6,true,.sl tl E),(7,true,.int .i64 i),(8,true,.sl v.tc ((BO g.cells (x.take v.j)).map eI)),(9,true,.int .i64 v.j)],v.H,v.n⟩)
  (IRj g x H n) (λv=>x.length-v.j) ⟨0,.nil,H,n⟩ rfl ⟨V8 _,V4 _,d4,λid d6=>rfl,.inl rfl,.inr rfl,λq hq=>by(simp at hq),rfl,zw⟩ ?_
 rintro⟨j,tc,H1,n1⟩ ⟨hj,j8,d9,hk,m8,r9,t7,w7,l9⟩;simp only at hj j8 d9 hk m8 r9 t7 w7 l9;have hj256:j<=256:=by
  have:=HW l9 t7;rw[W0]at this;omega
 have k9:hget H1 0=some (.box (AH g.sh g.w g.h g.holes g.cells)):=by rw[hk 0 zo];exact h0
 by_cases e9:j<x.length
 ·have s5:=V2 e9;have ej:=AG (k:=j) zo;have s9:=map_take (f:=λp=>(lowB g.cells p:Int)) e9;have m4:x.take (j+1)=x.take j++[x[j]]:=by rw[Vx,s5];rfl
  rw[Wm e9,F4]at w7;have d5:(BO g.cells (x.take j)).length=j:=by rw[Fk,W0];omega
  have hcf:few (BO g.cells (x.take j)):=show(BO g.cells (x.take j)).length<_ by omega
  generalize hp:x[j]=p at s5 s9 m4 w7;have i6:(g.cells.contains p&& !(x.take j).contains p)=false->rgsV g.cells lists= .tup [eLl [],.int .i64 130]:=λq=>j0 (by
   rw[heq,En,w7,q];simp)
  cases j7:g.cells.contains p with
  |false=>
   have hat:atV g.cells p= .tup [.int .i64 0,.bool false]:=by unfold atV;rw[j7,V5 zd]
   rw[i6 (by rw[j7];rfl)];simp only[eZ,seval,V3,V6,eY,lt_T c5,hg,lt_T e9,s5,k9,Tj,s2,Er,Cm,BH,As,V1 x5,V1 q8,hat];exact Wk.tup (.cons (Wk.sl (.inr rfl)) (.cons (Wk.refl _) .nil))
  |true=>
   have hat:atV g.cells p= .tup [.int .i64 (lowB g.cells p),.bool true]:=by unfold atV;rw[j7,Vv rfl]
   have hpm:p∈g.cells:=WA.1 j7;have x8:=M7 q8 t7 hpm;have htcok:dIs.ok (.sl tc ((BO g.cells (x.take j)).map eI))=True:=V1 ⟨r9.imp id λq=>by rw[q];rfl,by rw[Dj]⟩;have x9:dIs.dec (.sl tc ((BO g.cells (x.take j)).map eI))=BO g.cells (x.take j):=Dj _;cases o6:(x.take j).contains p with
   |true=>
    rw[i6 (by rw[j7,o6];rfl)];rw[o6]at x8;simp only[eZ,seval,V3,eY,lt_T c5,hg,lt_T e9,s5,k9,Tj,Trr_i,s2,Er,Cm,BH,As,htcok,x9,V1 x5,V1 q8,V1 hcf,hat,x8];exact Wk.tup (.cons (Wk.sl (.inr rfl)) (.cons (Wk.refl _) .nil))
   |false=>
    rw[o6]at x8;have q1:At H1 1 tc=True:=V1 m8.app;have q2:(j<=35184372088831)=True:=V1 zo;have q3:small (j+1) 8=True:=V1 (AP zo zd);simp only[eZ,seval,V3,eY,lt_T c5,hg,lt_T e9,s5,k9,Tj,Trr_i,s2,Er,Cm,BH,As,htcok,x9,V1 x5,V1 q8,V1 hcf,hat,x8,ej,q1,q2,q3,d5,fr1 d9];have w8:BO g.cells (x.take (j+1))=BO g.cells (x.take j)++[(lowB g.cells p:Int)]:=s9;refine .mk ⟨j+1,.own (n1+3) 1,hset (AL H1 tc) (n1+3) .tok,n1+5⟩ ?_ ⟨e9,zp,(AT m8 d9).hset (m:=n1+5) zo zo,λid d6=>?_,.inr (.inr ⟨n1+3,rfl,zo,AB ..⟩),.inl rfl,λq hq=>?_,?_,?_⟩ zp
    ·rw[w8,Vt];rfl
    ·simp only[];rw[AA _ _ _ _ zo,AX m8 (.inl d6)];exact hk id d6
    ·simp only[m4]at hq;rcases WH.1 hq with q1|q1
     ·exact t7 q q1
     ·rw[WV.1 q1];exact hpm
    ·simp only[];rw[m4,w7,j7,o6];rfl
    ·simp only[];rw[m4,Xo];refine⟨l9,zw,λa ha b hb e=>?_⟩;rw[WV]at hb;subst hb;subst e;rw[WA.2 ha]at o6;cases o6
 have x6:j=x.length:=zo
 subst x6;rw[WC,Vw]at w7;have hlx:(BO g.cells (x.take x.length)).length=x.length:=by rw[Fk,Vw]
 by_cases hx0:x.length=0
 ·have i6:rgsV g.cells lists= .tup [eLl [],.int .i64 130]:=j0 (by rw[heq,En,hx0];simp);rw[i6];simp only[eZ,seval,eY,lt_T c5,hg,lt_F e9,hlx,BA (show((x.length:Nat):Int)=0 by omega)];exact Wk.tup (.cons (Wk.sl (.inr rfl)) (.cons (Wk.refl _) .nil))
 have hEl:E.length<=64:=by
  have:=hE.len;simp only[V0,W0]at this;omega
 have i9:tkG 1 1 H1 tl:=by
  rcases c6 with rfl|rfl|⟨id,rfl,h1,h2⟩
  ·exact .inl rfl
  ·exact .inr (.inl rfl)
  ·exact .inr (.inr ⟨id,rfl,h1,by rw[hk id (d4.lt h2)];exact h2⟩)
 have q1:At H1 1 tl=True:=V1 i9.app;have q2:(E.length<=35184372088831)=True:=V1 zo;have q3:small (E.length+1) 24=True:=V1 (AP zo zd);simp only[eZ,seval,eY,lt_T c5,hg,lt_F e9,hlx,Az (show ¬((x.length:Nat):Int)=0 by omega),e,q1,q2,q3,fr1 d9];refine .mk ⟨i+1,E++[.sl tc ((BO g.cells x).map eI)],.own (n1+3) 1,hset (AL H1 tl) (n1+3) .tok,n1+5⟩ ?_ ⟨c5,zp,(AT i9 d9).hset (m:=n1+5) zo zo,?_,.inr (.inr ⟨n1+3,rfl,zo,AB ..⟩),.inl rfl,?_,?_⟩ zp
 ·rw[Vw]
 ·simp only[];rw[AA _ _ _ _ zo,AX i9 (.inl zo)];exact k9
 ·simp only[];rw[v9,Vt];exact hE.app (.cons (Wk.sl (r9.imp id λq=>by rw[X1.1 q];rfl)) .nil)
 ·simp only[];have i4:DT g.cells x=true:=by rw[En,w7];simp [F4];omega
  rw[heq,i4,Xs]
def FJ{α:Type}{p:α->Bool}{l:List α}{i:Nat}(h:i<l.length):(l.drop i).all p=(p l[i]&&(l.drop (i+1)).all p):=by
 rw[Wm h,Xr]
def p156(a b:List Int)(ha:few a)(hb:few b):Pur prog 156 [eIs a,eIs b] (.bool (Cd a b)):=by
 refine .mk ⟨Ai 0 _,Ai 0 _,trivial⟩ trivial (c156.a (AE OI (AF ?_)));have l5:a.length<1000000000:=ha;have s6:b.length<1000000000:=hb;simp only[eE,eN,seval,c156];refine AO (λi:Nat=>⟨[(0,true,eIs a),(1,true,eIs b),(5,true,.int .i64 i)],hnil,0⟩) (λi=>i<=a.length/\(a.all λx=>b.contains x)=((a.drop i).all λx=>b.contains x)) (λi=>a.length-i) 0 rfl ⟨V8 _,rfl⟩ ?_;rintro i ⟨hi,hc⟩;by_cases c5:i<a.length
 ·have hg:=V2 c5;have e:=AG (k:=i) zo;rw[FJ c5]at hc;generalize a[i]=x at hg hc;cases hx:b.contains x with
  |false=>
   have hR:Cd a b=false:=by unfold Cd;rw[hc,hx];simp
   rw[hR];simp only[eZ,seval,V6,eY,lt_T c5,hg,Tin,s2,Al,AZ,BH,As,V1 hb,hx,tadd]
  |true=>
   rw[hx,Xs]at hc;simp only[eZ,seval,V3,eY,lt_T c5,hg,e,Tin,s2,Al,AZ,BH,As,V1 hb,hx,tadd];exact .mk (i+1) rfl ⟨c5,hc⟩ zo
 obtain rfl:i=a.length:=zo
 rw[WC]at hc;have hc:(a.all λx=>b.contains x)=true:=hc;simp only[eZ,seval,V0,lt_F c5];refine AO (λi:Nat=>⟨[(0,true,eIs a),(1,true,eIs b),(6,true,.int .i64 i)],hnil,0⟩) (λi=>i<=b.length/\(b.all λx=>a.contains x)=((b.drop i).all λx=>a.contains x)) (λi=>b.length-i) 0 rfl ⟨V8 _,rfl⟩ ?_;rintro i ⟨hi2,x0⟩;by_cases i8:i<b.length
 ·have hg:=V2 i8;have e:=AG (k:=i) zo;rw[FJ i8]at x0;generalize b[i]=x at hg x0;cases hx:a.contains x with
  |false=>
   have hR:Cd a b=false:=by unfold Cd;rw[x0,hx];simp
   rw[hR];simp only[eZ,seval,V6,eY,lt_T i8,hg,Tin,s2,Al,AZ,BH,As,V1 ha,hx,tadd]
  |true=>
   rw[hx,Xs]at x0;simp only[eZ,seval,V3,eY,lt_T i8,hg,e,Tin,s2,Al,AZ,BH,As,V1 ha,hx,tadd];exact .mk (i+1) rfl ⟨i8,x0⟩ zo
 obtain rfl:i=b.length:=zo
 rw[WC]at x0;have x0:(b.all λx=>a.contains x)=true:=x0;have hR:Cd a b=true:=by unfold Cd;rw[hc,x0];rfl
 rw[hR];simp only[eZ,seval,V0,lt_F i8]
def Tzr:Tab:=tadd 35 (s2 dGd dLl (λg l=>Aj g.sh g.w g.h g.holes=some g.cells/\few g.holes/\Bl l) λg l=>rgsV g.cells l) (tadd 156 (s2 dIs dIs (λa b=>few a/\few b) λa b=>.bool (Cd a b)) tnil)
def Tzr_ok:AI prog Tzr:=(AI.tnil.add (q2 λa b h=>p156 a b h.1 h.2)).add (q2 λg l h=>p35 g l h.1 h.2.1 h.2.2)
def p94(d:Z8)(g:Zc)(hd:Z4 d)(hG:Aj g.sh g.w g.h g.holes=some g.cells)(hh:few g.holes):Pur prog 94 [encD d,Bt g] (.int .i64 (Cv g.cells d.regs)):=by
 refine .mk ⟨AW 0 d,Ar 0 ..,trivial⟩ trivial (c94.a (AE Tzr_ok (AF ?_)));have u9:d.regs.length<1000000000:=hd.rg;simp only[eE,eN,seval,c94];refine AO (λi:Nat=>⟨[(2,true,.ptr 0 0),(3,true,.ptr 1 0),(5,true,.int .i64 i)],hset (hset hnil 0 (.box (AK d))) 1 (.box (AH g.sh g.w g.h g.holes g.cells)),3⟩) (λi=>i<=d.regs.length/\Cv g.cells d.regs=Cv g.cells (d.regs.drop i)) (λi=>d.regs.length-i)
  0 rfl ⟨V8 _,rfl⟩ ?_
 rintro i ⟨hi,heq⟩;by_cases c5:i<d.regs.length;case neg=>
  obtain rfl:i=d.regs.length:=zo
  rw[WC]at heq;rw[heq];simp only[eZ,seval,V0,lt_F c5];rfl
 have hg:=V2 c5;have e:=AG (k:=i) zo;have hrf:Lq d.regs[i]:=hd.rgs _ (W1 c5);rw[KY _ _ _ c5]at heq;generalize d.regs[i]=r at hg hrf heq;have hc:=V1 (⟨hG,hh,hrf⟩:Aj g.sh g.w g.h g.holes=some g.cells/\few g.holes/\Bl r.ls);by_cases hb:(decide (r.ls.length<=64)&&r.ls.all (DT g.cells))=true;case neg=>
  have hv:rgsV g.cells r.ls= .tup [eLl [],.int .i64 130]:=V5 hb;have hE:regE g.cells r=130:=Vv (by simpa using hb);rw[hE,V5 zd]at heq;rw[heq];simp only[eZ,seval,V6,eY,lt_T c5,hg,Tzr,s2,Er,Cm,CL,Bk,hc,hv,tadd]
 have hv:rgsV g.cells r.ls= .tup [eLl (r.ls.map (BO g.cells)),.int .i64 0]:=Vv hb;have hregE:regE g.cells r=if Bg r.ls=true then 161 else 0:=by unfold regE;rw[hb,V5 zd]
 have m5:r.ls.length<1000000000:=hrf.1;have hfw:∀l∈r.ls,few l:=λl hl=>by
  obtain⟨q1,-,q3⟩:=Ed (W4.1 ((V7 _ _).mp hb).2 _ hl);have h1:=HW q1 q3;have h2:=(Ax hG).2.1;show l.length<_;omega
 simp only[eZ,seval,V3,eY,lt_T c5,hg,Tzr,s2,Er,Cm,CL,Bk,hc,hv,tadd];refine AO (λa:Nat=>⟨[(2,true,.ptr 0 0),(3,true,.ptr 1 0),(5,true,.int .i64 i),(6,true,eLl r.ls),(9,true,.int .i64 a)],hset (hset hnil 0 (.box (AK d))) 1 (.box (AH g.sh g.w g.h g.holes g.cells)),3⟩) (λa=>a<=r.ls.length/\∀x y (hx:x<r.ls.length) (hy:y<r.ls.length),x<a->y<x->Cd r.ls[x] r.ls[y]=false) (λa=>r.ls.length-a)
  0 rfl ⟨V8 _,λx y _ _ q=>absurd q (WE _)⟩ ?_
 rintro a ⟨ha,i6⟩;by_cases hla:a<r.ls.length
 ·have hga:=V2 hla;have ea:=AG (k:=a) zo;have hfa:few r.ls[a]:=hfw _ (W1 hla);simp only[eZ,seval,V0,lt_T hla];refine AO (λb:Nat=>⟨[(2,true,.ptr 0 0),(3,true,.ptr 1 0),(5,true,.int .i64 i),(6,true,eLl r.ls),(9,true,.int .i64 a),(10,true,.int .i64 b)],hset (hset hnil 0 (.box (AK d))) 1 (.box (AH g.sh g.w g.h g.holes g.cells)),3⟩) (λb=>b<=a/\∀y (hy:y<r.ls.length),y<b->Cd r.ls[a] r.ls[y]=false) (λb=>a-b)
   0 rfl ⟨V8 _,λy _ q=>absurd q (WE _)⟩ ?_
  rintro b ⟨l0,hnb⟩;by_cases hlb:b<a
  ·have s6:b<r.ls.length:=zo
   have d7:=V2 s6;have eb:=AG (k:=b) zo;have hfb:few r.ls[b]:=hfw _ (W1 s6);cases l5:Cd r.ls[a] r.ls[b]with
   |true=>
    rw[hregE,Vv (Fj.2 ⟨a,b,hla,s6,hlb,l5⟩),V5 zd]at heq;rw[heq];generalize r.ls[a]=la at hga hfa l5;generalize r.ls[b]=lb at d7 hfb l5;simp only[eZ,seval,eY,lt_T hlb,lt_T hla,lt_T s6,hga,d7,Tzr,s2,Al,AZ,V1 hfa,V1 hfb,l5,tadd]
   |false=>
    have hnx:∀y (hy:y<r.ls.length),y<b+1->Cd r.ls[a] r.ls[y]=false:=λy hy q=>by
     by_cases z:y=b
     ·subst z;exact l5
     ·exact hnb y hy zo
    generalize hA:r.ls[a]=la at hga hfa l5;generalize hB:r.ls[b]=lb at d7 hfb l5;simp only[eZ,seval,eY,lt_T hlb,lt_T hla,lt_T s6,hga,d7,Tzr,s2,Al,AZ,V1 hfa,V1 hfb,l5,eb,tadd];exact .mk (b+1) rfl ⟨hlb,λy hy q=>by rw[<-hA];exact hnx y hy q⟩ zo
  obtain rfl:b=a:=zo
  simp only[eZ,seval,lt_F hlb,ea];refine .mk (b+1) rfl ⟨hla,λx y hx hy q1 q2=>?_⟩ zo;by_cases z:x=b
  ·subst z;exact hnb y hy q2
  ·exact i6 x y hx hy zo q2
 obtain rfl:a=r.ls.length:=zo
 have hpt:Bg r.ls=false:=by
  cases q:Bg r.ls with
  |false=>rfl
  |true=>
   obtain⟨x,y,hx,hy,i5,h2⟩:=Fj.1 q;rw[i6 x y hx hy hx i5]at h2;cases h2
 have hE0:regE g.cells r=0:=by rw[hregE,hpt];rfl
 rw[hE0,Vv rfl]at heq;simp only[eZ,seval,V0,lt_F hla,e];exact .mk (i+1) rfl ⟨c5,heq⟩ zo
def p158(c:Z5):Pur prog 158 [Bz c] (.bool (Db c)):=by
 refine .mk ⟨D2 0 c,trivial⟩ trivial (c158.a (AE AI.tnil (AF ?_)));unfold Db;by_cases h1:c.ty=1
 ·simp only[eZ,seval,c158,h1]
 by_cases h2:c.ty=2
 ·simp only[eZ,seval,c158,h2]
 by_cases h3:c.ty=3
 ·simp only[eZ,seval,c158,h3];rw[show(decide (1<=c.fam)&&decide (c.fam<=3)||decide (8<=c.fam))=(decide (c.fam=1)||decide (c.fam=2)||decide (c.fam=3)||decide (8<=c.fam))by
   rw[Wg];simp;omega]
 simp only[eZ,seval,c158,h1,h2,h3]
def p206(d:Z8)(r:Yz)(w:Int)(on:Bool):Pur prog 206 [encD d,BQ r,.int .i64 w,.bool on] (.bool (Cw d.clus r w on)):=by
 refine .mk ⟨AW 0 d,Ao 0 r,trivial,trivial,trivial⟩ trivial (c206.a (AE AI.tnil (AF ?_)));by_cases hc:r.clue<0\/(d.clus.length:Int)<=r.clue
 ·have hcb:(decide (r.clue<0)||decide ((d.clus.length:Int)<=r.clue))=true:=by simpa using hc
  have hP:Cw d.clus r w on=false:=by unfold Cw;rw[Vv hc]
  rw[hP];simp only[eZ,seval,V0,c206,hcb]
 ·have hcb:(decide (r.clue<0)||decide ((d.clus.length:Int)<=r.clue))=false:=by simp;omega
  obtain⟨j,hj⟩:∃j:Nat,r.clue=(j:Int):=⟨r.clue.toNat,zo⟩;have u0:j<d.clus.length:=zo
  have hg:=V2 u0;generalize d.clus[j]=c at hg;have hP:Cw d.clus r w on=(decide (c.ty=w)&&(!on||decide (c.fam=r.fam))):=by
   unfold Cw;(rw[V5 hc,hj,Vy,hg])<;>rfl
  rw[hP];rw[hj]at hcb;cases on
  ·simp only[eZ,seval,V3,V6,eY,c206,hj,hcb,lt_T u0,hg]
  ·simp only[eZ,seval,V3,eY,c206,hj,hcb,lt_T u0,hg]
def sCl:List Fs->AC->Prop×Fs:=λa H=>match a with
 |[x,y,.int .i64 w,.bool on]=>(dD.ok x/\dRu.ok y,.bool (Cw (dD.dec x).clus (dRu.dec y) w on))
 |_=>(False,.tup [])
def qCl:∀args H n,(sCl args H).1->Ab prog 206 args H n (sCl args H).2:=by
 intro args H n hh;unfold sCl at hh⊢;split at hh
 ·obtain⟨h1,h2⟩:=hh;refine AN.args ((p206 _ _ _ _).quiet H n) ?_;rintro g vs ⟨v,r,rfl,k1,w,r',rfl,k2,k3⟩;exact⟨v,_,rfl,dD.wk _ h1 _ _ k1,w,_,rfl,dRu.wk _ h2 _ _ k2,k3⟩
 ·exact hh.elim
def Tzc:Tab:=tadd 206 sCl tnil
def Sq:AI prog Tzc:=AI.tnil.add qCl
theorem Tzc_e(x y:Fs)(w:Int)(on:Bool)(H:AC):Tzc 206 [x,y,.int .i64 w,.bool on] H=(dD.ok x/\dRu.ok y,.bool (Cw (dD.dec x).clus (dRu.dec y) w on)):=rfl
def p205(d:Z8)(r:Yz):Pur prog 205 [encD d,BQ r] (.bool (D8 d.clus r)):=by
 refine .mk ⟨AW 0 d,Ao 0 r,trivial⟩ trivial (c205.a (AE Sq (AF ?_)));unfold D8;by_cases ho:r.op<1\/3<r.op
 ·have hb:(decide (r.op<1)||decide (3<r.op))=true:=by simpa using ho
  rw[Vv ho];simp only[eZ,seval,c205,hb]
 have hb:(decide (r.op<1)||decide (3<r.op))=false:=by simp;omega
 rw[V5 ho];by_cases hn:r.byN=[]
 ·rw[Vv hn];simp only[eZ,seval,c205,hb,A4,BA hn]
 ·rw[V5 hn];simp only[eZ,seval,c205,hb,A4,Az hn,Tzc_e,A3,Ak,BV,A7]
def sndA:Yw->Yw
 | .seq _ b=>b
 |c=>c
def sndN:Nat->Yw->Yw
 |0,c=>c
 |k+1,c=>sndN k (sndA c)
def putN:Nat->Yw->Yw->Yw
 |0,_,R=>R
 |k+1,.seq a b,R=>.seq a (putN k b R)
 |_+1,c,_=>c
def Tru:Tab:=tadd 205 (s2 dD dRu any2 λd r=>.bool (D8 d.clus r)) Tzc
def Tru_ok:AI prog Tru:=Sq.add (q2 λd r _=>p205 d r)
theorem Q8(a:List Fs)(H:AC):Tru 205 a H=s2 dD dRu any2 (λd r=>.bool (D8 d.clus r)) a H:=rfl
theorem Q9(x y:Fs)(w:Int)(on:Bool)(H:AC):Tru 206 [x,y,.int .i64 w,.bool on] H=(dD.ok x/\dRu.ok y,.bool (Cw (dD.dec x).clus (dRu.dec y) w on)):=rfl
def rstR(cl:List Z5)(r:Yz)(on set oth num by' lim:Bool):Bool:=
 if(!on&&(decide (r.on≠[])||decide (r.fam≠0)))||(!set&&(decide (0<r.ns.length)||decide (r.set≠0)))||(!oth&&(decide (0<r.os.length)||decide (r.oth≠0)))then false
 else if(on&&decide (r.on=[]))||(set&&decide (r.set=0))||(oth&&decide (r.oth=0))then false
 else if !lim&&(decide (r.op≠0)||(!num&&decide (r.n≠0))||(!by'&&(decide (r.byN≠[])||decide (r.clue≠ -1))))then false
 else if(lim&& !D8 cl r)||(num&&(decide (r.n<0)||decide (65536<r.n)))then false
 else if r.kind=5 then Cw cl r 3 true
 else if r.kind=11 then Cw cl r 1 false else true
theorem RA:c157=putN 8 c157 (sndN 8 c157):=rfl
def rr1(d:Z8)(r:Yz)(on set oth num by' lim:Bool)(X:List (Nat×Bool×Fs))(hA1:(!on&&(!decide (r.on=[])|| !decide (r.fam=0))|| !set&&(decide (0<r.ns.length)|| !decide (r.set=0))|| !oth&&(decide (0<r.os.length)|| !decide (r.oth=0)))=true):evK prog Tru (sndN 8 c157) [] (Cb [.t 4] (Ret (.bool (false))))
  ⟨(2,true,.ptr 0 0)::(3,true,.ptr 1 0)::(5,true,.bool on)::(6,true,.bool set)::(7,true,.bool oth)::(8,true,.bool num)::(9,true,.bool by')::(10,true,.bool lim)::X,hset (hset hnil 0 (.box (AK d))) 1 (.box (A6 r)),3⟩:=by
 have e1:∀(l:List Bs),decide ((0:Int)<(l.length:Int))=decide (0<l.length):=λl=>by
  rw[Wg,Vu,Vu];omega
 simp only[eZ,seval,V0,c157,sndN,sndA,Ap,e1,hA1]
def rr2(d:Z8)(r:Yz)(on set oth num by' lim:Bool)(X:List (Nat×Bool×Fs))(hA1:(!on&&(!decide (r.on=[])|| !decide (r.fam=0))|| !set&&(decide (0<r.ns.length)|| !decide (r.set=0))|| !oth&&(decide (0<r.os.length)|| !decide (r.oth=0)))=false)(hA2:(on&&decide (r.on=[])||set&&decide (r.set=0)||oth&&decide (r.oth=0))=true):evK prog Tru (sndN 8 c157) [] (Cb [.t 4] (Ret (.bool (false))))
  ⟨(2,true,.ptr 0 0)::(3,true,.ptr 1 0)::(5,true,.bool on)::(6,true,.bool set)::(7,true,.bool oth)::(8,true,.bool num)::(9,true,.bool by')::(10,true,.bool lim)::X,hset (hset hnil 0 (.box (AK d))) 1 (.box (A6 r)),3⟩:=by
 have e1:∀(l:List Bs),decide ((0:Int)<(l.length:Int))=decide (0<l.length):=λl=>by
  rw[Wg,Vu,Vu];omega
 simp only[eZ,seval,V0,c157,sndN,sndA,Ap,A4,e1,hA1,hA2]
def rr3(d:Z8)(r:Yz)(on set oth num by':Bool)(X:List (Nat×Bool×Fs))(hA1:(!on&&(!decide (r.on=[])|| !decide (r.fam=0))|| !set&&(decide (0<r.ns.length)|| !decide (r.set=0))|| !oth&&(decide (0<r.os.length)|| !decide (r.oth=0)))=false)(hA2:(on&&decide (r.on=[])||set&&decide (r.set=0)||oth&&decide (r.oth=0))=false)(hA3:(!decide (r.op=0)|| !num&& !decide (r.n=0)|| !by'&&(!decide (r.byN=[])|| !decide (r.clue= -1)))=true):evK prog Tru (sndN 8 c157) [] (Cb [.t 4] (Ret (.bool (false))))
  ⟨(2,true,.ptr 0 0)::(3,true,.ptr 1 0)::(5,true,.bool on)::(6,true,.bool set)::(7,true,.bool oth)::(8,true,.bool num)::(9,true,.bool by')::(10,true,.bool false)::X,hset (hset hnil 0 (.box (AK d))) 1 (.box (A6 r)),3⟩:=by
 have e1:∀(l:List Bs),decide ((0:Int)<(l.length:Int))=decide (0<l.length):=λl=>by
  rw[Wg,Vu,Vu];omega
 simp only[eZ,seval,V6,V0,c157,sndN,sndA,Ap,A4,e1,hA1,hA2,hA3]
def rr4a(d:Z8)(r:Yz)(on set oth num by':Bool)(X:List (Nat×Bool×Fs))(hA1:(!on&&(!decide (r.on=[])|| !decide (r.fam=0))|| !set&&(decide (0<r.ns.length)|| !decide (r.set=0))|| !oth&&(decide (0<r.os.length)|| !decide (r.oth=0)))=false)(hA2:(on&&decide (r.on=[])||set&&decide (r.set=0)||oth&&decide (r.oth=0))=false)(hb:(!D8 d.clus r||num&&(decide (r.n<0)||decide (65536<r.n)))=true):evK prog Tru (sndN 8 c157) [] (Cb [.t 4] (Ret (.bool (false))))
  ⟨(2,true,.ptr 0 0)::(3,true,.ptr 1 0)::(5,true,.bool on)::(6,true,.bool set)::(7,true,.bool oth)::(8,true,.bool num)::(9,true,.bool by')::(10,true,.bool true)::X,hset (hset hnil 0 (.box (AK d))) 1 (.box (A6 r)),3⟩:=by
 have e1:∀(l:List Bs),decide ((0:Int)<(l.length:Int))=decide (0<l.length):=λl=>by
  rw[Wg,Vu,Vu];omega
 simp only[eZ,seval,V3,V0,c157,sndN,sndA,Ap,A4,e1,hA1,hA2,Tru,s2,A3,Ak,BV,A7,hb,tadd]
def rr4b(d:Z8)(r:Yz)(on set oth num by':Bool)(X:List (Nat×Bool×Fs))(hA1:(!on&&(!decide (r.on=[])|| !decide (r.fam=0))|| !set&&(decide (0<r.ns.length)|| !decide (r.set=0))|| !oth&&(decide (0<r.os.length)|| !decide (r.oth=0)))=false)(hA2:(on&&decide (r.on=[])||set&&decide (r.set=0)||oth&&decide (r.oth=0))=false)(hb:(!D8 d.clus r||num&&(decide (r.n<0)||decide (65536<r.n)))=false)(h5:r.kind=5):evK prog Tru (sndN 8 c157) [] (Cb [.t 4] (Ret (.bool (Cw d.clus r 3 true))))
  ⟨(2,true,.ptr 0 0)::(3,true,.ptr 1 0)::(5,true,.bool on)::(6,true,.bool set)::(7,true,.bool oth)::(8,true,.bool num)::(9,true,.bool by')::(10,true,.bool true)::X,hset (hset hnil 0 (.box (AK d))) 1 (.box (A6 r)),3⟩:=by
 have e1:∀(l:List Bs),decide ((0:Int)<(l.length:Int))=decide (0<l.length):=λl=>by
  rw[Wg,Vu,Vu];omega
 simp only[eZ,seval,V3,V0,c157,sndN,sndA,Ap,A4,e1,hA1,hA2,Q8,Q9,s2,A3,Ak,BV,A7,hb,BA h5]
def rr4c(d:Z8)(r:Yz)(on set oth num by':Bool)(X:List (Nat×Bool×Fs))(hA1:(!on&&(!decide (r.on=[])|| !decide (r.fam=0))|| !set&&(decide (0<r.ns.length)|| !decide (r.set=0))|| !oth&&(decide (0<r.os.length)|| !decide (r.oth=0)))=false)(hA2:(on&&decide (r.on=[])||set&&decide (r.set=0)||oth&&decide (r.oth=0))=false)(hb:(!D8 d.clus r||num&&(decide (r.n<0)||decide (65536<r.n)))=false)(h5:¬r.kind=5)(h11:r.kind=11):evK prog Tru (sndN 8 c157) [] (Cb [.t 4] (Ret (.bool (Cw d.clus r 1 false))))
  ⟨(2,true,.ptr 0 0)::(3,true,.ptr 1 0)::(5,true,.bool on)::(6,true,.bool set)::(7,true,.bool oth)::(8,true,.bool num)::(9,true,.bool by')::(10,true,.bool true)::X,hset (hset hnil 0 (.box (AK d))) 1 (.box (A6 r)),3⟩:=by
 have e1:∀(l:List Bs),decide ((0:Int)<(l.length:Int))=decide (0<l.length):=λl=>by
  rw[Wg,Vu,Vu];omega
 simp only[eZ,seval,V3,V0,c157,sndN,sndA,Ap,A4,e1,hA1,hA2,Q8,Q9,s2,A3,Ak,BV,A7,hb,Az h5,V1 h11]
def rr4d(d:Z8)(r:Yz)(on set oth num by':Bool)(X:List (Nat×Bool×Fs))(hA1:(!on&&(!decide (r.on=[])|| !decide (r.fam=0))|| !set&&(decide (0<r.ns.length)|| !decide (r.set=0))|| !oth&&(decide (0<r.os.length)|| !decide (r.oth=0)))=false)(hA2:(on&&decide (r.on=[])||set&&decide (r.set=0)||oth&&decide (r.oth=0))=false)(hb:(!D8 d.clus r||num&&(decide (r.n<0)||decide (65536<r.n)))=false)(h5:¬r.kind=5)(h11:¬r.kind=11):evK prog Tru (sndN 8 c157) [] (Cb [.t 4] (Ret (.bool (true))))
  ⟨(2,true,.ptr 0 0)::(3,true,.ptr 1 0)::(5,true,.bool on)::(6,true,.bool set)::(7,true,.bool oth)::(8,true,.bool num)::(9,true,.bool by')::(10,true,.bool true)::X,hset (hset hnil 0 (.box (AK d))) 1 (.box (A6 r)),3⟩:=by
 have e1:∀(l:List Bs),decide ((0:Int)<(l.length:Int))=decide (0<l.length):=λl=>by
  rw[Wg,Vu,Vu];omega
 simp only[eZ,seval,V3,V6,V0,c157,sndN,sndA,Ap,A4,e1,hA1,hA2,Tru,s2,A3,Ak,BV,A7,hb,Az h5,Vs h11,tadd]
def rr5a(d:Z8)(r:Yz)(on set oth num by':Bool)(X:List (Nat×Bool×Fs))(hA1:(!on&&(!decide (r.on=[])|| !decide (r.fam=0))|| !set&&(decide (0<r.ns.length)|| !decide (r.set=0))|| !oth&&(decide (0<r.os.length)|| !decide (r.oth=0)))=false)(hA2:(on&&decide (r.on=[])||set&&decide (r.set=0)||oth&&decide (r.oth=0))=false)(hA3:(!decide (r.op=0)|| !num&& !decide (r.n=0)|| !by'&&(!decide (r.byN=[])|| !decide (r.clue= -1)))=false)(hb:(num&&(decide (r.n<0)||decide (65536<r.n)))=true):evK prog Tru (sndN 8 c157) [] (Cb [.t 4] (Ret (.bool (false))))
  ⟨(2,true,.ptr 0 0)::(3,true,.ptr 1 0)::(5,true,.bool on)::(6,true,.bool set)::(7,true,.bool oth)::(8,true,.bool num)::(9,true,.bool by')::(10,true,.bool false)::X,hset (hset hnil 0 (.box (AK d))) 1 (.box (A6 r)),3⟩:=by
 have e1:∀(l:List Bs),decide ((0:Int)<(l.length:Int))=decide (0<l.length):=λl=>by
  rw[Wg,Vu,Vu];omega
 simp only[eZ,seval,V6,V0,c157,sndN,sndA,Ap,A4,e1,hA1,hA2,hA3,Tru,s2,A3,Ak,BV,A7,hb,tadd]
def rr5b(d:Z8)(r:Yz)(on set oth num by':Bool)(X:List (Nat×Bool×Fs))(hA1:(!on&&(!decide (r.on=[])|| !decide (r.fam=0))|| !set&&(decide (0<r.ns.length)|| !decide (r.set=0))|| !oth&&(decide (0<r.os.length)|| !decide (r.oth=0)))=false)(hA2:(on&&decide (r.on=[])||set&&decide (r.set=0)||oth&&decide (r.oth=0))=false)(hA3:(!decide (r.op=0)|| !num&& !decide (r.n=0)|| !by'&&(!decide (r.byN=[])|| !decide (r.clue= -1)))=false)(hb:(num&&(decide (r.n<0)||decide (65536<r.n)))=false)(h5:r.kind=5):evK prog Tru (sndN 8 c157) [] (Cb [.t 4] (Ret (.bool (Cw d.clus r 3 true))))
  ⟨(2,true,.ptr 0 0)::(3,true,.ptr 1 0)::(5,true,.bool on)::(6,true,.bool set)::(7,true,.bool oth)::(8,true,.bool num)::(9,true,.bool by')::(10,true,.bool false)::X,hset (hset hnil 0 (.box (AK d))) 1 (.box (A6 r)),3⟩:=by
 have e1:∀(l:List Bs),decide ((0:Int)<(l.length:Int))=decide (0<l.length):=λl=>by
  rw[Wg,Vu,Vu];omega
 simp only[eZ,seval,V6,V0,c157,sndN,sndA,Ap,A4,e1,hA1,hA2,hA3,Q8,Q9,s2,A3,Ak,BV,A7,hb,BA h5]
def rr5c(d:Z8)(r:Yz)(on set oth num by':Bool)(X:List (Nat×Bool×Fs))(hA1:(!on&&(!decide (r.on=[])|| !decide (r.fam=0))|| !set&&(decide (0<r.ns.length)|| !decide (r.set=0))|| !oth&&(decide (0<r.os.length)|| !decide (r.oth=0)))=false)(hA2:(on&&decide (r.on=[])||set&&decide (r.set=0)||oth&&decide (r.oth=0))=false)(hA3:(!decide (r.op=0)|| !num&& !decide (r.n=0)|| !by'&&(!decide (r.byN=[])|| !decide (r.clue= -1)))=false)(hb:(num&&(decide (r.n<0)||decide (65536<r.n)))=false)(h5:¬r.kind=5)(h11:r.kind=11):evK prog Tru (sndN 8 c157) [] (Cb [.t 4] (Ret (.bool (Cw d.clus r 1 false))))
  ⟨(2,true,.ptr 0 0)::(3,true,.ptr 1 0)::(5,true,.bool on)::(6,true,.bool set)::(7,true,.bool oth)::(8,true,.bool num)::(9,true,.bool by')::(10,true,.bool false)::X,hset (hset hnil 0 (.box (AK d))) 1 (.box (A6 r)),3⟩:=by
 have e1:∀(l:List Bs),decide ((0:Int)<(l.length:Int))=decide (0<l.length):=λl=>by
  rw[Wg,Vu,Vu];omega
 simp only[eZ,seval,V3,V6,V0,c157,sndN,sndA,Ap,A4,e1,hA1,hA2,hA3,Q8,Q9,s2,A3,Ak,BV,A7,hb,Az h5,V1 h11]
def rr5d(d:Z8)(r:Yz)(on set oth num by':Bool)(X:List (Nat×Bool×Fs))(hA1:(!on&&(!decide (r.on=[])|| !decide (r.fam=0))|| !set&&(decide (0<r.ns.length)|| !decide (r.set=0))|| !oth&&(decide (0<r.os.length)|| !decide (r.oth=0)))=false)(hA2:(on&&decide (r.on=[])||set&&decide (r.set=0)||oth&&decide (r.oth=0))=false)(hA3:(!decide (r.op=0)|| !num&& !decide (r.n=0)|| !by'&&(!decide (r.byN=[])|| !decide (r.clue= -1)))=false)(hb:(num&&(decide (r.n<0)||decide (65536<r.n)))=false)(h5:¬r.kind=5)(h11:¬r.kind=11):evK prog Tru (sndN 8 c157) [] (Cb [.t 4] (Ret (.bool (true))))
  ⟨(2,true,.ptr 0 0)::(3,true,.ptr 1 0)::(5,true,.bool on)::(6,true,.bool set)::(7,true,.bool oth)::(8,true,.bool num)::(9,true,.bool by')::(10,true,.bool false)::X,hset (hset hnil 0 (.box (AK d))) 1 (.box (A6 r)),3⟩:=by
 have e1:∀(l:List Bs),decide ((0:Int)<(l.length:Int))=decide (0<l.length):=λl=>by
  rw[Wg,Vu,Vu];omega
 simp only[eZ,seval,V3,V6,V0,c157,sndN,sndA,Ap,A4,e1,hA1,hA2,hA3,Tru,s2,A3,Ak,BV,A7,hb,Az h5,Vs h11,tadd]
theorem OL(d:Z8)(r:Yz)(on set oth num by' lim:Bool)(X:List (Nat×Bool×Fs)):evK prog Tru (sndN 8 c157) [] (Cb [.t 4] (Ret (.bool (rstR d.clus r on set oth num by' lim))))
  ⟨(2,true,.ptr 0 0)::(3,true,.ptr 1 0)::(5,true,.bool on)::(6,true,.bool set)::(7,true,.bool oth)::(8,true,.bool num)::(9,true,.bool by')::(10,true,.bool lim)::X,hset (hset hnil 0 (.box (AK d))) 1 (.box (A6 r)),3⟩:=by
 unfold rstR;simp only[ne_eq,decide_not];cases hA1:(!on&&(!decide (r.on=[])|| !decide (r.fam=0))|| !set&&(decide (0<r.ns.length)|| !decide (r.set=0))|| !oth&&(decide (0<r.os.length)|| !decide (r.oth=0)))with
 |true=>rw[Vv rfl];exact rr1 d r on set oth num by' lim X hA1
 |false=>
 rw[V5 zd];cases hA2:(on&&decide (r.on=[])||set&&decide (r.set=0)||oth&&decide (r.oth=0))with
 |true=>rw[Vv rfl];exact rr2 d r on set oth num by' lim X hA1 hA2
 |false=>
 rw[V5 zd];cases lim with
 |true=>
  rw[V3,Xn,V5 zd,Xs];cases hb:(!D8 d.clus r||num&&(decide (r.n<0)||decide (65536<r.n)))with
  |true=>rw[Vv rfl];exact rr4a d r on set oth num by' X hA1 hA2 hb
  |false=>
  rw[V5 zd];by_cases h5:r.kind=5
  ·rw[Vv h5];exact rr4b d r on set oth num by' X hA1 hA2 hb h5
  rw[V5 h5];by_cases h11:r.kind=11
  ·rw[Vv h11];exact rr4c d r on set oth num by' X hA1 hA2 hb h5 h11
  rw[V5 h11];exact rr4d d r on set oth num by' X hA1 hA2 hb h5 h11
 |false=>
  rw[V6,Xs,Xn,Xx];cases hA3:(!decide (r.op=0)|| !num&& !decide (r.n=0)|| !by'&&(!decide (r.byN=[])|| !decide (r.clue= -1)))with
  |true=>rw[Vv rfl];exact rr3 d r on set oth num by' X hA1 hA2 hA3
  |false=>
  rw[V5 zd];cases hb:(num&&(decide (r.n<0)||decide (65536<r.n)))with
  |true=>rw[Vv rfl];exact rr5a d r on set oth num by' X hA1 hA2 hA3 hb
  |false=>
  rw[V5 zd];by_cases h5:r.kind=5
  ·rw[Vv h5];exact rr5b d r on set oth num by' X hA1 hA2 hA3 hb h5
  rw[V5 h5];by_cases h11:r.kind=11
  ·rw[Vv h11];exact rr5c d r on set oth num by' X hA1 hA2 hA3 hb h5 h11
  rw[V5 h11];exact rr5d d r on set oth num by' X hA1 hA2 hA3 hb h5 h11
def p157(d:Z8)(r:Yz):Pur prog 157 [encD d,BQ r] (.bool (EX d.clus r)):=by
 refine .mk ⟨AW 0 d,Ao 0 r,trivial⟩ trivial (c157.a (AE Tru_ok (AF ?_)));have hrest:=OL d r;rw[RA];rw[VZ];have t9:∀on set oth num by' lim rdb clue,Ck r.kind=⟨on,set,oth,lim,num,rdb,true,clue⟩->by'=decide (clue≠0)->IZ d.clus r=rstR d.clus r on set oth num by' lim:=λon set oth num by' lim rdb clue h q=>by
  subst q;unfold IZ rstR;rw[h];rfl
 by_cases hk:r.kind<1\/13<r.kind
 ·have hR:IZ d.clus r=false:=by
   have hkn:(Ck r.kind).knw=false:=by unfold Ck;repeat rw[V5 zo]
   unfold IZ;simp only[];rw[Vv hkn]
  have n1:(r.kind=1)=False:=Vs zo;have n2:(r.kind=2)=False:=Vs zo;have n3:(r.kind=3)=False:=Vs zo;have n4:(r.kind=4)=False:=Vs zo;have n5:(r.kind=5)=False:=Vs zo;have n6:(r.kind=6)=False:=Vs zo;have n7:(r.kind=7)=False:=Vs zo;have n8:(r.kind=8)=False:=Vs zo;have n9:(r.kind=9)=False:=Vs zo;have n10:(r.kind=10)=False:=Vs zo;have n11:(r.kind=11)=False:=Vs zo;have n12:(r.kind=12)=False:=Vs zo;have n13:(r.kind=13)=False:=Vs zo;rw[hR];generalize sndN 8 c157=R;simp only[eZ,seval,c157,putN,n1,n2,n3,n4,n5,n6,n7,n8,n9,n10,n11,n12,n13]
 generalize sndN 8 c157=R at hrest⊢;have hk2:r.kind=1\/r.kind=2\/r.kind=3\/r.kind=4\/r.kind=5\/r.kind=6\/r.kind=7\/r.kind=8\/r.kind=9\/r.kind=10\/r.kind=11\/r.kind=12\/r.kind=13:=zo
 rcases hk2 with hk2|hk2|hk2|hk2|hk2|hk2|hk2|hk2|hk2|hk2|hk2|hk2|hk2
 all_goals
  rw[t9 _ _ _ _ _ _ _ _ (by rw[hk2];rfl) rfl];simp only[eZ,seval,c157,putN,hk2];exact hrest _ _ _ _ _ _ _
def Tfo:Tab:=tadd 157 (s2 dD dRu any2 λd r=>.bool (EX d.clus r)) (tadd 158 (s1 dCl any1 λc=>.bool (Db c)) tnil)
def Tfo_ok:AI prog Tfo:=(AI.tnil.add (q1 λc _=>p158 c)).add (q2 λd r _=>p157 d r)
def p95(d:Z8)(hd:Z4 d):Pur prog 95 [encD d] (.bool (Bb d)):=by
 refine .mk ⟨AW 0 d,trivial⟩ trivial (c95.a (AE Tfo_ok (AF ?_)));have hsl:d.syms.length<1000000000:=hd.sy;have u9:d.ruls.length<1000000000:=hd.ru;have hcl:d.clus.length<1000000000:=hd.cl;simp only[eE,eN,seval,c95];refine AO (λi:Nat=>⟨[(1,true,.ptr 0 0),(3,true,.int .i64 i)],hset hnil 0 (.box (AK d)),2⟩) (λi=>i<=d.syms.length/\(d.syms.all λs=>decide (0<=s.v)&&decide (s.v<=99))=((d.syms.drop i).all λs=>decide (0<=s.v)&&decide (s.v<=99))) (λi=>d.syms.length-i)
  0 rfl ⟨V8 _,rfl⟩ ?_
 rintro i ⟨hi,hall⟩;by_cases c5:i<d.syms.length
 ·have hg:=V2 c5;have e:=AG (k:=i) zo;rw[FJ c5]at hall;generalize d.syms[i]=s at hg hall;by_cases hs:0<=s.v/\s.v<=99
  ·have hb:(decide (s.v<0)||decide (99<s.v))=false:=by simp;omega
   simp only[eZ,seval,eY,lt_T c5,hg,e,hb];exact .mk (i+1) rfl ⟨c5,by rw[hall,BA hs.1,BA hs.2];rfl⟩ zo
  ·have hb:(decide (s.v<0)||decide (99<s.v))=true:=by simp;omega
   have hR:Bb d=false:=by
    unfold Bb;rw[hall,show(decide (0<=s.v)&&decide (s.v<=99))=false by simp;omega];rfl
   rw[hR];simp only[eZ,seval,eY,lt_T c5,hg,hb]
 obtain rfl:i=d.syms.length:=zo
 rw[WC]at hall;simp only[eZ,seval,V0,lt_F c5];refine AO (λi:Nat=>⟨[(1,true,.ptr 0 0),(4,true,.int .i64 i)],hset hnil 0 (.box (AK d)),2⟩) (λi=>i<=d.ruls.length/\d.ruls.all (EX d.clus)=(d.ruls.drop i).all (EX d.clus)) (λi=>d.ruls.length-i)
  0 rfl ⟨V8 _,rfl⟩ ?_
 rintro k ⟨hk,i4⟩;by_cases hlk:k<d.ruls.length
 ·have hg:=V2 hlk;have e:=AG (k:=k) zo;rw[FJ hlk]at i4;generalize d.ruls[k]=r at hg i4;cases hr:EX d.clus r with
  |false=>
   have hR:Bb d=false:=by
    unfold Bb;rw[i4,hr];simp
   rw[hR];simp only[eZ,seval,V6,eY,lt_T hlk,hg,Tfo,s2,A3,Ak,BV,A7,hr,tadd]
  |true=>
   rw[hr,Xs]at i4;simp only[eZ,seval,V3,eY,lt_T hlk,hg,Tfo,s2,A3,Ak,BV,A7,hr,e,tadd];exact .mk (k+1) rfl ⟨hlk,i4⟩ zo
 obtain rfl:k=d.ruls.length:=zo
 rw[WC]at i4;simp only[eZ,seval,V0,lt_F hlk];refine AO (λj:Nat=>⟨[(1,true,.ptr 0 0),(5,true,.int .i64 j)],hset hnil 0 (.box (AK d)),2⟩) (λi=>i<=d.clus.length/\∀j (h:j<d.clus.length),j<i->D0 d.ruls j=1/\Db d.clus[j]=true) (λi=>d.clus.length-i)
  0 rfl ⟨V8 _,λj h q=>absurd q (WE _)⟩ ?_
 rintro j ⟨hj,l5⟩;by_cases e9:j<d.clus.length
 ·have hg:=V2 e9;have ej:=AG (k:=j) zo;have j0:¬(D0 d.ruls j=1/\Db d.clus[j]=true)->Bb d=false:=λq=>by
   unfold Bb;rw[hall,i4];cases q1:((List.range d.clus.length).all λi=>decide (D0 d.ruls i=1))with
   |false=>rfl
   |true=>
   cases q2:d.clus.all Db with
   |false=>rfl
   |true=>exact absurd ⟨Wn (W4.1 q1 j (Wy.2 e9)),W4.1 q2 _ (W1 e9)⟩ q
  have m9:D0 d.ruls j=1/\Db d.clus[j]=true->∀q (h:q<d.clus.length),q<j+1->D0 d.ruls q=1/\Db d.clus[q]=true:=λz q h hq=>by
   by_cases w:q=j
   ·subst w;exact z
   ·exact l5 q h zo
  generalize hx:d.clus[j]=x at hg j0 m9;simp only[eZ,seval,V0,lt_T e9];refine AO (λk:Nat=>⟨[(1,true,.ptr 0 0),(5,true,.int .i64 j),(6,true,.int .i64 (cntZ (d.ruls.take k) j)),(7,true,.int .i64 k)],hset hnil 0 (.box (AK d)),2⟩) (λk=>k<=d.ruls.length) (λk=>d.ruls.length-k)
   0 rfl (V8 _) ?_
  intro k hk;by_cases hlk:k<d.ruls.length
  ·have hgk:=V2 hlk;have ek:=AG (k:=k) zo;have c6:d.ruls.take (k+1)=d.ruls.take k++[d.ruls[k]]:=by rw[Vx,V2 hlk];rfl
   have hcle:=TW (d.ruls.take k) (j:Int);rw[W0]at hcle;have ew:=AG (k:=cntZ (d.ruls.take k) (j:Int)) zo;generalize d.ruls[k]=r at hgk c6;have hcn:=Qs (d.ruls.take k) r (j:Int);rw[<-c6]at hcn;by_cases hrc:r.clue=j
   ·rw[Vv hrc]at hcn;simp only[eZ,seval,eY,lt_T hlk,hgk,ek,V1 hrc,ew];exact .mk (k+1) (by simp only[hcn]) hlk zo
   ·replace hcn:cntZ (d.ruls.take (k+1)) (j:Int)=cntZ (d.ruls.take k) (j:Int):=by rw[hcn,V5 hrc];rfl
    simp only[eZ,seval,eY,lt_T hlk,hgk,ek,Vs hrc];exact .mk (k+1) (by simp only[hcn]) hlk zo
  obtain rfl:k=d.ruls.length:=zo
  have hmc0:cntZ d.ruls (j:Int)=D0 d.ruls j:=M5 _ _;by_cases hmc:D0 d.ruls j=1
  ·have hmb:(((D0 d.ruls j:Nat):Int)=1)=True:=V1 zo;cases hc:Db x with
   |false=>
    rw[j0 (by rw[hc];simp)];simp only[eZ,seval,V3,V6,eY,lt_F hlk,Vw,hmc0,hmb,lt_T e9,hg,Tfo,s1,GJ,Eb,hc,tadd]
   |true=>
    simp only[eZ,seval,V3,eY,lt_F hlk,Vw,hmc0,hmb,lt_T e9,hg,Tfo,s1,GJ,Eb,hc,ej,tadd];exact .mk (j+1) rfl ⟨e9,λq h z=>m9 ⟨hmc,hc⟩ q h z⟩ zo
  ·have hmb:(((D0 d.ruls j:Nat):Int)=1)=False:=Vs zo;rw[j0 (λq=>hmc q.1)];simp only[eZ,seval,V3,V6,eY,lt_F hlk,Vw,hmc0,hmb]
 obtain rfl:j=d.clus.length:=zo
 have hR:Bb d=true:=by
  have z2:d.clus.all Db=true:=W4.2 λq hq=>by
   obtain⟨m,hm,rfl⟩:=WP.1 hq;exact(l5 m hm hm).2
  unfold Bb;rw[hall,i4,W4.2 λq hq=>Wo (l5 q (Wy.1 hq) (Wy.1 hq)).1,z2];rfl
 rw[hR];simp only[eZ,seval,V0,lt_F e9]
def p90:Pur prog 90 [] (eSs Bn):=by
 refine .mk trivial (BK 0 _) (c90.a (AE AI.tnil (AF ?_)));simp only[eE,eN,seval,c90];exact Wk.sl (.inl rfl)
def numV(l:List Bs)(s:Bs):Fs:=match BG l s with
 |some i=>.tup [.int .i64 i,.bool true]
 |none=>.tup [.int .i64 0,.bool false]
def Fp(n:Nat)(l:List Bs)(s:Bs):(numV l s).under n:=by unfold numV;split<;>exact⟨trivial,trivial,trivial⟩
def Ij{α:Type}(f:α->Bs){l:List α}{s:Bs}{i:Nat}(hi:i<l.length)(h:f l[i]=s)(hb:∀k (hk:k<l.length),k<i->¬f l[k]=s):BG (l.map f) s=some (i:Int):=by
 unfold BG;rw[X9.2 ⟨by simpa using hi,by simpa using h,λj hj=>by simpa using hb j zo hj⟩];rfl
def GS{α:Type}(f:α->Bs){l:List α}{s:Bs}(hb:∀k (hk:k<l.length),¬f l[k]=s):BG (l.map f) s=none:=by
 rw[BZ];intro h;obtain⟨y,hy,e⟩:=WL.1 h;obtain⟨k,hk,rfl⟩:=WP.1 hy;exact hb k hk e
def p243(d:Z8)(s:Bs)(hd:Z4 d):Pur prog 243 [encD d,.str s] (numV (d.syms.map (·.nm)) s):=by
 refine .mk ⟨AW 0 d,trivial,trivial⟩ (Fp 0 _ _) (c243.a (AE AI.tnil (AF ?_)));have m5:d.syms.length<1000000000:=hd.sy;simp only[eE,eN,seval,c243];refine AO (λi:Nat=>⟨[(1,true,.str s),(2,true,.ptr 0 0),(6,true,.int .i64 i)],hset hnil 0 (.box (AK d)),3⟩) (λi=>i<=d.syms.length/\∀k (hk:k<d.syms.length),k<i->¬d.syms[k].nm=s) (λi=>d.syms.length-i)
  0 rfl ⟨V8 _,λk _ q=>absurd q (WE _)⟩ ?_
 rintro i ⟨hi,hb⟩;by_cases c5:i<d.syms.length
 ·have hg:=V2 c5;have e:=AG (k:=i) zo;have hhit:=λq=>Ij (λx=>x.nm) (s:=s) c5 q hb
  have hnx:¬d.syms[i].nm=s->∀k (hk:k<d.syms.length),k<i+1->¬d.syms[k].nm=s:=λq k hk h=>by
   by_cases z:k=i
   ·subst z;exact q
   ·exact hb k hk zo
  generalize d.syms[i]=x at hg hhit hnx;by_cases hx:x.nm=s
  ·have hR:numV (d.syms.map (·.nm)) s= .tup [.int .i64 i,.bool true]:=by unfold numV;rw[hhit hx]
   rw[hR];simp only[eZ,seval,eY,lt_T c5,hg,A4,BA hx];exact Wk.refl _
  ·simp only[eZ,seval,eY,lt_T c5,hg,e,A4,Az hx];exact .mk (i+1) rfl ⟨c5,hnx hx⟩ zo
 obtain rfl:i=d.syms.length:=zo
 have hR:numV (d.syms.map (·.nm)) s= .tup [.int .i64 0,.bool false]:=by unfold numV;rw[GS _ λk hk=>hb k hk hk]
 rw[hR];simp only[eZ,seval,V0,lt_F c5];exact Wk.refl _
def p203(d:Z8)(s:Bs)(hd:Z4 d):Pur prog 203 [encD d,.str s] (numV (d.clus.map (·.nm)) s):=by
 refine .mk ⟨AW 0 d,trivial,trivial⟩ (Fp 0 _ _) (c203.a (AE AI.tnil (AF ?_)));have m5:d.clus.length<1000000000:=hd.cl;simp only[eE,eN,seval,c203];refine AO (λi:Nat=>⟨[(1,true,.str s),(2,true,.ptr 0 0),(6,true,.int .i64 i)],hset hnil 0 (.box (AK d)),3⟩) (λi=>i<=d.clus.length/\∀k (hk:k<d.clus.length),k<i->¬d.clus[k].nm=s) (λi=>d.clus.length-i)
  0 rfl ⟨V8 _,λk _ q=>absurd q (WE _)⟩ ?_
 rintro i ⟨hi,hb⟩;by_cases c5:i<d.clus.length
 ·have hg:=V2 c5;have e:=AG (k:=i) zo;have hhit:=λq=>Ij (λx=>x.nm) (s:=s) c5 q hb
  have hnx:¬d.clus[i].nm=s->∀k (hk:k<d.clus.length),k<i+1->¬d.clus[k].nm=s:=λq k hk h=>by
   by_cases z:k=i
   ·subst z;exact q
   ·exact hb k hk zo
  generalize d.clus[i]=x at hg hhit hnx;by_cases hx:x.nm=s
  ·have hR:numV (d.clus.map (·.nm)) s= .tup [.int .i64 i,.bool true]:=by unfold numV;rw[hhit hx]
   rw[hR];simp only[eZ,seval,eY,lt_T c5,hg,A4,BA hx];exact Wk.refl _
  ·simp only[eZ,seval,eY,lt_T c5,hg,e,A4,Az hx];exact .mk (i+1) rfl ⟨c5,hnx hx⟩ zo
 obtain rfl:i=d.clus.length:=zo
 have hR:numV (d.clus.map (·.nm)) s= .tup [.int .i64 0,.bool false]:=by unfold numV;rw[GS _ λk hk=>hb k hk hk]
 rw[hR];simp only[eZ,seval,V0,lt_F c5];exact Wk.refl _
def sGv:List Fs->AC->Prop×Fs:=λa _=>match a with
 |[]=>(True,eSs Bn)
 |_=>(False,.tup [])
def qGv:∀args H n,(sGv args H).1->Ab prog 90 args H n (sGv args H).2:=by
 intro args H n hh;unfold sGv at hh⊢;split at hh
 ·exact p90.quiet H n
 ·exact hh.elim
def Tgv:Tab:=tadd 90 sGv tnil
def Tgv_ok:AI prog Tgv:=AI.tnil.add qGv
def p151(d:Z8)(s:Bs)(hd:Z4 d):Pur prog 151 [encD d,.str s] (numV (Be d) s):=by
 refine .mk ⟨AW 0 d,trivial,trivial⟩ (Fp 0 _ _) (c151.a (AE Tgv_ok (AF ?_)));have m5:d.regs.length<1000000000:=hd.rg;have d4:=Vb d s;obtain⟨G,hG⟩:∃G:List Bs,G=Bn:=⟨_,rfl⟩;have hGl:G.length=8:=by rw[hG];rfl
 rw[<-hG]at d4;have hsg:sGv []=λ_=>(True,eSs G):=by rw[hG];rfl
 simp only[eE,eN,seval,c151,Tgv,hsg,tadd];refine AO (λi:Nat=>⟨[(1,true,.str s),(2,true,.ptr 0 0),(6,true,eSs G),(7,true,.int .i64 i)],hset hnil 0 (.box (AK d)),3⟩) (λi=>i<=G.length/\∀k (hk:k<G.length),k<i->¬G[k]=s) (λi=>G.length-i)
  0 rfl ⟨V8 _,λk _ q=>absurd q (WE _)⟩ ?_
 rintro i ⟨hi,hb⟩;by_cases c5:i<G.length
 ·have hg:=V2 c5;have e:=AG (k:=i) zo;have hhit:=λq=>Ij (λx:Bs=>x) (s:=s) c5 q hb
  rw[show G.map (λx:Bs=>x)=G from Yg _]at hhit;have hnx:¬G[i]=s->∀k (hk:k<G.length),k<i+1->¬G[k]=s:=λq k hk h=>by
   by_cases z:k=i
   ·subst z;exact q
   ·exact hb k hk zo
  generalize G[i]=x at hg hhit hnx;by_cases hx:x=s
  ·have hR:numV (Be d) s= .tup [.int .i64 i,.bool true]:=by unfold numV;rw[d4,hhit hx]
   rw[hR];simp only[eZ,seval,eY,lt_T c5,hg,A4,BA hx];exact Wk.refl _
  ·simp only[eZ,seval,eY,lt_T c5,hg,e,A4,Az hx];exact .mk (i+1) rfl ⟨c5,hnx hx⟩ zo
 obtain rfl:i=G.length:=zo
 have i6:BG G s=none:=by
  have:=GS (λx:Bs=>x) (l:=G) (s:=s) λk hk=>hb k hk hk
  rw[show G.map (λx:Bs=>x)=G from Yg _]at this;exact this
 rw[i6]at d4;simp only at d4;simp only[eZ,seval,V0,lt_F c5];refine AO (λi:Nat=>⟨[(1,true,.str s),(2,true,.ptr 0 0),(8,true,.int .i64 i)],hset hnil 0 (.box (AK d)),3⟩) (λi=>i<=d.regs.length/\∀k (hk:k<d.regs.length),k<i->¬d.regs[k].nm=s) (λi=>d.regs.length-i)
  0 rfl ⟨V8 _,λk _ q=>absurd q (WE _)⟩ ?_
 rintro i ⟨hi,hb⟩;by_cases i8:i<d.regs.length
 ·have hg:=V2 i8;have e:=AG (k:=i) zo;have e8:IntKind.wrap .i64 (8+(i:Int))=8+(i:Int):=Ae zo zo;have hhit:=λq=>Ij (λx:Z6=>x.nm) (s:=s) i8 q hb
  have hnx:¬d.regs[i].nm=s->∀k (hk:k<d.regs.length),k<i+1->¬d.regs[k].nm=s:=λq k hk h=>by
   by_cases z:k=i
   ·subst z;exact q
   ·exact hb k hk zo
  generalize d.regs[i]=x at hg hhit hnx;by_cases hx:x.nm=s
  ·have hR:numV (Be d) s= .tup [.int .i64 (8+(i:Int)),.bool true]:=by unfold numV;rw[d4,hhit hx];rfl
   rw[hR];simp only[eZ,seval,eY,lt_T i8,hg,e8,A4,BA hx];exact Wk.refl _
  ·simp only[eZ,seval,eY,lt_T i8,hg,e,A4,Az hx];exact .mk (i+1) rfl ⟨i8,hnx hx⟩ zo
 obtain rfl:i=d.regs.length:=zo
 have hR:numV (Be d) s= .tup [.int .i64 0,.bool false]:=by unfold numV;rw[d4,GS (λx:Z6=>x.nm) λk hk=>hb k hk hk];rfl
 rw[hR];simp only[eZ,seval,V0,lt_F i8];exact Wk.refl _
def JO{l:List Bs}:Ad l=true↔∃(a b:Nat) (ha:a<l.length) (hb:b<l.length),b<a/\l[a]=l[b]:=by
 constructor
 ·intro h;apply Classical.byContradiction;intro q;have:Ad l=false:=Br.2 (List.nodup_iff_pairwise_ne.2 (WW.2 λi j hi hj hij e=>q ⟨j,i,hj,hi,hij,e.symm⟩));rw[this]at h;cases h
 ·rintro⟨a,b,ha,hb,hab,e⟩;cases h:Ad l with
  |true=>rfl
  |false=>exact absurd e.symm (WW.1 (List.nodup_iff_pairwise_ne.1 (Br.1 h)) b a hb ha hab)
def p89(l:List Bs)(hl:few l):Pur prog 89 [eSs l] (.bool (Ad l)):=by
 refine .mk ⟨BK 0 _,trivial⟩ trivial (c89.a (AE AI.tnil (AF ?_)));have m5:l.length<1000000000:=hl;simp only[eE,eN,seval,c89];refine AO (λa:Nat=>⟨[(0,true,eSs l),(3,true,.int .i64 a)],hnil,0⟩) (λa=>a<=l.length/\∀x y (hx:x<l.length) (hy:y<l.length),x<a->y<x->¬l[x]=l[y]) (λa=>l.length-a)
  0 rfl ⟨V8 _,λx y _ _ q=>absurd q (WE _)⟩ ?_
 rintro a ⟨ha,i6⟩;by_cases hla:a<l.length
 ·have hga:=V2 hla;have ea:=AG (k:=a) zo;simp only[eZ,seval,V0,lt_T hla];refine AO (λb:Nat=>⟨[(0,true,eSs l),(3,true,.int .i64 a),(4,true,.int .i64 b)],hnil,0⟩) (λb=>b<=a/\∀y (hy:y<l.length),y<b->¬l[a]=l[y]) (λb=>a-b)
   0 rfl ⟨V8 _,λy _ q=>absurd q (WE _)⟩ ?_
  rintro b ⟨l0,hnb⟩;by_cases hlb:b<a
  ·have s6:b<l.length:=zo
   have d7:=V2 s6;have eb:=AG (k:=b) zo;by_cases l5:l[a]=l[b]
   ·have hR:Ad l=true:=JO.2 ⟨a,b,hla,s6,hlb,l5⟩;rw[hR];generalize l[a]=la at hga l5;generalize l[b]=lb at d7 l5;simp only[eZ,seval,eY,lt_T hlb,lt_T hla,lt_T s6,hga,d7,A4,BA l5]
   ·have hnx:∀y (hy:y<l.length),y<b+1->¬l[a]=l[y]:=λy hy q=>by
     by_cases z:y=b
     ·subst z;exact l5
     ·exact hnb y hy zo
    generalize hA:l[a]=la at hga l5;generalize hB:l[b]=lb at d7 l5;simp only[eZ,seval,eY,lt_T hlb,lt_T hla,lt_T s6,hga,d7,A4,Az l5,eb];exact .mk (b+1) rfl ⟨hlb,λy hy q=>by rw[<-hA];exact hnx y hy q⟩ zo
  obtain rfl:b=a:=zo
  simp only[eZ,seval,lt_F hlb,ea];refine .mk (b+1) rfl ⟨hla,λx y hx hy q1 q2=>?_⟩ zo;by_cases z:x=b
  ·subst z;exact hnb y hy q2
  ·exact i6 x y hx hy zo q2
 obtain rfl:a=l.length:=zo
 have hR:Ad l=false:=by
  cases q:Ad l with
  |false=>rfl
  |true=>
   obtain⟨x,y,hx,hy,i5,h2⟩:=JO.1 q;exact absurd h2 (i6 x y hx hy hx i5)
 rw[hR];simp only[eZ,seval,V0,lt_F hla]
def setV(l ss:List Bs):Fs:=match CF l ss with
 |some n=>.tup [.int .i64 n,.bool true]
 |none=>.tup [.int .i64 0,.bool false]
def Tsy:Tab:=tadd 243 (s2 dD dS (λd _=>Z4 d) λd s=>numV (d.syms.map (·.nm)) s) tnil
def Tsy_ok:AI prog Tsy:=AI.tnil.add (q2 p243)
def p202(d:Z8)(ss:List Bs)(hd:Z4 d)(h16:d.syms.length<=16)(hss:wide ss):Pur prog 202 [encD d,eSs ss] (setV (d.syms.map (·.nm)) ss):=by
 refine .mk ⟨AW 0 d,BK 0 _,trivial⟩ (by unfold setV;split<;>exact⟨trivial,trivial,trivial⟩) (c202.a (AE Tsy_ok (AF ?_)));have hsl:ss.length<1125899906842624:=hss;unfold setV;rw[<-M9];generalize hl:d.syms.map (·.nm)=l;have m5:l.length<=16:=by rw[<-hl,V0];exact h16
 simp only[eE,eN,seval,c202];refine AO (λv:Nat×Nat=>⟨[(1,true,eSs ss),(2,true,.ptr 0 0),(6,true,.int .i64 v.2),(7,true,.int .i64 v.1)],hset hnil 0 (.box (AK d)),3⟩) (λv=>v.1<=ss.length/\v.2<65536/\Ee l 0 ss=Ee l v.2 (ss.drop v.1)) (λv=>ss.length-v.1) (0,0) rfl ⟨V8 _,zd,rfl⟩ ?_;rintro⟨i,acc⟩ ⟨hi,hacc,heq⟩;simp only at hi hacc heq;by_cases c5:i<ss.length
 ·have hg:=V2 c5;have e:=AG (k:=i) zo;rw[Wm c5,HZ]at heq;generalize ss[i]=s at hg heq;cases i6:BG l s with
  |none=>
   have hnv:numV l s= .tup [.int .i64 0,.bool false]:=by unfold numV;rw[i6]
   rw[i6]at heq;simp only at heq;rw[heq];simp only[eZ,seval,V6,eY,lt_T c5,hg,Tsy,s2,A3,Ak,FH,DF,V1 hd,hl,hnv,tadd];exact Wk.refl _
  |some k=>
   have hnv:numV l s= .tup [.int .i64 k,.bool true]:=by unfold numV;rw[i6]
   rw[i6]at heq;simp only at heq;obtain⟨h0,h1⟩:=KV i6;obtain⟨j,rfl⟩:∃j:Nat,k=j:=⟨k.toNat,zo⟩;rw[Vy]at heq;simp only[eZ,seval,V3,eY,lt_T c5,hg,Tsy,s2,A3,Ak,FH,DF,V1 hd,hl,hnv,Qw (show j<16 by omega),TZ hacc (M8 (show j<16 by omega)),e,tadd];exact .mk (i+1,acc|||1<<<j) rfl ⟨c5,Nat.or_lt_two_pow (n:=16) hacc (M8 zo),heq⟩ zp
 obtain rfl:i=ss.length:=zo
 rw[WC,Id]at heq;rw[heq];simp only[eZ,seval,V0,lt_F c5];exact Wk.refl _
section
structure VNm where
 i:Nat
 tk:Zd
 H:AC
 n:Nat
structure INm(d:Z8)(lo m:Nat)(ns:List Bs)(v:VNm):Prop where
 hi:v.i<=m
 fr:AR v.H v.n
 hn:lo<=v.n
 h0:hget v.H 0=some (.box (AK d))
 tok:tkG 1 lo v.H v.tk
 es:v.tk.esz=1\/ns=[]
def Cg{t:Zd}{l:List Bs}(ht:t.esz=1\/l=[]):dSs.ok (.sl t (l.map .str))=True:=V1 ⟨ht.imp id λq=>by rw[q];rfl,by rw[Fd]⟩
def B3{t:Zd}(l:List Bs):dSs.dec (.sl t (l.map .str))=l:=Fd l
def tw:Tab:=tadd 89 (s1 dSs few λl=>.bool (Ad l)) tnil
def twS:List Fs->AC->Prop×Fs:=s1 dSs few λl=>.bool (Ad l)
structure VRs(α:Type) where
 i:Nat
 tk:Zd
 dn:List α
 H:AC
 n:Nat
structure IRs{α β:Type}(d:Z8)(e:Nat)(l:List α)(f:α->Option β)(v:VRs β):Prop where
 hi:v.i<=l.length
 dl:v.dn.length=v.i
 fr:AR v.H v.n
 hn:3<=v.n
 h0:hget v.H 0=some (.box (AK d))
 tok:tkG e 3 v.H v.tk
 es:v.tk.esz=e\/v.dn=[]
 eq:Ag f l=(Ag f (l.drop v.i)).map λr=>v.dn++r
variable {α:Type}
def nmF(init:List Bs)(f:α->Bs)(l:List α)(i:Nat):List Bs:=init++(l.take i).map f
theorem GT(init:List Bs)(f:α->Bs){l:List α}{i:Nat}(h:i<l.length):nmF init f l (i+1)=nmF init f l i++[f l[i]]:=by
 unfold nmF;rw[map_take h,Wb]
theorem Ik(init:List Bs)(f:α->Bs)(l:List α)(i:Nat):(nmF init f l i).length<=init.length+i:=by
 unfold nmF;rw[V9,V0,W0];omega
theorem Il(init:List Bs)(f:α->Bs)(l:List α):nmF init f l l.length=init++l.map f:=by
 unfold nmF;rw[Vw]
def C2(d:Z8):Fs:=if Ad (d.clus.map λx:Z5=>x.nm)=true then .tup [eCls [],.int .i64 161]else match Ag (Bf d) d.clus with
 |none=>.tup [eCls [],.int .i64 160]
 |some cs=>.tup [eCls cs,.int .i64 0]
def Tcv:Tab:=tadd 89 twS (tadd 151 (s2 dD dS (λd _=>Z4 d) λd s=>numV (Be d) s) tnil)
theorem Tcv_ok:AI prog Tcv:=(AI.tnil.add (q2 p151)).add (q1 p89)
theorem Tcv_t(a:List Fs)(H:AC):Tcv 89 a H=s1 dSs few (λl=>.bool (Ad l)) a H:=rfl
theorem Tcv_f(a:List Fs)(H:AC):Tcv 151 a H=s2 dD dS (λd _=>Z4 d) (λd s=>numV (Be d) s) a H:=rfl
theorem wk2{a b:Fs}{e:Int}(h:Wk a b):Wk (.tup [a,.int .i64 e]) (.tup [b,.int .i64 e]):=Wk.tup (.cons h (.cons (Wk.refl _) .nil))
theorem p91(d:Z8)(hd:Z4 d):Pur prog 91 [encD d] (C2 d):=by
 refine .mk ⟨AW 0 d,trivial⟩ (by unfold C2;split;exact⟨C1 0 _,trivial,trivial⟩;split<;>exact⟨C1 0 _,trivial,trivial⟩) (c91.a (AE Tcv_ok (AF ?_)));have hcl:d.clus.length<1000000000:=hd.cl;simp only[eE,eN,seval,c91];refine AO (λv:VNm=>⟨[(1,true,.ptr 0 0),(4,true,.sl v.tk ((nmF [] (λx:Z5=>x.nm) d.clus v.i).map .str)),(5,true,.int .i64 v.i)],v.H,v.n⟩) (λv=>INm d 3 d.clus.length (nmF [] (λx:Z5=>x.nm) d.clus v.i) v) (λv=>d.clus.length-v.i)
  ⟨0,.nil,hset hnil 0 (.box (AK d)),3⟩ rfl ⟨V8 _,AR.nil.hset (m:=3) (V8 3) (show 0<3 by decide),V4 _,rfl,.inl rfl,.inr rfl⟩ ?_
 rintro⟨i,tk,H,n⟩ ⟨hi,d4,hn,h0,c6,d8⟩;simp only at hi d4 hn h0 c6 d8;by_cases c5:i<d.clus.length
 ·have hg:=V2 c5;have e:=AG (k:=i) zo;have s9:=GT [] (λx:Z5=>x.nm) c5;have hnl:=Ik [] (λx:Z5=>x.nm) d.clus i;have hil:([]:List Bs).length<=8:=zd
  generalize d.clus[i]=x at hg s9;generalize hL:nmF [] (λx:Z5=>x.nm) d.clus i=L at s9 c6 d8 hnl⊢;have q1:At H 1 tk=True:=V1 c6.app;have q2:(L.length<=35184372088831)=True:=V1 zo;have q3:small (L.length+1) 16=True:=V1 (by unfold small;omega);simp only[eZ,seval,eY,lt_T c5,hg,e,h0,fr1 d4,q1,q2,q3];refine .mk ⟨i+1,.own (n+8) 1,hset (AL H tk) (n+8) .tok,n+10⟩ ?_ ?_ zp
  ·simp only[s9,Vt];rfl
  ·refine⟨c5,(AT c6 d4).hset (m:=n+10) zo zo,zp,?_,.inr (.inr ⟨n+8,rfl,zo,AB ..⟩),.inl rfl⟩;simp only[];rw[AA _ _ _ _ zo,AX c6 (.inr ⟨_,h0⟩)];exact h0
 obtain rfl:i=d.clus.length:=zo
 have hNA:=Il [] (λx:Z5=>x.nm) d.clus;have hil:([]:List Bs).length<=8:=zd
 rw[hNA]at d8;have hnf:few (d.clus.map λx:Z5=>x.nm):=show(d.clus.map λx:Z5=>x.nm).length<_ by first|(rw[V0];omega)|(rw[V9,V0];omega)
 rw[Wi]at hNA d8;cases ht:Ad (d.clus.map λx:Z5=>x.nm)with
 |true=>
  have hR:C2 d= .tup [eCls [],.int .i64 161]:=by unfold C2;rw[Vv ht]
  rw[hR];simp only[eZ,seval,V0,lt_F c5,h0,hNA,Tcv_t,s1,Cg d8,B3,V1 hnf,ht];exact wk2 (Wk.sl (.inr rfl))
 |false=>
 have hR:C2 d=match Ag (Bf d) d.clus with
  |none=>.tup [eCls [],.int .i64 160]
  |some cs=>.tup [eCls cs,.int .i64 0]:=by unfold C2;rw[V5 (by rw[ht];decide)]
 rw[hR];simp only[eZ,seval,V0,lt_F c5,h0,hNA,Tcv_t,s1,Cg d8,B3,V1 hnf,ht];refine AO (λv:VRs Z5=>⟨[(1,true,.ptr 0 0),(6,true,.sl v.tk (v.dn.map Bz)),(7,true,.int .i64 v.i)],v.H,v.n⟩) (IRs d 6 d.clus (Bf d)) (λv=>d.clus.length-v.i)
  ⟨0,.nil,[],H,n⟩ rfl ⟨V8 _,rfl,d4,hn,h0,.inl rfl,.inr rfl,by simp only[Xt];cases Ag (Bf d) d.clus<;>rfl⟩ ?_
 rintro⟨j,tk,dn,H1,n1⟩ ⟨hj,hdl,d9,j8,k9,i9,he1,heq⟩;simp only at hj hdl d9 j8 k9 i9 he1 heq;by_cases e9:j<d.clus.length
 ·have hg:=V2 e9;have e:=AG (k:=j) zo;rw[Wm e9,Ce]at heq;generalize d.clus[j]=c at hg heq;have y0:∀q,(n1+q=0)=False:=λq=>Vs zo
  cases i6:BG (Be d) c.on with
  |none=>
   have hnv:numV (Be d) c.on= .tup [.int .i64 0,.bool false]:=by unfold numV;rw[i6]
   rw[show Bf d c=none by unfold Bf;rw[i6];rfl]at heq;simp only[X4]at heq;rw[heq];simp only[eZ,seval,V6,eY,lt_T e9,hg,k9,fr1 d9,y0,AD,Tcv_f,s2,A3,Ak,FH,DF,V1 hd,hnv];exact wk2 (Wk.sl (.inr rfl))
  |some f=>
   have hnv:numV (Be d) c.on= .tup [.int .i64 f,.bool true]:=by unfold numV;rw[i6]
   rw[show Bf d c=some {c with fam:=f}by unfold Bf;rw[i6];rfl]at heq;simp only at heq;have q1:∀ob1,At (hset H1 (n1+5) ob1) 6 tk=True:=λob1=>V1 (i9.set (.inr (.inr (fr1 d9 5)))).app
   have q2:(dn.length<=35184372088831)=True:=V1 zo;have q3:small (dn.length+1) 64=True:=V1 (AP zo zd);simp only[eZ,seval,V3,eY,lt_T e9,hg,e,k9,fr1 d9,y0,AD,Tcv_f,s2,A3,Ak,FH,DF,V1 hd,hnv,q1,q2,q3];obtain⟨H2,hH2⟩:∃H2,H2=hset H1 (n1+5) (.box (Bz {c with fam:=f}).cells):=⟨_,rfl⟩;have gt:tkG 6 3 H2 tk:=by rw[hH2];exact i9.set (.inr (.inr (fr1 d9 5)))
   have gf:AR H2 (n1+12):=by rw[hH2];exact d9.hset (m:=n1+12) zo zo
   have g0:hget H2 0=some (.box (AK d)):=by rw[hH2,AA _ _ _ _ zo];exact k9
   refine .mk ⟨j+1,.own (n1+10) 6,dn++[{c with fam:=f}],hset (AL H2 tk) (n1+10) .tok,n1+12⟩ ?_ ?_ zp
   ·rw[hH2];simp only[Vt];rfl
   ·refine⟨e9,by simp [hdl],(AT gt gf).hset (V4 _) (show n1+10<n1+12 by omega),zp,?_,.inr (.inr ⟨n1+10,rfl,zo,AB ..⟩),.inl rfl,?_⟩
    ·simp only[];rw[AA _ _ _ _ zo,AX gt (.inl zo)];exact g0
    ·simp only[];rw[heq];cases Ag (Bf d) (d.clus.drop (j+1))<;>simp
 obtain rfl:j=d.clus.length:=zo
 rw[WC]at heq;have heq:Ag (Bf d) d.clus=some dn:=by rw[heq];simp [Ag]
 rw[heq];simp only[eZ,seval,V0,lt_F e9,k9];exact wk2 (Wk.sl (he1.imp id λq=>by rw[q];rfl))
def rulV(d:Z8)(r:Yz):Yz×Bool:=match (if r.on=[]then some 0 else BG (Be d) r.on)with
 |none=>({r with fam:=0},false)
 |some f=>match (if r.byN=[]then some (-1)else BG (d.clus.map (·.nm)) r.byN)with
  |none=>({r with fam:=f,set:=(CF (d.syms.map (·.nm)) r.ns).getD 0,oth:=(CF (d.syms.map (·.nm)) r.os).getD 0,clue:=-1},false)
  |some c=>({r with fam:=f,set:=(CF (d.syms.map (·.nm)) r.ns).getD 0,oth:=(CF (d.syms.map (·.nm)) r.os).getD 0,clue:=c},(CF (d.syms.map (·.nm)) r.ns).isSome&&(CF (d.syms.map (·.nm)) r.os).isSome)
theorem RB(d:Z8)(r:Yz):BE d r=if(rulV d r).2=true then some (rulV d r).1 else none:=by
 unfold BE rulV;cases (if r.on=[]then some 0 else BG (Be d) r.on)with
 |none=>rfl
 |some f=>
 cases (if r.byN=[]then some (-1)else BG (d.clus.map (·.nm)) r.byN)with
 |none=>cases CF (d.syms.map (·.nm)) r.ns<;>cases CF (d.syms.map (·.nm)) r.os<;>rfl
 |some c=>cases CF (d.syms.map (·.nm)) r.ns<;>cases CF (d.syms.map (·.nm)) r.os<;>rfl
abbrev RD(x:Yz×Bool):Fs:=.tup [BQ x.1,.bool x.2]
theorem Ho(l ss:List Bs):setV l ss= .tup [.int .i64 ((CF l ss).getD 0),.bool (CF l ss).isSome]:=by unfold setV;cases CF l ss<;>rfl
def Tsr:Tab:=tadd 151 (s2 dD dS (λd _=>Z4 d) λd s=>numV (Be d) s) (tadd 203 (s2 dD dS (λd _=>Z4 d) λd s=>numV (d.clus.map (·.nm)) s) (tadd 202 (s2 dD dSs (λd ss=>Z4 d/\d.syms.length<=16/\wide ss) λd ss=>setV (d.syms.map (·.nm)) ss) tnil))
theorem Tsr_ok:AI prog Tsr:=((AI.tnil.add (q2 λd ss h=>p202 d ss h.1 h.2.1 h.2.2)).add (q2 p203)).add (q2 p151)
theorem p152(d:Z8)(r:Yz)(hd:Z4 d)(h16:d.syms.length<=16)(hr:Fh r):Pur prog 152 [encD d,BQ r] (RD (rulV d r)):=by
 refine .mk ⟨AW 0 d,Ao 0 r,trivial⟩ ⟨Ao 0 _,trivial,trivial⟩ (c152.a (AE Tsr_ok (AF ?_)));have hs1:=V1 (⟨hd,h16,hr.1⟩:Z4 d/\d.syms.length<=16/\wide r.ns);have hs2:=V1 (⟨hd,h16,hr.2⟩:Z4 d/\d.syms.length<=16/\wide r.os);unfold rulV;by_cases h1:r.on=[]
 ·rw[Vv h1];by_cases h2:r.byN=[]
  ·rw[Vv h2];simp only[eZ,seval,V3,eY,Au,c152,Ap,BA h1,BA h2,Tsr,s2,A3,Ak,Ec,DE,V1 hd,V1 h16,V1 hr.1,V1 hr.2,Ho,tadd];exact Wk.refl _
  ·rw[V5 h2];cases hc:BG (d.clus.map (·.nm)) r.byN with
   |none=>
    have hnv:numV (d.clus.map (·.nm)) r.byN= .tup [.int .i64 0,.bool false]:=by unfold numV;rw[hc]
    simp only[eZ,seval,V3,V6,eY,Au,c152,Ap,BA h1,Az h2,Tsr,s2,A3,Ak,Ec,DE,FH,DF,V1 hd,V1 h16,V1 hr.1,V1 hr.2,Ho,hnv,tadd];exact Wk.refl _
   |some c=>
    have hnv:numV (d.clus.map (·.nm)) r.byN= .tup [.int .i64 c,.bool true]:=by unfold numV;rw[hc]
    simp only[eZ,seval,V3,V6,eY,Au,c152,Ap,BA h1,Az h2,Tsr,s2,A3,Ak,Ec,DE,FH,DF,V1 hd,V1 h16,V1 hr.1,V1 hr.2,Ho,hnv,tadd];exact Wk.refl _
 ·rw[V5 h1];cases hf:BG (Be d) r.on with
  |none=>
   have hnf:numV (Be d) r.on= .tup [.int .i64 0,.bool false]:=by unfold numV;rw[hf]
   simp only[eZ,seval,V6,eY,Au,c152,Ap,Az h1,Tsr,s2,A3,Ak,FH,DF,V1 hd,hnf,tadd];exact Wk.refl _
  |some f=>
   have hnf:numV (Be d) r.on= .tup [.int .i64 f,.bool true]:=by unfold numV;rw[hf]
   by_cases h2:r.byN=[]
   ·rw[Vv h2];simp only[eZ,seval,V3,V6,eY,Au,c152,Ap,Az h1,BA h2,Tsr,s2,A3,Ak,Ec,DE,FH,DF,V1 hd,V1 h16,V1 hr.1,V1 hr.2,Ho,hnf,tadd];exact Wk.refl _
   ·rw[V5 h2];cases hc:BG (d.clus.map (·.nm)) r.byN with
    |none=>
     have hnv:numV (d.clus.map (·.nm)) r.byN= .tup [.int .i64 0,.bool false]:=by unfold numV;rw[hc]
     simp only[eZ,seval,V3,V6,eY,Au,c152,Ap,Az h1,Az h2,Tsr,s2,A3,Ak,Ec,DE,FH,DF,V1 hd,V1 h16,V1 hr.1,V1 hr.2,Ho,hnf,hnv,tadd];exact Wk.refl _
    |some c=>
     have hnv:numV (d.clus.map (·.nm)) r.byN= .tup [.int .i64 c,.bool true]:=by unfold numV;rw[hc]
     simp only[eZ,seval,V3,V6,eY,Au,c152,Ap,Az h1,Az h2,Tsr,s2,A3,Ak,Ec,DE,FH,DF,V1 hd,V1 h16,V1 hr.1,V1 hr.2,Ho,hnf,hnv,tadd];exact Wk.refl _
def DM(d:Z8):Fs:=if Ad (d.ruls.map λx:Yz=>x.nm)=true then .tup [eRus [],.int .i64 161]else match Ag (BE d) d.ruls with
 |none=>.tup [eRus [],.int .i64 160]
 |some cs=>.tup [eRus cs,.int .i64 0]
def Trv:Tab:=tadd 89 twS (tadd 152 (s2 dD dRu (λd r=>Z4 d/\d.syms.length<=16/\Fh r) λd r=>RD (rulV d r)) tnil)
theorem Trv_ok:AI prog Trv:=(AI.tnil.add (q2 λd r h=>p152 d r h.1 h.2.1 h.2.2)).add (q1 p89)
theorem Trv_t(a:List Fs)(H:AC):Trv 89 a H=s1 dSs few (λl=>.bool (Ad l)) a H:=rfl
theorem Trv_r(a:List Fs)(H:AC):Trv 152 a H=s2 dD dRu (λd r=>Z4 d/\d.syms.length<=16/\Fh r) (λd r=>RD (rulV d r)) a H:=rfl
theorem p92(d:Z8)(hd:Z4 d)(h16:d.syms.length<=16):Pur prog 92 [encD d] (DM d):=by
 refine .mk ⟨AW 0 d,trivial⟩ (by unfold DM;split;exact⟨B9 0 _,trivial,trivial⟩;split<;>exact⟨B9 0 _,trivial,trivial⟩) (c92.a (AE Trv_ok (AF ?_)));have hcl:d.ruls.length<1000000000:=hd.ru;simp only[eE,eN,seval,c92];refine AO (λv:VNm=>⟨[(1,true,.ptr 0 0),(4,true,.sl v.tk ((nmF [] (λx:Yz=>x.nm) d.ruls v.i).map .str)),(5,true,.int .i64 v.i)],v.H,v.n⟩) (λv=>INm d 3 d.ruls.length (nmF [] (λx:Yz=>x.nm) d.ruls v.i) v) (λv=>d.ruls.length-v.i)
  ⟨0,.nil,hset hnil 0 (.box (AK d)),3⟩ rfl ⟨V8 _,AR.nil.hset (m:=3) (V8 3) (show 0<3 by decide),V4 _,rfl,.inl rfl,.inr rfl⟩ ?_
 rintro⟨i,tk,H,n⟩ ⟨hi,d4,hn,h0,c6,d8⟩;simp only at hi d4 hn h0 c6 d8;by_cases c5:i<d.ruls.length
 ·have hg:=V2 c5;have e:=AG (k:=i) zo;have s9:=GT [] (λx:Yz=>x.nm) c5;have hnl:=Ik [] (λx:Yz=>x.nm) d.ruls i;have hil:([]:List Bs).length<=8:=zd
  generalize d.ruls[i]=x at hg s9;generalize hL:nmF [] (λx:Yz=>x.nm) d.ruls i=L at s9 c6 d8 hnl⊢;have q1:At H 1 tk=True:=V1 c6.app;have q2:(L.length<=35184372088831)=True:=V1 zo;have q3:small (L.length+1) 16=True:=V1 (by unfold small;omega);simp only[eZ,seval,eY,lt_T c5,hg,e,h0,fr1 d4,q1,q2,q3];refine .mk ⟨i+1,.own (n+8) 1,hset (AL H tk) (n+8) .tok,n+10⟩ ?_ ?_ zp
  ·simp only[s9,Vt];rfl
  ·refine⟨c5,(AT c6 d4).hset (m:=n+10) zo zo,zp,?_,.inr (.inr ⟨n+8,rfl,zo,AB ..⟩),.inl rfl⟩;simp only[];rw[AA _ _ _ _ zo,AX c6 (.inr ⟨_,h0⟩)];exact h0
 obtain rfl:i=d.ruls.length:=zo
 have hNA:=Il [] (λx:Yz=>x.nm) d.ruls;have hil:([]:List Bs).length<=8:=zd
 rw[hNA]at d8;have hnf:few (d.ruls.map λx:Yz=>x.nm):=show(d.ruls.map λx:Yz=>x.nm).length<_ by first|(rw[V0];omega)|(rw[V9,V0];omega)
 rw[Wi]at hNA d8;cases ht:Ad (d.ruls.map λx:Yz=>x.nm)with
 |true=>
  have hR:DM d= .tup [eRus [],.int .i64 161]:=by unfold DM;rw[Vv ht]
  rw[hR];simp only[eZ,seval,V0,lt_F c5,h0,hNA,Trv_t,s1,Cg d8,B3,V1 hnf,ht];exact wk2 (Wk.sl (.inr rfl))
 |false=>
 have hR:DM d=match Ag (BE d) d.ruls with
  |none=>.tup [eRus [],.int .i64 160]
  |some cs=>.tup [eRus cs,.int .i64 0]:=by unfold DM;rw[V5 (by rw[ht];decide)]
 rw[hR];simp only[eZ,seval,V0,lt_F c5,h0,hNA,Trv_t,s1,Cg d8,B3,V1 hnf,ht];refine AO (λv:VRs Yz=>⟨[(1,true,.ptr 0 0),(6,true,.sl v.tk (v.dn.map BQ)),(7,true,.int .i64 v.i)],v.H,v.n⟩) (IRs d 12 d.ruls (BE d)) (λv=>d.ruls.length-v.i)
  ⟨0,.nil,[],H,n⟩ rfl ⟨V8 _,rfl,d4,hn,h0,.inl rfl,.inr rfl,by simp only[Xt];cases Ag (BE d) d.ruls<;>rfl⟩ ?_
 rintro⟨j,tk,dn,H1,n1⟩ ⟨hj,hdl,d9,j8,k9,i9,he1,heq⟩;simp only at hj hdl d9 j8 k9 i9 he1 heq;by_cases e9:j<d.ruls.length
 ·have hg:=V2 e9;have e:=AG (k:=j) zo;have hrf:=hd.rus _ (W1 e9);rw[Wm e9,Ce]at heq;generalize d.ruls[j]=r at hg heq hrf;have y0:∀q,(n1+q=0)=False:=λq=>Vs zo
  rw[RB]at heq;obtain⟨r',ok,hv⟩:∃a b,rulV d r=(a,b):=⟨_,_,rfl⟩;rw[hv]at heq;have u1:unders 0 [encD d,BQ r]=True:=V1 ⟨AW 0 d,Ao 0 r,trivial⟩;have u2:∀b,Fs.under 0 (RD (r',b))=True:=λb=>V1 ⟨Ao 0 _,trivial,trivial⟩
  cases ok with
  |false=>
   simp only[W5,Wf,X4]at heq;rw[heq];simp only[eZ,seval,V6,eY,lt_T e9,hg,k9,fr1 d9,AD,Trv_r,s2,A3,Ak,BV,A7,V1 hd,V1 h16,V1 hrf,hv,u1,u2];exact wk2 (Wk.sl (.inr rfl))
  |true=>
   simp only[WB]at heq;have q1:∀ob1,At (hset H1 (n1+10) ob1) 12 tk=True:=λob1=>V1 (i9.set (.inr (.inr (fr1 d9 10)))).app
   have q2:(dn.length<=35184372088831)=True:=V1 zo;have q3:small (dn.length+1) 152=True:=V1 (AP zo zd);simp only[eZ,seval,V3,eY,lt_T e9,hg,e,k9,fr1 d9,AD,Trv_r,s2,A3,Ak,BV,A7,V1 hd,V1 h16,V1 hrf,hv,u1,u2,q1,q2,q3];obtain⟨H2,hH2⟩:∃H2,H2=hset H1 (n1+10) (.box (A6 r')):=⟨_,rfl⟩;have gt:tkG 12 3 H2 tk:=by rw[hH2];exact i9.set (.inr (.inr (fr1 d9 10)))
   have gf:AR H2 (n1+18):=by rw[hH2];exact d9.hset (m:=n1+18) zo zo
   have g0:hget H2 0=some (.box (AK d)):=by rw[hH2,AA _ _ _ _ zo];exact k9
   refine .mk ⟨j+1,.own (n1+16) 12,dn++[r'],hset (AL H2 tk) (n1+16) .tok,n1+18⟩ ?_ ?_ zp
   ·rw[hH2];simp only[Vt];rfl
   ·refine⟨e9,by simp [hdl],(AT gt gf).hset (V4 _) (show n1+16<n1+18 by omega),zp,?_,.inr (.inr ⟨n1+16,rfl,zo,AB ..⟩),.inl rfl,?_⟩
    ·simp only[];rw[AA _ _ _ _ zo,AX gt (.inl zo)];exact g0
    ·simp only[];rw[heq];cases Ag (BE d) (d.ruls.drop (j+1))<;>simp
 obtain rfl:j=d.ruls.length:=zo
 rw[WC]at heq;have heq:Ag (BE d) d.ruls=some dn:=by rw[heq];simp [Ag]
 rw[heq];simp only[eZ,seval,V0,lt_F e9,k9];exact wk2 (Wk.sl (he1.imp id λq=>by rw[q];rfl))
end
def givX:Fs:=.sl (.exact 1) (Bn.map .str)
def pGvX:Pur prog 90 [] givX:=by
 refine .mk trivial (BK 0 Bn) (c90.a (AE AI.tnil (AF ?_)));simp only[eE,eN,seval,c90];exact Wk.refl _
def sGx:List Fs->AC->Prop×Fs:=λa _=>match a with
 |[]=>(True,givX)
 |_=>(False,.tup [])
def qGx:∀args H n,(sGx args H).1->Ab prog 90 args H n (sGx args H).2:=by
 intro args H n hh;unfold sGx at hh⊢;split at hh
 ·exact pGvX.quiet H n
 ·exact hh.elim
def Tre:Tab:=tadd 89 twS (tadd 90 sGx (tadd 91 (s1 dD Z4 C2) (tadd 92 (s1 dD (λd=>Z4 d/\d.syms.length<=16) DM) tnil)))
def Tre_ok:AI prog Tre:=(((AI.tnil.add (q1 λd h=>p92 d h.1 h.2)).add (q1 p91)).add qGx).add (q1 p89)
theorem JP(a:List Fs)(H:AC):Tre 89 a H=s1 dSs few (λl=>.bool (Ad l)) a H:=rfl
theorem Tre_g(a:List Fs)(H:AC):Tre 90 a H=sGx a H:=rfl
theorem OM(a:List Fs)(H:AC):Tre 91 a H=s1 dD Z4 C2 a H:=rfl
theorem Tk(a:List Fs)(H:AC):Tre 92 a H=s1 dD (λd=>Z4 d/\d.syms.length<=16) DM a H:=rfl
def wk0{e:Int}:Wk (.tup [.agg Hn,.int .i64 e]) (.tup [encD dcl0,.int .i64 e]):=wk2 (wk_Dk (Wk.sl (.inr rfl)) (Wk.sl (.inr rfl)) (Wk.sl (.inr rfl)) (Wk.sl (.inr rfl)) (Wk.sl (.inr rfl)))
def p30(d:Z8)(hd:Z4 d)(hq9:d.regs.length<999999000):Pur prog 30 [encD d] (B6 d):=by
 refine .mk ⟨AW 0 d,trivial⟩ (by unfold B6;split<;>exact⟨AW 0 _,trivial,trivial⟩) (c30.a (AE Tre_ok (AF ?_)));have hsl:d.syms.length<1000000000:=hd.sy;have u9:d.regs.length<1000000000:=hd.rg;have hE:∀e,resD d= .error e->B6 d= .tup [encD dcl0,.int .i64 e]:=λe h=>by unfold B6;rw[h]
 have hO:∀x,resD d= .ok x->B6 d= .tup [encD x,.int .i64 0]:=λx h=>by unfold B6;rw[h]
 by_cases h16:16<d.syms.length
 ·have hb:((16:Int)<(d.syms.length:Int))=True:=V1 zo;rw[hE 2 (by unfold resD;rw[Vv h16])];simp only[eZ,seval,Au,V0,c30,hb];exact wk0
 have hb:((16:Int)<(d.syms.length:Int))=False:=Vs zo;have h16':d.syms.length<=16:=zo
 simp only[eZ,seval,V0,c30,hb];refine AO (λv:VNm=>⟨[(1,true,.ptr 0 0),(2,true,.ptr 1 0),(4,true,.sl v.tk ((nmF [] (λx:Zb=>x.nm) d.syms v.i).map .str)),(5,true,.int .i64 v.i)],v.H,v.n⟩) (λv=>(hget v.H 1=some (.box Hn))/\INm d 3 d.syms.length (nmF [] (λx:Zb=>x.nm) d.syms v.i) v) (λv=>d.syms.length-v.i)
  ⟨0,.nil,hset (hset hnil 0 (.box (AK d))) 1 (.box Hn),3⟩ rfl ⟨rfl,V8 _,(AR.nil.hset (m:=3) (V8 3) (show 0<3 by decide)).hset (V4 3) (show 1<3 by decide),V4 _,rfl,.inl rfl,.inr rfl⟩ ?_
 rintro⟨i,tk,H,n⟩ ⟨h1,hi,d4,hn,h0,c6,d8⟩;simp only at h1 hi d4 hn h0 c6 d8;by_cases c5:i<d.syms.length
 ·have hg:=V2 c5;have e:=AG (k:=i) zo;have s9:=GT [] (λx:Zb=>x.nm) c5;have hnl:=Ik [] (λx:Zb=>x.nm) d.syms i;have hil:([]:List Bs).length<=8:=zd
  generalize d.syms[i]=x at hg s9;generalize hL:nmF [] (λx:Zb=>x.nm) d.syms i=L at s9 c6 d8 hnl⊢;have q1:At H 1 tk=True:=V1 c6.app;have q2:(L.length<=35184372088831)=True:=V1 zo;have q3:small (L.length+1) 16=True:=V1 (by unfold small;omega);simp only[eZ,seval,eY,lt_T c5,hg,e,h0,fr1 d4,q1,q2,q3];refine .mk ⟨i+1,.own (n+8) 1,hset (AL H tk) (n+8) .tok,n+10⟩ ?_ ?_ zp
  ·simp only[s9,Vt];rfl
  ·refine⟨by simp only[];rw[AA _ _ _ _ zo,AX c6 (.inr ⟨_,h1⟩)];exact h1,c5,(AT c6 d4).hset (m:=n+10) zo zo,zp,?_,.inr (.inr ⟨n+8,rfl,zo,AB ..⟩),.inl rfl⟩;simp only[];rw[AA _ _ _ _ zo,AX c6 (.inr ⟨_,h0⟩)];exact h0
 obtain rfl:i=d.syms.length:=zo
 have hNA:=Il [] (λx:Zb=>x.nm) d.syms;have hil:([]:List Bs).length<=8:=zd
 rw[hNA]at d8;have hnf:few (d.syms.map λx:Zb=>x.nm):=show(d.syms.map λx:Zb=>x.nm).length<_ by first|(rw[V0];omega)|(unfold Be;rw[V9,V0];omega)
 rw[Wi]at hNA d8;cases ht:Ad (d.syms.map λx:Zb=>x.nm)with
 |true=>
  rw[hE 161 (by unfold resD;rw[V5 h16,Vv ht])];simp only[eZ,seval,Au,V0,lt_F c5,h0,h1,hNA,JP,s1,Cg d8,B3,V1 hnf,ht];exact wk0
 |false=>
 have hgx:sGx []=λ_=>(True,givX):=rfl
 have hg0:givX= .sl (.exact 1) ((nmF Bn (λx:Z6=>x.nm) d.regs 0).map .str):=by unfold nmF;rw[WZ,Wh,W9];rfl
 simp only[eZ,seval,V0,lt_F c5,h0,hNA,JP,Tre_g,hgx,s1,Cg d8,B3,V1 hnf,ht];rw[hg0];clear d8 c6 hi c5 hNA hil hnf;refine AO (λv:VNm=>⟨[(1,true,.ptr 0 0),(2,true,.ptr 1 0),(6,true,.sl v.tk ((nmF Bn (λx:Z6=>x.nm) d.regs v.i).map .str)),(7,true,.int .i64 v.i)],v.H,v.n⟩) (λv=>(hget v.H 1=some (.box Hn))/\INm d 3 d.regs.length (nmF Bn (λx:Z6=>x.nm) d.regs v.i) v) (λv=>d.regs.length-v.i)
  ⟨0,.exact 1,H,n⟩ rfl ⟨h1,V8 _,d4,hn,h0,.inr (.inl rfl),.inl rfl⟩ ?_
 rintro⟨i,tk,H,n⟩ ⟨h1,hi,d4,hn,h0,c6,d8⟩;simp only at h1 hi d4 hn h0 c6 d8;by_cases c5:i<d.regs.length
 ·have hg:=V2 c5;have e:=AG (k:=i) zo;have s9:=GT Bn (λx:Z6=>x.nm) c5;have hnl:=Ik Bn (λx:Z6=>x.nm) d.regs i;have hil:(Bn:List Bs).length<=8:=zd
  generalize d.regs[i]=x at hg s9;generalize hL:nmF Bn (λx:Z6=>x.nm) d.regs i=L at s9 c6 d8 hnl⊢;have q1:At H 1 tk=True:=V1 c6.app;have q2:(L.length<=35184372088831)=True:=V1 zo;have q3:small (L.length+1) 16=True:=V1 (by unfold small;omega);simp only[eZ,seval,eY,lt_T c5,hg,e,h0,fr1 d4,q1,q2,q3];refine .mk ⟨i+1,.own (n+8) 1,hset (AL H tk) (n+8) .tok,n+10⟩ ?_ ?_ zp
  ·simp only[s9,Vt];rfl
  ·refine⟨by simp only[];rw[AA _ _ _ _ zo,AX c6 (.inr ⟨_,h1⟩)];exact h1,c5,(AT c6 d4).hset (m:=n+10) zo zo,zp,?_,.inr (.inr ⟨n+8,rfl,zo,AB ..⟩),.inl rfl⟩;simp only[];rw[AA _ _ _ _ zo,AX c6 (.inr ⟨_,h0⟩)];exact h0
 obtain rfl:i=d.regs.length:=zo
 have hNA:=Il Bn (λx:Z6=>x.nm) d.regs;have hil:(Bn:List Bs).length<=8:=zd
 rw[hNA]at d8;have hnf:few (Be d):=show(Be d).length<_ by first|(rw[V0];omega)|(unfold Be;rw[V9,V0];omega)
 cases j9:Ad (Be d)with
 |true=>
  rw[hE 161 (by unfold resD;rw[V5 h16,V5 (by rw[ht];decide),Vv j9])];have hNA:nmF Bn (λx:Z6=>x.nm) d.regs d.regs.length=Be d:=hNA;have d8:tk.esz=1\/Be d=[]:=d8;simp only[eZ,seval,Au,V0,lt_F c5,h0,h1,hNA,JP,s1,Cg d8,B3,V1 hnf,j9];exact wk0
 |false=>
 have hNA:nmF Bn (λx:Z6=>x.nm) d.regs d.regs.length=Be d:=hNA;have d8:tk.esz=1\/Be d=[]:=d8;have hres:resD d=if Ad (d.clus.map λx:Z5=>x.nm)=true then .error 161 else match Ag (Bf d) d.clus with
   |none=>.error 160
   |some cs=>if Ad (d.ruls.map λx:Yz=>x.nm)=true then .error 161 else match Ag (BE d) d.ruls with
    |none=>.error 160
    |some rs=>.ok {d with clus:=cs,ruls:=rs}:=by unfold resD;rw[V5 h16,V5 (by rw[ht];decide),V5 (by rw[j9];decide)];rfl
 have base:=λ(X:Fs) (hX:C2 d=X)=>hX
 cases ht3:Ad (d.clus.map λx:Z5=>x.nm)with
 |true=>
  have hc:C2 d= .tup [eCls [],.int .i64 161]:=by unfold C2;rw[Vv ht3]
  rw[hE 161 (by rw[hres,Vv ht3])];simp only[eZ,seval,V6,eY,Au,lt_F c5,h0,h1,hNA,JP,OM,s1,Cg d8,B3,A3,Ak,V1 hd,V1 hnf,j9,hc];exact wk0
 |false=>
 rw[V5 (by rw[ht3];decide)]at hres;cases hcs:Ag (Bf d) d.clus with
 |none=>
  have hc:C2 d= .tup [eCls [],.int .i64 160]:=by unfold C2;rw[V5 (by rw[ht3];decide),hcs]
  rw[hE 160 (by rw[hres,hcs])];simp only[eZ,seval,V6,eY,Au,lt_F c5,h0,h1,hNA,JP,OM,s1,Cg d8,B3,A3,Ak,V1 hd,V1 hnf,j9,hc];exact wk0
 |some cs=>
 have hc:C2 d= .tup [eCls cs,.int .i64 0]:=by unfold C2;rw[V5 (by rw[ht3];decide),hcs]
 rw[hcs]at hres;simp only at hres;cases ht4:Ad (d.ruls.map λx:Yz=>x.nm)with
 |true=>
  have hr:DM d= .tup [eRus [],.int .i64 161]:=by unfold DM;rw[Vv ht4]
  rw[hE 161 (by rw[hres,Vv ht4])];simp only[eZ,seval,V3,V6,eY,Au,lt_F c5,h0,h1,hNA,JP,OM,Tk,s1,Cg d8,B3,A3,Ak,V1 hd,V1 h16',V1 hnf,j9,hc,hr];exact wk0
 |false=>
 rw[V5 (by rw[ht4];decide)]at hres;cases hrs:Ag (BE d) d.ruls with
 |none=>
  have hr:DM d= .tup [eRus [],.int .i64 160]:=by unfold DM;rw[V5 (by rw[ht4];decide),hrs]
  rw[hE 160 (by rw[hres,hrs])];simp only[eZ,seval,V3,V6,eY,Au,lt_F c5,h0,h1,hNA,JP,OM,Tk,s1,Cg d8,B3,A3,Ak,V1 hd,V1 h16',V1 hnf,j9,hc,hr];exact wk0
 |some rs=>
  have hr:DM d= .tup [eRus rs,.int .i64 0]:=by unfold DM;rw[V5 (by rw[ht4];decide),hrs]
  rw[hO _ (by rw[hres,hrs])];simp only[eZ,seval,V3,eY,Au,lt_F c5,h0,h1,hNA,JP,OM,Tk,s1,Cg d8,B3,A3,Ak,V1 hd,V1 h16',V1 hnf,j9,hc,hr,AD];exact Wk.refl _
abbrev FewR(d:Z8):Prop:=Z4 d/\d.regs.length<999999000
def Tcz:Tab:=tadd 30 (s1 dD FewR B6) (tadd 93 (s2 dD dD (λa _=>Z4 a) λa b=>.bool (decide (a=b))) (tadd 32 sMk (tadd 94 (s2 dD dGd (λd g=>Z4 d/\Aj g.sh g.w g.h g.holes=some g.cells/\few g.holes) λd g=>.int .i64 (Cv g.cells d.regs)) (tadd 95 (s1 dD Z4 λd=>.bool (Bb d)) (tadd 96 (s1 dD (λd=>few d.ruls) λd=>eIs (Bc d.ruls)) tnil)))))
def Tcz_ok:AI prog Tcz:=(((((AI.tnil.add (q1 λd h=>p96 d h)).add (q1 λd h=>p95 d h)).add (q2 λd g h=>p94 d g h.1 h.2.1 h.2.2)).add qMk).add (q2 λa b h=>p93 a b h)).add (q1 λd h=>p30 d h.1 h.2)
theorem JQ(a:List Fs)(H:AC):Tcz 30 a H=s1 dD FewR B6 a H:=rfl
theorem Km(a:List Fs)(H:AC):Tcz 93 a H=s2 dD dD (λa _=>Z4 a) (λa b=>.bool (decide (a=b))) a H:=rfl
theorem ON(sh w h:Int)(x:Fs)(H:AC):Tcz 32 [.int .i64 sh,.int .i64 w,.int .i64 h,x] H=(dIs.ok x/\few (dIs.dec x),BL sh w h (dIs.dec x)):=rfl
theorem RE(a:List Fs)(H:AC):Tcz 94 a H=s2 dD dGd (λd g=>Z4 d/\Aj g.sh g.w g.h g.holes=some g.cells/\few g.holes) (λd g=>.int .i64 (Cv g.cells d.regs)) a H:=rfl
theorem Tl(a:List Fs)(H:AC):Tcz 95 a H=s1 dD Z4 (λd=>.bool (Bb d)) a H:=rfl
theorem Tcz_u(a:List Fs)(H:AC):Tcz 96 a H=s1 dD (λd=>few d.ruls) (λd=>eIs (Bc d.ruls)) a H:=rfl
theorem Ex{α β:Type}{f:α->Option β}:∀{l:List α} {r:List β},Ag f l=some r->r.length=l.length/\∀y∈r,∃x∈l,f x=some y
 |[],r,h=>by
  simp only[Ag,Option.some.injEq]at h;subst h;exact⟨rfl,λy hy=>by cases hy⟩
 |x::l,r,h=>by
  rw[Ce]at h;cases hx:f x with
  |none=>rw[hx]at h;cases h
  |some z=>
   rw[hx]at h;simp only at h;cases hl:Ag f l with
   |none=>rw[hl]at h;cases h
   |some s=>
    rw[hl]at h;simp only[Wt,Option.some.injEq]at h;subst h;obtain⟨h1,h2⟩:=Ex hl;refine⟨by simp [h1],λy hy=>?_⟩;rcases Wp.1 hy with rfl|hy
    ·exact⟨x,zw,hx⟩
    ·obtain⟨w,hw,e⟩:=h2 y hy;exact⟨w,by simp [hw],e⟩
def OO{d:Z8}{r r':Yz}(h:BE d r=some r'):r'.ns=r.ns/\r'.os=r.os:=by
 unfold BE at h;split at h
 ·cases h;exact⟨rfl,rfl⟩
 ·cases h
def Fq{d x:Z8}(hd:Z4 d)(h:resD d= .ok x):Z4 x:=by
 obtain⟨-,-,-,-,-,e1,e2,e3⟩:=Mz h
 have key:∃cs rs,Ag (Bf d) d.clus=some cs/\Ag (BE d) d.ruls=some rs/\x.clus=cs/\x.ruls=rs:=by
  unfold resD at h
  repeat' split at h
  all_goals first
   |(cases h;done)
   |(rename_i cs hcs _ _ rs hrs
     cases h
     exact⟨_,_,hcs,hrs,rfl,rfl⟩)
 obtain⟨cs,rs,h1,h2,h3,h4⟩:=key
 obtain⟨l1,-⟩:=Ex h1
 obtain⟨l2,m2⟩:=Ex h2
 refine⟨by rw[e1];exact hd.ho,by rw[e2];exact hd.sy,by rw[e3];exact hd.rg,by rw[e3];exact hd.rgs,?_,?_,λr hr=>?_⟩
 ·rw[h3];show cs.length<_;rw[l1];exact hd.cl
 ·rw[h4];show rs.length<_;rw[l2];exact hd.ru
 ·rw[h4]at hr
  obtain⟨r0,hr0,e⟩:=m2 r hr
  obtain⟨q1,q2⟩:=OO e
  have:=hd.rus r0 hr0
  exact⟨by rw[q1];exact this.1,by rw[q2];exact this.2⟩
def Tm(d:Z8):(decide ((d.syms.length:Int)=0)||decide ((16:Int)<d.syms.length)||decide ((4:Int)<d.regs.length)||decide ((4:Int)<d.clus.length)||decide ((16:Int)<d.ruls.length))= !limD d:=by
 rw[Wg];unfold limD;simp only[Wd,Vu,Xu,Bool.and_eq_false_iff,Xf];omega
def p31(d:Z8)(hd:Z4 d):Pur prog 31 [encD d] (.int .i64 (chkD d)):=by
 refine .mk ⟨AW 0 d,trivial⟩ trivial (c31.a (AE Tcz_ok (AF ?_)));unfold chkD;have hlb:=Tm d;cases hl:limD d with
 |false=>
  rw[hl]at hlb;rw[Vv rfl];simp only[eZ,seval,V6,V0,c31,hlb,V6]
 |true=>
 rw[hl]at hlb;rw[V5 zd];have d4:FewR d:=⟨hd,by
  unfold limD at hl;simp only[V7,Vu]at hl;omega⟩
 cases hr:resD d with
 |error e=>
  have hv:B6 d= .tup [encD dcl0,.int .i64 e]:=by unfold B6;rw[hr]
  have he:(e=0)=False:=Vs (Ef hr);simp only[eZ,seval,V3,V6,eY,c31,hlb,V3,JQ,s1,A3,Ak,V1 d4,hv,he]
 |ok x=>
 have hv:B6 d= .tup [encD x,.int .i64 0]:=by unfold B6;rw[hr]
 have hfx:=Fq hd hr;simp only[];by_cases hx:x=d;case neg=>
  rw[Vv hx];simp only[eZ,seval,V3,V6,eY,c31,hlb,V3,JQ,Km,s1,s2,A3,Ak,V1 d4,V1 hfx,hv,Az hx]
 rw[V5 (λz=>z hx)];subst hx;by_cases hver:x.ver<1\/255<x.ver
 ·have hvb:(decide (x.ver<1)||decide (255<x.ver))=true:=by simpa using hver
  rw[Vv hver];simp only[eZ,seval,V3,eY,c31,hlb,V3,JQ,Km,s1,s2,A3,Ak,V1 d4,V1 hd,hv,hvb]
 have hvb:(decide (x.ver<1)||decide (255<x.ver))=false:=by simp;omega
 rw[V5 hver];cases hc:Aj x.sh x.w x.h x.holes with
 |none=>
  have hm:BL x.sh x.w x.h x.holes= .tup [encG 0 0 0 [] [],.int .i64 130]:=by unfold BL;rw[hc]
  simp only[eZ,seval,V3,V6,eY,c31,hlb,V3,JQ,Km,ON,s1,s2,A3,Ak,Al,AZ,V1 d4,V1 hd,V1 hd.ho,hv,hvb,hm]
 |some cells=>
 have hm:BL x.sh x.w x.h x.holes= .tup [encG x.sh x.w x.h x.holes cells,.int .i64 0]:=by unfold BL;rw[hc]
 simp only[];by_cases hre:Cv cells x.regs=0;case neg=>
  rw[Vv hre];simp only[eZ,seval,V3,V6,eY,c31,hlb,V3,JQ,Km,ON,RE,s1,s2,A3,Ak,Al,AZ,Er,Cm,V1 d4,V1 hd,V1 hd.ho,hv,hvb,hm,hc,Vs hre]
 rw[V5 (λz=>z hre)];cases hf:Bb x with
 |false=>
  rw[Vv rfl];simp only[eZ,seval,V3,V6,eY,c31,hlb,V3,JQ,Km,ON,RE,Tl,s1,s2,A3,Ak,Al,AZ,Er,Cm,V1 d4,V1 hd,V1 hd.ho,hv,hvb,hm,hc,hre,hf]
 |true=>
 rw[V5 zd];by_cases hu:Bc x.ruls=[]
 ·rw[V5 (λz=>z hu)];simp only[eZ,seval,V3,eY,c31,hlb,V3,JQ,Km,ON,RE,Tl,Tcz_u,s1,s2,A3,Ak,Al,AZ,Er,Cm,V1 d4,V1 hd,V1 hd.ho,V1 hd.ru,hv,hvb,hm,hc,hre,hf,hu]
 ·rw[Vv hu];have hup:((0:Int)<((Bc x.ruls).length:Int))=True:=V1 (by have:=List.length_pos_iff.2 hu;omega);simp only[eZ,seval,V3,eY,c31,hlb,V3,JQ,Km,ON,RE,Tl,Tcz_u,s1,s2,A3,Ak,Al,AZ,Er,Cm,V1 d4,V1 hd,V1 hd.ho,V1 hd.ru,hv,hvb,hm,hc,hre,hf,hup]
end Go.AM
