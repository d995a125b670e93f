/-
  Parts of the proof. Conditions: none.
-/
import Derived.Test.YtbohiinkdkoacaaGreatDoorB10
set_option maxRecDepth 20000
set_option linter.all false
namespace Go.AM
open Go.Lib Go.Proofs Go.Proofs.Tryz
def p103(a b:List Int)(ha:wide a):Pur prog 103 [eIs a,eIs b] (.bool (decide (a=b))):=by
 refine .mk ⟨Ai 0 _,Ai 0 _,trivial⟩ trivial (c103.a (AE AI.tnil (AF ?_)));have l6:a.length<1125899906842624:=ha;by_cases hl:a.length=b.length;case neg=>
  have hR:decide (a=b)=false:=W2 λq=>hl (by rw[q])
  have hq:((a.length:Int)=(b.length:Int))=False:=Vs zo;rw[hR];simp only[eZ,seval,V6,V0,c103,hq]
 have hq:((a.length:Int)=(b.length:Int))=True:=V1 zo;simp only[eZ,seval,V3,V0,c103,hq];refine AO (λi:Nat=>⟨[(0,true,eIs a),(1,true,eIs b),(5,true,.int .i64 i)],hnil,0⟩) (λi=>i<=a.length/\a.take i=b.take i) (λi=>a.length-i) 0 rfl ⟨V8 _,rfl⟩ ?_;rintro i ⟨hi,c7⟩;by_cases c6:i<a.length
 ·have d4:i<b.length:=zo
  have hg:=V2 c6;have d8:=V2 d4;have e:=AG (k:=i) zo;have ta:a.take (i+1)=a.take i++[a[i]]:=by rw[Vx,hg];rfl
  have tb:b.take (i+1)=b.take i++[b[i]]:=by rw[Vx,d8];rfl
  generalize a[i]=x at hg ta;generalize b[i]=y at d8 tb;by_cases i6:x=y
  ·simp only[eZ,seval,V3,eY,lt_T c6,lt_T d4,hg,d8,e,i6];exact .mk (i+1) rfl ⟨c6,by rw[ta,tb,c7,i6]⟩ zo
  ·have hR:decide (a=b)=false:=W2 λq=>i6 (by rw[q]at hg;rw[hg]at d8;exact Option.some.inj d8)
   rw[hR];simp only[eZ,seval,V6,eY,lt_T c6,lt_T d4,hg,d8,Az i6]
 obtain rfl:i=a.length:=zo
 have hR:decide (a=b)=true:=Wo (by rw[Vw,hl,Vw]at c7;exact c7);rw[hR];simp only[eZ,seval,V0,lt_F c6]
def p164(a b:List Bs)(ha:wide a):Pur prog 164 [eSs a,eSs b] (.bool (decide (a=b))):=by
 refine .mk ⟨BK 0 _,BK 0 _,trivial⟩ trivial (c164.a (AE AI.tnil (AF ?_)));have l6:a.length<1125899906842624:=ha;by_cases hl:a.length=b.length;case neg=>
  have hR:decide (a=b)=false:=W2 λq=>hl (by rw[q])
  have hq:((a.length:Int)=(b.length:Int))=False:=Vs zo;rw[hR];simp only[eZ,seval,V6,V0,c164,hq]
 have hq:((a.length:Int)=(b.length:Int))=True:=V1 zo;simp only[eZ,seval,V3,V0,c164,hq];refine AO (λi:Nat=>⟨[(0,true,eSs a),(1,true,eSs b),(5,true,.int .i64 i)],hnil,0⟩) (λi=>i<=a.length/\a.take i=b.take i) (λi=>a.length-i) 0 rfl ⟨V8 _,rfl⟩ ?_;rintro i ⟨hi,c7⟩;by_cases c6:i<a.length
 ·have d4:i<b.length:=zo
  have hg:=V2 c6;have d8:=V2 d4;have e:=AG (k:=i) zo;have ta:a.take (i+1)=a.take i++[a[i]]:=by rw[Vx,hg];rfl
  have tb:b.take (i+1)=b.take i++[b[i]]:=by rw[Vx,d8];rfl
  generalize a[i]=x at hg ta;generalize b[i]=y at d8 tb;by_cases i6:x=y
  ·simp only[eZ,seval,V3,eY,lt_T c6,lt_T d4,hg,d8,e,Ap,BA i6];exact .mk (i+1) rfl ⟨c6,by rw[ta,tb,c7,i6]⟩ zo
  ·have hR:decide (a=b)=false:=W2 λq=>i6 (by rw[q]at hg;rw[hg]at d8;exact Option.some.inj d8)
   rw[hR];simp only[eZ,seval,V6,eY,lt_T c6,lt_T d4,hg,d8,Ap,Az i6]
 obtain rfl:i=a.length:=zo
 have hR:decide (a=b)=true:=Wo (by rw[Vw,hl,Vw]at c7;exact c7);rw[hR];simp only[eZ,seval,V0,lt_F c6]
def T6n:Tab:=tadd 164 (s2 dSs dSs (λa _=>wide a) λa b=>.bool (decide (a=b))) tnil
def T6n_ok:AI prog T6n:=AI.tnil.add (q2 p164)
def T6i:Tab:=tadd 103 (s2 dIs dIs (λa _=>wide a) λa b=>.bool (decide (a=b))) tnil
def T6i_ok:AI prog T6i:=AI.tnil.add (q2 p103)
def T3i:Tab:=tadd 85 (s2 dIs dIs (λa _=>wide a) λa b=>.bool (decide (a=b))) tnil
def Ss:AI prog T3i:=AI.tnil.add (q2 p85W)
def p105(a b:Yz)(ha:Fi a):Pur prog 105 [BQ a,BQ b] (.bool (decide (a=b))):=by
 refine .mk ⟨Ao 0 _,Ao 0 _,trivial⟩ trivial (c105.a (AE T6n_ok (AF ?_)));obtain⟨h1,h2⟩:=ha;simp only[eZ,seval,c105,T6n,s2,Ed,DG,V1 h1,V1 h2,A4,tadd];rw[Wg,Vu,Ls];simp only[V7,Vu];constructor
 ·intro h;simp only[h,Yt]
 ·intro h;simp only[h,Yt]
def p25(a b:List (List Int))(ha:few a)(hf:∀x∈a,wide x):Pur prog 25 [eLl a,eLl b] (.bool (decide (a=b))):=by
 refine .mk ⟨Am 0 _,Am 0 _,trivial⟩ trivial (c25.a (AE Ss (AF ?_)));have l6:a.length<1000000000:=ha;by_cases hl:a.length=b.length;case neg=>
  have hR:decide (a=b)=false:=W2 λq=>hl (by rw[q])
  have hq:((a.length:Int)=(b.length:Int))=False:=Vs zo;rw[hR];simp only[eZ,seval,V6,V0,c25,hq]
 have hq:((a.length:Int)=(b.length:Int))=True:=V1 zo;simp only[eZ,seval,V3,V0,c25,hq];refine AO (λi:Nat=>⟨[(0,true,eLl a),(1,true,eLl b),(5,true,.int .i64 i)],hnil,0⟩) (λi=>i<=a.length/\a.take i=b.take i) (λi=>a.length-i) 0 rfl ⟨V8 _,rfl⟩ ?_;rintro i ⟨hi,c7⟩;by_cases c6:i<a.length
 ·have d4:i<b.length:=zo
  have hg:=V2 c6;have d8:=V2 d4;have e:=AG (k:=i) zo;have ta:a.take (i+1)=a.take i++[a[i]]:=by rw[Vx,hg];rfl
  have tb:b.take (i+1)=b.take i++[b[i]]:=by rw[Vx,d8];rfl
  have l7:=hf _ (W1 c6);generalize a[i]=x at hg ta l7;generalize b[i]=y at d8 tb;by_cases i6:x=y
  ·simp only[eZ,seval,V3,eY,lt_T c6,lt_T d4,hg,d8,e,T3i,s2,Al,AZ,V1 l7,BA i6,tadd];exact .mk (i+1) rfl ⟨c6,by rw[ta,tb,c7,i6]⟩ zo
  ·have hR:decide (a=b)=false:=W2 λq=>i6 (by rw[q]at hg;rw[hg]at d8;exact Option.some.inj d8)
   rw[hR];simp only[eZ,seval,V6,eY,lt_T c6,lt_T d4,hg,d8,T3i,s2,Al,AZ,V1 l7,Az i6,tadd]
 obtain rfl:i=a.length:=zo
 have hR:decide (a=b)=true:=Wo (by rw[Vw,hl,Vw]at c7;exact c7);rw[hR];simp only[eZ,seval,V0,lt_F c6]
def p104(x y:Z6)(hx:Bm x.ls):Pur prog 104 [FF x,FF y] (.bool (decide (x=y))):=by
 refine .mk ⟨CV 0 x,CV 0 y,trivial⟩ trivial (c104.a (AE T6i_ok (AF ?_)));obtain⟨nm,a⟩:=x;obtain⟨nn,b⟩:=y;have ha:few a:=hx.1;have hf:∀x∈a,wide x:=hx.2;have l6:a.length<1000000000:=ha;by_cases hn:nm=nn;case neg=>
  have hR:decide ((⟨nm,a⟩:Z6)=⟨nn,b⟩)=false:=W2 λq=>hn (by injection q)
  rw[hR];simp only[eZ,seval,V3,V6,V0,c104,Ap,Az hn]
 subst hn;by_cases hl:a.length=b.length;case neg=>
  have hR:decide ((⟨nm,a⟩:Z6)=⟨nm,b⟩)=false:=W2 λq=>hl (by injection q with _ q;rw[q])
  have hq:((a.length:Int)=(b.length:Int))=False:=Vs zo;rw[hR];simp only[eZ,seval,V3,V6,V0,c104,hq,Ap]
 have hq:((a.length:Int)=(b.length:Int))=True:=V1 zo;have hS:decide ((⟨nm,a⟩:Z6)=⟨nm,b⟩)=decide (a=b):=by rw[Wg];simp [Z6.mk.injEq]
 rw[hS];simp only[eZ,seval,V3,V0,c104,hq,Ap];refine AO (λi:Nat=>⟨[(2,true,.ptr 0 0),(3,true,.ptr 1 0),(5,true,.int .i64 i)],hset (hset hnil 0 (.box [.str nm,eLl a])) 1 (.box [.str nm,eLl b]),3⟩) (λi=>i<=a.length/\a.take i=b.take i) (λi=>a.length-i) 0 rfl ⟨V8 _,rfl⟩ ?_;rintro i ⟨hi,c7⟩;by_cases c6:i<a.length
 ·have d4:i<b.length:=zo
  have hg:=V2 c6;have d8:=V2 d4;have e:=AG (k:=i) zo;have ta:a.take (i+1)=a.take i++[a[i]]:=by rw[Vx,hg];rfl
  have tb:b.take (i+1)=b.take i++[b[i]]:=by rw[Vx,d8];rfl
  have l7:=hf _ (W1 c6);generalize a[i]=x at hg ta l7;generalize b[i]=y at d8 tb;by_cases i6:x=y
  ·simp only[eZ,seval,V3,eY,lt_T c6,lt_T d4,hg,d8,e,T6i,s2,Al,AZ,V1 l7,BA i6,tadd];exact .mk (i+1) rfl ⟨c6,by rw[ta,tb,c7,i6]⟩ zo
  ·have hR:decide (a=b)=false:=W2 λq=>i6 (by rw[q]at hg;rw[hg]at d8;exact Option.some.inj d8)
   rw[hR];simp only[eZ,seval,V6,eY,lt_T c6,lt_T d4,hg,d8,T6i,s2,Al,AZ,V1 l7,Az i6,tadd]
 obtain rfl:i=a.length:=zo
 have hR:decide (a=b)=true:=Wo (by rw[Vw,hl,Vw]at c7;exact c7);rw[hR];simp only[eZ,seval,V0,lt_F c6]
def p37(a b:Zc)(h1:wide a.holes)(h2:wide a.cells):Pur prog 37 [Bu a,Bu b] (.bool (decide (a=b))):=by
 refine .mk ⟨⟨trivial,trivial,trivial,Ai 0 _,Ai 0 _,trivial⟩,⟨trivial,trivial,trivial,Ai 0 _,Ai 0 _,trivial⟩,trivial⟩ trivial (c37.a (AE Ss (AF ?_)));simp only[eZ,seval,c37,T3i,s2,Al,AZ,V1 h1,V1 h2,tadd];rw[Wg];simp only[V7,Vu];constructor
 ·intro h;obtain⟨a1,a2,a3,a4,a5⟩:=a;obtain⟨b1,b2,b3,b4,b5⟩:=b;simp only at h;simp only[h]
 ·intro h;simp only[h,Yt]
def T6d:Tab:=tadd 103 (s2 dIs dIs (λa _=>wide a) λa b=>.bool (decide (a=b))) (tadd 104 (s2 dRg dRg (λa _=>Bm a.ls) λa b=>.bool (decide (a=b))) (tadd 105 (s2 dRu dRu (λa _=>Fi a) λa b=>.bool (decide (a=b))) tnil))
def T6d_ok:AI prog T6d:=((AI.tnil.add (q2 p105)).add (q2 p104)).add (q2 p103)
def p36(a b:Z8)(hd:Z4 a):Pur prog 36 [encD a,encD b] (.bool (decide (a=b))):=by
 refine .mk ⟨AW 0 _,AW 0 _,trivial⟩ trivial (a36 (AE T6d_ok (AF ?_)));cases h1:decide (a.nm=b.nm/\a.ver=b.ver/\a.sh=b.sh/\a.w=b.w/\a.h=b.h/\a.holes=b.holes)with
 |false=>
  have h1:=Yf h1;have hR:decide (a=b)=false:=W2 λq=>h1 (by rw[q];exact⟨rfl,rfl,rfl,rfl,rfl,rfl⟩)
  have hb:(scmp .neq a.nm b.nm|| !decide (a.ver=b.ver)|| !decide (a.sh=b.sh)|| !decide (a.w=b.w)|| !decide (a.h=b.h)|| !decide (a.holes=b.holes))=true:=by
   rw[Ap,<-Yi];intro q;simp only[Xm,XM,Vu,Xa]at q;exact h1 q
  rw[hR];simp only[eZ,seval,V3,V0,c36,T6d,s2,Al,AZ,V1 (Ca hd.ho),hb,tadd]
 |true=>
 obtain⟨a1,a2,a3,a4,a5,a6⟩:=Wn h1;have hb:(scmp .neq a.nm b.nm|| !decide (a.ver=b.ver)|| !decide (a.sh=b.sh)|| !decide (a.w=b.w)|| !decide (a.h=b.h)|| !decide (a.holes=b.holes))=false:=by
  rw[Ap];simp [a1,a2,a3,a4,a5,a6]
 clear h1;cases h2:decide (a.syms.length=b.syms.length/\a.regs.length=b.regs.length/\a.clus.length=b.clus.length/\a.ruls.length=b.ruls.length)with
 |false=>
  have h2:=Yf h2;have hR:decide (a=b)=false:=W2 λq=>h2 (by rw[q];exact⟨rfl,rfl,rfl,rfl⟩)
  have l5:(!decide ((a.syms.length:Int)=(b.syms.length:Int))|| !decide ((a.regs.length:Int)=(b.regs.length:Int))|| !decide ((a.clus.length:Int)=(b.clus.length:Int))|| !decide ((a.ruls.length:Int)=(b.ruls.length:Int)))=true:=by grind
  rw[hR];simp only[eZ,seval,V0,c36,T6d,s2,Al,AZ,V1 (Ca hd.ho),hb,l5,tadd]
 |true=>
 obtain⟨l1,l2,l3,l4⟩:=Wn h2;have l5:(!decide ((a.syms.length:Int)=(b.syms.length:Int))|| !decide ((a.regs.length:Int)=(b.regs.length:Int))|| !decide ((a.clus.length:Int)=(b.clus.length:Int))|| !decide ((a.ruls.length:Int)=(b.ruls.length:Int)))=false:=by
  simp [l1,l2,l3,l4]
 clear h2;simp only[eZ,seval,V0,c36,T6d,s2,Al,AZ,V1 (Ca hd.ho),hb,l5,tadd];refine AO (λi:Nat=>⟨[(2,true,.ptr 0 0),(3,true,.ptr 1 0),(5,true,.int .i64 i)],hset (hset hnil 0 (.box (AK a))) 1 (.box (AK b)),3⟩) (λi=>i<=a.syms.length/\a.syms.take i=b.syms.take i) (λi=>a.syms.length-i) 0 rfl ⟨V8 _,rfl⟩ ?_;rintro i ⟨hi,c7⟩;have q8:a.syms.length<1000000000:=hd.sy;by_cases c6:i<a.syms.length
 ·have d4:i<b.syms.length:=zo
  have hg:=V2 c6;have d8:=V2 d4;have e:=AG (k:=i) zo;have ta:a.syms.take (i+1)=a.syms.take i++[a.syms[i]]:=by rw[Vx,hg];rfl
  have tb:b.syms.take (i+1)=b.syms.take i++[b.syms[i]]:=by rw[Vx,d8];rfl
  generalize a.syms[i]=x at hg ta;generalize b.syms[i]=y at d8 tb;by_cases i6:x=y
  ·have hc:=Ib x y;rw[Wo i6]at hc;simp only[eZ,seval,V3,eY,lt_T c6,lt_T d4,hg,d8,e,hc,cfit];exact .mk (i+1) rfl ⟨c6,by rw[ta,tb,c7,i6]⟩ zo
  ·have hR:decide (a=b)=false:=W2 λq=>i6 (by rw[q]at hg;rw[hg]at d8;exact Option.some.inj d8)
   have hc:=Ib x y;rw[W2 i6]at hc;rw[hR];simp only[eZ,seval,V6,eY,lt_T c6,lt_T d4,hg,d8,hc,cfit]
 obtain rfl:i=a.syms.length:=zo
 have b_syms:a.syms=b.syms:=by rw[Vw,l1,Vw]at c7;exact c7
 simp only[eZ,seval,V0,lt_F c6];clear hi c7 q8 c6;refine AO (λi:Nat=>⟨[(2,true,.ptr 0 0),(3,true,.ptr 1 0),(6,true,.int .i64 i)],hset (hset hnil 0 (.box (AK a))) 1 (.box (AK b)),3⟩) (λi=>i<=a.regs.length/\a.regs.take i=b.regs.take i) (λi=>a.regs.length-i) 0 rfl ⟨V8 _,rfl⟩ ?_;rintro i ⟨hi,c7⟩;have q8:a.regs.length<1000000000:=hd.rg;by_cases c6:i<a.regs.length
 ·have d4:i<b.regs.length:=zo
  have hg:=V2 c6;have d8:=V2 d4;have e:=AG (k:=i) zo;have ta:a.regs.take (i+1)=a.regs.take i++[a.regs[i]]:=by rw[Vx,hg];rfl
  have tb:b.regs.take (i+1)=b.regs.take i++[b.regs[i]]:=by rw[Vx,d8];rfl
  have l7:Bm a.regs[i].ls:=hd.rgs _ (W1 c6);generalize a.regs[i]=x at hg ta l7;generalize b.regs[i]=y at d8 tb;by_cases i6:x=y
  ·simp only[eZ,seval,V3,eY,lt_T c6,lt_T d4,hg,d8,e,T6d,s2,HN,FG,V1 l7,BA i6,tadd];exact .mk (i+1) rfl ⟨c6,by rw[ta,tb,c7,i6]⟩ zo
  ·have hR:decide (a=b)=false:=W2 λq=>i6 (by rw[q]at hg;rw[hg]at d8;exact Option.some.inj d8)
   rw[hR];simp only[eZ,seval,V6,eY,lt_T c6,lt_T d4,hg,d8,T6d,s2,HN,FG,V1 l7,Az i6,tadd]
 obtain rfl:i=a.regs.length:=zo
 have b_regs:a.regs=b.regs:=by rw[Vw,l2,Vw]at c7;exact c7
 simp only[eZ,seval,V0,lt_F c6];clear hi c7 q8 c6;refine AO (λi:Nat=>⟨[(2,true,.ptr 0 0),(3,true,.ptr 1 0),(7,true,.int .i64 i)],hset (hset hnil 0 (.box (AK a))) 1 (.box (AK b)),3⟩) (λi=>i<=a.clus.length/\a.clus.take i=b.clus.take i) (λi=>a.clus.length-i) 0 rfl ⟨V8 _,rfl⟩ ?_;rintro i ⟨hi,c7⟩;have q8:a.clus.length<1000000000:=hd.cl;by_cases c6:i<a.clus.length
 ·have d4:i<b.clus.length:=zo
  have hg:=V2 c6;have d8:=V2 d4;have e:=AG (k:=i) zo;have ta:a.clus.take (i+1)=a.clus.take i++[a.clus[i]]:=by rw[Vx,hg];rfl
  have tb:b.clus.take (i+1)=b.clus.take i++[b.clus[i]]:=by rw[Vx,d8];rfl
  generalize a.clus[i]=x at hg ta;generalize b.clus[i]=y at d8 tb;by_cases i6:x=y
  ·have hc:=Ic x y;rw[Wo i6]at hc;simp only[eZ,seval,V3,eY,lt_T c6,lt_T d4,hg,d8,e,hc,cfit];exact .mk (i+1) rfl ⟨c6,by rw[ta,tb,c7,i6]⟩ zo
  ·have hR:decide (a=b)=false:=W2 λq=>i6 (by rw[q]at hg;rw[hg]at d8;exact Option.some.inj d8)
   have hc:=Ic x y;rw[W2 i6]at hc;rw[hR];simp only[eZ,seval,V6,eY,lt_T c6,lt_T d4,hg,d8,hc,cfit]
 obtain rfl:i=a.clus.length:=zo
 have b_clus:a.clus=b.clus:=by rw[Vw,l3,Vw]at c7;exact c7
 simp only[eZ,seval,V0,lt_F c6];clear hi c7 q8 c6;refine AO (λi:Nat=>⟨[(2,true,.ptr 0 0),(3,true,.ptr 1 0),(8,true,.int .i64 i)],hset (hset hnil 0 (.box (AK a))) 1 (.box (AK b)),3⟩) (λi=>i<=a.ruls.length/\a.ruls.take i=b.ruls.take i) (λi=>a.ruls.length-i) 0 rfl ⟨V8 _,rfl⟩ ?_;rintro i ⟨hi,c7⟩;have q8:a.ruls.length<1000000000:=hd.ru;by_cases c6:i<a.ruls.length
 ·have d4:i<b.ruls.length:=zo
  have hg:=V2 c6;have d8:=V2 d4;have e:=AG (k:=i) zo;have ta:a.ruls.take (i+1)=a.ruls.take i++[a.ruls[i]]:=by rw[Vx,hg];rfl
  have tb:b.ruls.take (i+1)=b.ruls.take i++[b.ruls[i]]:=by rw[Vx,d8];rfl
  have l7:Fi a.ruls[i]:=hd.rus _ (W1 c6);generalize a.ruls[i]=x at hg ta l7;generalize b.ruls[i]=y at d8 tb;by_cases i6:x=y
  ·simp only[eZ,seval,V3,eY,lt_T c6,lt_T d4,hg,d8,e,T6d,s2,BV,A7,V1 l7,BA i6,tadd];exact .mk (i+1) rfl ⟨c6,by rw[ta,tb,c7,i6]⟩ zo
  ·have hR:decide (a=b)=false:=W2 λq=>i6 (by rw[q]at hg;rw[hg]at d8;exact Option.some.inj d8)
   rw[hR];simp only[eZ,seval,V6,eY,lt_T c6,lt_T d4,hg,d8,T6d,s2,BV,A7,V1 l7,Az i6,tadd]
 obtain rfl:i=a.ruls.length:=zo
 have b_ruls:a.ruls=b.ruls:=by rw[Vw,l4,Vw]at c7;exact c7
 have hR:decide (a=b)=true:=Wo (by
  cases a;cases b;simp only at a1 a2 a3 a4 a5 a6 b_syms b_regs b_clus b_ruls;subst a1 a2 a3 a4 a5 a6 b_syms b_regs b_clus b_ruls;rfl)
 rw[hR];simp only[eZ,seval,V0,lt_F c6]
def T8l:Tab:=tadd 25 (s2 dLl dLl (λa _=>Bm a) λa b=>.bool (decide (a=b))) (tadd 37 (s2 dGd dGd (λa _=>wide a.holes/\wide a.cells) λa b=>.bool (decide (a=b))) (tadd 36 (s2 dD dD (λa _=>Z4 a) λa b=>.bool (decide (a=b))) tnil))
def T8l_ok:AI prog T8l:=((AI.tnil.add (q2 p36)).add (q2 λa b h=>p37 a b h.1 h.2)).add (q2 λa b h=>p25 a b h.1 h.2)
structure FewKr(k:Knd):Prop where
 d:Z4 k.d
 ho:wide k.g.holes
 ce:wide k.g.cells
 nb:Bm k.nb
 ls:wide k.ls
 lx:∀x∈k.ls,Bm x
def p12(x y:Knd)(hx:FewKr x):Pur prog 12 [BR x,BR y] (.bool (decide (x=y))):=by
 refine .mk ⟨BT 0 x,BT 0 y,trivial⟩ trivial (c12.a (AE T8l_ok (AF ?_)));have l6:x.ls.length<1125899906842624:=hx.ls;by_cases hl:x.ls.length=y.ls.length;case neg=>
  have hR:decide (x=y)=false:=W2 λq=>hl (by rw[q])
  have hq:((x.ls.length:Int)=(y.ls.length:Int))=False:=Vs zo;rw[hR];simp only[eZ,seval,V6,V0,c12,Ah,AH,AK,hq]
 have hq:((x.ls.length:Int)=(y.ls.length:Int))=True:=V1 zo;simp only[eZ,seval,V3,V0,c12,Ah,AH,AK,hq];refine AO (λi:Nat=>⟨[(2,true,.ptr 0 0),(3,true,.ptr 1 0),(5,true,.int .i64 i)],hset (hset hnil 0 (.box (Ah x))) 1 (.box (Ah y)),3⟩) (λi=>i<=x.ls.length/\x.ls.take i=y.ls.take i) (λi=>x.ls.length-i) 0 rfl ⟨V8 _,rfl⟩ ?_;rintro i ⟨hi,c7⟩;by_cases c6:i<x.ls.length
 ·have d4:i<y.ls.length:=zo
  have hg:=V2 c6;have d8:=V2 d4;have e:=AG (k:=i) zo;have ta:x.ls.take (i+1)=x.ls.take i++[x.ls[i]]:=by rw[Vx,hg];rfl
  have tb:y.ls.take (i+1)=y.ls.take i++[y.ls[i]]:=by rw[Vx,d8];rfl
  have l7:=hx.lx _ (W1 c6);generalize x.ls[i]=u at hg ta l7;generalize y.ls[i]=v at d8 tb;by_cases i6:u=v
  ·simp only[eZ,seval,V3,eY,Ah,AH,AK,lt_T c6,lt_T d4,hg,d8,e,T8l,s2,CM,Bl,V1 l7,BA i6,tadd];exact .mk (i+1) rfl ⟨c6,by rw[ta,tb,c7,i6]⟩ zo
  ·have hR:decide (x=y)=false:=W2 λq=>i6 (by rw[q]at hg;rw[hg]at d8;exact Option.some.inj d8)
   rw[hR];simp only[eZ,seval,V6,eY,Ah,AH,AK,lt_T c6,lt_T d4,hg,d8,T8l,s2,CM,Bl,V1 l7,Az i6,tadd]
 obtain rfl:i=x.ls.length:=zo
 have hls:x.ls=y.ls:=by rw[Vw,hl,Vw]at c7;exact c7
 have e1:dD.ok (.agg (AK x.d))=True:=A0 x.d;have e2:dD.dec (.agg (AK x.d))=x.d:=Aj x.d;have e3:dD.ok (.agg (AK y.d))=True:=A0 y.d;have e4:dD.dec (.agg (AK y.d))=y.d:=Aj y.d;have f1:dGd.ok (.agg (AH x.g.sh x.g.w x.g.h x.g.holes x.g.cells))=True:=DI x.g;have f2:dGd.dec (.agg (AH x.g.sh x.g.w x.g.h x.g.holes x.g.cells))=x.g:=B6 x.g;have f3:dGd.ok (.agg (AH y.g.sh y.g.w y.g.h y.g.holes y.g.cells))=True:=DI y.g;have f4:dGd.dec (.agg (AH y.g.sh y.g.w y.g.h y.g.holes y.g.cells))=y.g:=B6 y.g;simp only[AK]at e1 e2 e3 e4;simp only[AH]at f1 f2 f3 f4;simp only[eZ,seval,V0,Ah,AH,AK,lt_F c6,T8l,s2,CM,Bl,e1,e2,e3,e4,f1,f2,f3,f4,V1 hx.d,V1 hx.ho,V1 hx.ce,V1 hx.nb,tadd];rw[Wg];simp only[V7,Vu];constructor
 ·rintro⟨⟨h1,h2⟩,h3⟩;obtain⟨a1,a2,a3,a4⟩:=x;obtain⟨b1,b2,b3,b4⟩:=y;simp only at h1 h2 h3 hls;subst h1 h2 h3 hls;rfl
 ·rintro rfl;exact⟨⟨rfl,rfl⟩,rfl⟩
def besS(sh:Int)(a b:Spot):Bool:=(D9 sh).any λd=>decide (b=addP a d)
def besR(sh:Int)(a b:Spot):Bool:=
 let dx:=b.1-a.1
 let dy:=b.2-a.2
 if sh=1 then decide (dy=0)&&(decide (dx=1)||decide (dx= -1))||decide (dx=0)&&(decide (dy=1)||decide (dy= -1))
 else decide (dx=1)&&decide (dy=0)||decide (dx= -1)&&decide (dy=0)||decide (dx=0)&&decide (dy=1)||decide (dx=0)&&decide (dy= -1)||decide (dx=1)&&decide (dy= -1)||decide (dx= -1)&&decide (dy=1)
def Kn(sh:Int)(a b:Spot):besR sh a b=besS sh a b:=by
 obtain⟨a1,a2⟩:=a;obtain⟨b1,b2⟩:=b;rw[Wg];unfold besR besS D9 addP;by_cases h:sh=1
 ·simp only[Vv h,List.take,List.any_cons,List.any_nil,Wd,V7,Vu,Prod.mk.injEq,W5,or_false];omega
 ·simp only[V5 h,List.take,List.any_cons,List.any_nil,Wd,V7,Vu,Prod.mk.injEq,W5,or_false];omega
def St(sh:Int)(S:List Spot)(s:Spot):nbS sh S s=idxP S.length λb=>match S[b]? with
  |some t=>besS sh s t
  |none=>false:=by
 unfold nbS;refine CW λi hi=>?_
 rw[V2 hi];unfold besS;simp only[Option.some.injEq]
def RF(sh:Int)(a:Spot):besS sh a a=false:=by
 rw[<-Kn,Bool.eq_false_iff];intro h;unfold besR at h;by_cases h1:sh=1
 ·simp_all
 ·simp_all
def OQ{y:Int}(h:0<=y):(y-y.tmod 2).tdiv 2=y.tdiv 2:=by grind
structure GrV(g:Zc):Prop where
 hG:Ak g.sh g.w g.h g.holes=some g.cells
 ho:few g.holes
def Aa(g:Zc)(c:Int):Int:=g.cells.getD c.toNat 0
def inG(g:Zc)(c:Int):Prop:=0<=c/\c.toNat<g.cells.length
def GrV.at{g:Zc}(G:GrV g){c:Int}(h:inG g c):∃k:Nat,c=(k:Int)/\k<g.cells.length/\g.cells[k]?=some (Aa g c)/\0<=Aa g c/\1<=g.w/\g.w<=16/\0<=(Aa g c).tmod g.w/\(Aa g c).tmod g.w<16/\0<=(Aa g c).tdiv g.w/\(Aa g c).tdiv g.w<16/\((Aa g c).tdiv g.w).tdiv 2=(Aa g c).tdiv g.w/2/\(g.sh=1\/g.sh=2):=by
 obtain⟨h0,h1⟩:=h;obtain⟨hs,w1,w2,k1,k2,-,-,-,hc⟩:=Fj G.hG;obtain⟨-,-,hr⟩:=Ax G.hG;have hg:=V2 h1;have hp:g.cells[c.toNat]?=some (Aa g c):=by unfold Aa;rw[WM,hg];rfl
 have hm:Aa g c∈g.cells:=XE hp;have hm2:=hm;rw[hc]at hm2;have hm3:=(Xb.mp hm2).1;have hq:0<=Aa g c/\Aa g c<g.w*g.h:=by grind [Bp]
 refine⟨c.toNat,zo,h1,hp,hq.1,w1,w2,Int.tmod_nonneg _ hq.1,by have:=Int.tmod_lt_of_pos (Aa g c) (b:=g.w) zo;omega,Int.tdiv_nonneg hq.1 zo,?_,XV (Int.tdiv_nonneg hq.1 zo),hs⟩;rw[XV hq.1];have:=Int.ediv_lt_of_lt_mul (by omega:0<g.w) (by rw[Int.mul_comm];exact hq.2);omega
def p160(g:Zc)(c:Int)(G:GrV g)(h:inG g c):Pur prog 160 [Bu g,.int .i64 c] (.int .i64 ((Aa g c).tmod g.w)):=by
 obtain⟨k,rfl,hk,hg,hp,w1,w2,x1,x2,y1,y2,ey,hs⟩:=G.at h;have hw:(g.w=0)=False:=Vs zo;have hk2:((k:Int)<(g.cells.length:Int))=True:=V1 zo;refine .mk ⟨Ar 0 ..,trivial,trivial⟩ trivial (c160.a (AE AI.tnil (AF ?_)));simp only[eE,eN,seval,eY,c160,AH,hg,hk2,hw]
def p161(g:Zc)(c:Int)(G:GrV g)(h:inG g c):Pur prog 161 [Bu g,.int .i64 c] (.int .i64 ((Aa g c).tdiv g.w)):=by
 obtain⟨k,rfl,hk,hg,hp,w1,w2,x1,x2,y1,y2,ey,hs⟩:=G.at h;have hw:(g.w=0)=False:=Vs zo;have hk2:((k:Int)<(g.cells.length:Int))=True:=V1 zo;have e1:IntKind.wrap .i64 ((Aa g k).tdiv g.w)=(Aa g k).tdiv g.w:=Ae zo zo;refine .mk ⟨Ar 0 ..,trivial,trivial⟩ trivial (c161.a (AE AI.tnil (AF ?_)));simp only[eE,eN,seval,eY,c161,AH,hg,hk2,hw,e1]
def fCol(g:Zc)(c:Int):Fs:=.int .i64 ((Aa g c).tmod g.w)
def fRow(g:Zc)(c:Int):Fs:=.int .i64 ((Aa g c).tdiv g.w)
def axA(g:Zc)(c:Int):Int:=(Aa g c).tmod g.w-((Aa g c).tdiv g.w).tdiv 2
def fAx(g:Zc)(c:Int):Fs:=.int .i64 (axA g c)
def Th6c:Tab:=tadd 160 (s2 dGd dI (λg c=>GrV g/\inG g c) fCol) (tadd 161 (s2 dGd dI (λg c=>GrV g/\inG g c) fRow) tnil)
def Ko:AI prog Th6c:=(AI.tnil.add (q2 λg c h=>p161 g c h.1 h.2)).add (q2 λg c h=>p160 g c h.1 h.2)
def p162(g:Zc)(c:Int)(G:GrV g)(h:inG g c):Pur prog 162 [Bu g,.int .i64 c] (fAx g c):=by
 obtain⟨k,-,hk,hg,hp,w1,w2,x1,x2,y1,y2,ey,hs⟩:=G.at h;have f1:dGd.ok (.agg (AH g.sh g.w g.h g.holes g.cells))=True:=DI g;have f2:dGd.dec (.agg (AH g.sh g.w g.h g.holes g.cells))=g:=B6 g;simp only[AH]at f1 f2;unfold fAx axA;have hG:(GrV g)=True:=V1 G;have hI:(inG g c)=True:=V1 h;refine .mk ⟨Ar 0 ..,trivial,trivial⟩ trivial (c162.a (AE Ko (AF ?_)));have a0:=OQ y1;have e1:IntKind.wrap .i64 ((Aa g c).tdiv g.w-((Aa g c).tdiv g.w).tmod 2)=(Aa g c).tdiv g.w-((Aa g c).tdiv g.w).tmod 2:=by
  have:=Int.tmod_nonneg 2 y1;have:=Int.tmod_lt_of_pos ((Aa g c).tdiv g.w) (b:=2) zd;exact Ae zo zo
 have e2:IntKind.wrap .i64 (((Aa g c).tdiv g.w).tdiv 2)=((Aa g c).tdiv g.w).tdiv 2:=Ae zo zo;have e3:IntKind.wrap .i64 ((Aa g c).tmod g.w-((Aa g c).tdiv g.w).tdiv 2)=(Aa g c).tmod g.w-((Aa g c).tdiv g.w).tdiv 2:=Ae zo zo;simp only[eE,eN,seval,c162,AH,Th6c,s2,f1,f2,BH,As,fCol,fRow,hG,hI,a0,e1,e2,e3,tadd]
def Th6a:Tab:=tadd 162 (s2 dGd dI (λg c=>GrV g/\inG g c) fAx) Th6c
def OR:AI prog Th6a:=Ko.add (q2 λg c h=>p162 g c h.1 h.2)
theorem OT(a:List Fs)(H:AC):Th6a 162 a H=s2 dGd dI (λg c=>GrV g/\inG g c) fAx a H:=rfl
theorem OU(a:List Fs)(H:AC):Th6a 160 a H=s2 dGd dI (λg c=>GrV g/\inG g c) fCol a H:=rfl
theorem L3(a:List Fs)(H:AC):Th6a 161 a H=s2 dGd dI (λg c=>GrV g/\inG g c) fRow a H:=rfl
def p99(g:Zc)(a b:Int)(G:GrV g)(ha:inG g a)(hb:inG g b):Pur prog 99 [Bu g,.int .i64 a,.int .i64 b] (.bool (besR g.sh (Cz g.sh g.w (Aa g a)) (Cz g.sh g.w (Aa g b)))):=by
 obtain⟨k,-,-,-,-,w1,w2,x1,x2,y1,y2,ey,hs⟩:=G.at ha;obtain⟨k',-,-,-,-,-,-,u1,u2,v1,v2,ev,-⟩:=G.at hb;have f1:dGd.ok (.agg (AH g.sh g.w g.h g.holes g.cells))=True:=DI g;have f2:dGd.dec (.agg (AH g.sh g.w g.h g.holes g.cells))=g:=B6 g;simp only[AH]at f1 f2;have hG:(GrV g)=True:=V1 G;have hI:(inG g a)=True:=V1 ha;have hJ:(inG g b)=True:=V1 hb;have e1:IntKind.wrap .i64 ((Aa g b).tmod g.w-(Aa g a).tmod g.w)=(Aa g b).tmod g.w-(Aa g a).tmod g.w:=Ae zo zo;have e2:IntKind.wrap .i64 ((Aa g b).tdiv g.w-(Aa g a).tdiv g.w)=(Aa g b).tdiv g.w-(Aa g a).tdiv g.w:=Ae zo zo;have e3:IntKind.wrap .i64 (axA g b-axA g a)=axA g b-axA g a:=by
  unfold axA;exact Ae zo zo
 refine .mk ⟨Ar 0 ..,trivial,trivial,trivial⟩ trivial (c99.a (AE OR (AF ?_)));rcases hs with h1|h2
 ·have q:besR g.sh (Cz g.sh g.w (Aa g a)) (Cz g.sh g.w (Aa g b))=(decide ((Aa g b).tdiv g.w-(Aa g a).tdiv g.w=0)&&(decide ((Aa g b).tmod g.w-(Aa g a).tmod g.w=1)||decide ((Aa g b).tmod g.w-(Aa g a).tmod g.w= -1))||decide ((Aa g b).tmod g.w-(Aa g a).tmod g.w=0)&&(decide ((Aa g b).tdiv g.w-(Aa g a).tdiv g.w=1)||decide ((Aa g b).tdiv g.w-(Aa g a).tdiv g.w= -1))):=by
   unfold besR Cz;simp only[Vv h1,V5 (by omega:¬g.sh=2)]
  have hq:(g.sh=1)=True:=V1 h1;rw[q];simp only[eZ,seval,c99,AH,OU,L3,s2,f1,f2,BH,As,fCol,fRow,hG,hI,hJ,e1,e2,hq]
 ·have q:besR g.sh (Cz g.sh g.w (Aa g a)) (Cz g.sh g.w (Aa g b))=(decide (axA g b-axA g a=1)&&decide ((Aa g b).tdiv g.w-(Aa g a).tdiv g.w=0)||decide (axA g b-axA g a= -1)&&decide ((Aa g b).tdiv g.w-(Aa g a).tdiv g.w=0)||decide (axA g b-axA g a=0)&&decide ((Aa g b).tdiv g.w-(Aa g a).tdiv g.w=1)||decide (axA g b-axA g a=0)&&decide ((Aa g b).tdiv g.w-(Aa g a).tdiv g.w= -1)||decide (axA g b-axA g a=1)&&decide ((Aa g b).tdiv g.w-(Aa g a).tdiv g.w= -1)||decide (axA g b-axA g a= -1)&&decide ((Aa g b).tdiv g.w-(Aa g a).tdiv g.w=1)):=by
   unfold besR Cz axA;simp only[V5 (by omega:¬g.sh=1),Vv h2]
  have hq:(g.sh=1)=False:=Vs zo;rw[q];simp only[eZ,seval,c99,AH,OU,L3,OT,s2,f1,f2,BH,As,fCol,fRow,fAx,hG,hI,hJ,e1,e2,e3,hq]
def Hf(g:Zc)(f c:Int):Int:=if f=1 then(Aa g c).tdiv g.w else if g.sh=1 then(Aa g c).tmod g.w else if f=2 then axA g c else axA g c+(Aa g c).tdiv g.w
def p163(g:Zc)(f c:Int)(G:GrV g)(h:inG g c):Pur prog 163 [Bu g,.int .i64 f,.int .i64 c] (.int .i64 (Hf g f c)):=by
 obtain⟨k,-,-,-,-,w1,w2,x1,x2,y1,y2,ey,hs⟩:=G.at h;have f1:dGd.ok (.agg (AH g.sh g.w g.h g.holes g.cells))=True:=DI g;have f2:dGd.dec (.agg (AH g.sh g.w g.h g.holes g.cells))=g:=B6 g;simp only[AH]at f1 f2;have hG:(GrV g)=True:=V1 G;have hI:(inG g c)=True:=V1 h;have e1:IntKind.wrap .i64 (axA g c+(Aa g c).tdiv g.w)=axA g c+(Aa g c).tdiv g.w:=by
  unfold axA;exact Ae zo zo
 refine .mk ⟨Ar 0 ..,trivial,trivial,trivial⟩ trivial (c163.a (AE OR (AF ?_)));unfold Hf;by_cases q1:f=1
 ·rw[Vv q1];simp only[eZ,seval,c163,AH,L3,s2,f1,f2,BH,As,fRow,hG,hI,V1 q1]
 rw[V5 q1];by_cases q2:g.sh=1
 ·rw[Vv q2];simp only[eZ,seval,c163,AH,OU,s2,f1,f2,BH,As,fCol,hG,hI,Vs q1,V1 q2]
 rw[V5 q2];by_cases q3:f=2
 ·rw[Vv q3];simp only[eZ,seval,c163,AH,OT,s2,f1,f2,BH,As,fAx,hG,hI,Vs q1,Vs q2,V1 q3]
 rw[V5 q3];simp only[eZ,seval,c163,AH,L3,OT,s2,f1,f2,BH,As,fRow,fAx,hG,hI,Vs q1,Vs q2,Vs q3,e1]
def spC(g:Zc)(c:Nat):Spot:=Cz g.sh g.w (Aa g (c:Int))
def C5{g:Zc}{c:Nat}(h:c<g.cells.length):(AQ g.sh g.w g.cells)[c]?=some (spC g c):=by
 unfold AQ spC Aa;rw[W3,V2 h,Vy,WM,V2 h];rfl
def BI(g:Zc):(AQ g.sh g.w g.cells).length=g.cells.length:=V0 ..
def nbB(g:Zc)(a b:Nat):Bool:=besR g.sh (spC g a) (spC g b)
def nbL(g:Zc)(a:Nat):List Int:=idxP g.cells.length (nbB g a)
def To(g:Zc):(List.range g.cells.length).map (nbL g)=nbsS g.sh (AQ g.sh g.w g.cells):=by
 unfold nbsS;refine List.ext_getElem? λi=>?_
 rw[W3,W3];by_cases h:i<g.cells.length
 ·rw[C5 h,XJ h];simp only[Wt];rw[St,BI];unfold nbL;congr 1;refine CW λb hb=>?_
  rw[C5 hb];exact Kn ..
 ·simp_all [BI]
def nbV(g:Zc):Fs:=if grOK g.sh g.w g.h g.holes g.cells then .tup [eLl (nbsS g.sh (AQ g.sh g.w g.cells)),.int .i64 0]else .tup [eLl [],.int .i64 130]
structure IFil(m:Nat)(P:Nat->Bool)(H0:AC)(n0:Nat)(v:VRi):Prop where
 hj:v.j<=m
 hn:n0<=v.n
 fr:AR v.H v.n
 hk:∀id,id<n0->hget v.H id=hget H0 id
 tok:tkG 1 n0 v.H v.tc
 es:v.tc.esz=1\/idxP v.j P=[]
structure INb(g:Zc)(m:Nat)(L:Nat->List (List Int))(v:VRg):Prop where
 hi:v.i<=m
 hn:3<=v.n
 fr:AR v.H v.n
 h0:hget v.H 0=some (.box (AH g.sh g.w g.h g.holes g.cells))
 tok:tkG 1 1 v.H v.tl
 es:v.tl.esz=1\/v.E=[]
 hE:Wks v.E ((L v.i).map eIs)
def fBes(g:Zc)(a b:Int):Fs:=.bool (besR g.sh (Cz g.sh g.w (Aa g a)) (Cz g.sh g.w (Aa g b)))
def Thn:Tab:=tadd 99 (s3 dGd dI dI (λg a b=>GrV g/\inG g a/\inG g b) fBes) Trr
def Thn_ok:AI prog Thn:=OL.add (q3 λg a b h=>p99 g a b h.1 h.2.1 h.2.2)
theorem Thn_b(a:List Fs)(H:AC):Thn 99 a H=s3 dGd dI dI (λg a b=>GrV g/\inG g a/\inG g b) fBes a H:=rfl
theorem Thn_c(a:List Fs)(H:AC):Thn 98 a H=s1 dGd (λg=>few g.holes) chkV a H:=rfl
def p33(g:Zc)(hh:few g.holes):Pur prog 33 [Bu g] (nbV g):=by
 refine .mk ⟨Ar 0 ..,trivial⟩ (by unfold nbV;split<;>exact⟨Am 0 _,trivial,trivial⟩) (c33.a (AE Thn_ok (AF ?_)));have f1:dGd.ok (.agg (AH g.sh g.w g.h g.holes g.cells))=True:=DI g;have f2:dGd.dec (.agg (AH g.sh g.w g.h g.holes g.cells))=g:=B6 g;simp only[AH]at f1 f2;cases m7:grOK g.sh g.w g.h g.holes g.cells with
 |false=>
  have hv:nbV g= .tup [eLl [],.int .i64 130]:=by unfold nbV;rw[m7];rfl
  have hc:chkV g= .int .i64 130:=by unfold chkV;rw[m7];rfl
  rw[hv];simp only[eZ,seval,V6,c33,AH,Thn_c,s1,f1,f2,V1 hh,hc];exact Wk.tup (.cons (Wk.sl (.inr rfl)) (.cons (Wk.refl _) .nil))
 |true=>
 have hc:chkV g= .int .i64 0:=by unfold chkV;rw[m7];rfl
 have hG:Ak g.sh g.w g.h g.holes=some g.cells:=Wn m7;have G:GrV g:=⟨hG,hh⟩;obtain⟨q9,v8,x0⟩:=Ax hG;have hv:nbV g= .tup [eLl ((List.range g.cells.length).map (nbL g)),.int .i64 0]:=by unfold nbV;rw[m7,To];rfl
 rw[hv];simp only[eZ,seval,V3,c33,AH,Thn_c,s1,f1,f2,V1 hh,hc];refine AO (λv:VRg=>⟨[(1,true,.ptr 0 0),(4,true,.sl v.tl v.E),(5,true,.int .i64 v.i)],v.H,v.n⟩) (INb g g.cells.length λi=>(List.range i).map (nbL g)) (λv=>g.cells.length-v.i)
  ⟨0,[],.nil,hset hnil 0 (.box (AH g.sh g.w g.h g.holes g.cells)),3⟩ rfl ⟨V8 _,V4 _,AR.nil.hset (m:=3) (V8 3) (show 0<3 by decide),rfl,.inl rfl,.inr rfl,.nil⟩ ?_
 rintro⟨i,E,tl,H,n⟩ hI;have hi:=hI.hi;have hn:=hI.hn;have d5:=hI.fr;have h0:=hI.h0;have c7:=hI.tok;have d9:=hI.es;have hE:=hI.hE;simp only at hi hn d5 h0 c7 d9 hE;have h0':=h0;simp only[AH]at h0';by_cases c6:i<g.cells.length;case neg=>
  obtain rfl:i=g.cells.length:=zo
  simp only[eZ,seval,V0,h0',lt_F c6];exact Wk.tup (.cons (Wk.slx d9 hE) (.cons (Wk.refl _) .nil))
 have e:=AG (k:=i) zo;have gi:inG g (i:Int):=⟨zo,by rw[Vy];exact c6⟩;simp only[eZ,seval,V0,h0',lt_T c6];refine AO (λv:VRi=>⟨[(1,true,.ptr 0 0),(4,true,.sl tl E),(5,true,.int .i64 i),(6,true,.sl v.tc ((idxP v.j (nbB g i)).map eI)),(7,true,.int .i64 v.j)],v.H,v.n⟩)
  (IFil g.cells.length (nbB g i) H n) (λv=>g.cells.length-v.j) ⟨0,.nil,H,n⟩ rfl ⟨V8 _,V4 _,d5,λid d7=>rfl,.inl rfl,.inr rfl⟩ ?_
 rintro⟨j,tc,H1,n1⟩ ⟨hj,j9,e9,hk,m9,s5⟩;simp only at hj j9 e9 hk m9 s5;have l0:hget H1 0=some (.box (AH g.sh g.w g.h g.holes g.cells)):=by rw[hk 0 zo];exact h0
 have h01':=l0;simp only[AH]at h01';by_cases i4:j<g.cells.length
 ·have ej:=AG (k:=j) zo;have gj:inG g (j:Int):=⟨zo,by rw[Vy];exact i4⟩;have hs:=Ci j (nbB g i);have hb:besR g.sh (Cz g.sh g.w (Aa g (i:Int))) (Cz g.sh g.w (Aa g (j:Int)))=nbB g i j:=rfl;cases hbb:nbB g i j with
  |false=>
   rw[hbb,V5 zd]at hs;rw[hbb]at hb;simp only[eZ,seval,V0,h01',lt_T i4,Thn_b,s3,f1,f2,BH,As,fBes,V1 G,V1 gi,V1 gj,hb,ej];exact .mk ⟨j+1,tc,H1,n1⟩ (by simp only[hs]) ⟨i4,j9,e9,hk,m9,by simp only[hs];exact s5⟩ zp
  |true=>
   rw[hbb,Vv rfl]at hs;rw[hbb]at hb;have d6:=Bq j (nbB g i);have q1:At H1 1 tc=True:=V1 m9.app;have q2:((idxP j (nbB g i)).length<=35184372088831)=True:=V1 zo;have q3:small ((idxP j (nbB g i)).length+1) 8=True:=V1 (AP zo zd);simp only[eZ,seval,V0,h01',lt_T i4,Thn_b,s3,f1,f2,BH,As,fBes,V1 G,V1 gi,V1 gj,hb,ej,q1,q2,q3,fr1 e9];refine .mk ⟨j+1,.own (n1+3) 1,hset (AL H1 tc) (n1+3) .tok,n1+5⟩ ?_ ⟨i4,zp,(AT m9 e9).hset (m:=n1+5) zo zo,λid d7=>?_,.inr (.inr ⟨n1+3,rfl,zo,AB ..⟩),.inl rfl⟩ zp
   ·simp only[hs,Vt];rfl
   ·grind [AA,AX]
 obtain rfl:j=g.cells.length:=zo
 have hEl:E.length=i:=by
  have:=hE.len;simp only[V0,Xd]at this;exact this
 have j0:tkG 1 1 H1 tl:=by
  rcases c7 with rfl|rfl|⟨id,rfl,h1,h2⟩
  ·exact .inl rfl
  ·exact .inr (.inl rfl)
  ·exact .inr (.inr ⟨id,rfl,h1,by rw[hk id (d5.lt h2)];exact h2⟩)
 have q1:At H1 1 tl=True:=V1 j0.app;have q2:(E.length<=35184372088831)=True:=V1 zo;have q3:small (E.length+1) 24=True:=V1 (AP zo zd);simp only[eZ,seval,V0,h01',lt_F i4,e,q1,q2,q3,fr1 e9];refine .mk ⟨i+1,E++[.sl tc ((nbL g i).map eI)],.own (n1+3) 1,hset (AL H1 tl) (n1+3) .tok,n1+5⟩ rfl ⟨c6,zp,(AT j0 e9).hset (m:=n1+5) zo zo,?_,.inr (.inr ⟨n1+3,rfl,zo,AB ..⟩),.inl rfl,?_⟩ zp
 ·grind [AA,AX]
 ·simp only[WT,Vt,W6,Wh];simp only[X2]at hE⊢;exact hE.app (.cons (Wk.sl (s5.imp id λq=>by unfold nbL;rw[q];rfl)) .nil)
def lnB(g:Zc)(f n:Int)(c:Nat):Bool:=decide (Hf g f (c:Int)=n)
def lnL(g:Zc)(f n:Int):List Int:=idxP g.cells.length (lnB g f n)
def lnT(g:Zc)(f:Int)(i:Nat):List (List Int):=((List.range i).map λ(k:Nat)=>lnL g f (-16+(k:Int))).filter λl=>!l.isEmpty
def Tp{g:Zc}{f:Int}{fn:Spot->Option Int}(h:∀c,c<g.cells.length->fn (spC g c)=some (Hf g f (c:Int))):lnT g f 49=Bd (AQ g.sh g.w g.cells) fn:=by
 unfold lnT Bd JN;rw[X2];congr 1;refine Wz λk _=>?_
 unfold lnL Bv;simp only[Function.comp];rw[BI];refine CW λc hc=>?_
 rw[C5 hc,Ya,h c hc];unfold lnB;rw[Wg];simp only[Vu,Option.some.injEq];omega
def Tq(g:Zc)(f:Int)(i:Nat):(lnT g f i).length<=i:=by
 refine WD (X0 ..) ?_;rw[V0,Xd];exact V4 _
def RG(g:Zc)(f:Int)(i:Nat):lnT g f (i+1)=lnT g f i++if(lnL g f (-16+(i:Int))).isEmpty then[]else[lnL g f (-16+(i:Int))]:=by
 unfold lnT;rw[WT,Vt,Xh];congr 1;simp only[W6,Wh,X7,Yp];cases (lnL g f (-16+(i:Int))).isEmpty<;>rfl
def fLn(g:Zc)(f c:Int):Fs:=.int .i64 (Hf g f c)
def Thl:Tab:=tadd 163 (s3 dGd dI dI (λg f c=>GrV g/\inG g c) fLn) Trr
def Thl_ok:AI prog Thl:=OL.add (q3 λg f c h=>p163 g f c h.1 h.2)
structure ILn(g:Zc)(m:Nat)(L:Nat->List (List Int))(v:VRg):Prop where
 hi:v.i<=m
 hn:2<=v.n
 fr:AR v.H v.n
 h0:hget v.H 0=some (.box (AH g.sh g.w g.h g.holes g.cells))
 tok:tkG 1 1 v.H v.tl
 es:v.tl.esz=1\/v.E=[]
 hE:Wks v.E ((L v.i).map eIs)
def p100(g:Zc)(f:Int)(G:GrV g):Pur prog 100 [Bu g,.int .i64 f] (eLl (lnT g f 49)):=by
 refine .mk ⟨Ar 0 ..,trivial,trivial⟩ (Am 0 _) (c100.a (AE Thl_ok (AF ?_)));have f1:dGd.ok (.agg (AH g.sh g.w g.h g.holes g.cells))=True:=DI g;have f2:dGd.dec (.agg (AH g.sh g.w g.h g.holes g.cells))=g:=B6 g;simp only[AH]at f1 f2;obtain⟨q9,v8,x0⟩:=Ax G.hG;simp only[eE,eN,seval,c100,AH];refine AO (λv:VRg=>⟨[(1,true,.int .i64 f),(2,true,.ptr 0 0),(5,true,.sl v.tl v.E),(6,true,.int .i64 (-16+(v.i:Int)))],v.H,v.n⟩) (ILn g 49 (lnT g f)) (λv=>49-v.i)
  ⟨0,[],.nil,hset hnil 0 (.box (AH g.sh g.w g.h g.holes g.cells)),2⟩ rfl ⟨V8 _,V4 _,AR.nil.hset (m:=2) (V8 2) (show 0<2 by decide),rfl,.inl rfl,.inr rfl,.nil⟩ ?_
 rintro⟨i,E,tl,H,n⟩ hI;have hi:=hI.hi;have hn:=hI.hn;have d5:=hI.fr;have h0:=hI.h0;have c7:=hI.tok;have d9:=hI.es;have hE:=hI.hE;simp only at hi hn d5 h0 c7 d9 hE;by_cases c6:i<49;case neg=>
  obtain rfl:i=49:=zo
  have hq:(-16+((49:Nat):Int)<=32)=False:=Vs zo;simp only[eZ,seval,hq];exact Wk.slx d9 hE
 have hq:(-16+(i:Int)<=32)=True:=V1 zo;have e:IntKind.wrap .i64 (-16+(i:Int)+1)= -16+((i+1:Nat):Int):=by rw[Ae zo zo];omega
 simp only[eZ,seval,hq];refine AO (λv:VRi=>⟨[(1,true,.int .i64 f),(2,true,.ptr 0 0),(5,true,.sl tl E),(6,true,.int .i64 (-16+(i:Int))),(7,true,.sl v.tc ((idxP v.j (lnB g f (-16+(i:Int)))).map eI)),(8,true,.int .i64 v.j)],v.H,v.n⟩)
  (IFil g.cells.length (lnB g f (-16+(i:Int))) H n) (λv=>g.cells.length-v.j) ⟨0,.nil,H,n⟩ rfl ⟨V8 _,V4 _,d5,λid d7=>rfl,.inl rfl,.inr rfl⟩ ?_
 rintro⟨j,tc,H1,n1⟩ ⟨hj,j9,e9,hk,m9,s5⟩;simp only at hj j9 e9 hk m9 s5;have l0:hget H1 0=some (.box (AH g.sh g.w g.h g.holes g.cells)):=by rw[hk 0 zo];exact h0
 have h01':=l0;simp only[AH]at h01';by_cases i4:j<g.cells.length
 ·have ej:=AG (k:=j) zo;have gj:inG g (j:Int):=⟨zo,by rw[Vy];exact i4⟩;have hs:=Ci j (lnB g f (-16+(i:Int)));cases hbb:lnB g f (-16+(i:Int)) j with
  |false=>
   rw[hbb,V5 zd]at hs;have hb:(Hf g f (j:Int)= -16+(i:Int))=False:=Vs (Yf hbb);simp only[eZ,seval,V0,h01',lt_T i4,Thl,s3,f1,f2,BH,As,fLn,V1 G,V1 gj,hb,ej,tadd];exact .mk ⟨j+1,tc,H1,n1⟩ (by simp only[hs]) ⟨i4,j9,e9,hk,m9,by simp only[hs];exact s5⟩ zp
  |true=>
   rw[hbb,Vv rfl]at hs;have hb:(Hf g f (j:Int)= -16+(i:Int))=True:=V1 (Wn hbb);have d6:=Bq j (lnB g f (-16+(i:Int)));have q1:At H1 1 tc=True:=V1 m9.app;have q2:((idxP j (lnB g f (-16+(i:Int)))).length<=35184372088831)=True:=V1 zo;have q3:small ((idxP j (lnB g f (-16+(i:Int)))).length+1) 8=True:=V1 (AP zo zd);simp only[eZ,seval,V0,h01',lt_T i4,Thl,s3,f1,f2,BH,As,fLn,V1 G,V1 gj,hb,ej,q1,q2,q3,fr1 e9,tadd];refine .mk ⟨j+1,.own (n1+3) 1,hset (AL H1 tc) (n1+3) .tok,n1+5⟩ ?_ ⟨i4,zp,(AT m9 e9).hset (m:=n1+5) zo zo,λid d7=>?_,.inr (.inr ⟨n1+3,rfl,zo,AB ..⟩),.inl rfl⟩ zp
   ·simp only[hs,Vt];rfl
   ·grind [AA,AX]
 obtain rfl:j=g.cells.length:=zo
 have hEl:E.length<=i:=by
  have:=hE.len;simp only[V0]at this;have:=Tq g f i;omega
 have j0:tkG 1 1 H1 tl:=by
  rcases c7 with rfl|rfl|⟨id,rfl,h1,h2⟩
  ·exact .inl rfl
  ·exact .inr (.inl rfl)
  ·exact .inr (.inr ⟨id,rfl,h1,by rw[hk id (d5.lt h2)];exact h2⟩)
 have hsu:=RG g f i;have hLl:lnL g f (-16+(i:Int))=idxP g.cells.length (lnB g f (-16+(i:Int))):=rfl;rw[hLl]at hsu;by_cases hz:(idxP g.cells.length (lnB g f (-16+(i:Int)))).length=0
 ·have hq0:((0:Int)<((idxP g.cells.length (lnB g f (-16+(i:Int)))).length:Int))=False:=Vs zo;rw[X1.1 hz]at hsu;simp only[List.isEmpty_nil,WB,W9]at hsu;simp only[eZ,seval,V0,h01',lt_F i4,e,hq0];exact .mk ⟨i+1,E,tl,H1,n1⟩ rfl ⟨c6,zp,e9,l0,j0,d9,by simp only[hsu];exact hE⟩ zp
 have hq0:((0:Int)<((idxP g.cells.length (lnB g f (-16+(i:Int)))).length:Int))=True:=V1 zo;have hem:(idxP g.cells.length (lnB g f (-16+(i:Int)))).isEmpty=false:=by
  rw[List.isEmpty_eq_false_iff];intro q;rw[q]at hz;exact hz rfl
 rw[hem]at hsu;simp only[W5,Wf]at hsu;have q1:At H1 1 tl=True:=V1 j0.app;have q2:(E.length<=35184372088831)=True:=V1 zo;have q3:small (E.length+1) 24=True:=V1 (AP zo zd);simp only[eZ,seval,V0,h01',lt_F i4,e,hq0,q1,q2,q3,fr1 e9];refine .mk ⟨i+1,E++[.sl tc ((idxP g.cells.length (lnB g f (-16+(i:Int)))).map eI)],.own (n1+3) 1,hset (AL H1 tl) (n1+3) .tok,n1+5⟩ rfl ⟨c6,zp,(AT j0 e9).hset (m:=n1+5) zo zo,?_,.inr (.inr ⟨n1+3,rfl,zo,AB ..⟩),.inl rfl,?_⟩ zp
 ·grind [AA,AX]
 ·simp only[hsu,Vt,W6,Wh];exact hE.app (.cons (Wk.sl (s5.imp id λq=>by rw[q];rfl)) .nil)
def dgB(g:Zc)(k c:Nat):Bool:=decide ((k:Int)=0)&&decide ((Aa g (c:Int)).tmod g.w=(Aa g (c:Int)).tdiv g.w)||decide ((k:Int)=1)&&decide ((Aa g (c:Int)).tmod g.w=g.w-1-(Aa g (c:Int)).tdiv g.w)
def dgA(g:Zc)(k:Nat):List Int:=idxP g.cells.length (dgB g k)
def dgS(g:Zc):List (List Int):=(if(dgA g 0).isEmpty then[]else[dgA g 0])++(if(dgA g 1).isEmpty||decide (dgA g 0=dgA g 1)then[]else[dgA g 1])
def dgS_S{g:Zc}(h:g.sh=1):dgS g=Kj g.w (AQ g.sh g.w g.cells):=by
 have hsp:∀c:Nat,spC g c=((Aa g (c:Int)).tmod g.w,(Aa g (c:Int)).tdiv g.w):=λc=>by
  unfold spC Cz;rw[V5 zo]
 have h0:dgA g 0=Bv (AQ g.sh g.w g.cells) (λs=>if s.1=s.2 then some 0 else none) 0:=by
  unfold dgA Bv;rw[BI];refine CW λc hc=>?_
  rw[C5 hc,hsp,Ya];unfold dgB;by_cases q:(Aa g (c:Int)).tmod g.w=(Aa g (c:Int)).tdiv g.w<;>simp [q]
 have h1:dgA g 1=Bv (AQ g.sh g.w g.cells) (λs=>if s.1+s.2=g.w-1 then some 0 else none) 0:=by
  unfold dgA Bv;rw[BI];refine CW λc hc=>?_
  rw[C5 hc,hsp,Ya];unfold dgB;by_cases q:(Aa g (c:Int)).tmod g.w=g.w-1-(Aa g (c:Int)).tdiv g.w
  ·simp_all
  ·grind
 unfold dgS Kj;rw[h0,h1]
def Thd:Tab:=tadd 85 (s2 dIs dIs (λa _=>few a) λa b=>.bool (decide (a=b))) Th6c
def Thd_ok:AI prog Thd:=Ko.add (q2 p85)
theorem Thd_s(a:List Fs)(H:AC):Thd 85 a H=s2 dIs dIs (λa _=>few a) (λa b=>.bool (decide (a=b))) a H:=rfl
theorem Thd_c(a:List Fs)(H:AC):Thd 160 a H=s2 dGd dI (λg c=>GrV g/\inG g c) fCol a H:=rfl
theorem Thd_r(a:List Fs)(H:AC):Thd 161 a H=s2 dGd dI (λg c=>GrV g/\inG g c) fRow a H:=rfl
structure IDg(g:Zc)(v:VRg):Prop where
 hi:v.i<=2
 hn:2<=v.n
 fr:AR v.H v.n
 h0:hget v.H 0=some (.box (AH g.sh g.w g.h g.holes g.cells))
 tok:tkG 1 1 v.H v.tl
 es:v.tl.esz=1\/v.E=[]
 ne:¬g.w=g.h->v.i=0
 e0:v.i=0->v.E=[]
 e1:v.i=1->(dgA g 0=[]/\v.E=[])\/(dgA g 0≠[]/\∃t,t.esz=1/\v.E=[.sl t ((dgA g 0).map eI)])
 e2:v.i=2->Wks v.E ((dgS g).map eIs)
def dgV(g:Zc):List (List Int):=if g.w=g.h then dgS g else[]
def p101(g:Zc)(G:GrV g):Pur prog 101 [Bu g] (eLl (dgV g)):=by
 refine .mk ⟨Ar 0 ..,trivial⟩ (Am 0 _) (c101.a (AE Thd_ok (AF ?_)));have f1:dGd.ok (.agg (AH g.sh g.w g.h g.holes g.cells))=True:=DI g;have f2:dGd.dec (.agg (AH g.sh g.w g.h g.holes g.cells))=g:=B6 g;simp only[AH]at f1 f2;obtain⟨q9,v8,x0⟩:=Ax G.hG;simp only[eE,eN,seval,c101,AH];refine AO (λv:VRg=>⟨[(1,true,.ptr 0 0),(3,true,.sl v.tl v.E),(4,true,.int .i64 v.i)],v.H,v.n⟩) (IDg g) (λv=>2-v.i)
  ⟨0,[],.nil,hset hnil 0 (.box (AH g.sh g.w g.h g.holes g.cells)),2⟩ rfl ⟨V8 _,V4 _,AR.nil.hset (m:=2) (V8 2) (show 0<2 by decide),rfl,.inl rfl,.inr rfl,λ_=>rfl,λ_=>rfl,(λq=>by cases q),(λq=>by cases q)⟩ ?_
 rintro⟨i,E,tl,H,n⟩ hI;have hi:=hI.hi;have hn:=hI.hn;have d5:=hI.fr;have h0:=hI.h0;have c7:=hI.tok;have d9:=hI.es;have hne:=hI.ne;have hE0:=hI.e0;have hE1:=hI.e1;have hE2:=hI.e2;simp only at hi hn d5 h0 c7 d9 hne hE0 hE1 hE2;have h0':=h0;simp only[AH]at h0';by_cases m8:g.w=g.h;case neg=>
  have hi0:=hne m8;subst hi0;have hE:=hE0 rfl;subst hE;have hv:dgV g=[]:=by unfold dgV;rw[V5 m8]
  have hq:(((0:Nat):Int)<2)=True:=V1 zd;rw[hv];simp only[eZ,seval,c0,h0',Vs m8];exact Wk.sl d9
 have hv:dgV g=dgS g:=by unfold dgV;rw[Vv m8]
 rw[hv];by_cases c6:i<2;case neg=>
  obtain rfl:i=2:=zo
  have hq:(((2:Nat):Int)<2)=False:=Vs zd;simp only[eZ,seval,h0',hq];exact Wk.slx d9 (hE2 rfl)
 have hq:((i:Int)<2)=True:=V1 zo;have e:=AG (k:=i) zo;simp only[eZ,seval,h0',hq,V1 m8];refine AO (λv:VRi=>⟨[(1,true,.ptr 0 0),(3,true,.sl tl E),(4,true,.int .i64 i),(5,true,.sl v.tc ((idxP v.j (dgB g i)).map eI)),(6,true,.int .i64 v.j)],v.H,v.n⟩)
  (IFil g.cells.length (dgB g i) H n) (λv=>g.cells.length-v.j) ⟨0,.nil,H,n⟩ rfl ⟨V8 _,V4 _,d5,λid d7=>rfl,.inl rfl,.inr rfl⟩ ?_
 rintro⟨j,tc,H1,n1⟩ ⟨hj,j9,e9,hk,m9,s5⟩;simp only at hj j9 e9 hk m9 s5;have l0:hget H1 0=some (.box (AH g.sh g.w g.h g.holes g.cells)):=by rw[hk 0 zo];exact h0
 have h01':=l0;simp only[AH]at h01';by_cases i4:j<g.cells.length
 ·have ej:=AG (k:=j) zo;have gj:inG g (j:Int):=⟨zo,by rw[Vy];exact i4⟩;obtain⟨-,-,-,-,-,w1,w2,x1,x2,y1,y2,ey,-⟩:=G.at gj;have r1:IntKind.wrap .i64 (g.w-1)=g.w-1:=Ae zo zo;have r2:IntKind.wrap .i64 (g.w-1-(Aa g (j:Int)).tdiv g.w)=g.w-1-(Aa g (j:Int)).tdiv g.w:=Ae zo zo;have hs:=Ci j (dgB g i);have hb:(decide ((i:Int)=0)&&decide ((Aa g (j:Int)).tmod g.w=(Aa g (j:Int)).tdiv g.w)||decide ((i:Int)=1)&&decide ((Aa g (j:Int)).tmod g.w=g.w-1-(Aa g (j:Int)).tdiv g.w))=dgB g i j:=rfl;cases hbb:dgB g i j with
  |false=>
   rw[hbb,V5 zd]at hs;rw[hbb]at hb;simp only[eZ,seval,V0,h01',lt_T i4,Thd_c,Thd_r,s2,f1,f2,BH,As,fCol,fRow,V1 G,V1 gj,r1,r2,hb,ej];exact .mk ⟨j+1,tc,H1,n1⟩ (by simp only[hs]) ⟨i4,j9,e9,hk,m9,by simp only[hs];exact s5⟩ zp
  |true=>
   rw[hbb,Vv rfl]at hs;rw[hbb]at hb;have d6:=Bq j (dgB g i);have q1:At H1 1 tc=True:=V1 m9.app;have q2:((idxP j (dgB g i)).length<=35184372088831)=True:=V1 zo;have q3:small ((idxP j (dgB g i)).length+1) 8=True:=V1 (AP zo zd);simp only[eZ,seval,V0,h01',lt_T i4,Thd_c,Thd_r,s2,f1,f2,BH,As,fCol,fRow,V1 G,V1 gj,r1,r2,hb,ej,q1,q2,q3,fr1 e9];refine .mk ⟨j+1,.own (n1+3) 1,hset (AL H1 tc) (n1+3) .tok,n1+5⟩ ?_ ⟨i4,zp,(AT m9 e9).hset (m:=n1+5) zo zo,λid d7=>?_,.inr (.inr ⟨n1+3,rfl,zo,AB ..⟩),.inl rfl⟩ zp
   ·simp only[hs,Vt];rfl
   ·grind [AA,AX]
 obtain rfl:j=g.cells.length:=zo
 have j0:tkG 1 1 H1 tl:=by
  rcases c7 with rfl|rfl|⟨id,rfl,h1,h2⟩
  ·exact .inl rfl
  ·exact .inr (.inl rfl)
  ·exact .inr (.inr ⟨id,rfl,h1,by rw[hk id (d5.lt h2)];exact h2⟩)
 have hA:dgA g i=idxP g.cells.length (dgB g i):=rfl;have hAl:=Bq g.cells.length (dgB g i);rw[<-hA]at s5 hAl⊢;have hi01:i=0\/i=1:=zo
 have q1:At H1 1 tl=True:=V1 j0.app;by_cases hz:(dgA g i).length=0
 ·have hz0:((0:Int)<((dgA g i).length:Int))=False:=Vs zo;have hzn:=X1.1 hz;simp only[eZ,seval,eY,h01',lt_F i4,e,hz0];refine .mk ⟨i+1,E,tl,H1,n1⟩ rfl ⟨c6,zp,e9,l0,j0,d9,λq=>absurd m8 q,(λq=>by cases q),λq=>?_,λq=>?_⟩ zp
  ·have q':i+1=1:=q;obtain rfl:i=0:=zo
   exact .inl ⟨hzn,hE0 rfl⟩
  ·have q':i+1=2:=q;obtain rfl:i=1:=zo
   simp only[];unfold dgS;rw[hzn];simp only[List.isEmpty_nil,Bool.true_or,WB,W9];rcases hE1 rfl with⟨a1,rfl⟩|⟨a1,t,a2,rfl⟩
   ·rw[a1];exact .nil
   ·rw[V5 (by simp [a1])];exact .cons (Wk.sl (.inl a2)) .nil
 have hz0:((0:Int)<((dgA g i).length:Int))=True:=V1 zo;have hane:dgA g i≠[]:=λq=>by rw[q]at hz;exact hz rfl
 have het:tc.esz=1:=s5.resolve_right hane;have hap:∀E':List Fs,((E'.length:Int)=0)=True\/True:=λ_=>.inr trivial
 rcases hi01 with rfl|rfl
 ·have hE:=hE0 rfl;subst hE;have q3:small ([]:List Fs).length.succ 24=True:=V1 (AP zd zd);have q4:small 1 24=True:=V1 (AP zd zd);have z1:((([]:List Fs).length:Int)=0)=True:=V1 rfl;simp only[eZ,seval,V3,eY,h01',lt_F i4,hz0,q1,q4,fr1 e9];refine .mk ⟨1,[.sl tc ((dgA g 0).map eI)],.own (n1+3) 1,hset (AL H1 tl) (n1+3) .tok,n1+5⟩ rfl ⟨(by show 1<=2;decide),zp,(AT j0 e9).hset (m:=n1+5) zo zo,?_,.inr (.inr ⟨n1+3,rfl,zo,AB ..⟩),.inl rfl,λq=>absurd m8 q,(λq=>by cases q),λq=>.inr ⟨hane,tc,het,rfl⟩,(λq=>by cases q)⟩ zp;simp only[];rw[AA _ _ _ _ zo,AX j0 (.inl zo)];exact l0
 ·rcases hE1 rfl with⟨a1,rfl⟩|⟨a1,t,a2,rfl⟩
  ·have q4:small 1 24=True:=V1 (AP zd zd);simp only[eZ,seval,V3,eY,h01',lt_F i4,hz0,q1,q4,fr1 e9];refine .mk ⟨2,[.sl tc ((dgA g 1).map eI)],.own (n1+3) 1,hset (AL H1 tl) (n1+3) .tok,n1+5⟩ rfl ⟨(by show 2<=2;decide),zp,(AT j0 e9).hset (m:=n1+5) zo zo,?_,.inr (.inr ⟨n1+3,rfl,zo,AB ..⟩),.inl rfl,λq=>absurd m8 q,(λq=>by cases q),(λq=>by cases q),λq=>?_⟩ zp
   ·grind [AA,AX]
   ·simp only[];unfold dgS;rw[a1];simp only[List.isEmpty_nil,WB,Wi];rw[V5 (by simp [hane,Ne.symm hane])];exact .cons (Wk.sl (.inl het)) .nil
  ·have hts:tl.esz=1:=d9.resolve_right zw;have o1:dIs.ok (.sl t ((dgA g 0).map eI))=True:=V1 ⟨.inl a2,by rw[Dk]⟩;have o2:dIs.dec (.sl t ((dgA g 0).map eI))=dgA g 0:=Dk _;have o3:dIs.ok (.sl tc ((dgA g 1).map eI))=True:=V1 ⟨.inl het,by rw[Dk]⟩;have o4:dIs.dec (.sl tc ((dgA g 1).map eI))=dgA g 1:=Dk _;have hA0:=Bq g.cells.length (dgB g 0);have o5:few (dgA g 0)=True:=V1 (show(dgA g 0).length<_ by unfold dgA;omega);by_cases hsame:dgA g 0=dgA g 1
   ·simp only[eZ,seval,V3,eY,h01',lt_F i4,hz0,V1 hts,Thd_s,s2,o1,o2,o3,o4,o5,BA hsame];refine .mk ⟨2,[.sl t ((dgA g 0).map eI)],tl,H1,n1⟩ rfl ⟨(by show 2<=2;decide),zp,e9,l0,j0,d9,λq=>absurd m8 q,(λq=>by cases q),(λq=>by cases q),λq=>?_⟩ zp;simp only[];unfold dgS;rw[V5 (by simp [a1]),Vv (by simp [hsame])];exact .cons (Wk.sl (.inl a2)) .nil
   ·have q4:small 2 24=True:=V1 (AP zd zd);simp only[eZ,seval,V6,eY,h01',lt_F i4,hz0,V1 hts,Thd_s,s2,o1,o2,o3,o4,o5,Az hsame,q1,q4,fr1 e9];refine .mk ⟨2,[.sl t ((dgA g 0).map eI),.sl tc ((dgA g 1).map eI)],.own (n1+3) 1,hset (AL H1 tl) (n1+3) .tok,n1+5⟩ rfl ⟨(by show 2<=2;decide),zp,(AT j0 e9).hset (m:=n1+5) zo zo,?_,.inr (.inr ⟨n1+3,rfl,zo,AB ..⟩),.inl rfl,λq=>absurd m8 q,(λq=>by cases q),(λq=>by cases q),λq=>?_⟩ zp
    ·grind [AA,AX]
    ·simp only[];unfold dgS;rw[V5 (by simp [a1]),V5 (by simp [hane,hsame])];exact .cons (Wk.sl (.inl a2)) (.cons (Wk.sl (.inl het)) .nil)
def Ga(g:Zc)(c b:Nat):Bool:=decide ((b:Int)=(c:Int))||(nbL g c).contains (b:Int)
def Tr(g:Zc)(c:Nat):List Int:=idxP g.cells.length (Ga g c)
def NG(g:Zc)(c:Nat):List (List Int):=((nbL g c).filter λb=>decide ((c:Int)<b)).map λb=>[(c:Int),b]
def allL(i:Nat):List Int:=idxP i λ_=>true
def fmL(g:Zc)(f:Int)(i:Nat):List (List Int):=
 if f=0 then(List.range i).map λ(c:Nat)=>[(c:Int)]else if f=5 then(List.range i).map (Tr g)else if f=6 then(List.range i).flatMap (NG g)else[]
def famR(g:Zc)(f:Int):List (List Int):=
 if f=1\/f=2 then lnT g f 49 else if f=3 then(if g.sh=1 then dgV g else lnT g f 49)else if f=4 then(List.range g.cells.length).map (nbL g)else if f=7 then[allL g.cells.length]else fmL g f g.cells.length
def fmV(g:Zc)(f:Int):Fs:=if grOK g.sh g.w g.h g.holes g.cells then(if f<0\/7<f then .tup [eLl [],.int .i64 1]else .tup [eLl (famR g f),.int .i64 0])else .tup [eLl [],.int .i64 130]
def famR_S{g:Zc}(G:GrV g){f:Nat}(hf:f<=7):famR g (f:Int)=famS g.sh g.w g.h (AQ g.sh g.w g.cells) f:=by
 obtain⟨hs,-⟩:=Fj G.hG;have hrow:∀c:Nat,(spC g c).2=(Aa g (c:Int)).tdiv g.w:=λc=>rfl
 have hsq:g.sh=1->∀c:Nat,(spC g c).1=(Aa g (c:Int)).tmod g.w:=λh c=>by
  unfold spC Cz;rw[V5 zo]
 have hhx:g.sh=2->∀c:Nat,(spC g c).1=axA g (c:Int):=λh c=>by
  unfold spC Cz axA;rw[Vv h]
 have hl1:lnT g 1 49=Bd (AQ g.sh g.w g.cells) λs=>some s.2:=Tp λc hc=>by
  unfold Hf;rw[Vv rfl,hrow]
 have hl2:lnT g 2 49=Bd (AQ g.sh g.w g.cells) λs=>some s.1:=Tp λc hc=>by
  unfold Hf;rcases hs with h|h
  ·rw[V5 zd,Vv h,hsq h]
  ·rw[V5 zd,V5 zo,Vv rfl,hhx h]
 have hl3:g.sh=2->lnT g 3 49=Bd (AQ g.sh g.w g.cells) λs=>some (s.1+s.2):=λh=>Tp λc hc=>by
  unfold Hf;rw[V5 zd,V5 zo,V5 zd,hrow,hhx h]
 have hnb:=To g;have hS:=BI g;have hn:∀c:Nat,c<g.cells.length->((nbsS g.sh (AQ g.sh g.w g.cells))[c]?.getD [])=nbL g c:=λc hc=>by
  rw[<-hnb,W3,XJ hc];rfl
 unfold famR famS fmL;rcases(by omega:f=0\/f=1\/f=2\/f=3\/f=4\/f=5\/f=6\/f=7)with rfl|rfl|rfl|rfl|rfl|rfl|rfl|rfl
 ·simp_all [ND,X2]
 ·simp (decide:=true) only[WB,Wf];exact hl1
 ·simp (decide:=true) only[WB,Wf];exact hl2
 ·simp (decide:=true) only[WB,Wf];rcases hs with h|h
  ·rw[Vv h,V5 zo];unfold dgV;rw[dgS_S h]
  ·rw[V5 zo,Vv h];exact hl3 h
 ·simp (decide:=true) only[WB,Wf];exact hnb
 ·simp (decide:=true) only[WB,Wf];rw[hS];refine Wz λc hc=>?_
  have hc':=Wy.1 hc;unfold Tr;refine CW λb hb=>?_
  unfold Ga;rw[C5 hc'];have e1:(nbL g c).contains (b:Int)=nbB g c b:=by
   unfold nbL;rw[Wg,WA,JM];exact⟨λq=>q.2,λq=>⟨hb,q⟩⟩
  have e2:nbB g c b=(D9 g.sh).any λd=>decide ((AQ g.sh g.w g.cells)[b]?=some (addP (spC g c) d)):=by
   unfold nbB;rw[Kn,C5 hb];unfold besS;simp only[Option.some.injEq]
  rw[e1,e2];simp only[Wt];congr 1;rw[Wg];simp only[Vu];omega
 ·simp (decide:=true) only[WB,Wf];rw[hS,List.flatMap_def,List.flatMap_def];congr 1;refine Wz λc hc=>?_
  rw[hn c (Wy.1 hc)];rfl
 ·simp (decide:=true) only[WB,Wf];rw[hS];rfl
def Im{e lo n i:Nat}{H:AC}{tl ta:Zd}(h:tkG e lo H tl)(ha:tkG e lo H ta)(hd:∀a b x y,tl= .own a x->ta= .own b y->a≠b)(hf:AR H n)(hi:n<=i):tkG e lo (hset (AL H ta) i .tok) tl:=by
 rcases h with rfl|rfl|⟨id,rfl,h1,h2⟩
 ·exact .inl rfl
 ·exact .inr (.inl rfl)
 ·refine .inr (.inr ⟨id,rfl,h1,?_⟩);have d7:=hf.lt h2;rw[AA _ _ _ _ zo];rcases ha with rfl|rfl|⟨b,rfl,-,-⟩
  ·exact h2
  ·exact h2
  ·simp only[AL];rw[AA _ _ _ _ (hd _ _ _ _ rfl rfl).symm];exact h2
def Kp(g:Zc)(c:Nat):(nbL g c).length<=g.cells.length:=Bq ..
def OV(g:Zc)(c:Nat):(NG g c).length<=g.cells.length:=by
 unfold NG;rw[V0];exact WD (X0 ..) (Kp g c)
def OW(g:Zc)(f:Int)(h:g.cells.length<=256):∀i,(fmL g f i).length<=256*i:=by
 intro i;unfold fmL;split
 ·simp;omega
 ·split
  ·simp;omega
  ·split
   ·induction i with
    |zero=>simp
    |succ i ih=>
     rw[WT,XK,V9];have:=OV g i;simp only[List.flatMap_cons,List.flatMap_nil,W9];omega
   ·simp
def JS(i:Nat):allL (i+1)=allL i++[(i:Int)]:=by unfold allL;rw[Ci,Vv rfl]
def Thfm:Tab:=tadd 33 (s1 dGd (λg=>few g.holes) nbV) (tadd 97 (s2 dIs dI (λl _=>few l) λl x=>.bool (l.contains x)) (tadd 100 (s2 dGd dI (λg _=>GrV g) λg f=>eLl (lnT g f 49)) (tadd 101 (s1 dGd GrV λg=>eLl (dgV g)) tnil)))
def Ts:AI prog Thfm:=(((AI.tnil.add (q1 p101)).add (q2 λg f h=>p100 g f h)).add (q2 p97)).add (q1 p33)
structure VFm where
 i:Nat
 E:List Fs
 tl:Zd
 ta:Zd
 H:AC
 n:Nat
def apT(tl ta:Zd):Prop:=∀a b x y,tl= .own a x->ta= .own b y->a≠b
def apT.symm{tl ta:Zd}(h:apT tl ta):apT ta tl:=λa b x y h1 h2=>(h b a y x h2 h1).symm
def apT.fresh{e lo n i:Nat}{H:AC}{tl:Zd}(h:tkG e lo H tl)(hf:AR H n)(hi:n<=i)(s:Nat):apT tl (.own i s):=λa b x y h1 h2=>by
 injection h2 with h2 _
 subst h2;rcases h with rfl|rfl|⟨id,rfl,-,h3⟩
 ·cases h1
 ·cases h1
 ·injection h1 with h1 _
  have:=hf.lt h3;omega
structure IFm(g:Zc)(f:Int)(v:VFm):Prop where
 hi:v.i<=g.cells.length
 hn:3<=v.n
 fr:AR v.H v.n
 h0:hget v.H 0=some (.box (AH g.sh g.w g.h g.holes g.cells))
 tok:tkG 1 1 v.H v.tl
 toka:tkG 1 1 v.H v.ta
 ap:apT v.tl v.ta
 es:v.tl.esz=1\/v.E=[]
 esa:v.ta.esz=1\/v.i=0
 hE:Wks v.E ((fmL g f v.i).map eIs)
def prT(g:Zc)(c j:Nat):List (List Int):=(((nbL g c).take j).filter λb=>decide ((c:Int)<b)).map λb=>[(c:Int),b]
def Tt(g:Zc)(c j:Nat):(prT g c j).length<=j:=by
 unfold prT;rw[V0];refine WD (X0 ..) ?_;rw[W0];omega
def RH(g:Zc)(c:Nat){j:Nat}(h:j<(nbL g c).length):prT g c (j+1)=if(c:Int)<(nbL g c)[j]then prT g c j++[[(c:Int),(nbL g c)[j]]]else prT g c j:=by
 unfold prT;rw[Vx,V2 h];simp only[Option.toList,Xh,X7,Yp,Vt,Vu];split<;>simp
structure IPr(g:Zc)(c ia:Nat)(v:VRg):Prop where
 hj:v.i<=(nbL g c).length
 hn:ia<v.n
 fr:AR v.H v.n
 h0:hget v.H 0=some (.box (AH g.sh g.w g.h g.holes g.cells))
 tok:tkG 1 1 v.H v.tl
 toka:tkG 1 1 v.H (.own ia 1)
 ap:apT v.tl (.own ia 1)
 es:v.tl.esz=1\/v.E=[]
 hE:Wks v.E ((fmL g 6 c++prT g c v.i).map eIs)
def p34(g:Zc)(f:Int)(hh:few g.holes):Pur prog 34 [Bu g,.int .i64 f] (fmV g f):=by
 refine .mk ⟨Ar 0 ..,trivial,trivial⟩ (by unfold fmV;split;(·split<;>exact⟨Am 0 _,trivial,trivial⟩);(·exact⟨Am 0 _,trivial,trivial⟩)) (c34.a (AE Ts (AF ?_)));have f1:dGd.ok (.agg (AH g.sh g.w g.h g.holes g.cells))=True:=DI g;have f2:dGd.dec (.agg (AH g.sh g.w g.h g.holes g.cells))=g:=B6 g;simp only[AH]at f1 f2;cases m7:grOK g.sh g.w g.h g.holes g.cells with
 |false=>
  have hv:fmV g f= .tup [eLl [],.int .i64 130]:=by unfold fmV;rw[m7];rfl
  have hc:nbV g= .tup [eLl [],.int .i64 130]:=by unfold nbV;rw[m7];rfl
  rw[hv];simp only[eZ,seval,V6,eY,c34,AH,Thfm,s1,f1,f2,V1 hh,hc,tadd];exact Wk.tup (.cons (Wk.sl (.inr rfl)) (.cons (Wk.refl _) .nil))
 |true=>
 have hG:Ak g.sh g.w g.h g.holes=some g.cells:=Wn m7;have G:GrV g:=⟨hG,hh⟩;obtain⟨q9,v8,x0⟩:=Ax hG;obtain⟨ar,har⟩:∃ar,ar=(List.range g.cells.length).map (nbL g):=⟨_,rfl⟩;have hc:nbV g= .tup [eLl ar,.int .i64 0]:=by unfold nbV;rw[m7,har,To];rfl
 have harl:ar.length=g.cells.length:=by rw[har];simp
 have harg:∀c,c<g.cells.length->ar[c]?=some (nbL g c):=λc hc=>by rw[har,W3,XJ hc];rfl
 by_cases hf:f<0\/7<f
 ·have hv:fmV g f= .tup [eLl [],.int .i64 1]:=by unfold fmV;rw[m7,Vv rfl,Vv hf]
  have hb:(decide (f<0)||decide (7<f))=true:=by simpa using hf
  rw[hv];simp only[eZ,seval,V3,eY,c34,AH,Thfm,s1,f1,f2,V1 hh,hc,hb,tadd];exact Wk.tup (.cons (Wk.sl (.inr rfl)) (.cons (Wk.refl _) .nil))
 have hv:fmV g f= .tup [eLl (famR g f),.int .i64 0]:=by unfold fmV;rw[m7,Vv rfl,V5 hf]
 have hb:(decide (f<0)||decide (7<f))=false:=by
  rw[Bool.eq_false_iff];intro q;exact hf (by simpa using q)
 rw[hv];simp only[eZ,seval,V3,eY,c34,AH,Thfm,s1,f1,f2,V1 hh,hc,hb,tadd];refine AO (λv:VFm=>⟨[(1,true,.int .i64 f),(2,true,.ptr 0 0),(6,true,eLl ar),(8,true,.sl v.tl v.E),(9,true,.sl v.ta ((allL v.i).map eI)),(10,true,.int .i64 v.i)],v.H,v.n⟩) (IFm g f) (λv=>g.cells.length-v.i)
  ⟨0,[],.nil,.nil,hset hnil 0 (.box (AH g.sh g.w g.h g.holes g.cells)),3⟩ rfl ⟨V8 _,V4 _,AR.nil.hset (m:=3) (V8 3) (show 0<3 by decide),rfl,.inl rfl,.inl rfl,(λa b x y h=>by cases h),.inr rfl,.inr rfl,by
   have:fmL g f 0=[]:=by
    unfold fmL;repeat (split; ·rfl)
    rfl
   show Wks [] ((fmL g f 0).map eIs);rw[this];exact .nil⟩ ?_
 rintro⟨i,E,tl,ta,H,n⟩ hI;have hi:=hI.hi;have hn:=hI.hn;have d5:=hI.fr;have h0:=hI.h0;have htl:=hI.tok;have hta:=hI.toka;have hap:=hI.ap;have d9:=hI.es;have hesa:=hI.esa;have hE:=hI.hE;simp only at hi hn d5 h0 htl hta hap d9 hesa hE;have h0':=h0;simp only[AH]at h0';have hEl:E.length<=256*i:=by
  have:=hE.len;rw[V0]at this;rw[this];exact OW g f v8 i
 by_cases c6:i<g.cells.length;case neg=>
  obtain rfl:i=g.cells.length:=zo
  unfold famR;by_cases q12:f=1\/f=2
  ·rw[Vv q12];rcases q12 with rfl|rfl
   ·simp only[eZ,seval,V0,h0',lt_F c6,Thfm,s2,f1,f2,BH,As,V1 G,tadd];exact Wk.tup (.cons (Wk.refl _) (.cons (Wk.refl _) .nil))
   ·simp only[eZ,seval,V0,h0',lt_F c6,Thfm,s2,f1,f2,BH,As,V1 G,tadd];exact Wk.tup (.cons (Wk.refl _) (.cons (Wk.refl _) .nil))
  rw[V5 q12];have w1:(f=1)=False:=Vs λq=>q12 (.inl q)
  have w2:(f=2)=False:=Vs λq=>q12 (.inr q)
  by_cases q3:f=3
  ·rw[Vv q3];by_cases qs:g.sh=1
   ·rw[Vv qs];subst q3;simp only[eZ,seval,V0,h0',lt_F c6,Thfm,s1,f1,f2,V1 G,V1 qs,tadd];exact Wk.tup (.cons (Wk.refl _) (.cons (Wk.refl _) .nil))
   ·rw[V5 qs];subst q3;simp only[eZ,seval,V0,h0',lt_F c6,Thfm,s2,f1,f2,BH,As,V1 G,Vs qs,tadd];exact Wk.tup (.cons (Wk.refl _) (.cons (Wk.refl _) .nil))
  rw[V5 q3];by_cases q4:f=4
  ·rw[Vv q4,<-har];subst q4;simp only[eZ,seval,V0,h0',lt_F c6];exact Wk.tup (.cons (Wk.refl _) (.cons (Wk.refl _) .nil))
  rw[V5 q4];by_cases q7:f=7
  ·rw[Vv q7];subst q7;simp only[eZ,seval,V0,h0',lt_F c6];refine Wk.tup (.cons (Wk.slx (.inl rfl) (.cons (Wk.sl (hesa.imp id λq=>by rw[q];rfl)) .nil)) (.cons (Wk.refl _) .nil))
  rw[V5 q7];simp only[eZ,seval,V0,h0',lt_F c6,w1,w2,Vs q3,Vs q4,Vs q7];exact Wk.tup (.cons (Wk.slx d9 hE) (.cons (Wk.refl _) .nil))
 have e:=AG (k:=i) zo;have l6:(allL i).length<=i:=Bq ..;have q1:At H 1 ta=True:=V1 hta.app;have q2:((allL i).length<=35184372088831)=True:=V1 zo;have q3:small ((allL i).length+1) 8=True:=V1 (AP zo zd);have hH2f:AR (hset (AL H ta) (n+3) .tok) (n+5):=(AT hta d5).hset zo zo;have hH20:hget (hset (AL H ta) (n+3) .tok) 0=some (.box (AH g.sh g.w g.h g.holes g.cells)):=by grind [AA,AX]
 have hH2l:tkG 1 1 (hset (AL H ta) (n+3) .tok) tl:=Im htl hta hap d5 zo;have hH2a:tkG 1 1 (hset (AL H ta) (n+3) .tok) (.own (n+3) 1):=.inr (.inr ⟨n+3,rfl,zo,AB ..⟩);have hH2p:apT tl (.own (n+3) 1):=apT.fresh htl d5 zo 1;have hAs:=JS i;have r2:(E.length<=35184372088831)=True:=V1 zo;have r3:small (E.length+1) 24=True:=V1 (AP zo zd);by_cases z0':f=0
 ·subst z0';have hfm:fmL g 0 (i+1)=fmL g 0 i++[[(i:Int)]]:=by
   unfold fmL;rw[Vv rfl,Vv rfl,WT,Vt];rfl
  have a1:At (hset (AL H ta) (n+3) .tok) 1 tl=True:=V1 hH2l.app;simp only[eZ,seval,V0,h0',lt_T c6,q1,q2,q3,fr1 d5,fr1 (AT hta d5),a1,r2,r3,e];refine .mk ⟨i+1,E++[.sl (.exact 1) [.int .i64 i]],.own (n+9) 1,.own (n+3) 1,hset (AL (hset (AL H ta) (n+3) .tok) tl) (n+9) .tok,n+11⟩ (by simp only[hAs,Vt];rfl) ⟨c6,zp,(AT hH2l hH2f).hset (m:=n+11) zo zo,?_,.inr (.inr ⟨n+9,rfl,zo,AB ..⟩),Im hH2a hH2l hH2p.symm hH2f zo,(apT.fresh hH2a hH2f zo 1).symm,.inl rfl,.inl rfl,?_⟩ zp
  ·simp only[];rw[AA _ _ _ _ zo,AX hH2l (.inl zo)];exact hH20
  ·simp only[hfm,Vt,W6,Wh];exact hE.app (.cons (Wk.sl (.inl rfl)) .nil)
 have z0:(f=0)=False:=Vs z0';by_cases z5':f=5
 ·subst z5';have hfm:fmL g 5 (i+1)=fmL g 5 i++[Tr g i]:=by
   unfold fmL;rw[V5 zd,Vv rfl,V5 zd,Vv rfl,WT,Vt];rfl
  simp only[eZ,seval,V0,h0',lt_T c6,q1,q2,q3,fr1 d5];refine AO (λv:VRi=>⟨[(1,true,.int .i64 5),(2,true,.ptr 0 0),(6,true,eLl ar),(8,true,.sl tl E),(9,true,.sl (.own (n+3) 1) ((allL i).map eI++[.int .i64 i])),(10,true,.int .i64 i),(11,true,.sl v.tc ((idxP v.j (Ga g i)).map eI)),(12,true,.int .i64 v.j)],v.H,v.n⟩)
   (IFil g.cells.length (Ga g i) (hset (AL H ta) (n+3) .tok) (n+5)) (λv=>g.cells.length-v.j) ⟨0,.nil,hset (AL H ta) (n+3) .tok,n+5⟩ rfl ⟨V8 _,V4 _,hH2f,λid d7=>rfl,.inl rfl,.inr rfl⟩ ?_
  rintro⟨j,tc,H1,n1⟩ ⟨hj,j9,e9,hk,m9,s5⟩;simp only at hj j9 e9 hk m9 s5;have l0:hget H1 0=some (.box (AH g.sh g.w g.h g.holes g.cells)):=by rw[hk 0 zo];exact hH20
  have h01':=l0;simp only[AH]at h01';by_cases i4:j<g.cells.length
  ·have ej:=AG (k:=j) zo;have hs:=Ci j (Ga g i);have hga:=harg i c6;have hia:i<ar.length:=zo
   have hfn:few (nbL g i)=True:=V1 (show(nbL g i).length<_ by have:=Kp g i;omega);have hb:(decide ((j:Int)=(i:Int))||(nbL g i).contains (j:Int))=Ga g i j:=rfl;cases hbb:Ga g i j with
   |false=>
    rw[hbb,V5 zd]at hs;rw[hbb]at hb;simp only[eZ,seval,eY,h01',lt_T i4,lt_T hia,hga,Thfm,s2,Al,AZ,BH,As,hfn,hb,ej,tadd];exact .mk ⟨j+1,tc,H1,n1⟩ (by simp only[hs]) ⟨i4,j9,e9,hk,m9,by simp only[hs];exact s5⟩ zp
   |true=>
    rw[hbb,Vv rfl]at hs;rw[hbb]at hb;have d6:=Bq j (Ga g i);have u1:At H1 1 tc=True:=V1 m9.app;have u2:((idxP j (Ga g i)).length<=35184372088831)=True:=V1 zo;have u3:small ((idxP j (Ga g i)).length+1) 8=True:=V1 (AP zo zd);simp only[eZ,seval,eY,h01',lt_T i4,lt_T hia,hga,Thfm,s2,Al,AZ,BH,As,hfn,hb,ej,u1,u2,u3,fr1 e9,tadd];refine .mk ⟨j+1,.own (n1+3) 1,hset (AL H1 tc) (n1+3) .tok,n1+5⟩ ?_ ⟨i4,zp,(AT m9 e9).hset (m:=n1+5) zo zo,λid d7=>?_,.inr (.inr ⟨n1+3,rfl,zo,AB ..⟩),.inl rfl⟩ zp
    ·simp only[hs,Vt];rfl
    ·grind [AA,AX]
  obtain rfl:j=g.cells.length:=zo
  have up:∀{t:Zd},tkG 1 1 (hset (AL H ta) (n+3) .tok) t->tkG 1 1 H1 t:=λh=>by
   rcases h with rfl|rfl|⟨id,rfl,h1,h2⟩
   ·exact .inl rfl
   ·exact .inr (.inl rfl)
   ·exact .inr (.inr ⟨id,rfl,h1,by rw[hk id (hH2f.lt h2)];exact h2⟩)
  have j0:=up hH2l;have k9:=up hH2a;have a1:At H1 1 tl=True:=V1 j0.app;simp only[eZ,seval,V0,h01',lt_F i4,e,a1,r2,r3,fr1 e9];refine .mk ⟨i+1,E++[.sl tc ((idxP g.cells.length (Ga g i)).map eI)],.own (n1+3) 1,.own (n+3) 1,hset (AL H1 tl) (n1+3) .tok,n1+5⟩ (by simp only[hAs,Vt];rfl) ⟨c6,zp,(AT j0 e9).hset (m:=n1+5) zo zo,?_,.inr (.inr ⟨n1+3,rfl,zo,AB ..⟩),Im k9 j0 hH2p.symm e9 zo,(apT.fresh k9 e9 zo 1).symm,.inl rfl,.inl rfl,?_⟩ zp
  ·grind [AA,AX]
  ·simp only[hfm,Vt,W6,Wh];exact hE.app (.cons (Wk.sl (s5.imp id λq=>by rw[q];rfl)) .nil)
 have z5:(f=5)=False:=Vs z5';by_cases z6':f=6
 ·subst z6';have hfm:fmL g 6 (i+1)=fmL g 6 i++NG g i:=by
   unfold fmL;rw[V5 zd,V5 zd,Vv rfl,V5 zd,V5 zd,Vv rfl,WT,XK];simp
  simp only[eZ,seval,V0,h0',lt_T c6,q1,q2,q3,fr1 d5];refine AO (λv:VRg=>⟨[(1,true,.int .i64 6),(2,true,.ptr 0 0),(6,true,eLl ar),(8,true,.sl v.tl v.E),(9,true,.sl (.own (n+3) 1) ((allL i).map eI++[.int .i64 i])),(10,true,.int .i64 i),(13,true,.int .i64 v.i)],v.H,v.n⟩)
   (IPr g i (n+3)) (λv=>(nbL g i).length-v.i) ⟨0,E,tl,hset (AL H ta) (n+3) .tok,n+5⟩ rfl ⟨V8 _,zp,hH2f,hH20,hH2l,hH2a,hH2p,d9,by
    show Wks E ((fmL g 6 i++prT g i 0).map eIs);have:prT g i 0=[]:=rfl;rw[this,W9];exact hE⟩ ?_
  rintro⟨j,E1,t1,H1,n1⟩ hJ;have hj:=hJ.hj;have j9:=hJ.hn;have e9:=hJ.fr;have l0:=hJ.h0;have j0:=hJ.tok;have k9:=hJ.toka;have hp1:=hJ.ap;have he1:=hJ.es;have hE1:=hJ.hE;simp only at hj j9 e9 l0 j0 k9 hp1 he1 hE1;have h01':=l0;simp only[AH]at h01';have hga:=harg i c6;have hia:i<ar.length:=zo
  have hnl:=Kp g i;by_cases i4:j<(nbL g i).length
  ·have ej:=AG (k:=j) zo;have s6:=V2 i4;have hst:=RH g i i4;generalize (nbL g i)[j]=x at s6 hst;by_cases hx:(i:Int)<x
   ·rw[Vv hx]at hst;have hEl1:E1.length<=65536:=by
     have:=hE1.len;rw[V0,V9]at this;have a:=OW g 6 v8 i;have b:=Tt g i j;omega
    have a1:At H1 1 t1=True:=V1 j0.app;have u2:(E1.length<=35184372088831)=True:=V1 zo;have u3:small (E1.length+1) 24=True:=V1 (AP zo zd);simp only[eZ,seval,eY,lt_T i4,s6,lt_T hia,hga,V1 hx,ej,a1,u2,u3,fr1 e9];refine .mk ⟨j+1,E1++[.sl (.exact 1) [.int .i64 i,.int .i64 x]],.own (n1+11) 1,hset (AL H1 t1) (n1+11) .tok,n1+13⟩ rfl ⟨i4,zp,(AT j0 e9).hset (m:=n1+13) zo zo,?_,.inr (.inr ⟨n1+11,rfl,zo,AB ..⟩),Im k9 j0 hp1.symm e9 zo,(apT.fresh k9 e9 zo 1).symm,.inl rfl,?_⟩ zp
    ·grind [AA,AX]
    ·simp only[hst,<-Wb,Vt,W6,Wh];rw[Vt]at hE1;exact hE1.app (.cons (Wk.sl (.inl rfl)) .nil)
   ·rw[V5 hx]at hst;simp only[eZ,seval,eY,lt_T i4,s6,lt_T hia,hga,Vs hx,ej];exact .mk ⟨j+1,E1,t1,H1,n1⟩ rfl ⟨i4,j9,e9,l0,j0,k9,hp1,he1,by simp only[hst];exact hE1⟩ zp
  obtain rfl:j=(nbL g i).length:=zo
  simp only[eZ,seval,eY,lt_F i4,lt_T hia,hga,e];refine .mk ⟨i+1,E1,t1,.own (n+3) 1,H1,n1⟩ (by simp only[hAs,Vt];rfl) ⟨c6,zp,e9,l0,j0,k9,hp1,he1,.inl rfl,?_⟩ zp;have hall:prT g i (nbL g i).length=NG g i:=by unfold prT NG;rw[Vw]
  simp only[hfm,<-hall];exact hE1
 have z6:(f=6)=False:=Vs z6';have hfm:fmL g f (i+1)=fmL g f i:=by
  unfold fmL;rw[V5 z0',V5 z5',V5 z6',V5 z0',V5 z5',V5 z6']
 simp only[eZ,seval,V0,h0',lt_T c6,q1,q2,q3,fr1 d5,z0,z5,z6,e];exact .mk ⟨i+1,E,tl,.own (n+3) 1,hset (AL H ta) (n+3) .tok,n+5⟩ (by simp only[hAs,Vt];rfl) ⟨c6,zp,hH2f,hH20,hH2l,hH2a,hH2p,d9,.inl rfl,by simp only[hfm];exact hE⟩ zp
section
variable {cells:List Int}
theorem OX:∀{l:List Z6},Cx cells l=0->∀r∈l,regE cells r=0
 |[],_,r,h=>by cases h
 |a::s,h0,r,h=>by
  unfold Cx at h0;split at h0
  ·rename_i ha;rcases Wp.1 h with rfl|h
   ·exact ha
   ·exact OX h0 r h
  ·rename_i ha;exact absurd h0 ha
theorem RI{x:Z8}(h:chkD x=0)(hc:Ak x.sh x.w x.h x.holes=some cells):Cx cells x.regs=0:=by
 unfold chkD at h;split at h
 ·cases h
 ·split at h
  ·rename_i e he;exact absurd h (Dd he)
  ·grind
theorem fmV_S{g:Zc}(G:GrV g){f:Nat}(hf:f<=7):fmV g (f:Int)= .tup [eLl (famS g.sh g.w g.h (AQ g.sh g.w g.cells) f),.int .i64 0]:=by
 have m7:grOK g.sh g.w g.h g.holes g.cells=true:=Wo G.hG;unfold fmV;rw[m7,Vv rfl,V5 zo,famR_S G hf]
theorem Tu{g:Zc}(G:GrV g):nbV g= .tup [eLl (nbsS g.sh (AQ g.sh g.w g.cells)),.int .i64 0]:=by
 have m7:grOK g.sh g.w g.h g.holes g.cells=true:=Wo G.hG;unfold nbV;rw[m7,Vv rfl]
theorem OY{x:Z8}(h:chkD x=0)(hc:Ak x.sh x.w x.h x.holes=some cells){r:Z6}(hr:r∈x.regs):rgsV cells r.ls= .tup [eLl (r.ls.map (BO cells)),.int .i64 0]:=by
 have h1:=OX (RI h hc) r hr;unfold regE at h1;unfold rgsV;split at h1
 ·cases h1
 ·rename_i q;rw[Vv (by simpa using q)]
end
abbrev knd0:Knd:=⟨dcl0,⟨0,0,0,[],[]⟩,[],[]⟩
def BB(d:Z8):Fs:=match CA d with
 | .error e=>.tup [BR knd0,.int .i64 e]
 | .ok k=>.tup [BR k,.int .i64 0]
abbrev zKn:List Fs:=[.str [],z0,z0,z0,z0,zs,zs,zs,zs,zs,z0,z0,z0,zs,zs,zs,zs]
def Tv{d:Z8}{g:Zc}{nb:List (List Int)}{ls:List (List (List Int))}{a b c d' e f h i j:Fs}(ha:Wk a (eIs d.holes))(hb:Wk b (eSys d.syms))(hc:Wk c (eRgs d.regs))(hd:Wk d' (eCls d.clus))(he:Wk e (eRus d.ruls))(hf:Wk f (eIs g.holes))(hh:Wk h (eIs g.cells))(hi:Wk i (eLl nb))(hj:Wk j (eLLs ls)):
  Wk (.agg [.str d.nm,.int .i64 d.ver,.int .i64 d.sh,.int .i64 d.w,.int .i64 d.h,a,b,c,d',e,.int .i64 g.sh,.int .i64 g.w,.int .i64 g.h,f,h,i,j]) (BR ⟨d,g,nb,ls⟩):=
 Wk.agg (.cons (Wk.refl _) (.cons (Wk.refl _) (.cons (Wk.refl _) (.cons (Wk.refl _) (.cons (Wk.refl _) (.cons ha (.cons hb (.cons hc (.cons hd (.cons he (.cons (Wk.refl _) (.cons (Wk.refl _) (.cons (Wk.refl _) (.cons hf (.cons hh (.cons hi (.cons hj .nil)))))))))))))))))
def L4(e:Int):Wk (.tup [.agg zKn,.int .i64 e]) (.tup [BR knd0,.int .i64 e]):=
 Wk.tup (.cons (Tv (d:=dcl0) (g:=⟨0,0,0,[],[]⟩) (Wk.sl (.inr rfl)) (Wk.sl (.inr rfl)) (Wk.sl (.inr rfl)) (Wk.sl (.inr rfl)) (Wk.sl (.inr rfl)) (Wk.sl (.inr rfl)) (Wk.sl (.inr rfl)) (Wk.sl (.inr rfl)) (Wk.sl (.inr rfl))) (.cons (Wk.refl _) .nil))
def Tbd:Tab:=tadd 30 (s1 dD FewR Bh) (tadd 31 (s1 dD Z4 λd=>.int .i64 (chkD d)) (tadd 32 sMk (tadd 33 (s1 dGd (λg=>few g.holes) nbV) (tadd 34 (s2 dGd dI (λg _=>few g.holes) fmV) (tadd 35 (s2 dGd dLl (λg l=>Ak g.sh g.w g.h g.holes=some g.cells/\few g.holes/\Bm l) λg l=>rgsV g.cells l) tnil)))))
def Tbd_ok:AI prog Tbd:=(((((AI.tnil.add (q2 λg l h=>p35 g l h.1 h.2.1 h.2.2)).add (q2 λg f h=>p34 g f h)).add (q1 p33)).add qMk).add (q1 λd h=>p31 d h)).add (q1 λd h=>p30 d h.1 h.2)
theorem Tw(a:List Fs)(H:AC):Tbd 30 a H=s1 dD FewR Bh a H:=rfl
theorem Tbd_c(a:List Fs)(H:AC):Tbd 31 a H=s1 dD Z4 (λd=>.int .i64 (chkD d)) a H:=rfl
theorem Tbd_m(sh w h:Int)(x:Fs)(H:AC):Tbd 32 [.int .i64 sh,.int .i64 w,.int .i64 h,x] H=(dIs.ok x/\few (dIs.dec x),BL sh w h (dIs.dec x)):=rfl
theorem Tbd_n(a:List Fs)(H:AC):Tbd 33 a H=s1 dGd (λg=>few g.holes) nbV a H:=rfl
theorem Tbd_f(a:List Fs)(H:AC):Tbd 34 a H=s2 dGd dI (λg _=>few g.holes) fmV a H:=rfl
theorem Tbd_g(a:List Fs)(H:AC):Tbd 35 a H=s2 dGd dLl (λg l=>Ak g.sh g.w g.h g.holes=some g.cells/\few g.holes/\Bm l) (λg l=>rgsV g.cells l) a H:=rfl
abbrev cKb(x:Z8)(cells:List Int)(v:Fs):List Fs:=[.str x.nm,.int .i64 x.ver,.int .i64 x.sh,.int .i64 x.w,.int .i64 x.h,eIs x.holes,eSys x.syms,eRgs x.regs,eCls x.clus,eRus x.ruls,.int .i64 x.sh,.int .i64 x.w,.int .i64 x.h,eIs x.holes,eIs cells,eLl (nbsS x.sh (AQ x.sh x.w cells)),v]
structure IBd(x:Z8)(cells:List Int)(m:Nat)(L:Nat->List (List (List Int)))(v:VRg):Prop where
 hi:v.i<=m
 hn:15<=v.n
 fr:AR v.H v.n
 h1:hget v.H 1=some (.box zKn)
 h8:hget v.H 8=some (.box (AK x))
 h13:hget v.H 13=some (.box (cKb x cells (.sl v.tl v.E)))
 tok:tkG 1 14 v.H v.tl
 es:v.tl.esz=1\/v.E=[]
 hE:Wks v.E ((L v.i).map eLl)
def p11(d:Z8)(hd:FewR d):Pur prog 11 [encD d] (BB d):=by
 refine .mk ⟨AW 0 d,trivial⟩ (by unfold BB;split<;>exact⟨BT 0 _,trivial,trivial⟩) (c11.a (AE Tbd_ok (AF ?_)));have e1:dD.ok (.agg (AK d))=True:=A0 d;have e2:dD.dec (.agg (AK d))=d:=Aj d;simp only[AK]at e1 e2;unfold BB CA;cases hr:resD d with
 |error e=>
  have hv:Bh d= .tup [encD dcl0,.int .i64 e]:=by unfold Bh;rw[hr]
  have he:(e=0)=False:=Vs (Dd hr);simp only[eZ,seval,V6,eY,Au,c11,AK,Tw,s1,e1,e2,V1 hd,hv,he];exact L4 e
 |ok x=>
 have hv:Bh d= .tup [encD x,.int .i64 0]:=by unfold Bh;rw[hr]
 have hfx:=ED hd.1 hr;have x1:dD.ok (.agg (AK x))=True:=A0 x;have x2:dD.dec (.agg (AK x))=x:=Aj x;simp only[AK]at x1 x2;simp only[];by_cases hc:chkD x=0;case neg=>
  rw[Vv hc];simp only[eZ,seval,V3,V6,eY,Au,c11,AK,Tw,Tbd_c,s1,e1,e2,x1,x2,V1 hd,V1 hfx,hv,Vs hc];exact L4 _
 rw[V5 (λz=>z hc)];obtain⟨cells,hg⟩:=JO hc;rw[hg];simp only[];have hm:BL x.sh x.w x.h x.holes= .tup [encG x.sh x.w x.h x.holes cells,.int .i64 0]:=by unfold BL;rw[hg]
 have G:GrV (Av x cells):=⟨hg,hfx.ho⟩;have g1:dGd.ok (.agg [.int .i64 x.sh,.int .i64 x.w,.int .i64 x.h,eIs x.holes,eIs cells])=True:=DI (Av x cells);have g2:dGd.dec (.agg [.int .i64 x.sh,.int .i64 x.w,.int .i64 x.h,eIs x.holes,eIs cells])=Av x cells:=B6 (Av x cells);have hho:few (Av x cells).holes=True:=V1 hfx.ho;have hnb:nbV (Av x cells)= .tup [eLl (nbsS x.sh (AQ x.sh x.w cells)),.int .i64 0]:=Tu G;simp only[eZ,seval,V3,eY,c11,AK,Tw,Tbd_c,Tbd_m,Tbd_n,s1,e1,e2,x1,x2,g1,g2,Al,AZ,V1 hd,V1 hfx,V1 hfx.ho,hho,hv,hc,hm,hnb];refine AO (λv:VRg=>⟨[(2,true,.ptr 1 0),(4,true,.ptr 8 0),(6,true,.ptr 13 0),(7,true,.int .i64 v.i)],v.H,v.n⟩) (IBd x cells 8 λi=>(List.range i).map λf=>famS x.sh x.w x.h (AQ x.sh x.w cells) f) (λv=>8-v.i)
  ⟨0,[],.nil,_,15⟩ rfl ?_ ?_
 ·refine⟨V8 _,V4 _,?_,rfl,rfl,rfl,.inl rfl,.inr rfl,.nil⟩;simp only[];repeat' (first|exact AR.nil.hset (m:=15) (V8 _) zd|refine AR.hset ?_ (V4 _) zd)
 rintro⟨i,E,tl,H,n⟩ hI;have hi:=hI.hi;have hn:=hI.hn;have d5:=hI.fr;have h1:=hI.h1;have h8:=hI.h8;have h13:=hI.h13;have htl:=hI.tok;have d9:=hI.es;have hE:=hI.hE;simp only at hi hn d5 h1 h8 h13 htl d9 hE;have h8':=h8;simp only[AK]at h8';by_cases c6:i<8
 ·have e:=AG (k:=i) zo;have hq:((i:Int)<8)=True:=V1 zo;have hfm:fmV (Av x cells) (i:Int)= .tup [eLl (famS x.sh x.w x.h (AQ x.sh x.w cells) i),.int .i64 0]:=fmV_S G zo;have hEl:E.length=i:=by
   have:=hE.len;rw[V0,V0,Xd]at this;exact this
  have q1:At H 1 tl=True:=V1 htl.app;have q2:(E.length<=35184372088831)=True:=V1 zo;have q3:small (E.length+1) 24=True:=V1 (AP zo zd);have hk13:=AX htl (i:=13) (.inr ⟨_,h13⟩);rw[h13]at hk13;have y1:∀k,(13=n+k)=False:=λk=>Vs zo
  have y2:(n=9)=False:=Vs zo;have y3:(9=n)=False:=Vs zo;simp only[eZ,seval,eY,h13,hq,Tbd_f,s2,g1,g2,BH,As,hho,hfm,e,q1,q2,q3,fr1 d5,hk13,y2];refine .mk ⟨i+1,E++[eLl (famS x.sh x.w x.h (AQ x.sh x.w cells) i)],.own (n+4) 1,hset (hset (AL H tl) (n+4) .tok) 13 (.box (cKb x cells (.sl (.own (n+4) 1) (E++[eLl (famS x.sh x.w x.h (AQ x.sh x.w cells) i)])))),n+7⟩ rfl ⟨c6,zp,((AT htl d5).hset (m:=n+7) zo zo).hset (V4 _) (show 13<n+7 by omega),?_,?_,AB ..,.inr (.inr ⟨n+4,rfl,zo,?_⟩),.inl rfl,?_⟩ zp
  ·grind [AA,AX]
  ·grind [AA,AX]
  ·simp only[];rw[AA _ _ _ _ zo,AB]
  ·simp only[WT,Vt,W6,Wh]at hE⊢;exact hE.app (.cons (Wk.refl _) .nil)
 obtain rfl:i=8:=zo
 have hq:(((8:Nat):Int)<8)=False:=Vs zd;simp only[eZ,seval,hq];refine AO (λv:VRg=>⟨[(2,true,.ptr 1 0),(4,true,.ptr 8 0),(6,true,.ptr 13 0),(10,true,.int .i64 v.i)],v.H,v.n⟩) (IBd x cells x.regs.length λi=>((List.range 8).map λf=>famS x.sh x.w x.h (AQ x.sh x.w cells) f)++(x.regs.take i).map λr=>r.ls.map (BO cells)) (λv=>x.regs.length-v.i)
  ⟨0,E,tl,H,n⟩ rfl ⟨V8 _,hn,d5,h1,h8,h13,htl,d9,by
   simp only[WZ,Wh,W9];exact hE⟩ ?_
 clear hE d9 htl h13 h8' h8 h1 d5 hn hI hq c6 hi;rintro⟨i,E,tl,H,n⟩ hI;have hi:=hI.hi;have hn:=hI.hn;have d5:=hI.fr;have h1:=hI.h1;have h8:=hI.h8;have h13:=hI.h13;have htl:=hI.tok;have d9:=hI.es;have hE:=hI.hE;simp only at hi hn d5 h1 h8 h13 htl d9 hE;have h8':=h8;simp only[AK]at h8';have v7:x.regs.length<=4:=by simp_all [chkD,limD,V7,Vu]<;>omega
 by_cases c6:i<x.regs.length
 ·have e:=AG (k:=i) zo;have hgr:=V2 c6;have hmem:x.regs[i]∈x.regs:=W1 c6;have hrg:=OY hc hg hmem;have q8:Bm x.regs[i].ls=True:=V1 (hfx.rgs _ hmem);have c7:x.regs.take (i+1)=x.regs.take i++[x.regs[i]]:=by rw[Vx,hgr];rfl
  generalize x.regs[i]=r at hgr hrg q8 c7;have hgc:(Ak (Av x cells).sh (Av x cells).w (Av x cells).h (Av x cells).holes=some (Av x cells).cells)=True:=V1 hg;have hgd:(Ak (Av x cells).sh (Av x cells).w (Av x cells).h (Av x cells).holes=some cells)=True:=V1 hg;have hgx:(Av x cells).cells=cells:=rfl;have hEl:E.length=8+i:=by
   have:=hE.len;rw[V0,V9,V0,V0,Xd,W0]at this;omega
  have q1:At H 1 tl=True:=V1 htl.app;have q2:(E.length<=35184372088831)=True:=V1 zo;have q3:small (E.length+1) 24=True:=V1 (AP zo zd);have hk13:=AX htl (i:=13) (.inr ⟨_,h13⟩);rw[h13]at hk13;have y1:∀k,(13=n+k)=False:=λk=>Vs zo
  have y2:(n=9)=False:=Vs zo;have y3:(9=n)=False:=Vs zo;simp only[eZ,seval,eY,h8',h13,lt_T c6,hgr,Tbd_g,s2,g1,g2,CM,Bl,hho,hgd,hgx,q8,hrg,e,q1,q2,q3,fr1 d5,hk13,y2];refine .mk ⟨i+1,E++[eLl (r.ls.map (BO cells))],.own (n+4) 1,hset (hset (AL H tl) (n+4) .tok) 13 (.box (cKb x cells (.sl (.own (n+4) 1) (E++[eLl (r.ls.map (BO cells))])))),n+7⟩ rfl ⟨c6,zp,((AT htl d5).hset (m:=n+7) zo zo).hset (V4 _) (show 13<n+7 by omega),?_,?_,AB ..,.inr (.inr ⟨n+4,rfl,zo,?_⟩),.inl rfl,?_⟩ zp
  ·grind [AA,AX]
  ·grind [AA,AX]
  ·simp only[];rw[AA _ _ _ _ zo,AB]
  ·simp only[c7,Vt,W6,Wh]at hE⊢;rw[<-Wb];exact hE.app (.cons (Wk.refl _) .nil)
 obtain rfl:i=x.regs.length:=zo
 rw[Vw]at hE;simp only[eZ,seval,Au,V0,h8',h13,h1,lt_F c6];exact Wk.tup (.cons (Tv (d:=x) (g:=Av x cells) (Wk.refl _) (Wk.refl _) (Wk.refl _) (Wk.refl _) (Wk.refl _) (Wk.refl _) (Wk.refl _) (Wk.refl _) (Wk.slx d9 hE)) (.cons (Wk.refl _) .nil))
def JT{d:Z8}{e:Int}(h:CA d= .error e):¬e=0:=by
 unfold CA at h;split at h
 ·rename_i e' he;cases h;exact Dd he
 ·grind
def T8c:Tab:=tadd 11 (s1 dD FewR BB) (tadd 12 (s2 dKn dKn (λa _=>FewKr a) λa b=>.bool (decide (a=b))) tnil)
def T8c_ok:AI prog T8c:=(AI.tnil.add (q2 λa b h=>p12 a b h)).add (q1 λd h=>p11 d h)
def p17(k:Knd)(h1:FewR k.d)(h2:FewKr k):Pur prog 17 [BR k] (.int .i64 (CN k)):=by
 refine .mk ⟨BT 0 k,trivial⟩ trivial (c17.a (AE T8c_ok (AF ?_)));have e1:dD.ok (.agg (AK k.d))=True:=A0 k.d;have e2:dD.dec (.agg (AK k.d))=k.d:=Aj k.d;have u1:dKn.ok (.agg (Ah k))=True:=GK k;have u2:dKn.dec (.agg (Ah k))=k:=Eg k;simp only[AK]at e1 e2;simp only[Ah,AH,AK,Ww,Wi]at u1 u2;unfold CN NF;cases hb:CA k.d with
 |error e=>
  have hv:BB k.d= .tup [BR knd0,.int .i64 e]:=by unfold BB;rw[hb]
  have he:(e=0)=False:=Vs (JT hb);simp only[eZ,seval,V3,V6,eY,c17,Ah,AH,AK,T8c,s1,s2,e1,e2,u1,u2,V1 h1,V1 h2,hv,he,tadd]
 |ok x=>
 have hv:BB k.d= .tup [BR x,.int .i64 0]:=by unfold BB;rw[hb]
 have v1:dKn.ok (.agg (Ah x))=True:=GK x;have v2:dKn.dec (.agg (Ah x))=x:=Eg x;simp only[Ah,AH,AK,Ww,Wi]at v1 v2;simp only[];by_cases hx:k=x
 ·simp only[eZ,seval,V3,eY,c17,Ah,AH,AK,T8c,s1,s2,e1,e2,u1,u2,v1,v2,V1 h1,V1 h2,hv,BA hx,tadd]
 ·simp only[eZ,seval,V3,V6,eY,c17,Ah,AH,AK,T8c,s1,s2,e1,e2,u1,u2,v1,v2,V1 h1,V1 h2,hv,Az hx,tadd]
end Go.AM
