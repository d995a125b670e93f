/-
  The reference of types: Readable, Unreadable, equal lists · The reference of syntax: equal lists, rules, declarations (w.
  Conditions: none beyond those of its parts.
-/
import Derived.Test.YtbngedlokkndkaaGreatDoorB9
import Derived.Test.YtbngedlokkndkaaGreatDoorB6

set_option maxRecDepth 20000
set_option linter.all false
namespace Go.AM
open Go.Lib Go.Proofs Go.Proofs.Tryz
def p39W(a b:List Int)(ha:wide a):A6 prog 39 [BY a,BY b] (.bool (decide (a=b))):=by
 refine .mk ⟨Av 0 _,Av 0 _,zt⟩ zt (c39.a (AE AG.sE (AF ?_)));have me:a.length<1125899906842624:=ha;by_cases hl:a.length=b.length;case neg=>
  have hR:decide (a=b)=false:=oN λq=>hl (by rw[q])
  have hq:((a.length:Int)=(b.length:Int))=False:=oA zo;rw[hR];simp only[eZ,seval,oh,o6,c39,hq]
 have hq:((a.length:Int)=(b.length:Int))=True:=o7 zo;simp only[eZ,seval,o9,o6,c39,hq];refine AQ (λi:Nat=>⟨[(0,true,BY a),(1,true,BY b),(5,true,.int .i64 i)],Ac,0⟩) (λi=>i<=a.length/\a.take i=b.take i) (λi=>a.length-i) 0 rfl ⟨oq _,rfl⟩ ?_;rintro i ⟨hi,l6⟩;by_cases e9:i<a.length
 ·have l7:i<b.length:=zo
  have hg:=o8 e9;have s6:=o8 l7;have e:=AI (k:=i) zo;have ta:a.take (i+1)=a.take i++[a[i]]:=by rw[oG,hg];rfl
  have tb:b.take (i+1)=b.take i++[b[i]]:=by rw[oG,s6];rfl
  generalize a[i]=x at hg ta;generalize b[i]=y at s6 tb;by_cases u0:x=y
  ·simp only[eZ,seval,o9,eY,AT e9,AT l7,hg,s6,e,u0];exact .mk (i+1) rfl ⟨e9,by rw[ta,tb,l6,u0]⟩ zo
  ·have hR:decide (a=b)=false:=oN λq=>u0 (by rw[q]at hg;rw[hg]at s6;exact Option.some.inj s6)
   rw[hR];simp only[eZ,seval,oh,eY,AT e9,AT l7,hg,s6,A5 u0]
 obtain rfl:i=a.length:=zo
 have hR:decide (a=b)=true:=pk (by rw[oF,hl,oF]at l6;exact l6);rw[hR];simp only[eZ,seval,o6,Ah e9]
def p39(a b:List Int)(ha:sR a):A6 prog 39 [BY a,BY b] (.bool (decide (a=b))):=p39W a b (Dk ha)
def p181(r:zj):A6 prog 181 [Ao r] (.bool (Hy r)):=by
 refine .mk ⟨BA 0 r,zt⟩ zt (c181.a (AE AG.sE (AF ?_)));simp only[eZ,seval,c181];rfl
def Tr7:Bk:=AJ 181 (s1 Kj I7 λr=>.bool (Hy r)) sE
def gT:AG prog Tr7:=AG.sE.add (q1 λr _=>p181 r)
structure IUr(d:x8)(v:VU):Prop where
 hi:v.i<=d.sC.length
 fr:AU v.H v.n
 hn:2<=v.n
 h0:AD v.H 0=some (.box (AL d))
 tok:EG 1 1 v.H v.tk
 es:v.tk.esz=1\/Bl (d.sC.take v.i)=[]
def p114(d:x8)(hr:sR d.sC):A6 prog 114 [Ba d] (BY (Bl d.sC)):=by
 refine .mk ⟨Ag 0 d,zt⟩ (Av 0 _) (c114.a (AE gT (AF ?_)));have ua:d.sC.length<1000000000:=hr;simp only[eE,eN,seval,c114];refine AQ (λv:VU=>⟨[(1,true,.ptr 0 0),(3,true,.sl v.tk ((Bl (d.sC.take v.i)).map eI)),(4,true,.int .i64 v.i)],v.H,v.n⟩) (IUr d) (λv=>d.sC.length-v.i)
  ⟨0,.nil,sA Ac 0 (.box (AL d)),2⟩ rfl ⟨oq _,AU.nil.sA (m:=2) (oq 2) (show 0<2 by decide),od _,rfl,.inl rfl,.inr rfl⟩ ?_
 rintro⟨i,tk,H,n⟩ ⟨hi,l0,hn,h0,l6,s9⟩;simp only at hi l0 hn h0 l6 s9;by_cases e9:i<d.sC.length
 ·have hg:=o8 e9;have e:=AI (k:=i) zo;have hu:=LQ e9;have hul:=NN (d.sC.take i);rw[oJ]at hul;generalize d.sC[i]=r at hg hu;cases tv:Hy r with
  |true=>
   rw[tv,oE rfl,oR]at hu;simp only[eZ,seval,o9,eY,AT e9,hg,Tr7,s1,B0,BU,tv,e,h0,AJ];refine .mk ⟨i+1,tk,H,n⟩ ?_ ⟨e9,l0,hn,h0,l6,by simp only[hu];exact s9⟩ zp;simp only[hu]
  |false=>
   rw[tv,og zd]at hu;have q1:At H 1 tk=True:=o7 l6.app;have q2:((Bl (d.sC.take i)).length<=35184372088831)=True:=o7 zo;have q3:small ((Bl (d.sC.take i)).length+1) 8=True:=o7 (AY zo zd);simp only[eZ,seval,oh,eY,AT e9,hg,Bx l0,Tr7,s1,B0,BU,tv,e,h0,q1,q2,q3,AJ];refine .mk ⟨i+1,.own (n+3) 1,sA (AR H tk) (n+3) .tok,n+5⟩ ?_ ⟨e9,(AZ l6 l0).sA (m:=n+5) zo zo,zp,?_,.inr (.inr ⟨n+3,rfl,zo,AC ..⟩),.inl rfl⟩ zp
   ·simp only[hu,oD];rfl
   ·simp only[];rw[AA _ _ _ _ zo,Ai l6 (.inr ⟨_,h0⟩)];exact h0
 obtain rfl:i=d.sC.length:=zo
 rw[oF]at s9;simp only[eZ,seval,o6,Ah e9,oF,h0];exact Wk.sl (s9.imp id λq=>by rw[q];rfl)
def p175(a b:List Int)(ha:wide a):A6 prog 175 [BY a,BY b] (.bool (decide (a=b))):=by
 refine .mk ⟨Av 0 _,Av 0 _,zt⟩ zt (mN.a (AE AG.sE (AF ?_)));have me:a.length<1125899906842624:=ha;by_cases hl:a.length=b.length;case neg=>
  have hR:decide (a=b)=false:=oN λq=>hl (by rw[q])
  have hq:((a.length:Int)=(b.length:Int))=False:=oA zo;rw[hR];simp only[eZ,seval,oh,o6,mN,hq]
 have hq:((a.length:Int)=(b.length:Int))=True:=o7 zo;simp only[eZ,seval,o9,o6,mN,hq];refine AQ (λi:Nat=>⟨[(0,true,BY a),(1,true,BY b),(5,true,.int .i64 i)],Ac,0⟩) (λi=>i<=a.length/\a.take i=b.take i) (λi=>a.length-i) 0 rfl ⟨oq _,rfl⟩ ?_;rintro i ⟨hi,l6⟩;by_cases e9:i<a.length
 ·have l7:i<b.length:=zo
  have hg:=o8 e9;have s6:=o8 l7;have e:=AI (k:=i) zo;have ta:a.take (i+1)=a.take i++[a[i]]:=by rw[oG,hg];rfl
  have tb:b.take (i+1)=b.take i++[b[i]]:=by rw[oG,s6];rfl
  generalize a[i]=x at hg ta;generalize b[i]=y at s6 tb;by_cases u0:x=y
  ·simp only[eZ,seval,o9,eY,AT e9,AT l7,hg,s6,e,u0];exact .mk (i+1) rfl ⟨e9,by rw[ta,tb,l6,u0]⟩ zo
  ·have hR:decide (a=b)=false:=oN λq=>u0 (by rw[q]at hg;rw[hg]at s6;exact Option.some.inj s6)
   rw[hR];simp only[eZ,seval,oh,eY,AT e9,AT l7,hg,s6,A5 u0]
 obtain rfl:i=a.length:=zo
 have hR:decide (a=b)=true:=pk (by rw[oF,hl,oF]at l6;exact l6);rw[hR];simp only[eZ,seval,o6,Ah e9]
def p221(a b:List Bs)(ha:wide a):A6 prog 221 [Fw a,Fw b] (.bool (decide (a=b))):=by
 refine .mk ⟨Bo 0 _,Bo 0 _,zt⟩ zt (mP.a (AE AG.sE (AF ?_)));have me:a.length<1125899906842624:=ha;by_cases hl:a.length=b.length;case neg=>
  have hR:decide (a=b)=false:=oN λq=>hl (by rw[q])
  have hq:((a.length:Int)=(b.length:Int))=False:=oA zo;rw[hR];simp only[eZ,seval,oh,o6,mP,hq]
 have hq:((a.length:Int)=(b.length:Int))=True:=o7 zo;simp only[eZ,seval,o9,o6,mP,hq];refine AQ (λi:Nat=>⟨[(0,true,Fw a),(1,true,Fw b),(5,true,.int .i64 i)],Ac,0⟩) (λi=>i<=a.length/\a.take i=b.take i) (λi=>a.length-i) 0 rfl ⟨oq _,rfl⟩ ?_;rintro i ⟨hi,l6⟩;by_cases e9:i<a.length
 ·have l7:i<b.length:=zo
  have hg:=o8 e9;have s6:=o8 l7;have e:=AI (k:=i) zo;have ta:a.take (i+1)=a.take i++[a[i]]:=by rw[oG,hg];rfl
  have tb:b.take (i+1)=b.take i++[b[i]]:=by rw[oG,s6];rfl
  generalize a[i]=x at hg ta;generalize b[i]=y at s6 tb;by_cases u0:x=y
  ·simp only[eZ,seval,o9,eY,AT e9,AT l7,hg,s6,e,Ay,BL u0];exact .mk (i+1) rfl ⟨e9,by rw[ta,tb,l6,u0]⟩ zo
  ·have hR:decide (a=b)=false:=oN λq=>u0 (by rw[q]at hg;rw[hg]at s6;exact Option.some.inj s6)
   rw[hR];simp only[eZ,seval,oh,eY,AT e9,AT l7,hg,s6,Ay,A5 u0]
 obtain rfl:i=a.length:=zo
 have hR:decide (a=b)=true:=pk (by rw[oF,hl,oF]at l6;exact l6);rw[hR];simp only[eZ,seval,o6,Ah e9]
def Tsi:Bk:=AJ 175 (s2 Cj Cj (λa _=>wide a) λa b=>.bool (decide (a=b))) sE
def gU:AG prog Tsi:=AG.sE.add (q2 p175)
def p176(a b:List (List Int))(ha:sR a)(hf:∀x∈a,wide x):A6 prog 176 [Bm a,Bm b] (.bool (decide (a=b))):=by
 refine .mk ⟨A0 0 _,A0 0 _,zt⟩ zt (mO.a (AE gU (AF ?_)));have me:a.length<1000000000:=ha;by_cases hl:a.length=b.length;case neg=>
  have hR:decide (a=b)=false:=oN λq=>hl (by rw[q])
  have hq:((a.length:Int)=(b.length:Int))=False:=oA zo;rw[hR];simp only[eZ,seval,oh,o6,mO,hq]
 have hq:((a.length:Int)=(b.length:Int))=True:=o7 zo;simp only[eZ,seval,o9,o6,mO,hq];refine AQ (λi:Nat=>⟨[(0,true,Bm a),(1,true,Bm b),(5,true,.int .i64 i)],Ac,0⟩) (λi=>i<=a.length/\a.take i=b.take i) (λi=>a.length-i) 0 rfl ⟨oq _,rfl⟩ ?_;rintro i ⟨hi,l6⟩;by_cases e9:i<a.length
 ·have l7:i<b.length:=zo
  have hg:=o8 e9;have s6:=o8 l7;have e:=AI (k:=i) zo;have ta:a.take (i+1)=a.take i++[a[i]]:=by rw[oG,hg];rfl
  have tb:b.take (i+1)=b.take i++[b[i]]:=by rw[oG,s6];rfl
  have my:=hf _ (oK e9);generalize a[i]=x at hg ta my;generalize b[i]=y at s6 tb;by_cases u0:x=y
  ·simp only[eZ,seval,o9,eY,AT e9,AT l7,hg,s6,e,Tsi,s2,As,Al,o7 my,BL u0,AJ];exact .mk (i+1) rfl ⟨e9,by rw[ta,tb,l6,u0]⟩ zo
  ·have hR:decide (a=b)=false:=oN λq=>u0 (by rw[q]at hg;rw[hg]at s6;exact Option.some.inj s6)
   rw[hR];simp only[eZ,seval,oh,eY,AT e9,AT l7,hg,s6,Tsi,s2,As,Al,o7 my,A5 u0,AJ]
 obtain rfl:i=a.length:=zo
 have hR:decide (a=b)=true:=pk (by rw[oF,hl,oF]at l6;exact l6);rw[hR];simp only[eZ,seval,o6,Ah e9]
def Tsn:Bk:=AJ 221 (s2 On On (λa _=>wide a) λa b=>.bool (decide (a=b))) sE
def gV:AG prog Tsn:=AG.sE.add (q2 p221)
def p177(a b:zj)(ha:GK a):A6 prog 177 [Ao a,Ao b] (.bool (decide (a=b))):=by
 refine .mk ⟨BA 0 _,BA 0 _,zt⟩ zt (c177.a (AE gV (AF ?_)));obtain⟨h1,h2⟩:=ha;simp only[eZ,seval,c177,Tsn,s2,FU,Do,o7 h1,o7 h2,BS,AJ];rw[oZ,oC,P6];simp only[oo,oC];constructor
 ·intro h;simp only[h,sb]
 ·intro h;simp only[h,sb]
def ed:Bk:=AJ 175 (s2 Cj Cj (λa _=>wide a) λa b=>.bool (decide (a=b))) (AJ 176 (s2 Le Le (λa _=>B4 a) λa b=>.bool (decide (a=b))) (AJ 177 (s2 Kj Kj (λa _=>GK a) λa b=>.bool (decide (a=b))) sE))
def gX:AG prog ed:=((AG.sE.add (q2 p177)).add (q2 λa b h=>p176 a b h.1 h.2)).add (q2 p175)
def W2(x y:x9):(scmp .neq x.nm y.nm|| !decide (x.ls=y.ls))= !decide (x=y):=by
 rw[Ay];cases x;cases y;rw[oZ];simp [x9.mk.injEq]
def p111(a b:x8)(hd:zy a):A6 prog 111 [Ba a,Ba b] (.bool (decide (a=b))):=by
 refine .mk ⟨Ag 0 _,Ag 0 _,zt⟩ zt (a111 (AE gX (AF ?_)));cases h1:decide (a.nm=b.nm/\a.uw=b.uw/\a.sh=b.sh/\a.w=b.w/\a.h=b.h/\a.sB=b.sB)with
 |false=>
  have h1:=rO h1;have hR:decide (a=b)=false:=oN λq=>h1 (by rw[q];exact⟨rfl,rfl,rfl,rfl,rfl,rfl⟩)
  have hb:(scmp .neq a.nm b.nm|| !decide (a.uw=b.uw)|| !decide (a.sh=b.sh)|| !decide (a.w=b.w)|| !decide (a.h=b.h)|| !decide (a.sB=b.sB))=true:=by
   rw[Ay,<-rR];intro q;simp only[qA,rl,oC,qm]at q;exact h1 q
  rw[hR];simp only[eZ,seval,d4,ed,s2,As,Al,o7 (Dk hd.ho),hb,AJ]
 |true=>
 obtain⟨a1,a2,a3,a4,a5,a6⟩:=pg h1;have hb:(scmp .neq a.nm b.nm|| !decide (a.uw=b.uw)|| !decide (a.sh=b.sh)|| !decide (a.w=b.w)|| !decide (a.h=b.h)|| !decide (a.sB=b.sB))=false:=by
  rw[Ay];simp [a1,a2,a3,a4,a5,a6]
 clear h1;cases h2:decide (a.sI.length=b.sI.length/\a.sJ.length=b.sJ.length/\a.sD.length=b.sD.length/\a.sC.length=b.sC.length)with
 |false=>
  have h2:=rO h2;have hR:decide (a=b)=false:=oN λq=>h2 (by rw[q];exact⟨rfl,rfl,rfl,rfl⟩)
  have am:(!decide ((a.sI.length:Int)=(b.sI.length:Int))|| !decide ((a.sJ.length:Int)=(b.sJ.length:Int))|| !decide ((a.sD.length:Int)=(b.sD.length:Int))|| !decide ((a.sC.length:Int)=(b.sC.length:Int)))=true:=by
   rw[<-rR];intro q;simp only[qA,rl,oC,qm]at q;exact h2 zo
  rw[hR];simp only[eZ,seval,o6,d4,ed,s2,As,Al,o7 (Dk hd.ho),hb,am,AJ]
 |true=>
 obtain⟨l1,l2,l3,l4⟩:=pg h2;have am:(!decide ((a.sI.length:Int)=(b.sI.length:Int))|| !decide ((a.sJ.length:Int)=(b.sJ.length:Int))|| !decide ((a.sD.length:Int)=(b.sD.length:Int))|| !decide ((a.sC.length:Int)=(b.sC.length:Int)))=false:=by
  simp [l1,l2,l3,l4]
 clear h2;simp only[eZ,seval,o6,d4,ed,s2,As,Al,o7 (Dk hd.ho),hb,am,AJ];refine AQ (λi:Nat=>⟨[(2,true,.ptr 0 0),(3,true,.ptr 1 0),(5,true,.int .i64 i)],sA (sA Ac 0 (.box (AL a))) 1 (.box (AL b)),3⟩) (λi=>i<=a.sI.length/\a.sI.take i=b.sI.take i) (λi=>a.sI.length-i) 0 rfl ⟨oq _,rfl⟩ ?_;rintro i ⟨hi,l6⟩;have th:a.sI.length<1000000000:=hd.sy;by_cases e9:i<a.sI.length
 ·have l7:i<b.sI.length:=zo
  have hg:=o8 e9;have s6:=o8 l7;have e:=AI (k:=i) zo;have ta:a.sI.take (i+1)=a.sI.take i++[a.sI[i]]:=by rw[oG,hg];rfl
  have tb:b.sI.take (i+1)=b.sI.take i++[b.sI[i]]:=by rw[oG,s6];rfl
  generalize a.sI[i]=x at hg ta;generalize b.sI[i]=y at s6 tb;by_cases u0:x=y
  ·have hc:=Kk x y;rw[pk u0]at hc;simp only[eZ,seval,o9,eY,AT e9,AT l7,hg,s6,e,hc,ED];exact .mk (i+1) rfl ⟨e9,by rw[ta,tb,l6,u0]⟩ zo
  ·have hR:decide (a=b)=false:=oN λq=>u0 (by rw[q]at hg;rw[hg]at s6;exact Option.some.inj s6)
   have hc:=Kk x y;rw[oN u0]at hc;rw[hR];simp only[eZ,seval,oh,eY,AT e9,AT l7,hg,s6,hc,ED]
 obtain rfl:i=a.sI.length:=zo
 have b_syms:a.sI=b.sI:=by rw[oF,l1,oF]at l6;exact l6
 simp only[eZ,seval,o6,Ah e9];clear hi l6 th e9;refine AQ (λi:Nat=>⟨[(2,true,.ptr 0 0),(3,true,.ptr 1 0),(6,true,.int .i64 i)],sA (sA Ac 0 (.box (AL a))) 1 (.box (AL b)),3⟩) (λi=>i<=a.sJ.length/\a.sJ.take i=b.sJ.take i) (λi=>a.sJ.length-i) 0 rfl ⟨oq _,rfl⟩ ?_;rintro i ⟨hi,l6⟩;have th:a.sJ.length<1000000000:=hd.rg;by_cases e9:i<a.sJ.length
 ·have l7:i<b.sJ.length:=zo
  have hg:=o8 e9;have s6:=o8 l7;have e:=AI (k:=i) zo;have ta:a.sJ.take (i+1)=a.sJ.take i++[a.sJ[i]]:=by rw[oG,hg];rfl
  have tb:b.sJ.take (i+1)=b.sJ.take i++[b.sJ[i]]:=by rw[oG,s6];rfl
  have my:B4 a.sJ[i].ls:=hd.rgs _ (oK e9);generalize a.sJ[i]=x at hg ta my;generalize b.sJ[i]=y at s6 tb;by_cases u0:x=y
  ·have hc:=W2 x y;rw[pk u0]at hc;simp only[eZ,seval,o9,eY,AT e9,AT l7,hg,s6,e,ed,s2,Cp,CC,o7 my,hc,AJ];exact .mk (i+1) rfl ⟨e9,by rw[ta,tb,l6,u0]⟩ zo
  ·have hR:decide (a=b)=false:=oN λq=>u0 (by rw[q]at hg;rw[hg]at s6;exact Option.some.inj s6)
   have hc:=W2 x y;rw[oN u0]at hc;rw[hR];simp only[eZ,seval,oh,eY,AT e9,AT l7,hg,s6,ed,s2,Cp,CC,o7 my,hc,AJ]
 obtain rfl:i=a.sJ.length:=zo
 have b_regs:a.sJ=b.sJ:=by rw[oF,l2,oF]at l6;exact l6
 simp only[eZ,seval,o6,Ah e9];clear hi l6 th e9;refine AQ (λi:Nat=>⟨[(2,true,.ptr 0 0),(3,true,.ptr 1 0),(7,true,.int .i64 i)],sA (sA Ac 0 (.box (AL a))) 1 (.box (AL b)),3⟩) (λi=>i<=a.sD.length/\a.sD.take i=b.sD.take i) (λi=>a.sD.length-i) 0 rfl ⟨oq _,rfl⟩ ?_;rintro i ⟨hi,l6⟩;have th:a.sD.length<1000000000:=hd.cl;by_cases e9:i<a.sD.length
 ·have l7:i<b.sD.length:=zo
  have hg:=o8 e9;have s6:=o8 l7;have e:=AI (k:=i) zo;have ta:a.sD.take (i+1)=a.sD.take i++[a.sD[i]]:=by rw[oG,hg];rfl
  have tb:b.sD.take (i+1)=b.sD.take i++[b.sD[i]]:=by rw[oG,s6];rfl
  generalize a.sD[i]=x at hg ta;generalize b.sD[i]=y at s6 tb;by_cases u0:x=y
  ·have hc:=Kl x y;rw[pk u0]at hc;simp only[eZ,seval,o9,eY,AT e9,AT l7,hg,s6,e,hc,ED];exact .mk (i+1) rfl ⟨e9,by rw[ta,tb,l6,u0]⟩ zo
  ·have hR:decide (a=b)=false:=oN λq=>u0 (by rw[q]at hg;rw[hg]at s6;exact Option.some.inj s6)
   have hc:=Kl x y;rw[oN u0]at hc;rw[hR];simp only[eZ,seval,oh,eY,AT e9,AT l7,hg,s6,hc,ED]
 obtain rfl:i=a.sD.length:=zo
 have b_clus:a.sD=b.sD:=by rw[oF,l3,oF]at l6;exact l6
 simp only[eZ,seval,o6,Ah e9];clear hi l6 th e9;refine AQ (λi:Nat=>⟨[(2,true,.ptr 0 0),(3,true,.ptr 1 0),(8,true,.int .i64 i)],sA (sA Ac 0 (.box (AL a))) 1 (.box (AL b)),3⟩) (λi=>i<=a.sC.length/\a.sC.take i=b.sC.take i) (λi=>a.sC.length-i) 0 rfl ⟨oq _,rfl⟩ ?_;rintro i ⟨hi,l6⟩;have th:a.sC.length<1000000000:=hd.ru;by_cases e9:i<a.sC.length
 ·have l7:i<b.sC.length:=zo
  have hg:=o8 e9;have s6:=o8 l7;have e:=AI (k:=i) zo;have ta:a.sC.take (i+1)=a.sC.take i++[a.sC[i]]:=by rw[oG,hg];rfl
  have tb:b.sC.take (i+1)=b.sC.take i++[b.sC[i]]:=by rw[oG,s6];rfl
  have my:GK a.sC[i]:=hd.rus _ (oK e9);generalize a.sC[i]=x at hg ta my;generalize b.sC[i]=y at s6 tb;by_cases u0:x=y
  ·simp only[eZ,seval,o9,eY,AT e9,AT l7,hg,s6,e,ed,s2,B0,BU,o7 my,BL u0,AJ];exact .mk (i+1) rfl ⟨e9,by rw[ta,tb,l6,u0]⟩ zo
  ·have hR:decide (a=b)=false:=oN λq=>u0 (by rw[q]at hg;rw[hg]at s6;exact Option.some.inj s6)
   rw[hR];simp only[eZ,seval,oh,eY,AT e9,AT l7,hg,s6,ed,s2,B0,BU,o7 my,A5 u0,AJ]
 obtain rfl:i=a.sC.length:=zo
 have b_ruls:a.sC=b.sC:=by rw[oF,l4,oF]at l6;exact l6
 have hR:decide (a=b)=true:=pk (by
  cases a;cases b;simp only at a1 a2 a3 a4 a5 a6 b_syms b_regs b_clus b_ruls;subst a1 a2 a3 a4 a5 a6 b_syms b_regs b_clus b_ruls;rfl)
 rw[hR];simp only[eZ,seval,o6,Ah e9]
def p115(l:List Int)(x:Int)(hl:sR l):A6 prog 115 [BY l,.int .i64 x] (.bool (l.contains x)):=by
 refine .mk ⟨Av 0 _,zt,zt⟩ zt (c115.a (AE AG.sE (AF ?_)));have sk:l.length<1000000000:=hl;simp only[eE,eN,seval,c115];refine AQ (λi:Nat=>⟨[(0,true,BY l),(1,true,.int .i64 x),(5,true,.int .i64 i)],Ac,0⟩) (λi=>i<=l.length/\l.contains x=(l.drop i).contains x) (λi=>l.length-i) 0 rfl ⟨oq _,rfl⟩ ?_;rintro i ⟨hi,hc⟩;by_cases e9:i<l.length
 ·have hg:=o8 e9;have e:=AI (k:=i) zo;rw[oX e9,List.contains_cons]at hc;generalize l[i]=y at hg hc;by_cases hy:y=x
  ·have hR:l.contains x=true:=by rw[hc,hy];simp
   rw[hR];simp only[eZ,seval,eY,AT e9,hg,BL hy]
  ·have ug:(x==y)=false:=beq_eq_false_iff_ne.2 λq=>hy q.symm
   rw[ug,qT]at hc;simp only[eZ,seval,eY,AT e9,hg,e,A5 hy];exact .mk (i+1) rfl ⟨e9,hc⟩ zo
 obtain rfl:i=l.length:=zo
 rw[pA]at hc;rw[hc];simp only[eZ,seval,o6,Ah e9];rfl
def ef:Bk:=AJ 115 (s2 Cj dI (λl _=>sR l) λl x=>.bool (l.contains x)) sE
def SM:AG prog ef:=AG.sE.add (q2 p115)
def Ir(sB:List Int)(k:Nat):List Int:=((List.range k).map λ(i:Nat)=>(i:Int)).filter λp=>sB.contains p
def VD(sB:List Int)(k:Nat):Ir sB (k+1)=if sB.contains (k:Int)then Ir sB k++[(k:Int)]else Ir sB k:=by
 unfold Ir;rw[pU,oD,qv];cases h:sB.contains (k:Int)<;>simp only[oL,pc,qh,rY,h,pG,pb,oP,oR]
def aF(sB:List Int)(k:Nat):(Ir sB k).length<=k:=by
 have:=qa (λp=>sB.contains p) ((List.range k).map λ(i:Nat)=>(i:Int));simpa [Ir]using this
structure VMh where
 i:Nat
 last:Int
structure VMm where
 k:Nat
 t1:xv
 t2:xv
 H:AB
 n:Nat
structure IMr(sh w h:Int)(sB:List Int)(m:Nat)(v:VMm):Prop where
 hk:v.k<=m
 hn:8<=v.n
 fr:AU v.H v.n
 h0:AD v.H 0=some (.box [z0,z0,z0,zs,zs])
 h6:AD v.H 6=some (.box [.int .i64 sh,.int .i64 w,.int .i64 h,.sl v.t1 ((Ir sB v.k).map eI),.sl v.t2 ((Dm sB v.k).map eI)])
 tok1:EG 1 7 v.H v.t1
 tok2:EG 1 7 v.H v.t2
 dj:∀i,v.t1= .own i 1->v.t2≠ .own i 1
 es1:v.t1.esz=1\/Ir sB v.k=[]
 es2:v.t2.esz=1\/Dm sB v.k=[]
def p69(sh w h:Int)(sB:List Int)(hl:sR sB):A6 prog 69 [.int .i64 sh,.int .i64 w,.int .i64 h,BY sB] (BX sh w h sB):=by
 refine .mk ⟨zt,zt,zt,Av 0 _,zt⟩ (LO sh w h sB) (c69.a (AE SM (AF ?_)));have sk:sB.length<1000000000:=hl;by_cases hc:(sh=1\/sh=2)/\1<=w/\w<=16/\1<=h/\h<=16;case neg=>
  have hn:BX sh w h sB= .sH [Ec 0 0 0 [] [],.int .i64 130]:=by
   unfold BX Aq;rw[og λq=>hc ⟨q.1,q.2.1,q.2.2.1,q.2.2.2.1,q.2.2.2.2.1⟩]
  have hb:(!decide (sh=1)&& !decide (sh=2)||decide (w<1)||decide (16<w)||decide (h<1)||decide (16<h))=true:=by
   rw[<-rR];intro q;simp only[qA,Bool.and_eq_false_iff,rl,oC,qq]at q;exact hc zo
  rw[hn];simp only[eZ,seval,Au,c69,hb];exact P9 (Wk.sl (.inr rfl)) (Wk.sl (.inr rfl))
 have hb:(!decide (sh=1)&& !decide (sh=2)||decide (w<1)||decide (16<w)||decide (h<1)||decide (16<h))=false:=by
  simp only[qA,Bool.and_eq_false_iff,rl,oC,qq];omega
 obtain⟨hsh,hw1,hw2,hh1,hh2⟩:=hc;obtain⟨p1,p2⟩:=ZY hw1 hw2 hh1 hh2;have so:IntKind.wrap .i64 (w*h)=w*h:=An zo zo;have w8:(CW (-1) sB&&sB.all λp=>decide (p<w*h))=false->BX sh w h sB= .sH [Ec 0 0 0 [] [],.int .i64 130]:=λq=>by
  unfold BX Aq;rw[og];intro z;rw[z.2.2.2.2.2.2.1,z.2.2.2.2.2.2.2]at q;cases q
 simp only[eZ,seval,c69,hb];refine AQ (λv:VMh=>⟨[(0,true,.int .i64 sh),(1,true,.int .i64 w),(2,true,.int .i64 h),(3,true,BY sB),(8,true,.ptr 0 0),(10,true,.int .i64 v.i)],sA Ac 0 (.box [z0,z0,z0,zs,zs]),2⟩)
  (λv=>v.i<=sB.length/\(CW (-1) sB&&sB.all λp=>decide (p<w*h))=(CW v.last (sB.drop v.i)&&(sB.drop v.i).all λp=>decide (p<w*h))/\(v.i=0->v.last= -1)/\∀j,v.i=j+1->sB[j]?=some v.last/\0<=v.last) (λv=>sB.length-v.i)
  ⟨0,-1⟩ rfl ⟨oq _,rfl,λ_=>rfl,λj q=>by cases q⟩ ?_
 rintro⟨i,last⟩ ⟨hi,he,hz,hs⟩;simp only at hi he hz hs;by_cases e9:i<sB.length
 ·have hg:=o8 e9;have e:=AI (k:=i) zo;rw[oX e9,CW,qJ]at he;generalize sB[i]=x at hg he;have su:last<x/\x<w*h->(CW (-1) sB&&sB.all λp=>decide (p<w*h))=(CW x (sB.drop (i+1))&&(sB.drop (i+1)).all λp=>decide (p<w*h)):=λq=>by
   rw[he,pk q.1,pk q.2];simp
  have um:¬(last<x/\x<w*h)->(CW (-1) sB&&sB.all λp=>decide (p<w*h))=false:=λq=>by
   rw[he,<-Bool.not_eq_true];intro z;simp only[oo,oC]at z;exact q ⟨z.1.1,z.2.1⟩
  cases i with
  |zero=>
   have hl1:=hz rfl;have h0l:((0:Int)<(sB.length:Int))=True:=o7 zo;have e1:IntKind.wrap .i64 ((0:Int)+1)=1:=zd
   by_cases t9:last<x/\x<w*h
   ·have hd:(decide (x<0)||decide (w*h<=x))=false:=by simp;omega
    simp only[eZ,seval,eY,h0l,hg,e1,so,hd];refine .mk ⟨1,x⟩ rfl ⟨e9,su t9,(λq=>by cases q),λj q=>?_⟩ zp;have q':1=j+1:=q;have:j=0:=zo
    subst this;exact⟨hg,zp⟩
   ·have hd:(decide (x<0)||decide (w*h<=x))=true:=by simp;omega
    rw[w8 (um t9)];simp only[eZ,seval,o9,eY,Au,h0l,hg,so,hd];exact P9 (Wk.sl (.inr rfl)) (Wk.sl (.inr rfl))
  |succ j=>
   obtain⟨hgl,sf⟩:=hs j rfl;have tz:j<sB.length:=zo
   have ej:IntKind.wrap .i64 (((j+1:Nat):Int)-1)=(j:Int):=by rw[An zo zo];omega
   by_cases t9:last<x/\x<w*h
   ·have hd:(decide (x<0)||decide (w*h<=x))=false:=by simp;omega
    have tg:(x<=last)=False:=oA zo;simp only[eZ,seval,eY,AT e9,hg,e,so,hd,cS1,ej,AT tz,hgl,tg];refine .mk ⟨j+2,x⟩ rfl ⟨e9,su t9,(λq=>by cases q),λj' q=>?_⟩ zp;have q':j+2=j'+1:=q;have:j'=j+1:=zo
    subst this;exact⟨hg,zp⟩
   ·by_cases hd:(decide (x<0)||decide (w*h<=x))=true
    ·rw[w8 (um t9)];simp only[eZ,seval,o9,eY,Au,AT e9,hg,so,hd];exact P9 (Wk.sl (.inr rfl)) (Wk.sl (.inr rfl))
    ·have hd:(decide (x<0)||decide (w*h<=x))=false:=by simpa using hd
     have hd':=hd;simp only[qA,qq]at hd';have tg:(x<=last)=True:=o7 zo;rw[w8 (um t9)];simp only[eZ,seval,eY,Au,AT e9,hg,so,hd,cS1,ej,AT tz,hgl,tg];exact P9 (Wk.sl (.inr rfl)) (Wk.sl (.inr rfl))
 obtain rfl:i=sB.length:=zo
 rw[pA]at he;have tu:(CW (-1) sB&&sB.all λp=>decide (p<w*h))=true:=he;obtain⟨ti,ub⟩:=(oo _ _).mp tu;obtain⟨r1,r2⟩:=G2.1 ti;have w9:∀x∈sB,0<=x/\x<w*h:=λx hx=>⟨by have:=r1 x hx;omega,pg (oM.1 ub x hx)⟩
 obtain⟨m,hm⟩:∃m:Nat,w*h=(m:Int):=⟨(w*h).toNat,zo⟩;have sw:(w*h).toNat=m:=zo
 have hwm:IntKind.wrap .i64 (m:Int)=m:=by rw[<-hm];exact so
 have hHos:Ir sB m=sB:=by
  have:=Wn w9 r2;unfold CM at this;rw[sw]at this;exact this
 have hC:Aq sh w h sB=if Dm sB m≠[]then some (Dm sB m)else none:=by
  rw[<-Wl];unfold Td;have ep:((CM (w*h)).filter λp=>!sB.contains p)=Dm sB m:=by unfold CM Dm;rw[sw]
  rw[ep];by_cases q:Dm sB m=[]
  ·rw[og λz=>z.2.2.2.2.2.2.2 q,og (λz=>z q)]
  ·rw[oE ⟨hsh,hw1,hw2,hh1,hh2,w9,r2,q⟩,oE q]
 simp only[eZ,seval,o6,Ah e9,hm,AH];refine AQ (λv:VMm=>⟨[(1,true,.int .i64 w),(2,true,.int .i64 h),(3,true,BY sB),(8,true,.ptr 0 0),(11,true,.ptr 6 0),(12,true,.int .i64 v.k)],v.H,v.n⟩) (IMr sh w h sB m) (λv=>m-v.k)
  ⟨0,.nil,.nil,sA (sA Ac 0 (.box [z0,z0,z0,zs,zs])) 6 (.box [.int .i64 sh,.int .i64 w,.int .i64 h,zs,zs]),8⟩ rfl ⟨oq _,od _,(AU.nil.sA (m:=8) (oq 8) (show 0<8 by decide)).sA (od 8) (show 6<8 by decide),rfl,rfl,.inl rfl,.inl rfl,λi q=>(by cases q),.inr rfl,.inr rfl⟩ ?_
 rintro⟨k,t1,t2,H,n⟩ ⟨hk,hn,l0,h0,h6,v9,y9,hdj,hes1,uc⟩;simp only at hk hn l0 h0 h6 v9 y9 hdj hes1 uc;by_cases v8:k<m
 ·have e:=AI (k:=k) zo;have td:=Ov sB k;have hhs:=VD sB k;have tj:=U5 sB k;have hhl:=aF sB k;have y0:∀j,(n+j=6)=False:=λj=>oA zo
  have y1:∀j,(n+j=0)=False:=λj=>oA zo
  cases hin2:sB.contains (k:Int)with
  |true=>
   rw[hin2,oE rfl]at td hhs;have q1:At H 1 t1=True:=o7 v9.app;have q2:((Ir sB k).length<=35184372088831)=True:=o7 zo;have q3:small ((Ir sB k).length+1) 8=True:=o7 (AY zo zd);have kx:AD (AR H t1) 6=some (.box [.int .i64 sh,.int .i64 w,.int .i64 h,.sl t1 ((Ir sB k).map eI),.sl t2 ((Dm sB k).map eI)]):=by rw[Ai v9 (.inl zo)];exact h6
   simp only[eZ,seval,o6,hwm,hm,AT v8,ef,s2,As,Al,BR,Ax,o7 hl,hin2,e,h6,q1,q2,q3,Bx l0,kx,y0,AJ];have hdn:∀i,((.own (n+4) 1:xv)= .own i 1)->(t2:xv)≠ .own i 1:=λi q z=>by
    cases q;rcases y9 with h|h|⟨id,h,-,h'⟩<;>rw[h]at z<;>cases z
    rw[Bx l0 4]at h';cases h'
   refine .mk ⟨k+1,.own (n+4) 1,t2,sA (sA (AR H t1) (n+4) .tok) 6 (.box [.int .i64 sh,.int .i64 w,.int .i64 h,.sl (.own (n+4) 1) ((Ir sB (k+1)).map eI),.sl t2 ((Dm sB (k+1)).map eI)]),n+7⟩ ?_ ⟨v8,zp,((AZ v9 l0).sA (m:=n+7) zo zo).sA (od (n+7)) (show 6<n+7 by omega),?_,AC ..,.inr (.inr ⟨n+4,rfl,zo,by rw[AA _ _ _ _ zo];exact AC ..⟩),(((y9.kill v9 (λi q z=>hdj i z q)).set (.inr (.inr (Oo v9 (Bx l0 4))))).set (.inl zo)),hdn,.inl rfl,by simp only[td];exact uc⟩ zp
   ·simp only[td,hhs,oD];rfl
   ·simp only[];rw[AA _ _ _ _ zo,AA _ _ _ _ zo,Ai v9 (.inl zo)];exact h0
  |false=>
   rw[hin2,og zd]at td hhs;have q1:At H 1 t2=True:=o7 y9.app;have q2:((Dm sB k).length<=35184372088831)=True:=o7 zo;have q3:small ((Dm sB k).length+1) 8=True:=o7 (AY zo zd);have kx:AD (AR H t2) 6=some (.box [.int .i64 sh,.int .i64 w,.int .i64 h,.sl t1 ((Ir sB k).map eI),.sl t2 ((Dm sB k).map eI)]):=by rw[Ai y9 (.inl zo)];exact h6
   simp only[eZ,seval,o6,hwm,hm,AT v8,ef,s2,As,Al,BR,Ax,o7 hl,hin2,e,h6,q1,q2,q3,Bx l0,kx,y0,AJ];have hdn:∀i,((t1:xv)= .own i 1)->(.own (n+4) 1:xv)≠ .own i 1:=λi q z=>by
    cases z;rcases v9 with h|h|⟨id,h,-,h'⟩<;>rw[h]at q<;>cases q
    rw[Bx l0 4]at h';cases h'
   refine .mk ⟨k+1,t1,.own (n+4) 1,sA (sA (AR H t2) (n+4) .tok) 6 (.box [.int .i64 sh,.int .i64 w,.int .i64 h,.sl t1 ((Ir sB (k+1)).map eI),.sl (.own (n+4) 1) ((Dm sB (k+1)).map eI)]),n+7⟩ ?_ ⟨v8,zp,((AZ y9 l0).sA (m:=n+7) zo zo).sA (od (n+7)) (show 6<n+7 by omega),?_,AC ..,(((v9.kill y9 (λi q=>hdj i q)).set (.inr (.inr (Oo y9 (Bx l0 4))))).set (.inl zo)),.inr (.inr ⟨n+4,rfl,zo,by rw[AA _ _ _ _ zo];exact AC ..⟩),hdn,by simp only[hhs];exact hes1,.inl rfl⟩ zp
   ·simp only[td,hhs,oD];rfl
   ·simp only[];rw[AA _ _ _ _ zo,AA _ _ _ _ zo,Ai y9 (.inl zo)];exact h0
 obtain rfl:k=m:=zo
 by_cases hp0:Dm sB k=[]
 ·have hM:BX sh w h sB= .sH [Ec 0 0 0 [] [],.int .i64 130]:=by unfold BX;rw[hC,og (λz=>z hp0)]
  have sf:(((Dm sB k).length:Int)=0)=True:=o7 (by rw[hp0];rfl);rw[hM];simp only[eZ,seval,Au,o6,hwm,hm,Ah v8,h6,h0,sf];exact P9 (Wk.sl (.inr rfl)) (Wk.sl (.inr rfl))
 ·have hM:BX sh w h sB= .sH [Ec sh w h sB (Dm sB k),.int .i64 0]:=by unfold BX;rw[hC,oE hp0]
  have sf:(((Dm sB k).length:Int)=0)=False:=oA (λq=>hp0 (qb.1 zo));rw[hM];simp only[eZ,seval,Au,o6,hwm,hm,Ah v8,h6,h0,sf];rw[hHos]at hes1⊢;exact P9 (Wk.sl (hes1.imp id λq=>by rw[q];rfl)) (Wk.sl (uc.imp id λq=>by rw[q];rfl))
def Z4:List Fs->AB->Prop×Fs:=λa H=>match a with
 |[.int .i64 sh,.int .i64 w,.int .i64 h,x]=>(Cj.ok x/\sR (Cj.dec x),BX sh w h (Cj.dec x))
 |_=>(False,.sH [])
def qMk:∀args H n,(Z4 args H).1->Ad prog 69 args H n (Z4 args H).2:=by
 intro args H n hh;unfold Z4 at hh⊢;split at hh
 ·obtain⟨h1,h2⟩:=hh;refine AO.args ((p69 _ _ _ _ h2).quiet H n) ?_;rintro g vs ⟨v,r,rfl,k1,w,r',rfl,k2,u,r2,rfl,k3,z,r3,rfl,k4,k5⟩;exact⟨v,_,rfl,k1,w,_,rfl,k2,u,_,rfl,k3,z,_,rfl,Cj.wk _ h1 _ _ k4,k5⟩
 ·exact hh.elim
def Tck:Bk:=AJ 69 Z4 (AJ 39 (s2 Cj Cj (λa _=>sR a) λa b=>.bool (decide (a=b))) sE)
def gY:AG prog Tck:=(AG.sE.add (q2 p39)).add qMk
theorem W3(sh w h:Int)(x:Fs)(H:AB):Tck 69 [.int .i64 sh,.int .i64 w,.int .i64 h,x] H=(Cj.ok x/\sR (Cj.dec x),BX sh w h (Cj.dec x)):=rfl
theorem eg(a:List Fs)(H:AB):Tck 39 a H=s2 Cj Cj (λa _=>sR a) (λa b=>.bool (decide (a=b))) a H:=rfl
def p116(g:xk)(hh:sR g.sB):A6 prog 116 [B9 g] (JC g):=by
 refine .mk ⟨BF 0 ..,zt⟩ zt (dv.a (AE gY (AF ?_)));unfold JC F6;cases hc:Aq g.sh g.w g.h g.sB with
 |none=>
  have hv:BX g.sh g.w g.h g.sB= .sH [Ec 0 0 0 [] [],.int .i64 130]:=by unfold BX;rw[hc]
  simp only[eZ,seval,o9,oh,eY,dv,W3,As,Al,o7 hh,hv]
 |some c=>
  have hv:BX g.sh g.w g.h g.sB= .sH [Ec g.sh g.w g.h g.sB c,.int .i64 0]:=by unfold BX;rw[hc]
  have uk:sR c:=show c.length<_ by have:=(BP hc).2.1;omega
  by_cases hcc:c=g.cells
  ·have hR:decide (some c=some g.cells)=true:=pk (by rw[hcc]);rw[hR];simp only[eZ,seval,o9,eY,dv,W3,eg,s2,As,Al,o7 hh,hv,o7 uk,BL hcc]
  ·have hR:decide (some c=some g.cells)=false:=oN (λq=>hcc (Option.some.inj q));rw[hR];simp only[eZ,seval,o9,oh,eY,dv,W3,eg,s2,As,Al,o7 hh,hv,o7 uk,A5 hcc]
def Ww(cells:List Int)(p:Int):Fs:=if cells.contains p=true then .sH [.int .i64 (FT cells p),.bool true]else .sH [.int .i64 0,.bool false]
def p120(g:xk)(p:Int)(hf:sR g.cells)(hs:List.Pairwise (λx y=>x<y) g.cells):A6 prog 120 [B9 g,.int .i64 p] (Ww g.cells p):=by
 refine .mk ⟨BF 0 ..,zt,zt⟩ (by unfold Ww;split<;>exact⟨zt,zt,zt⟩) (c120.a (AE AG.sE (AF ?_)));have sk:g.cells.length<1000000000:=hf;simp only[eE,eN,seval,c120];refine AQ (λi:Nat=>⟨[(1,true,.int .i64 p),(2,true,.ptr 0 0),(6,true,.int .i64 i)],sA Ac 0 (.box (AK g.sh g.w g.h g.sB g.cells)),3⟩) (λi=>i<=g.cells.length/\g.cells.contains p=(g.cells.drop i).contains p) (λi=>g.cells.length-i) 0 rfl ⟨oq _,rfl⟩ ?_;rintro i ⟨hi,hc⟩;by_cases e9:i<g.cells.length
 ·have hg:=o8 e9;have e:=AI (k:=i) zo;have si:=Tg hs e9;rw[oX e9,List.contains_cons]at hc;generalize g.cells[i]=y at hg hc si;by_cases hy:y=p
  ·have hR:Ww g.cells p= .sH [.int .i64 i,.bool true]:=by unfold Ww;rw[oE (by rw[hc,hy];simp),<-hy,si]
   rw[hR];simp only[eZ,seval,eY,AT e9,hg,BL hy];exact Wk.refl _
  ·have ug:(p==y)=false:=beq_eq_false_iff_ne.2 λq=>hy q.symm
   rw[ug,qT]at hc;simp only[eZ,seval,eY,AT e9,hg,e,A5 hy];exact .mk (i+1) rfl ⟨e9,hc⟩ zo
 obtain rfl:i=g.cells.length:=zo
 rw[pA]at hc;have hR:Ww g.cells p= .sH [.int .i64 0,.bool false]:=by unfold Ww;rw[og (by rw[hc];simp)]
 rw[hR];simp only[eZ,seval,o6,Ah e9];exact Wk.refl _
def nM:Bk:=AJ 116 (s1 DD (λg=>sR g.sB) JC) (AJ 120 (s2 DD dI (λg _=>sR g.cells/\List.Pairwise (λx y=>x<y) g.cells) λg p=>Ww g.cells p) ef)
def SN:AG prog nM:=(SM.add (q2 λg p h=>p120 g p h.1 h.2)).add (q1 p116)
theorem eh(a:List Fs)(H:AB):nM 116 a H=s1 DD (λg=>sR g.sB) JC a H:=rfl
theorem W4(a:List Fs)(H:AB):nM 120 a H=s2 DD dI (λg _=>sR g.cells/\List.Pairwise (λx y=>x<y) g.cells) (λg p=>Ww g.cells p) a H:=rfl
theorem ei(a:List Fs)(H:AB):nM 115 a H=s2 Cj dI (λl _=>sR l) (λl x=>.bool (l.contains x)) a H:=rfl
structure IRj(g:xk)(x:List Int)(H0:AB)(n0:Nat)(v:VRi):Prop where
 hj:v.j<=x.length
 hn:n0<=v.n
 fr:AU v.H v.n
 hk:∀id,id<n0->AD v.H id=AD H0 id
 tok:EG 1 n0 v.H v.tc
 es:v.tc.esz=1\/v.j=0
 sub:∀q∈x.take v.j,q∈g.cells
 eq:Gg g.cells [] x=Gg g.cells (x.take v.j) (x.drop v.j)
 nd:(x.take v.j).Nodup
def p72(g:xk)(lists:List (List Int))(hG:Aq g.sh g.w g.h g.sB=some g.cells)(hh:sR g.sB)(hl:B4 lists):A6 prog 72 [B9 g,Bm lists] (D2 g.cells lists):=by
 refine .mk ⟨BF 0 ..,A0 0 _,zt⟩ (by unfold D2;split<;>exact⟨A0 0 _,zt,zt⟩) (c72.a (AE SN (AF ?_)));obtain⟨ti,ub,uh⟩:=BP hG;have uk:sR g.cells:=show g.cells.length<_ by omega
 have sn:F6 g.sh g.w g.h g.sB g.cells=true:=by unfold F6;rw[hG];simp
 have sk:lists.length<1000000000:=hl.1;by_cases h64:64<lists.length
 ·have hv:D2 g.cells lists= .sH [Bm [],.int .i64 130]:=by unfold D2;rw[og];simp;omega
  have l64:((64:Int)<(lists.length:Int))=True:=o7 zo;rw[hv];simp only[eZ,seval,o9,o6,c72,eh,s1,Fd,Dd,o7 hh,sn,l64];exact Wk.sH (.cons (Wk.sl (.inr rfl)) (.cons (Wk.refl _) .nil))
 have l64:((64:Int)<(lists.length:Int))=False:=oA zo;simp only[eZ,seval,o9,o6,c72,eh,s1,Fd,Dd,o7 hh,sn,l64];have w8:lists.all (EX g.cells)=false->D2 g.cells lists= .sH [Bm [],.int .i64 130]:=λq=>by unfold D2;rw[q,Bool.and_false,og zd]
 refine AQ (λv:VRg=>⟨[(1,true,Bm lists),(2,true,.ptr 0 0),(6,true,.sl v.tl v.E),(7,true,.int .i64 v.i)],v.H,v.n⟩) (IRg g lists) (λv=>lists.length-v.i)
  ⟨0,[],.nil,sA Ac 0 (.box (AK g.sh g.w g.h g.sB g.cells)),3⟩ rfl ⟨oq _,od _,AU.nil.sA (m:=3) (oq 3) (show 0<3 by decide),rfl,.inl rfl,.inr rfl,.nil,rfl⟩ ?_
 rintro⟨i,E,tl,H,n⟩ hI;have hi:=hI.hi;have hn:=hI.hn;have l0:=hI.fr;have h0:=hI.h0;have l6:=hI.tok;have s9:=hI.es;have hE:=hI.hE;have heq:=hI.eq;simp only at hi hn l0 h0 l6 s9 hE heq;by_cases e9:i<lists.length;case neg=>
  have v7:i=lists.length:=zo
  subst v7;rw[pA]at heq;rw[oF]at hE;have hv:D2 g.cells lists= .sH [Bm (lists.map (Bb g.cells)),.int .i64 0]:=by
   unfold D2;rw[heq,oE];simp;omega
  rw[hv];simp only[eZ,seval,o6,Ah e9];exact Wk.sH (.cons (Wk.slx s9 hE) (.cons (Wk.refl _) .nil))
 have hg:=o8 e9;have e:=AI (k:=i) zo;have my:=hl.2 _ (oK e9);have ud:=map_take (f:=Bb g.cells) e9;rw[oX e9,qJ]at heq;generalize hx:lists[i]=x at hg my heq ud;have hxl:x.length<1125899906842624:=my;simp only[eZ,seval,o6,AT e9];refine AQ (λv:VRi=>⟨[(1,true,Bm lists),(2,true,.ptr 0 0),(6,true,.sl tl E),(7,true,.int .i64 i),(8,true,.sl v.tc ((Bb g.cells (x.take v.j)).map eI)),(9,true,.int .i64 v.j)],v.H,v.n⟩)
  (IRj g x H n) (λv=>x.length-v.j) ⟨0,.nil,H,n⟩ rfl ⟨oq _,od _,l0,λid s5=>rfl,.inl rfl,.inr rfl,λq hq=>by(simp at hq),rfl,zw⟩ ?_
 rintro⟨j,tc,H1,n1⟩ ⟨hj,w7,t7,hk,sr,tn,tq,ue,sg⟩;simp only at hj w7 t7 hk sr tn tq ue sg;have hj256:j<=256:=by
  have:=Jx sg tq;rw[oJ]at this;omega
 have z9:AD H1 0=some (.box (AK g.sh g.w g.h g.sB g.cells)):=by rw[hk 0 zo];exact h0
 by_cases t8:j<x.length
 ·have to:=o8 t8;have ej:=AI (k:=j) zo;have te:=map_take (f:=λp=>(FT g.cells p:Int)) t8;have sj:x.take (j+1)=x.take j++[x[j]]:=by rw[oG,to];rfl
  rw[oX t8,Gg]at ue;have l9:(Bb g.cells (x.take j)).length=j:=by rw[IY,oJ];omega
  have hcf:sR (Bb g.cells (x.take j)):=show(Bb g.cells (x.take j)).length<_ by omega
  generalize hp:x[j]=p at to te sj ue;have u9:(g.cells.contains p&& !(x.take j).contains p)=false->D2 g.cells lists= .sH [Bm [],.int .i64 130]:=λq=>w8 (by
   rw[heq,Gh,ue,q];simp)
  cases w9:g.cells.contains p with
  |false=>
   have hat:Ww g.cells p= .sH [.int .i64 0,.bool false]:=by unfold Ww;rw[w9,og zd]
   rw[u9 (by rw[w9];rfl)];simp only[eZ,seval,o9,oh,eY,AT e9,hg,AT t8,to,z9,W4,s2,Fd,Dd,BR,Ax,o7 uk,o7 ti,hat];exact Wk.sH (.cons (Wk.sl (.inr rfl)) (.cons (Wk.refl _) .nil))
  |true=>
   have hat:Ww g.cells p= .sH [.int .i64 (FT g.cells p),.bool true]:=by unfold Ww;rw[w9,oE rfl]
   have hpm:p∈g.cells:=pF.1 w9;have hcm:=R8 ti tq hpm;have htcok:Cj.ok (.sl tc ((Bb g.cells (x.take j)).map eI))=True:=o7 ⟨tn.imp id λq=>by rw[q];rfl,by rw[Ew]⟩;have htcdec:Cj.dec (.sl tc ((Bb g.cells (x.take j)).map eI))=Bb g.cells (x.take j):=Ew _;cases sw:(x.take j).contains p with
   |true=>
    rw[u9 (by rw[w9,sw];rfl)];rw[sw]at hcm;simp only[eZ,seval,o9,eY,AT e9,hg,AT t8,to,z9,W4,ei,s2,Fd,Dd,BR,Ax,htcok,htcdec,o7 uk,o7 ti,o7 hcf,hat,hcm];exact Wk.sH (.cons (Wk.sl (.inr rfl)) (.cons (Wk.refl _) .nil))
   |false=>
    rw[sw]at hcm;have q1:At H1 1 tc=True:=o7 sr.app;have q2:(j<=35184372088831)=True:=o7 zo;have q3:small (j+1) 8=True:=o7 (AY zo zd);simp only[eZ,seval,o9,eY,AT e9,hg,AT t8,to,z9,W4,ei,s2,Fd,Dd,BR,Ax,htcok,htcdec,o7 uk,o7 ti,o7 hcf,hat,hcm,ej,q1,q2,q3,l9,Bx t7];have uf:Bb g.cells (x.take (j+1))=Bb g.cells (x.take j)++[(FT g.cells p:Int)]:=te;refine .mk ⟨j+1,.own (n1+3) 1,sA (AR H1 tc) (n1+3) .tok,n1+5⟩ ?_ ⟨t8,zp,(AZ sr t7).sA (m:=n1+5) zo zo,λid s5=>?_,.inr (.inr ⟨n1+3,rfl,zo,AC ..⟩),.inl rfl,λq hq=>?_,?_,?_⟩ zp
    ·rw[uf,oD];rfl
    ·simp only[];rw[AA _ _ _ _ zo,Ai sr (.inl s5)];exact hk id s5
    ·simp only[sj]at hq;rcases pI.1 hq with q1|q1
     ·exact tq q q1
     ·rw[pV.1 q1];exact hpm
    ·simp only[];rw[sj,ue,w9,sw];rfl
    ·simp only[];rw[sj,qD];refine⟨sg,zw,λa ha b hb e=>?_⟩;rw[pV]at hb;subst hb;subst e;rw[pF.2 ha]at sw;cases sw
 have ul:j=x.length:=zo
 subst ul;rw[pA,oF]at ue;have hlx:(Bb g.cells (x.take x.length)).length=x.length:=by rw[IY,oF]
 by_cases hx0:x.length=0
 ·have u9:D2 g.cells lists= .sH [Bm [],.int .i64 130]:=w8 (by rw[heq,Gh,hx0];simp);rw[u9];simp only[eZ,seval,eY,AT e9,hg,Ah t8,hlx,BL (show((x.length:Nat):Int)=0 by omega)];exact Wk.sH (.cons (Wk.sl (.inr rfl)) (.cons (Wk.refl _) .nil))
 have hEl:E.length<=64:=by
  have:=hE.len;simp only[o6,oJ]at this;omega
 have v9:EG 1 1 H1 tl:=by
  rcases l6 with rfl|rfl|⟨id,rfl,h1,h2⟩
  ·exact .inl rfl
  ·exact .inr (.inl rfl)
  ·exact .inr (.inr ⟨id,rfl,h1,by rw[hk id (l0.lt h2)];exact h2⟩)
 have q1:At H1 1 tl=True:=o7 v9.app;have q2:(E.length<=35184372088831)=True:=o7 zo;have q3:small (E.length+1) 24=True:=o7 (AY zo zd);simp only[eZ,seval,eY,AT e9,hg,Ah t8,hlx,A5 (show ¬((x.length:Nat):Int)=0 by omega),e,q1,q2,q3,Bx t7];refine .mk ⟨i+1,E++[.sl tc ((Bb g.cells x).map eI)],.own (n1+3) 1,sA (AR H1 tl) (n1+3) .tok,n1+5⟩ ?_ ⟨e9,zp,(AZ v9 t7).sA (m:=n1+5) zo zo,?_,.inr (.inr ⟨n1+3,rfl,zo,AC ..⟩),.inl rfl,?_,?_⟩ zp
 ·rw[oF]
 ·simp only[];rw[AA _ _ _ _ zo,Ai v9 (.inl zo)];exact z9
 ·simp only[];rw[ud,oD];exact hE.app (.cons (Wk.sl (tn.imp id λq=>by rw[qb.1 q];rfl)) .nil)
 ·simp only[];have t9:EX g.cells x=true:=by rw[Gh,ue];simp [Gg];omega
  rw[heq,t9,qK]
def IE{α:Type}{p:α->Bool}{l:List α}{i:Nat}(h:i<l.length):(l.drop i).all p=(p l[i]&&(l.drop (i+1)).all p):=by
 rw[oX h,qJ]
def p178(a b:List Int)(ha:sR a)(hb:sR b):A6 prog 178 [BY a,BY b] (.bool (DL a b)):=by
 refine .mk ⟨Av 0 _,Av 0 _,zt⟩ zt (c178.a (AE SM (AF ?_)));have me:a.length<1000000000:=ha;have tp:b.length<1000000000:=hb;simp only[eE,eN,seval,c178];refine AQ (λi:Nat=>⟨[(0,true,BY a),(1,true,BY b),(5,true,.int .i64 i)],Ac,0⟩) (λi=>i<=a.length/\(a.all λx=>b.contains x)=((a.drop i).all λx=>b.contains x)) (λi=>a.length-i) 0 rfl ⟨oq _,rfl⟩ ?_;rintro i ⟨hi,hc⟩;by_cases e9:i<a.length
 ·have hg:=o8 e9;have e:=AI (k:=i) zo;rw[IE e9]at hc;generalize a[i]=x at hg hc;cases hx:b.contains x with
  |false=>
   have hR:DL a b=false:=by unfold DL;rw[hc,hx];simp
   rw[hR];simp only[eZ,seval,oh,eY,AT e9,hg,ef,s2,As,Al,BR,Ax,o7 hb,hx,AJ]
  |true=>
   rw[hx,qK]at hc;simp only[eZ,seval,o9,eY,AT e9,hg,e,ef,s2,As,Al,BR,Ax,o7 hb,hx,AJ];exact .mk (i+1) rfl ⟨e9,hc⟩ zo
 obtain rfl:i=a.length:=zo
 rw[pA]at hc;have hc:(a.all λx=>b.contains x)=true:=hc;simp only[eZ,seval,o6,Ah e9];refine AQ (λi:Nat=>⟨[(0,true,BY a),(1,true,BY b),(6,true,.int .i64 i)],Ac,0⟩) (λi=>i<=b.length/\(b.all λx=>a.contains x)=((b.drop i).all λx=>a.contains x)) (λi=>b.length-i) 0 rfl ⟨oq _,rfl⟩ ?_;rintro i ⟨ui,uj⟩;by_cases v8:i<b.length
 ·have hg:=o8 v8;have e:=AI (k:=i) zo;rw[IE v8]at uj;generalize b[i]=x at hg uj;cases hx:a.contains x with
  |false=>
   have hR:DL a b=false:=by unfold DL;rw[uj,hx];simp
   rw[hR];simp only[eZ,seval,oh,eY,AT v8,hg,ef,s2,As,Al,BR,Ax,o7 ha,hx,AJ]
  |true=>
   rw[hx,qK]at uj;simp only[eZ,seval,o9,eY,AT v8,hg,e,ef,s2,As,Al,BR,Ax,o7 ha,hx,AJ];exact .mk (i+1) rfl ⟨v8,uj⟩ zo
 obtain rfl:i=b.length:=zo
 rw[pA]at uj;have uj:(b.all λx=>a.contains x)=true:=uj;have hR:DL a b=true:=by unfold DL;rw[hc,uj];rfl
 rw[hR];simp only[eZ,seval,o6,Ah v8]
def Tzr:Bk:=AJ 72 (s2 DD Le (λg l=>Aq g.sh g.w g.h g.sB=some g.cells/\sR g.sB/\B4 l) λg l=>D2 g.cells l) (AJ 178 (s2 Cj Cj (λa b=>sR a/\sR b) λa b=>.bool (DL a b)) sE)
def gZ:AG prog Tzr:=(AG.sE.add (q2 λa b h=>p178 a b h.1 h.2)).add (q2 λg l h=>p72 g l h.1 h.2.1 h.2.2)
def p112(d:x8)(g:xk)(hd:zy d)(hG:Aq g.sh g.w g.h g.sB=some g.cells)(hh:sR g.sB):A6 prog 112 [Ba d,B9 g] (.int .i64 (DA g.cells d.sJ)):=by
 refine .mk ⟨Ag 0 d,BF 0 ..,zt⟩ zt (c112.a (AE gZ (AF ?_)));have ua:d.sJ.length<1000000000:=hd.rg;simp only[eE,eN,seval,c112];refine AQ (λi:Nat=>⟨[(2,true,.ptr 0 0),(3,true,.ptr 1 0),(5,true,.int .i64 i)],sA (sA Ac 0 (.box (AL d))) 1 (.box (AK g.sh g.w g.h g.sB g.cells)),3⟩) (λi=>i<=d.sJ.length/\DA g.cells d.sJ=DA g.cells (d.sJ.drop i)) (λi=>d.sJ.length-i)
  0 rfl ⟨oq _,rfl⟩ ?_
 rintro i ⟨hi,heq⟩;by_cases e9:i<d.sJ.length;case neg=>
  obtain rfl:i=d.sJ.length:=zo
  rw[pA]at heq;rw[heq];simp only[eZ,seval,o6,Ah e9];rfl
 have hg:=o8 e9;have e:=AI (k:=i) zo;have hrf:NG d.sJ[i]:=hd.rgs _ (oK e9);rw[Ou _ _ _ e9]at heq;generalize d.sJ[i]=r at hg hrf heq;have hc:=o7 (⟨hG,hh,hrf⟩:Aq g.sh g.w g.h g.sB=some g.cells/\sR g.sB/\B4 r.ls);by_cases hb:(decide (r.ls.length<=64)&&r.ls.all (EX g.cells))=true;case neg=>
  have hv:D2 g.cells r.ls= .sH [Bm [],.int .i64 130]:=og hb;have hE:Ke g.cells r=130:=oE (by simpa using hb);rw[hE,og zd]at heq;rw[heq];simp only[eZ,seval,oh,eY,AT e9,hg,Tzr,s2,Fd,Dd,Cp,CC,hc,hv,AJ]
 have hv:D2 g.cells r.ls= .sH [Bm (r.ls.map (Bb g.cells)),.int .i64 0]:=oE hb;have hregE:Ke g.cells r=if CX r.ls=true then 161 else 0:=by unfold Ke;rw[hb,og zd]
 have sk:r.ls.length<1000000000:=hrf.1;have hfw:∀l∈r.ls,sR l:=λl hl=>by
  obtain⟨q1,-,q3⟩:=G7 (oM.1 ((oo _ _).mp hb).2 _ hl);have h1:=Jx q1 q3;have h2:=(BP hG).2.1;show l.length<_;omega
 simp only[eZ,seval,o9,eY,AT e9,hg,Tzr,s2,Fd,Dd,Cp,CC,hc,hv,AJ];refine AQ (λa:Nat=>⟨[(2,true,.ptr 0 0),(3,true,.ptr 1 0),(5,true,.int .i64 i),(6,true,Bm r.ls),(9,true,.int .i64 a)],sA (sA Ac 0 (.box (AL d))) 1 (.box (AK g.sh g.w g.h g.sB g.cells)),3⟩) (λa=>a<=r.ls.length/\∀x y (hx:x<r.ls.length) (hy:y<r.ls.length),x<a->y<x->DL r.ls[x] r.ls[y]=false) (λa=>r.ls.length-a)
  0 rfl ⟨oq _,λx y _ _ q=>absurd q (pD _)⟩ ?_
 rintro a ⟨ha,u9⟩;by_cases hla:a<r.ls.length
 ·have uH:=o8 hla;have ea:=AI (k:=a) zo;have hfa:sR r.ls[a]:=hfw _ (oK hla);simp only[eZ,seval,o6,AT hla];refine AQ (λb:Nat=>⟨[(2,true,.ptr 0 0),(3,true,.ptr 1 0),(5,true,.int .i64 i),(6,true,Bm r.ls),(9,true,.int .i64 a),(10,true,.int .i64 b)],sA (sA Ac 0 (.box (AL d))) 1 (.box (AK g.sh g.w g.h g.sB g.cells)),3⟩) (λb=>b<=a/\∀y (hy:y<r.ls.length),y<b->DL r.ls[a] r.ls[y]=false) (λb=>a-b)
   0 rfl ⟨oq _,λy _ q=>absurd q (pD _)⟩ ?_
  rintro b ⟨am,hnb⟩;by_cases hlb:b<a
  ·have tp:b<r.ls.length:=zo
   have s6:=o8 tp;have eb:=AI (k:=b) zo;have hfb:sR r.ls[b]:=hfw _ (oK tp);cases me:DL r.ls[a] r.ls[b]with
   |true=>
    rw[hregE,oE (IA.2 ⟨a,b,hla,tp,hlb,me⟩),og zd]at heq;rw[heq];generalize r.ls[a]=la at uH hfa me;generalize r.ls[b]=lb at s6 hfb me;simp only[eZ,seval,eY,AT hlb,AT hla,AT tp,uH,s6,Tzr,s2,As,Al,o7 hfa,o7 hfb,me,AJ]
   |false=>
    have hnx:∀y (hy:y<r.ls.length),y<b+1->DL r.ls[a] r.ls[y]=false:=λy hy q=>by
     by_cases z:y=b
     ·subst z;exact me
     ·exact hnb y hy zo
    generalize hA:r.ls[a]=la at uH hfa me;generalize hB:r.ls[b]=lb at s6 hfb me;simp only[eZ,seval,eY,AT hlb,AT hla,AT tp,uH,s6,Tzr,s2,As,Al,o7 hfa,o7 hfb,me,eb,AJ];exact .mk (b+1) rfl ⟨hlb,λy hy q=>by rw[<-hA];exact hnx y hy q⟩ zo
  obtain rfl:b=a:=zo
  simp only[eZ,seval,Ah hlb,ea];refine .mk (b+1) rfl ⟨hla,λx y hx hy q1 q2=>?_⟩ zo;by_cases z:x=b
  ·subst z;exact hnb y hy q2
  ·exact u9 x y hx hy zo q2
 obtain rfl:a=r.ls.length:=zo
 have hpt:CX r.ls=false:=by
  cases q:CX r.ls with
  |false=>rfl
  |true=>
   obtain⟨x,y,hx,hy,u0,h2⟩:=IA.1 q;rw[u9 x y hx hy hx u0]at h2;cases h2
 have hE0:Ke g.cells r=0:=by rw[hregE,hpt];rfl
 rw[hE0,oE rfl]at heq;simp only[eZ,seval,o6,Ah hla,e];exact .mk (i+1) rfl ⟨e9,heq⟩ zo
def p180(c:x7):A6 prog 180 [BO c] (.bool (Dl c)):=by
 refine .mk ⟨GI 0 c,zt⟩ zt (ZI.a (AE AG.sE (AF ?_)));unfold Dl;by_cases h1:c.ty=1
 ·simp only[eZ,seval,ZI,h1]
 by_cases h2:c.ty=2
 ·simp only[eZ,seval,ZI,h2]
 by_cases h3:c.ty=3
 ·simp only[eZ,seval,ZI,h3];rw[show(decide (1<=c.tQ)&&decide (c.tQ<=3)||decide (8<=c.tQ))=(decide (c.tQ=1)||decide (c.tQ=2)||decide (c.tQ=3)||decide (8<=c.tQ))by
   rw[oZ];simp;omega]
 simp only[eZ,seval,ZI,h1,h2,h3]
def p223(d:x8)(r:zj)(w:Int)(on:Bool):A6 prog 223 [Ba d,Ao r,.int .i64 w,.bool on] (.bool (DB d.sD r w on)):=by
 refine .mk ⟨Ag 0 d,BA 0 r,zt,zt,zt⟩ zt (dw.a (AE AG.sE (AF ?_)));by_cases hc:r.sM<0\/(d.sD.length:Int)<=r.sM
 ·have hcb:(decide (r.sM<0)||decide ((d.sD.length:Int)<=r.sM))=true:=by simpa using hc
  have hP:DB d.sD r w on=false:=by unfold DB;rw[oE hc]
  rw[hP];simp only[eZ,seval,o6,dw,hcb]
 ·have hcb:(decide (r.sM<0)||decide ((d.sD.length:Int)<=r.sM))=false:=by simp;omega
  obtain⟨j,hj⟩:∃j:Nat,r.sM=(j:Int):=⟨r.sM.toNat,zo⟩;have tz:j<d.sD.length:=zo
  have hg:=o8 tz;generalize d.sD[j]=c at hg;have hP:DB d.sD r w on=(decide (c.ty=w)&&(!on||decide (c.tQ=r.tQ))):=by
   unfold DB;(rw[og hc,hj,oH,hg])<;>rfl
  rw[hP];rw[hj]at hcb;cases on
  ·simp only[eZ,seval,o9,oh,eY,dw,hj,hcb,AT tz,hg]
  ·simp only[eZ,seval,o9,eY,dw,hj,hcb,AT tz,hg]
def sCl:List Fs->AB->Prop×Fs:=λa H=>match a with
 |[x,y,.int .i64 w,.bool on]=>(dD.ok x/\Kj.ok y,.bool (DB (dD.dec x).sD (Kj.dec y) w on))
 |_=>(False,.sH [])
def qCl:∀args H n,(sCl args H).1->Ad prog 223 args H n (sCl args H).2:=by
 intro args H n hh;unfold sCl at hh⊢;split at hh
 ·obtain⟨h1,h2⟩:=hh;refine AO.args ((p223 _ _ _ _).quiet H n) ?_;rintro g vs ⟨v,r,rfl,k1,w,r',rfl,k2,k3⟩;exact⟨v,_,rfl,dD.wk _ h1 _ _ k1,w,_,rfl,Kj.wk _ h2 _ _ k2,k3⟩
 ·exact hh.elim
def Tzc:Bk:=AJ 223 sCl sE
def W5:AG prog Tzc:=AG.sE.add qCl
theorem Tzc_e(x y:Fs)(w:Int)(on:Bool)(H:AB):Tzc 223 [x,y,.int .i64 w,.bool on] H=(dD.ok x/\Kj.ok y,.bool (DB (dD.dec x).sD (Kj.dec y) w on)):=rfl
def p222(d:x8)(r:zj):A6 prog 222 [Ba d,Ao r] (.bool (FQ d.sD r)):=by
 refine .mk ⟨Ag 0 d,BA 0 r,zt⟩ zt (dz.a (AE W5 (AF ?_)));unfold FQ;by_cases ho:r.op<1\/3<r.op
 ·have hb:(decide (r.op<1)||decide (3<r.op))=true:=by simpa using ho
  rw[oE ho];simp only[eZ,seval,dz,hb]
 have hb:(decide (r.op<1)||decide (3<r.op))=false:=by simp;omega
 rw[og ho];by_cases hn:r.tY=[]
 ·rw[oE hn];simp only[eZ,seval,dz,hb,BS,BL hn]
 ·rw[og hn];simp only[eZ,seval,dz,hb,BS,A5 hn,Tzc_e,Az,Ap,B0,BU]
def LT:q9->q9
 | .seq _ b=>b
 |c=>c
def Ei:Nat->q9->q9
 |0,c=>c
 |k+1,c=>Ei k (LT c)
def aG:Nat->q9->q9->q9
 |0,_,R=>R
 |k+1,.seq a b,R=>.seq a (aG k b R)
 |_+1,c,_=>c
def O4:Bk:=AJ 222 (s2 dD Kj Wg λd r=>.bool (FQ d.sD r)) Tzc
def gb:AG prog O4:=W5.add (q2 λd r _=>p222 d r)
theorem Tp(a:List Fs)(H:AB):O4 222 a H=s2 dD Kj Wg (λd r=>.bool (FQ d.sD r)) a H:=rfl
theorem Tq(x y:Fs)(w:Int)(on:Bool)(H:AB):O4 223 [x,y,.int .i64 w,.bool on] H=(dD.ok x/\Kj.ok y,.bool (DB (dD.dec x).sD (Kj.dec y) w on)):=rfl
def aH(cl:List x7)(r:zj)(on set sU num uC lim:Bool):Bool:=
 if(!on&&(decide (r.on≠[])||decide (r.tQ≠0)))||(!set&&(decide (0<r.ns.length)||decide (r.set≠0)))||(!sU&&(decide (0<r.os.length)||decide (r.sU≠0)))then false
 else if(on&&decide (r.on=[]))||(set&&decide (r.set=0))||(sU&&decide (r.sU=0))then false
 else if !lim&&(decide (r.op≠0)||(!num&&decide (r.n≠0))||(!uC&&(decide (r.tY≠[])||decide (r.sM≠ -1))))then false
 else if(lim&& !FQ cl r)||(num&&(decide (r.n<0)||decide (65536<r.n)))then false
 else if r.kind=5 then DB cl r 3 true
 else if r.kind=11 then DB cl r 1 false else true
theorem W6:Dz=aG 8 Dz (Ei 8 Dz):=rfl
def rr1(d:x8)(r:zj)(on set sU num uC lim:Bool)(X:List (Nat×Bool×Fs))(hA1:(!on&&(!decide (r.on=[])|| !decide (r.tQ=0))|| !set&&(decide (0<r.ns.length)|| !decide (r.set=0))|| !sU&&(decide (0<r.os.length)|| !decide (r.sU=0)))=true):Fi prog O4 (Ei 8 Dz) [] (Co [.t 4] (Ok (.bool (false))))
  ⟨(2,true,.ptr 0 0)::(3,true,.ptr 1 0)::(5,true,.bool on)::(6,true,.bool set)::(7,true,.bool sU)::(8,true,.bool num)::(9,true,.bool uC)::(10,true,.bool lim)::X,sA (sA Ac 0 (.box (AL d))) 1 (.box (BT r)),3⟩:=by
 have e1:∀(l:List Bs),decide ((0:Int)<(l.length:Int))=decide (0<l.length):=λl=>by
  rw[oZ,oC,oC];omega
 simp only[eZ,seval,o6,Dz,Ei,LT,Ay,e1,hA1]
def rr2(d:x8)(r:zj)(on set sU num uC lim:Bool)(X:List (Nat×Bool×Fs))(hA1:(!on&&(!decide (r.on=[])|| !decide (r.tQ=0))|| !set&&(decide (0<r.ns.length)|| !decide (r.set=0))|| !sU&&(decide (0<r.os.length)|| !decide (r.sU=0)))=false)(hA2:(on&&decide (r.on=[])||set&&decide (r.set=0)||sU&&decide (r.sU=0))=true):Fi prog O4 (Ei 8 Dz) [] (Co [.t 4] (Ok (.bool (false))))
  ⟨(2,true,.ptr 0 0)::(3,true,.ptr 1 0)::(5,true,.bool on)::(6,true,.bool set)::(7,true,.bool sU)::(8,true,.bool num)::(9,true,.bool uC)::(10,true,.bool lim)::X,sA (sA Ac 0 (.box (AL d))) 1 (.box (BT r)),3⟩:=by
 have e1:∀(l:List Bs),decide ((0:Int)<(l.length:Int))=decide (0<l.length):=λl=>by
  rw[oZ,oC,oC];omega
 simp only[eZ,seval,o6,Dz,Ei,LT,Ay,BS,e1,hA1,hA2]
def rr3(d:x8)(r:zj)(on set sU num uC:Bool)(X:List (Nat×Bool×Fs))(hA1:(!on&&(!decide (r.on=[])|| !decide (r.tQ=0))|| !set&&(decide (0<r.ns.length)|| !decide (r.set=0))|| !sU&&(decide (0<r.os.length)|| !decide (r.sU=0)))=false)(hA2:(on&&decide (r.on=[])||set&&decide (r.set=0)||sU&&decide (r.sU=0))=false)(hA3:(!decide (r.op=0)|| !num&& !decide (r.n=0)|| !uC&&(!decide (r.tY=[])|| !decide (r.sM= -1)))=true):Fi prog O4 (Ei 8 Dz) [] (Co [.t 4] (Ok (.bool (false))))
  ⟨(2,true,.ptr 0 0)::(3,true,.ptr 1 0)::(5,true,.bool on)::(6,true,.bool set)::(7,true,.bool sU)::(8,true,.bool num)::(9,true,.bool uC)::(10,true,.bool false)::X,sA (sA Ac 0 (.box (AL d))) 1 (.box (BT r)),3⟩:=by
 have e1:∀(l:List Bs),decide ((0:Int)<(l.length:Int))=decide (0<l.length):=λl=>by
  rw[oZ,oC,oC];omega
 simp only[eZ,seval,oh,o6,Dz,Ei,LT,Ay,BS,e1,hA1,hA2,hA3]
def rr4a(d:x8)(r:zj)(on set sU num uC:Bool)(X:List (Nat×Bool×Fs))(hA1:(!on&&(!decide (r.on=[])|| !decide (r.tQ=0))|| !set&&(decide (0<r.ns.length)|| !decide (r.set=0))|| !sU&&(decide (0<r.os.length)|| !decide (r.sU=0)))=false)(hA2:(on&&decide (r.on=[])||set&&decide (r.set=0)||sU&&decide (r.sU=0))=false)(hb:(!FQ d.sD r||num&&(decide (r.n<0)||decide (65536<r.n)))=true):Fi prog O4 (Ei 8 Dz) [] (Co [.t 4] (Ok (.bool (false))))
  ⟨(2,true,.ptr 0 0)::(3,true,.ptr 1 0)::(5,true,.bool on)::(6,true,.bool set)::(7,true,.bool sU)::(8,true,.bool num)::(9,true,.bool uC)::(10,true,.bool true)::X,sA (sA Ac 0 (.box (AL d))) 1 (.box (BT r)),3⟩:=by
 have e1:∀(l:List Bs),decide ((0:Int)<(l.length:Int))=decide (0<l.length):=λl=>by
  rw[oZ,oC,oC];omega
 simp only[eZ,seval,o9,o6,Dz,Ei,LT,Ay,BS,e1,hA1,hA2,O4,s2,Az,Ap,B0,BU,hb,AJ]
def rr4b(d:x8)(r:zj)(on set sU num uC:Bool)(X:List (Nat×Bool×Fs))(hA1:(!on&&(!decide (r.on=[])|| !decide (r.tQ=0))|| !set&&(decide (0<r.ns.length)|| !decide (r.set=0))|| !sU&&(decide (0<r.os.length)|| !decide (r.sU=0)))=false)(hA2:(on&&decide (r.on=[])||set&&decide (r.set=0)||sU&&decide (r.sU=0))=false)(hb:(!FQ d.sD r||num&&(decide (r.n<0)||decide (65536<r.n)))=false)(h5:r.kind=5):Fi prog O4 (Ei 8 Dz) [] (Co [.t 4] (Ok (.bool (DB d.sD r 3 true))))
  ⟨(2,true,.ptr 0 0)::(3,true,.ptr 1 0)::(5,true,.bool on)::(6,true,.bool set)::(7,true,.bool sU)::(8,true,.bool num)::(9,true,.bool uC)::(10,true,.bool true)::X,sA (sA Ac 0 (.box (AL d))) 1 (.box (BT r)),3⟩:=by
 have e1:∀(l:List Bs),decide ((0:Int)<(l.length:Int))=decide (0<l.length):=λl=>by
  rw[oZ,oC,oC];omega
 simp only[eZ,seval,o9,o6,Dz,Ei,LT,Ay,BS,e1,hA1,hA2,Tp,Tq,s2,Az,Ap,B0,BU,hb,BL h5]
def rr4c(d:x8)(r:zj)(on set sU num uC:Bool)(X:List (Nat×Bool×Fs))(hA1:(!on&&(!decide (r.on=[])|| !decide (r.tQ=0))|| !set&&(decide (0<r.ns.length)|| !decide (r.set=0))|| !sU&&(decide (0<r.os.length)|| !decide (r.sU=0)))=false)(hA2:(on&&decide (r.on=[])||set&&decide (r.set=0)||sU&&decide (r.sU=0))=false)(hb:(!FQ d.sD r||num&&(decide (r.n<0)||decide (65536<r.n)))=false)(h5:¬r.kind=5)(h11:r.kind=11):Fi prog O4 (Ei 8 Dz) [] (Co [.t 4] (Ok (.bool (DB d.sD r 1 false))))
  ⟨(2,true,.ptr 0 0)::(3,true,.ptr 1 0)::(5,true,.bool on)::(6,true,.bool set)::(7,true,.bool sU)::(8,true,.bool num)::(9,true,.bool uC)::(10,true,.bool true)::X,sA (sA Ac 0 (.box (AL d))) 1 (.box (BT r)),3⟩:=by
 have e1:∀(l:List Bs),decide ((0:Int)<(l.length:Int))=decide (0<l.length):=λl=>by
  rw[oZ,oC,oC];omega
 simp only[eZ,seval,o9,o6,Dz,Ei,LT,Ay,BS,e1,hA1,hA2,Tp,Tq,s2,Az,Ap,B0,BU,hb,A5 h5,o7 h11]
def rr4d(d:x8)(r:zj)(on set sU num uC:Bool)(X:List (Nat×Bool×Fs))(hA1:(!on&&(!decide (r.on=[])|| !decide (r.tQ=0))|| !set&&(decide (0<r.ns.length)|| !decide (r.set=0))|| !sU&&(decide (0<r.os.length)|| !decide (r.sU=0)))=false)(hA2:(on&&decide (r.on=[])||set&&decide (r.set=0)||sU&&decide (r.sU=0))=false)(hb:(!FQ d.sD r||num&&(decide (r.n<0)||decide (65536<r.n)))=false)(h5:¬r.kind=5)(h11:¬r.kind=11):Fi prog O4 (Ei 8 Dz) [] (Co [.t 4] (Ok (.bool (true))))
  ⟨(2,true,.ptr 0 0)::(3,true,.ptr 1 0)::(5,true,.bool on)::(6,true,.bool set)::(7,true,.bool sU)::(8,true,.bool num)::(9,true,.bool uC)::(10,true,.bool true)::X,sA (sA Ac 0 (.box (AL d))) 1 (.box (BT r)),3⟩:=by
 have e1:∀(l:List Bs),decide ((0:Int)<(l.length:Int))=decide (0<l.length):=λl=>by
  rw[oZ,oC,oC];omega
 simp only[eZ,seval,o9,oh,o6,Dz,Ei,LT,Ay,BS,e1,hA1,hA2,O4,s2,Az,Ap,B0,BU,hb,A5 h5,oA h11,AJ]
def rr5a(d:x8)(r:zj)(on set sU num uC:Bool)(X:List (Nat×Bool×Fs))(hA1:(!on&&(!decide (r.on=[])|| !decide (r.tQ=0))|| !set&&(decide (0<r.ns.length)|| !decide (r.set=0))|| !sU&&(decide (0<r.os.length)|| !decide (r.sU=0)))=false)(hA2:(on&&decide (r.on=[])||set&&decide (r.set=0)||sU&&decide (r.sU=0))=false)(hA3:(!decide (r.op=0)|| !num&& !decide (r.n=0)|| !uC&&(!decide (r.tY=[])|| !decide (r.sM= -1)))=false)(hb:(num&&(decide (r.n<0)||decide (65536<r.n)))=true):Fi prog O4 (Ei 8 Dz) [] (Co [.t 4] (Ok (.bool (false))))
  ⟨(2,true,.ptr 0 0)::(3,true,.ptr 1 0)::(5,true,.bool on)::(6,true,.bool set)::(7,true,.bool sU)::(8,true,.bool num)::(9,true,.bool uC)::(10,true,.bool false)::X,sA (sA Ac 0 (.box (AL d))) 1 (.box (BT r)),3⟩:=by
 have e1:∀(l:List Bs),decide ((0:Int)<(l.length:Int))=decide (0<l.length):=λl=>by
  rw[oZ,oC,oC];omega
 simp only[eZ,seval,oh,o6,Dz,Ei,LT,Ay,BS,e1,hA1,hA2,hA3,O4,s2,Az,Ap,B0,BU,hb,AJ]
def rr5b(d:x8)(r:zj)(on set sU num uC:Bool)(X:List (Nat×Bool×Fs))(hA1:(!on&&(!decide (r.on=[])|| !decide (r.tQ=0))|| !set&&(decide (0<r.ns.length)|| !decide (r.set=0))|| !sU&&(decide (0<r.os.length)|| !decide (r.sU=0)))=false)(hA2:(on&&decide (r.on=[])||set&&decide (r.set=0)||sU&&decide (r.sU=0))=false)(hA3:(!decide (r.op=0)|| !num&& !decide (r.n=0)|| !uC&&(!decide (r.tY=[])|| !decide (r.sM= -1)))=false)(hb:(num&&(decide (r.n<0)||decide (65536<r.n)))=false)(h5:r.kind=5):Fi prog O4 (Ei 8 Dz) [] (Co [.t 4] (Ok (.bool (DB d.sD r 3 true))))
  ⟨(2,true,.ptr 0 0)::(3,true,.ptr 1 0)::(5,true,.bool on)::(6,true,.bool set)::(7,true,.bool sU)::(8,true,.bool num)::(9,true,.bool uC)::(10,true,.bool false)::X,sA (sA Ac 0 (.box (AL d))) 1 (.box (BT r)),3⟩:=by
 have e1:∀(l:List Bs),decide ((0:Int)<(l.length:Int))=decide (0<l.length):=λl=>by
  rw[oZ,oC,oC];omega
 simp only[eZ,seval,oh,o6,Dz,Ei,LT,Ay,BS,e1,hA1,hA2,hA3,Tp,Tq,s2,Az,Ap,B0,BU,hb,BL h5]
def rr5c(d:x8)(r:zj)(on set sU num uC:Bool)(X:List (Nat×Bool×Fs))(hA1:(!on&&(!decide (r.on=[])|| !decide (r.tQ=0))|| !set&&(decide (0<r.ns.length)|| !decide (r.set=0))|| !sU&&(decide (0<r.os.length)|| !decide (r.sU=0)))=false)(hA2:(on&&decide (r.on=[])||set&&decide (r.set=0)||sU&&decide (r.sU=0))=false)(hA3:(!decide (r.op=0)|| !num&& !decide (r.n=0)|| !uC&&(!decide (r.tY=[])|| !decide (r.sM= -1)))=false)(hb:(num&&(decide (r.n<0)||decide (65536<r.n)))=false)(h5:¬r.kind=5)(h11:r.kind=11):Fi prog O4 (Ei 8 Dz) [] (Co [.t 4] (Ok (.bool (DB d.sD r 1 false))))
  ⟨(2,true,.ptr 0 0)::(3,true,.ptr 1 0)::(5,true,.bool on)::(6,true,.bool set)::(7,true,.bool sU)::(8,true,.bool num)::(9,true,.bool uC)::(10,true,.bool false)::X,sA (sA Ac 0 (.box (AL d))) 1 (.box (BT r)),3⟩:=by
 have e1:∀(l:List Bs),decide ((0:Int)<(l.length:Int))=decide (0<l.length):=λl=>by
  rw[oZ,oC,oC];omega
 simp only[eZ,seval,o9,oh,o6,Dz,Ei,LT,Ay,BS,e1,hA1,hA2,hA3,Tp,Tq,s2,Az,Ap,B0,BU,hb,A5 h5,o7 h11]
def rr5d(d:x8)(r:zj)(on set sU num uC:Bool)(X:List (Nat×Bool×Fs))(hA1:(!on&&(!decide (r.on=[])|| !decide (r.tQ=0))|| !set&&(decide (0<r.ns.length)|| !decide (r.set=0))|| !sU&&(decide (0<r.os.length)|| !decide (r.sU=0)))=false)(hA2:(on&&decide (r.on=[])||set&&decide (r.set=0)||sU&&decide (r.sU=0))=false)(hA3:(!decide (r.op=0)|| !num&& !decide (r.n=0)|| !uC&&(!decide (r.tY=[])|| !decide (r.sM= -1)))=false)(hb:(num&&(decide (r.n<0)||decide (65536<r.n)))=false)(h5:¬r.kind=5)(h11:¬r.kind=11):Fi prog O4 (Ei 8 Dz) [] (Co [.t 4] (Ok (.bool (true))))
  ⟨(2,true,.ptr 0 0)::(3,true,.ptr 1 0)::(5,true,.bool on)::(6,true,.bool set)::(7,true,.bool sU)::(8,true,.bool num)::(9,true,.bool uC)::(10,true,.bool false)::X,sA (sA Ac 0 (.box (AL d))) 1 (.box (BT r)),3⟩:=by
 have e1:∀(l:List Bs),decide ((0:Int)<(l.length:Int))=decide (0<l.length):=λl=>by
  rw[oZ,oC,oC];omega
 simp only[eZ,seval,o9,oh,o6,Dz,Ei,LT,Ay,BS,e1,hA1,hA2,hA3,O4,s2,Az,Ap,B0,BU,hb,A5 h5,oA h11,AJ]
theorem VE(d:x8)(r:zj)(on set sU num uC lim:Bool)(X:List (Nat×Bool×Fs)):Fi prog O4 (Ei 8 Dz) [] (Co [.t 4] (Ok (.bool (aH d.sD r on set sU num uC lim))))
  ⟨(2,true,.ptr 0 0)::(3,true,.ptr 1 0)::(5,true,.bool on)::(6,true,.bool set)::(7,true,.bool sU)::(8,true,.bool num)::(9,true,.bool uC)::(10,true,.bool lim)::X,sA (sA Ac 0 (.box (AL d))) 1 (.box (BT r)),3⟩:=by
 unfold aH;simp only[ne_eq,decide_not];cases hA1:(!on&&(!decide (r.on=[])|| !decide (r.tQ=0))|| !set&&(decide (0<r.ns.length)|| !decide (r.set=0))|| !sU&&(decide (0<r.os.length)|| !decide (r.sU=0)))with
 |true=>rw[oE rfl];exact rr1 d r on set sU num uC lim X hA1
 |false=>
 rw[og zd];cases hA2:(on&&decide (r.on=[])||set&&decide (r.set=0)||sU&&decide (r.sU=0))with
 |true=>rw[oE rfl];exact rr2 d r on set sU num uC lim X hA1 hA2
 |false=>
 rw[og zd];cases lim with
 |true=>
  rw[o9,qB,og zd,qK];cases hb:(!FQ d.sD r||num&&(decide (r.n<0)||decide (65536<r.n)))with
  |true=>rw[oE rfl];exact rr4a d r on set sU num uC X hA1 hA2 hb
  |false=>
  rw[og zd];by_cases h5:r.kind=5
  ·rw[oE h5];exact rr4b d r on set sU num uC X hA1 hA2 hb h5
  rw[og h5];by_cases h11:r.kind=11
  ·rw[oE h11];exact rr4c d r on set sU num uC X hA1 hA2 hb h5 h11
  rw[og h11];exact rr4d d r on set sU num uC X hA1 hA2 hb h5 h11
 |false=>
  rw[oh,qK,qB,qT];cases hA3:(!decide (r.op=0)|| !num&& !decide (r.n=0)|| !uC&&(!decide (r.tY=[])|| !decide (r.sM= -1)))with
  |true=>rw[oE rfl];exact rr3 d r on set sU num uC X hA1 hA2 hA3
  |false=>
  rw[og zd];cases hb:(num&&(decide (r.n<0)||decide (65536<r.n)))with
  |true=>rw[oE rfl];exact rr5a d r on set sU num uC X hA1 hA2 hA3 hb
  |false=>
  rw[og zd];by_cases h5:r.kind=5
  ·rw[oE h5];exact rr5b d r on set sU num uC X hA1 hA2 hA3 hb h5
  rw[og h5];by_cases h11:r.kind=11
  ·rw[oE h11];exact rr5c d r on set sU num uC X hA1 hA2 hA3 hb h5 h11
  rw[og h11];exact rr5d d r on set sU num uC X hA1 hA2 hA3 hb h5 h11
def p179(d:x8)(r:zj):A6 prog 179 [Ba d,Ao r] (.bool (DW d.sD r)):=by
 refine .mk ⟨Ag 0 d,BA 0 r,zt⟩ zt (Dz.a (AE gb (AF ?_)));have hrest:=VE d r;rw[W6];rw[d6];have tv:∀on set sU num uC lim rdb sM,C0 r.kind=⟨on,set,sU,lim,num,rdb,true,sM⟩->uC=decide (sM≠0)->Ki d.sD r=aH d.sD r on set sU num uC lim:=λon set sU num uC lim rdb sM h q=>by
  subst q;unfold Ki aH;rw[h];rfl
 by_cases hk:r.kind<1\/13<r.kind
 ·have hR:Ki d.sD r=false:=by
   have hkn:(C0 r.kind).knw=false:=by unfold C0;repeat rw[og zo]
   unfold Ki;simp only[];rw[oE hkn]
  have n1:(r.kind=1)=False:=oA zo;have n2:(r.kind=2)=False:=oA zo;have n3:(r.kind=3)=False:=oA zo;have n4:(r.kind=4)=False:=oA zo;have n5:(r.kind=5)=False:=oA zo;have n6:(r.kind=6)=False:=oA zo;have n7:(r.kind=7)=False:=oA zo;have n8:(r.kind=8)=False:=oA zo;have n9:(r.kind=9)=False:=oA zo;have n10:(r.kind=10)=False:=oA zo;have n11:(r.kind=11)=False:=oA zo;have n12:(r.kind=12)=False:=oA zo;have n13:(r.kind=13)=False:=oA zo;rw[hR];generalize Ei 8 Dz=R;simp only[eZ,seval,Dz,aG,n1,n2,n3,n4,n5,n6,n7,n8,n9,n10,n11,n12,n13]
 generalize Ei 8 Dz=R at hrest⊢;have uR:r.kind=1\/r.kind=2\/r.kind=3\/r.kind=4\/r.kind=5\/r.kind=6\/r.kind=7\/r.kind=8\/r.kind=9\/r.kind=10\/r.kind=11\/r.kind=12\/r.kind=13:=zo
 rcases uR with uR|uR|uR|uR|uR|uR|uR|uR|uR|uR|uR|uR|uR
 all_goals
  rw[tv _ _ _ _ _ _ _ _ (by rw[uR];rfl) rfl];simp only[eZ,seval,Dz,aG,uR];exact hrest _ _ _ _ _ _ _
def Tfo:Bk:=AJ 179 (s2 dD Kj Wg λd r=>.bool (DW d.sD r)) (AJ 180 (s1 nr I7 λc=>.bool (Dl c)) sE)
def gc:AG prog Tfo:=(AG.sE.add (q1 λc _=>p180 c)).add (q2 λd r _=>p179 d r)
def p113(d:x8)(hd:zy d):A6 prog 113 [Ba d] (.bool (Bv d)):=by
 refine .mk ⟨Ag 0 d,zt⟩ zt (c113.a (AE gc (AF ?_)));have hsl:d.sI.length<1000000000:=hd.sy;have ua:d.sC.length<1000000000:=hd.ru;have hcl:d.sD.length<1000000000:=hd.cl;simp only[eE,eN,seval,c113];refine AQ (λi:Nat=>⟨[(1,true,.ptr 0 0),(3,true,.int .i64 i)],sA Ac 0 (.box (AL d)),2⟩) (λi=>i<=d.sI.length/\(d.sI.all λs=>decide (0<=s.v)&&decide (s.v<=99))=((d.sI.drop i).all λs=>decide (0<=s.v)&&decide (s.v<=99))) (λi=>d.sI.length-i)
  0 rfl ⟨oq _,rfl⟩ ?_
 rintro i ⟨hi,sX⟩;by_cases e9:i<d.sI.length
 ·have hg:=o8 e9;have e:=AI (k:=i) zo;rw[IE e9]at sX;generalize d.sI[i]=s at hg sX;by_cases hs:0<=s.v/\s.v<=99
  ·have hb:(decide (s.v<0)||decide (99<s.v))=false:=by simp;omega
   simp only[eZ,seval,eY,AT e9,hg,e,hb];exact .mk (i+1) rfl ⟨e9,by rw[sX,BL hs.1,BL hs.2];rfl⟩ zo
  ·have hb:(decide (s.v<0)||decide (99<s.v))=true:=by simp;omega
   have hR:Bv d=false:=by
    unfold Bv;rw[sX,show(decide (0<=s.v)&&decide (s.v<=99))=false by simp;omega];rfl
   rw[hR];simp only[eZ,seval,eY,AT e9,hg,hb]
 obtain rfl:i=d.sI.length:=zo
 rw[pA]at sX;simp only[eZ,seval,o6,Ah e9];refine AQ (λi:Nat=>⟨[(1,true,.ptr 0 0),(4,true,.int .i64 i)],sA Ac 0 (.box (AL d)),2⟩) (λi=>i<=d.sC.length/\d.sC.all (DW d.sD)=(d.sC.drop i).all (DW d.sD)) (λi=>d.sC.length-i)
  0 rfl ⟨oq _,rfl⟩ ?_
 rintro k ⟨hk,t9⟩;by_cases hlk:k<d.sC.length
 ·have hg:=o8 hlk;have e:=AI (k:=k) zo;rw[IE hlk]at t9;generalize d.sC[k]=r at hg t9;cases hr:DW d.sD r with
  |false=>
   have hR:Bv d=false:=by
    unfold Bv;rw[t9,hr];simp
   rw[hR];simp only[eZ,seval,oh,eY,AT hlk,hg,Tfo,s2,Az,Ap,B0,BU,hr,AJ]
  |true=>
   rw[hr,qK]at t9;simp only[eZ,seval,o9,eY,AT hlk,hg,Tfo,s2,Az,Ap,B0,BU,hr,e,AJ];exact .mk (k+1) rfl ⟨hlk,t9⟩ zo
 obtain rfl:k=d.sC.length:=zo
 rw[pA]at t9;simp only[eZ,seval,o6,Ah hlk];refine AQ (λj:Nat=>⟨[(1,true,.ptr 0 0),(5,true,.int .i64 j)],sA Ac 0 (.box (AL d)),2⟩) (λi=>i<=d.sD.length/\∀j (h:j<d.sD.length),j<i->DX d.sC j=1/\Dl d.sD[j]=true) (λi=>d.sD.length-i)
  0 rfl ⟨oq _,λj h q=>absurd q (pD _)⟩ ?_
 rintro j ⟨hj,me⟩;by_cases t8:j<d.sD.length
 ·have hg:=o8 t8;have ej:=AI (k:=j) zo;have w8:¬(DX d.sC j=1/\Dl d.sD[j]=true)->Bv d=false:=λq=>by
   unfold Bv;rw[sX,t9];cases q1:((List.range d.sD.length).all λi=>decide (DX d.sC i=1))with
   |false=>rfl
   |true=>
   cases q2:d.sD.all Dl with
   |false=>rfl
   |true=>exact absurd ⟨pg (oM.1 q1 j (px.2 t8)),oM.1 q2 _ (oK t8)⟩ q
  have su:DX d.sC j=1/\Dl d.sD[j]=true->∀q (h:q<d.sD.length),q<j+1->DX d.sC q=1/\Dl d.sD[q]=true:=λz q h hq=>by
   by_cases w:q=j
   ·subst w;exact z
   ·exact me q h zo
  generalize hx:d.sD[j]=x at hg w8 su;simp only[eZ,seval,o6,AT t8];refine AQ (λk:Nat=>⟨[(1,true,.ptr 0 0),(5,true,.int .i64 j),(6,true,.int .i64 (JB (d.sC.take k) j)),(7,true,.int .i64 k)],sA Ac 0 (.box (AL d)),2⟩) (λk=>k<=d.sC.length) (λk=>d.sC.length-k)
   0 rfl (oq _) ?_
  intro k hk;by_cases hlk:k<d.sC.length
  ·have hgk:=o8 hlk;have ek:=AI (k:=k) zo;have l6:d.sC.take (k+1)=d.sC.take k++[d.sC[k]]:=by rw[oG,o8 hlk];rfl
   have hcle:=Zc (d.sC.take k) (j:Int);rw[oJ]at hcle;have ew:=AI (k:=JB (d.sC.take k) (j:Int)) zo;generalize d.sC[k]=r at hgk l6;have hcn:=U4 (d.sC.take k) r (j:Int);rw[<-l6]at hcn;by_cases hrc:r.sM=j
   ·rw[oE hrc]at hcn;simp only[eZ,seval,eY,AT hlk,hgk,ek,o7 hrc,ew];exact .mk (k+1) (by simp only[hcn]) hlk zo
   ·replace hcn:JB (d.sC.take (k+1)) (j:Int)=JB (d.sC.take k) (j:Int):=by rw[hcn,og hrc];rfl
    simp only[eZ,seval,eY,AT hlk,hgk,ek,oA hrc];exact .mk (k+1) (by simp only[hcn]) hlk zo
  obtain rfl:k=d.sC.length:=zo
  have hmc0:JB d.sC (j:Int)=DX d.sC j:=R6 _ _;by_cases hmc:DX d.sC j=1
  ·have hmb:(((DX d.sC j:Nat):Int)=1)=True:=o7 zo;cases hc:Dl x with
   |false=>
    rw[w8 (by rw[hc];simp)];simp only[eZ,seval,o9,oh,eY,Ah hlk,oF,hmc0,hmb,AT t8,hg,Tfo,s1,H8,GJ,hc,AJ]
   |true=>
    simp only[eZ,seval,o9,eY,Ah hlk,oF,hmc0,hmb,AT t8,hg,Tfo,s1,H8,GJ,hc,ej,AJ];exact .mk (j+1) rfl ⟨t8,λq h z=>su ⟨hmc,hc⟩ q h z⟩ zo
  ·have hmb:(((DX d.sC j:Nat):Int)=1)=False:=oA zo;rw[w8 (λq=>hmc q.1)];simp only[eZ,seval,o9,oh,eY,Ah hlk,oF,hmc0,hmb]
 obtain rfl:j=d.sD.length:=zo
 have hR:Bv d=true:=by
  have z2:d.sD.all Dl=true:=oM.2 λq hq=>by
   obtain⟨m,hm,rfl⟩:=pP.1 hq;exact(me m hm hm).2
  unfold Bv;rw[sX,t9,oM.2 λq hq=>pk (me q (px.1 hq) (px.1 hq)).1,z2];rfl
 rw[hR];simp only[eZ,seval,o6,Ah t8]
def p108:A6 prog 108 [] (Fw CL):=by
 refine .mk zt (Bo 0 _) (d5.a (AE AG.sE (AF ?_)));simp only[eE,eN,seval,d5];exact Wk.sl (.inl rfl)
def CY(l:List Bs)(s:Bs):Fs:=match BQ l s with
 |some i=>.sH [.int .i64 i,.bool true]
 |none=>.sH [.int .i64 0,.bool false]
def Is(n:Nat)(l:List Bs)(s:Bs):(CY l s).under n:=by unfold CY;split<;>exact⟨zt,zt,zt⟩
def Lg{α:Type}(f:α->Bs){l:List α}{s:Bs}{i:Nat}(hi:i<l.length)(h:f l[i]=s)(hb:∀k (hk:k<l.length),k<i->¬f l[k]=s):BQ (l.map f) s=some (i:Int):=by
 unfold BQ;rw[qk.2 ⟨by simpa using hi,by simpa using h,λj hj=>by simpa using hb j zo hj⟩];rfl
def JD{α:Type}(f:α->Bs){l:List α}{s:Bs}(hb:∀k (hk:k<l.length),¬f l[k]=s):BQ (l.map f) s=none:=by
 rw[CU];intro h;obtain⟨y,hy,e⟩:=pz.1 h;obtain⟨k,hk,rfl⟩:=pP.1 hy;exact hb k hk e
def p252(d:x8)(s:Bs)(hd:zy d):A6 prog 252 [Ba d,.str s] (CY (d.sI.map (·.nm)) s):=by
 refine .mk ⟨Ag 0 d,zt,zt⟩ (Is 0 _ _) (c252.a (AE AG.sE (AF ?_)));have sk:d.sI.length<1000000000:=hd.sy;simp only[eE,eN,seval,c252];refine AQ (λi:Nat=>⟨[(1,true,.str s),(2,true,.ptr 0 0),(6,true,.int .i64 i)],sA Ac 0 (.box (AL d)),3⟩) (λi=>i<=d.sI.length/\∀k (hk:k<d.sI.length),k<i->¬d.sI[k].nm=s) (λi=>d.sI.length-i)
  0 rfl ⟨oq _,λk _ q=>absurd q (pD _)⟩ ?_
 rintro i ⟨hi,hb⟩;by_cases e9:i<d.sI.length
 ·have hg:=o8 e9;have e:=AI (k:=i) zo;have hhit:=λq=>Lg (λx=>x.nm) (s:=s) e9 q hb
  have hnx:¬d.sI[i].nm=s->∀k (hk:k<d.sI.length),k<i+1->¬d.sI[k].nm=s:=λq k hk h=>by
   by_cases z:k=i
   ·subst z;exact q
   ·exact hb k hk zo
  generalize d.sI[i]=x at hg hhit hnx;by_cases hx:x.nm=s
  ·have hR:CY (d.sI.map (·.nm)) s= .sH [.int .i64 i,.bool true]:=by unfold CY;rw[hhit hx]
   rw[hR];simp only[eZ,seval,eY,AT e9,hg,BS,BL hx];exact Wk.refl _
  ·simp only[eZ,seval,eY,AT e9,hg,e,BS,A5 hx];exact .mk (i+1) rfl ⟨e9,hnx hx⟩ zo
 obtain rfl:i=d.sI.length:=zo
 have hR:CY (d.sI.map (·.nm)) s= .sH [.int .i64 0,.bool false]:=by unfold CY;rw[JD _ λk hk=>hb k hk hk]
 rw[hR];simp only[eZ,seval,o6,Ah e9];exact Wk.refl _
def p220(d:x8)(s:Bs)(hd:zy d):A6 prog 220 [Ba d,.str s] (CY (d.sD.map (·.nm)) s):=by
 refine .mk ⟨Ag 0 d,zt,zt⟩ (Is 0 _ _) (c220.a (AE AG.sE (AF ?_)));have sk:d.sD.length<1000000000:=hd.cl;simp only[eE,eN,seval,c220];refine AQ (λi:Nat=>⟨[(1,true,.str s),(2,true,.ptr 0 0),(6,true,.int .i64 i)],sA Ac 0 (.box (AL d)),3⟩) (λi=>i<=d.sD.length/\∀k (hk:k<d.sD.length),k<i->¬d.sD[k].nm=s) (λi=>d.sD.length-i)
  0 rfl ⟨oq _,λk _ q=>absurd q (pD _)⟩ ?_
 rintro i ⟨hi,hb⟩;by_cases e9:i<d.sD.length
 ·have hg:=o8 e9;have e:=AI (k:=i) zo;have hhit:=λq=>Lg (λx=>x.nm) (s:=s) e9 q hb
  have hnx:¬d.sD[i].nm=s->∀k (hk:k<d.sD.length),k<i+1->¬d.sD[k].nm=s:=λq k hk h=>by
   by_cases z:k=i
   ·subst z;exact q
   ·exact hb k hk zo
  generalize d.sD[i]=x at hg hhit hnx;by_cases hx:x.nm=s
  ·have hR:CY (d.sD.map (·.nm)) s= .sH [.int .i64 i,.bool true]:=by unfold CY;rw[hhit hx]
   rw[hR];simp only[eZ,seval,eY,AT e9,hg,BS,BL hx];exact Wk.refl _
  ·simp only[eZ,seval,eY,AT e9,hg,e,BS,A5 hx];exact .mk (i+1) rfl ⟨e9,hnx hx⟩ zo
 obtain rfl:i=d.sD.length:=zo
 have hR:CY (d.sD.map (·.nm)) s= .sH [.int .i64 0,.bool false]:=by unfold CY;rw[JD _ λk hk=>hb k hk hk]
 rw[hR];simp only[eZ,seval,o6,Ah e9];exact Wk.refl _
def sGv:List Fs->AB->Prop×Fs:=λa _=>match a with
 |[]=>(True,Fw CL)
 |_=>(False,.sH [])
def qGv:∀args H n,(sGv args H).1->Ad prog 108 args H n (sGv args H).2:=by
 intro args H n hh;unfold sGv at hh⊢;split at hh
 ·exact p108.quiet H n
 ·exact hh.elim
def Tgv:Bk:=AJ 108 sGv sE
def ge:AG prog Tgv:=AG.sE.add qGv
def p173(d:x8)(s:Bs)(hd:zy d):A6 prog 173 [Ba d,.str s] (CY (Bd d) s):=by
 refine .mk ⟨Ag 0 d,zt,zt⟩ (Is 0 _ _) (c173.a (AE ge (AF ?_)));have sk:d.sJ.length<1000000000:=hd.rg;have l0:=d8 d s;obtain⟨G,hG⟩:∃G:List Bs,G=CL:=⟨_,rfl⟩;have hGl:G.length=8:=by rw[hG];rfl
 rw[<-hG]at l0;have hsg:sGv []=λ_=>(True,Fw G):=by rw[hG];rfl
 simp only[eE,eN,seval,c173,Tgv,hsg,AJ];refine AQ (λi:Nat=>⟨[(1,true,.str s),(2,true,.ptr 0 0),(6,true,Fw G),(7,true,.int .i64 i)],sA Ac 0 (.box (AL d)),3⟩) (λi=>i<=G.length/\∀k (hk:k<G.length),k<i->¬G[k]=s) (λi=>G.length-i)
  0 rfl ⟨oq _,λk _ q=>absurd q (pD _)⟩ ?_
 rintro i ⟨hi,hb⟩;by_cases e9:i<G.length
 ·have hg:=o8 e9;have e:=AI (k:=i) zo;have hhit:=λq=>Lg (λx:Bs=>x) (s:=s) e9 q hb
  rw[show G.map (λx:Bs=>x)=G from rP _]at hhit;have hnx:¬G[i]=s->∀k (hk:k<G.length),k<i+1->¬G[k]=s:=λq k hk h=>by
   by_cases z:k=i
   ·subst z;exact q
   ·exact hb k hk zo
  generalize G[i]=x at hg hhit hnx;by_cases hx:x=s
  ·have hR:CY (Bd d) s= .sH [.int .i64 i,.bool true]:=by unfold CY;rw[l0,hhit hx]
   rw[hR];simp only[eZ,seval,eY,AT e9,hg,BS,BL hx];exact Wk.refl _
  ·simp only[eZ,seval,eY,AT e9,hg,e,BS,A5 hx];exact .mk (i+1) rfl ⟨e9,hnx hx⟩ zo
 obtain rfl:i=G.length:=zo
 have u9:BQ G s=none:=by
  have:=JD (λx:Bs=>x) (l:=G) (s:=s) λk hk=>hb k hk hk
  rw[show G.map (λx:Bs=>x)=G from rP _]at this;exact this
 rw[u9]at l0;simp only at l0;simp only[eZ,seval,o6,Ah e9];refine AQ (λi:Nat=>⟨[(1,true,.str s),(2,true,.ptr 0 0),(8,true,.int .i64 i)],sA Ac 0 (.box (AL d)),3⟩) (λi=>i<=d.sJ.length/\∀k (hk:k<d.sJ.length),k<i->¬d.sJ[k].nm=s) (λi=>d.sJ.length-i)
  0 rfl ⟨oq _,λk _ q=>absurd q (pD _)⟩ ?_
 rintro i ⟨hi,hb⟩;by_cases v8:i<d.sJ.length
 ·have hg:=o8 v8;have e:=AI (k:=i) zo;have e8:IntKind.wrap .i64 (8+(i:Int))=8+(i:Int):=An zo zo;have hhit:=λq=>Lg (λx:x9=>x.nm) (s:=s) v8 q hb
  have hnx:¬d.sJ[i].nm=s->∀k (hk:k<d.sJ.length),k<i+1->¬d.sJ[k].nm=s:=λq k hk h=>by
   by_cases z:k=i
   ·subst z;exact q
   ·exact hb k hk zo
  generalize d.sJ[i]=x at hg hhit hnx;by_cases hx:x.nm=s
  ·have hR:CY (Bd d) s= .sH [.int .i64 (8+(i:Int)),.bool true]:=by unfold CY;rw[l0,hhit hx];rfl
   rw[hR];simp only[eZ,seval,eY,AT v8,hg,e8,BS,BL hx];exact Wk.refl _
  ·simp only[eZ,seval,eY,AT v8,hg,e,BS,A5 hx];exact .mk (i+1) rfl ⟨v8,hnx hx⟩ zo
 obtain rfl:i=d.sJ.length:=zo
 have hR:CY (Bd d) s= .sH [.int .i64 0,.bool false]:=by unfold CY;rw[l0,JD (λx:x9=>x.nm) λk hk=>hb k hk hk];rfl
 rw[hR];simp only[eZ,seval,o6,Ah v8];exact Wk.refl _
def Nq{l:List Bs}:Ak l=true↔∃(a b:Nat) (ha:a<l.length) (hb:b<l.length),b<a/\l[a]=l[b]:=by
 constructor
 ·intro h;apply Classical.byContradiction;intro q;have:Ak l=false:=Cs.2 (List.nodup_iff_pairwise_ne.2 (pW.2 λi j hi hj hij e=>q ⟨j,i,hj,hi,hij,e.symm⟩));rw[this]at h;cases h
 ·rintro⟨a,b,ha,hb,hab,e⟩;cases h:Ak l with
  |true=>rfl
  |false=>exact absurd e.symm (pW.1 (List.nodup_iff_pairwise_ne.1 (Cs.1 h)) b a hb ha hab)
def gn(l:List Bs)(hl:sR l):A6 prog 107 [Fw l] (.bool (Ak l)):=by
 refine .mk ⟨Bo 0 _,zt⟩ zt (c107.a (AE AG.sE (AF ?_)));have sk:l.length<1000000000:=hl;simp only[eE,eN,seval,c107];refine AQ (λa:Nat=>⟨[(0,true,Fw l),(3,true,.int .i64 a)],Ac,0⟩) (λa=>a<=l.length/\∀x y (hx:x<l.length) (hy:y<l.length),x<a->y<x->¬l[x]=l[y]) (λa=>l.length-a)
  0 rfl ⟨oq _,λx y _ _ q=>absurd q (pD _)⟩ ?_
 rintro a ⟨ha,u9⟩;by_cases hla:a<l.length
 ·have uH:=o8 hla;have ea:=AI (k:=a) zo;simp only[eZ,seval,o6,AT hla];refine AQ (λb:Nat=>⟨[(0,true,Fw l),(3,true,.int .i64 a),(4,true,.int .i64 b)],Ac,0⟩) (λb=>b<=a/\∀y (hy:y<l.length),y<b->¬l[a]=l[y]) (λb=>a-b)
   0 rfl ⟨oq _,λy _ q=>absurd q (pD _)⟩ ?_
  rintro b ⟨am,hnb⟩;by_cases hlb:b<a
  ·have tp:b<l.length:=zo
   have s6:=o8 tp;have eb:=AI (k:=b) zo;by_cases me:l[a]=l[b]
   ·have hR:Ak l=true:=Nq.2 ⟨a,b,hla,tp,hlb,me⟩;rw[hR];generalize l[a]=la at uH me;generalize l[b]=lb at s6 me;simp only[eZ,seval,eY,AT hlb,AT hla,AT tp,uH,s6,BS,BL me]
   ·have hnx:∀y (hy:y<l.length),y<b+1->¬l[a]=l[y]:=λy hy q=>by
     by_cases z:y=b
     ·subst z;exact me
     ·exact hnb y hy zo
    generalize hA:l[a]=la at uH me;generalize hB:l[b]=lb at s6 me;simp only[eZ,seval,eY,AT hlb,AT hla,AT tp,uH,s6,BS,A5 me,eb];exact .mk (b+1) rfl ⟨hlb,λy hy q=>by rw[<-hA];exact hnx y hy q⟩ zo
  obtain rfl:b=a:=zo
  simp only[eZ,seval,Ah hlb,ea];refine .mk (b+1) rfl ⟨hla,λx y hx hy q1 q2=>?_⟩ zo;by_cases z:x=b
  ·subst z;exact hnb y hy q2
  ·exact u9 x y hx hy zo q2
 obtain rfl:a=l.length:=zo
 have hR:Ak l=false:=by
  cases q:Ak l with
  |false=>rfl
  |true=>
   obtain⟨x,y,hx,hy,u0,h2⟩:=Nq.1 q;exact absurd h2 (u9 x y hx hy hx u0)
 rw[hR];simp only[eZ,seval,o6,Ah hla]
def VG(l ss:List Bs):Fs:=match CI l ss with
 |some n=>.sH [.int .i64 n,.bool true]
 |none=>.sH [.int .i64 0,.bool false]
def Tsy:Bk:=AJ 252 (s2 dD dS (λd _=>zy d) λd s=>CY (d.sI.map (·.nm)) s) sE
def gq:AG prog Tsy:=AG.sE.add (q2 p252)
def p219(d:x8)(ss:List Bs)(hd:zy d)(h16:d.sI.length<=16)(hss:wide ss):A6 prog 219 [Ba d,Fw ss] (VG (d.sI.map (·.nm)) ss):=by
 refine .mk ⟨Ag 0 d,Bo 0 _,zt⟩ (by unfold VG;split<;>exact⟨zt,zt,zt⟩) (c219.a (AE gq (AF ?_)));have hsl:ss.length<1125899906842624:=hss;unfold VG;rw[<-R9];generalize hl:d.sI.map (·.nm)=l;have sk:l.length<=16:=by rw[<-hl,o6];exact h16
 simp only[eE,eN,seval,c219];refine AQ (λv:Nat×Nat=>⟨[(1,true,Fw ss),(2,true,.ptr 0 0),(6,true,.int .i64 v.2),(7,true,.int .i64 v.1)],sA Ac 0 (.box (AL d)),3⟩) (λv=>v.1<=ss.length/\v.2<65536/\Fz l 0 ss=Fz l v.2 (ss.drop v.1)) (λv=>ss.length-v.1) (0,0) rfl ⟨oq _,zd,rfl⟩ ?_;rintro⟨i,acc⟩ ⟨hi,hacc,heq⟩;simp only at hi hacc heq;by_cases e9:i<ss.length
 ·have hg:=o8 e9;have e:=AI (k:=i) zo;rw[oX e9,LP]at heq;generalize ss[i]=s at hg heq;cases u9:BQ l s with
  |none=>
   have tZ:CY l s= .sH [.int .i64 0,.bool false]:=by unfold CY;rw[u9]
   rw[u9]at heq;simp only at heq;rw[heq];simp only[eZ,seval,oh,eY,AT e9,hg,Tsy,s2,Az,Ap,Fc,Db,o7 hd,hl,tZ,AJ];exact Wk.refl _
  |some k=>
   have tZ:CY l s= .sH [.int .i64 k,.bool true]:=by unfold CY;rw[u9]
   rw[u9]at heq;simp only at heq;obtain⟨h0,h1⟩:=Oq u9;obtain⟨j,rfl⟩:∃j:Nat,k=j:=⟨k.toNat,zo⟩;rw[oH]at heq;simp only[eZ,seval,o9,eY,AT e9,hg,Tsy,s2,Az,Ap,Fc,Db,o7 hd,hl,tZ,U6 (show j<16 by omega),Zk hacc (QA (show j<16 by omega)),e,AJ];exact .mk (i+1,acc|||1<<<j) rfl ⟨e9,Nat.or_lt_two_pow (n:=16) hacc (QA zo),heq⟩ zp
 obtain rfl:i=ss.length:=zo
 rw[pA,NL]at heq;rw[heq];simp only[eZ,seval,o6,Ah e9];exact Wk.refl _
section
structure VNm where
 i:Nat
 tk:xv
 H:AB
 n:Nat
structure INm(d:x8)(lo m:Nat)(ns:List Bs)(v:VNm):Prop where
 hi:v.i<=m
 fr:AU v.H v.n
 hn:lo<=v.n
 h0:AD v.H 0=some (.box (AL d))
 tok:EG 1 lo v.H v.tk
 es:v.tk.esz=1\/ns=[]
def Dn{t:xv}{l:List Bs}(ht:t.esz=1\/l=[]):On.ok (.sl t (l.map .str))=True:=o7 ⟨ht.imp id λq=>by rw[q];rfl,by rw[Hv]⟩
def Cv{t:xv}(l:List Bs):On.dec (.sl t (l.map .str))=l:=Hv l
def tw:Bk:=AJ 107 (s1 On sR λl=>.bool (Ak l)) sE
def twS:List Fs->AB->Prop×Fs:=s1 On sR λl=>.bool (Ak l)
structure VRs(α:Type) where
 i:Nat
 tk:xv
 dn:List α
 H:AB
 n:Nat
structure IRs{α β:Type}(d:x8)(e:Nat)(l:List α)(f:α->Option β)(v:VRs β):Prop where
 hi:v.i<=l.length
 dl:v.dn.length=v.i
 fr:AU v.H v.n
 hn:3<=v.n
 h0:AD v.H 0=some (.box (AL d))
 tok:EG e 3 v.H v.tk
 es:v.tk.esz=e\/v.dn=[]
 eq:Ae f l=(Ae f (l.drop v.i)).map λr=>v.dn++r
variable {α:Type}
def Kv(init:List Bs)(f:α->Bs)(l:List α)(i:Nat):List Bs:=init++(l.take i).map f
theorem HS(init:List Bs)(f:α->Bs){l:List α}{i:Nat}(h:i<l.length):Kv init f l (i+1)=Kv init f l i++[f l[i]]:=by
 unfold Kv;rw[map_take h,oT]
theorem JE(init:List Bs)(f:α->Bs)(l:List α)(i:Nat):(Kv init f l i).length<=init.length+i:=by
 unfold Kv;rw[ou,o6,oJ];omega
theorem JF(init:List Bs)(f:α->Bs)(l:List α):Kv init f l l.length=init++l.map f:=by
 unfold Kv;rw[oF]
def Dr(d:x8):Fs:=if Ak (d.sD.map λx:x7=>x.nm)=true then .sH [EY [],.int .i64 161]else match Ae (Bq d) d.sD with
 |none=>.sH [EY [],.int .i64 160]
 |some cs=>.sH [EY cs,.int .i64 0]
def Tcv:Bk:=AJ 107 twS (AJ 173 (s2 dD dS (λd _=>zy d) λd s=>CY (Bd d) s) sE)
theorem gu:AG prog Tcv:=(AG.sE.add (q2 p173)).add (q1 gn)
theorem en(a:List Fs)(H:AB):Tcv 107 a H=s1 On sR (λl=>.bool (Ak l)) a H:=rfl
theorem eo(a:List Fs)(H:AB):Tcv 173 a H=s2 dD dS (λd _=>zy d) (λd s=>CY (Bd d) s) a H:=rfl
theorem hU{a b:Fs}{e:Int}(h:Wk a b):Wk (.sH [a,.int .i64 e]) (.sH [b,.int .i64 e]):=Wk.sH (.cons h (.cons (Wk.refl _) .nil))
theorem p109(d:x8)(hd:zy d):A6 prog 109 [Ba d] (Dr d):=by
 refine .mk ⟨Ag 0 d,zt⟩ (by unfold Dr;split;exact⟨Ey 0 _,zt,zt⟩;split<;>exact⟨Ey 0 _,zt,zt⟩) (c109.a (AE gu (AF ?_)));have hcl:d.sD.length<1000000000:=hd.cl;simp only[eE,eN,seval,c109];refine AQ (λv:VNm=>⟨[(1,true,.ptr 0 0),(4,true,.sl v.tk ((Kv [] (λx:x7=>x.nm) d.sD v.i).map .str)),(5,true,.int .i64 v.i)],v.H,v.n⟩) (λv=>INm d 3 d.sD.length (Kv [] (λx:x7=>x.nm) d.sD v.i) v) (λv=>d.sD.length-v.i)
  ⟨0,.nil,sA Ac 0 (.box (AL d)),3⟩ rfl ⟨oq _,AU.nil.sA (m:=3) (oq 3) (show 0<3 by decide),od _,rfl,.inl rfl,.inr rfl⟩ ?_
 rintro⟨i,tk,H,n⟩ ⟨hi,l0,hn,h0,l6,s9⟩;simp only at hi l0 hn h0 l6 s9;by_cases e9:i<d.sD.length
 ·have hg:=o8 e9;have e:=AI (k:=i) zo;have te:=HS [] (λx:x7=>x.nm) e9;have hnl:=JE [] (λx:x7=>x.nm) d.sD i;have hil:([]:List Bs).length<=8:=zd
  generalize d.sD[i]=x at hg te;generalize hL:Kv [] (λx:x7=>x.nm) d.sD i=L at te l6 s9 hnl⊢;have q1:At H 1 tk=True:=o7 l6.app;have q2:(L.length<=35184372088831)=True:=o7 zo;have q3:small (L.length+1) 16=True:=o7 (by unfold small;omega);simp only[eZ,seval,eY,AT e9,hg,e,h0,Bx l0,q1,q2,q3];refine .mk ⟨i+1,.own (n+8) 1,sA (AR H tk) (n+8) .tok,n+10⟩ ?_ ?_ zp
  ·simp only[te,oD];rfl
  ·refine⟨e9,(AZ l6 l0).sA (m:=n+10) zo zo,zp,?_,.inr (.inr ⟨n+8,rfl,zo,AC ..⟩),.inl rfl⟩;simp only[];rw[AA _ _ _ _ zo,Ai l6 (.inr ⟨_,h0⟩)];exact h0
 obtain rfl:i=d.sD.length:=zo
 have hNA:=JF [] (λx:x7=>x.nm) d.sD;have hil:([]:List Bs).length<=8:=zd
 rw[hNA]at s9;have hnf:sR (d.sD.map λx:x7=>x.nm):=show(d.sD.map λx:x7=>x.nm).length<_ by first|(rw[o6];omega)|(rw[ou,o6];omega)
 rw[oW]at hNA s9;cases ht:Ak (d.sD.map λx:x7=>x.nm)with
 |true=>
  have hR:Dr d= .sH [EY [],.int .i64 161]:=by unfold Dr;rw[oE ht]
  rw[hR];simp only[eZ,seval,o6,Ah e9,h0,hNA,en,s1,Dn s9,Cv,o7 hnf,ht];exact hU (Wk.sl (.inr rfl))
 |false=>
 have hR:Dr d=match Ae (Bq d) d.sD with
  |none=>.sH [EY [],.int .i64 160]
  |some cs=>.sH [EY cs,.int .i64 0]:=by unfold Dr;rw[og (by rw[ht];decide)]
 rw[hR];simp only[eZ,seval,o6,Ah e9,h0,hNA,en,s1,Dn s9,Cv,o7 hnf,ht];refine AQ (λv:VRs x7=>⟨[(1,true,.ptr 0 0),(6,true,.sl v.tk (v.dn.map BO)),(7,true,.int .i64 v.i)],v.H,v.n⟩) (IRs d 6 d.sD (Bq d)) (λv=>d.sD.length-v.i)
  ⟨0,.nil,[],H,n⟩ rfl ⟨oq _,rfl,l0,hn,h0,.inl rfl,.inr rfl,by simp only[qC];cases Ae (Bq d) d.sD<;>rfl⟩ ?_
 rintro⟨j,tk,dn,H1,n1⟩ ⟨hj,hdl,t7,w7,z9,v9,he1,heq⟩;simp only at hj hdl t7 w7 z9 v9 he1 heq;by_cases t8:j<d.sD.length
 ·have hg:=o8 t8;have e:=AI (k:=j) zo;rw[oX t8,EZ]at heq;generalize d.sD[j]=c at hg heq;have y0:∀q,(n1+q=0)=False:=λq=>oA zo
  cases u9:BQ (Bd d) c.on with
  |none=>
   have tZ:CY (Bd d) c.on= .sH [.int .i64 0,.bool false]:=by unfold CY;rw[u9]
   rw[show Bq d c=none by unfold Bq;rw[u9];rfl]at heq;simp only[qd]at heq;rw[heq];simp only[eZ,seval,oh,eY,AT t8,hg,z9,Bx t7,y0,AH,eo,s2,Az,Ap,Fc,Db,o7 hd,tZ];exact hU (Wk.sl (.inr rfl))
  |some f=>
   have tZ:CY (Bd d) c.on= .sH [.int .i64 f,.bool true]:=by unfold CY;rw[u9]
   rw[show Bq d c=some {c with tQ:=f}by unfold Bq;rw[u9];rfl]at heq;simp only at heq;have q1:∀ob1,At (sA H1 (n1+5) ob1) 6 tk=True:=λob1=>o7 (v9.set (.inr (.inr (Bx t7 5)))).app
   have q2:(dn.length<=35184372088831)=True:=o7 zo;have q3:small (dn.length+1) 64=True:=o7 (AY zo zd);simp only[eZ,seval,o9,eY,AT t8,hg,e,z9,Bx t7,y0,AH,eo,s2,Az,Ap,Fc,Db,o7 hd,tZ,q1,q2,q3];obtain⟨H2,hH2⟩:∃H2,H2=sA H1 (n1+5) (.box (BO {c with tQ:=f}).cells):=⟨_,rfl⟩;have gt:EG 6 3 H2 tk:=by rw[hH2];exact v9.set (.inr (.inr (Bx t7 5)))
   have gf:AU H2 (n1+12):=by rw[hH2];exact t7.sA (m:=n1+12) zo zo
   have g0:AD H2 0=some (.box (AL d)):=by rw[hH2,AA _ _ _ _ zo];exact z9
   refine .mk ⟨j+1,.own (n1+10) 6,dn++[{c with tQ:=f}],sA (AR H2 tk) (n1+10) .tok,n1+12⟩ ?_ ?_ zp
   ·rw[hH2];simp only[oD];rfl
   ·refine⟨t8,by simp [hdl],(AZ gt gf).sA (od _) (show n1+10<n1+12 by omega),zp,?_,.inr (.inr ⟨n1+10,rfl,zo,AC ..⟩),.inl rfl,?_⟩
    ·simp only[];rw[AA _ _ _ _ zo,Ai gt (.inl zo)];exact g0
    ·simp only[];rw[heq];cases Ae (Bq d) (d.sD.drop (j+1))<;>simp
 obtain rfl:j=d.sD.length:=zo
 rw[pA]at heq;have heq:Ae (Bq d) d.sD=some dn:=by rw[heq];simp [Ae]
 rw[heq];simp only[eZ,seval,o6,Ah t8,z9];exact hU (Wk.sl (he1.imp id λq=>by rw[q];rfl))
def QH(d:x8)(r:zj):zj×Bool:=match (if r.on=[]then some 0 else BQ (Bd d) r.on)with
 |none=>({r with tQ:=0},false)
 |some f=>match (if r.tY=[]then some (-1)else BQ (d.sD.map (·.nm)) r.tY)with
  |none=>({r with tQ:=f,set:=(CI (d.sI.map (·.nm)) r.ns).getD 0,sU:=(CI (d.sI.map (·.nm)) r.os).getD 0,sM:=-1},false)
  |some c=>({r with tQ:=f,set:=(CI (d.sI.map (·.nm)) r.ns).getD 0,sU:=(CI (d.sI.map (·.nm)) r.os).getD 0,sM:=c},(CI (d.sI.map (·.nm)) r.ns).isSome&&(CI (d.sI.map (·.nm)) r.os).isSome)
theorem W7(d:x8)(r:zj):BJ d r=if(QH d r).2=true then some (QH d r).1 else none:=by
 unfold BJ QH;cases (if r.on=[]then some 0 else BQ (Bd d) r.on)with
 |none=>rfl
 |some f=>
 cases (if r.tY=[]then some (-1)else BQ (d.sD.map (·.nm)) r.tY)with
 |none=>cases CI (d.sI.map (·.nm)) r.ns<;>cases CI (d.sI.map (·.nm)) r.os<;>rfl
 |some c=>cases CI (d.sI.map (·.nm)) r.ns<;>cases CI (d.sI.map (·.nm)) r.os<;>rfl
abbrev Tr(x:zj×Bool):Fs:=.sH [Ao x.1,.bool x.2]
theorem J6(l ss:List Bs):VG l ss= .sH [.int .i64 ((CI l ss).getD 0),.bool (CI l ss).isSome]:=by unfold VG;cases CI l ss<;>rfl
def er:Bk:=AJ 173 (s2 dD dS (λd _=>zy d) λd s=>CY (Bd d) s) (AJ 220 (s2 dD dS (λd _=>zy d) λd s=>CY (d.sD.map (·.nm)) s) (AJ 219 (s2 dD On (λd ss=>zy d/\d.sI.length<=16/\wide ss) λd ss=>VG (d.sI.map (·.nm)) ss) sE))
theorem hY:AG prog er:=((AG.sE.add (q2 λd ss h=>p219 d ss h.1 h.2.1 h.2.2)).add (q2 p220)).add (q2 p173)
theorem p174(d:x8)(r:zj)(hd:zy d)(h16:d.sI.length<=16)(hr:GK r):A6 prog 174 [Ba d,Ao r] (Tr (QH d r)):=by
 refine .mk ⟨Ag 0 d,BA 0 r,zt⟩ ⟨BA 0 _,zt,zt⟩ (Rq.a (AE hY (AF ?_)));have uJ:=o7 (⟨hd,h16,hr.1⟩:zy d/\d.sI.length<=16/\wide r.ns);have hs2:=o7 (⟨hd,h16,hr.2⟩:zy d/\d.sI.length<=16/\wide r.os);unfold QH;by_cases h1:r.on=[]
 ·rw[oE h1];by_cases h2:r.tY=[]
  ·rw[oE h2];simp only[eZ,seval,o9,eY,Au,Rq,Ay,BL h1,BL h2,er,s2,Az,Ap,FU,Do,o7 hd,o7 h16,o7 hr.1,o7 hr.2,J6,AJ];exact Wk.refl _
  ·rw[og h2];cases hc:BQ (d.sD.map (·.nm)) r.tY with
   |none=>
    have tZ:CY (d.sD.map (·.nm)) r.tY= .sH [.int .i64 0,.bool false]:=by unfold CY;rw[hc]
    simp only[eZ,seval,o9,oh,eY,Au,Rq,Ay,BL h1,A5 h2,er,s2,Az,Ap,FU,Do,Fc,Db,o7 hd,o7 h16,o7 hr.1,o7 hr.2,J6,tZ,AJ];exact Wk.refl _
   |some c=>
    have tZ:CY (d.sD.map (·.nm)) r.tY= .sH [.int .i64 c,.bool true]:=by unfold CY;rw[hc]
    simp only[eZ,seval,o9,oh,eY,Au,Rq,Ay,BL h1,A5 h2,er,s2,Az,Ap,FU,Do,Fc,Db,o7 hd,o7 h16,o7 hr.1,o7 hr.2,J6,tZ,AJ];exact Wk.refl _
 ·rw[og h1];cases hf:BQ (Bd d) r.on with
  |none=>
   have hnf:CY (Bd d) r.on= .sH [.int .i64 0,.bool false]:=by unfold CY;rw[hf]
   simp only[eZ,seval,oh,eY,Au,Rq,Ay,A5 h1,er,s2,Az,Ap,Fc,Db,o7 hd,hnf,AJ];exact Wk.refl _
  |some f=>
   have hnf:CY (Bd d) r.on= .sH [.int .i64 f,.bool true]:=by unfold CY;rw[hf]
   by_cases h2:r.tY=[]
   ·rw[oE h2];simp only[eZ,seval,o9,oh,eY,Au,Rq,Ay,A5 h1,BL h2,er,s2,Az,Ap,FU,Do,Fc,Db,o7 hd,o7 h16,o7 hr.1,o7 hr.2,J6,hnf,AJ];exact Wk.refl _
   ·rw[og h2];cases hc:BQ (d.sD.map (·.nm)) r.tY with
    |none=>
     have tZ:CY (d.sD.map (·.nm)) r.tY= .sH [.int .i64 0,.bool false]:=by unfold CY;rw[hc]
     simp only[eZ,seval,o9,oh,eY,Au,Rq,Ay,A5 h1,A5 h2,er,s2,Az,Ap,FU,Do,Fc,Db,o7 hd,o7 h16,o7 hr.1,o7 hr.2,J6,hnf,tZ,AJ];exact Wk.refl _
    |some c=>
     have tZ:CY (d.sD.map (·.nm)) r.tY= .sH [.int .i64 c,.bool true]:=by unfold CY;rw[hc]
     simp only[eZ,seval,o9,oh,eY,Au,Rq,Ay,A5 h1,A5 h2,er,s2,Az,Ap,FU,Do,Fc,Db,o7 hd,o7 h16,o7 hr.1,o7 hr.2,J6,hnf,tZ,AJ];exact Wk.refl _
def EI(d:x8):Fs:=if Ak (d.sC.map λx:zj=>x.nm)=true then .sH [DT [],.int .i64 161]else match Ae (BJ d) d.sC with
 |none=>.sH [DT [],.int .i64 160]
 |some cs=>.sH [DT cs,.int .i64 0]
def Trv:Bk:=AJ 107 twS (AJ 174 (s2 dD Kj (λd r=>zy d/\d.sI.length<=16/\GK r) λd r=>Tr (QH d r)) sE)
theorem iA:AG prog Trv:=(AG.sE.add (q2 λd r h=>p174 d r h.1 h.2.1 h.2.2)).add (q1 gn)
theorem et(a:List Fs)(H:AB):Trv 107 a H=s1 On sR (λl=>.bool (Ak l)) a H:=rfl
theorem eu(a:List Fs)(H:AB):Trv 174 a H=s2 dD Kj (λd r=>zy d/\d.sI.length<=16/\GK r) (λd r=>Tr (QH d r)) a H:=rfl
theorem p110(d:x8)(hd:zy d)(h16:d.sI.length<=16):A6 prog 110 [Ba d] (EI d):=by
 refine .mk ⟨Ag 0 d,zt⟩ (by unfold EI;split;exact⟨DM 0 _,zt,zt⟩;split<;>exact⟨DM 0 _,zt,zt⟩) (c110.a (AE iA (AF ?_)));have hcl:d.sC.length<1000000000:=hd.ru;simp only[eE,eN,seval,c110];refine AQ (λv:VNm=>⟨[(1,true,.ptr 0 0),(4,true,.sl v.tk ((Kv [] (λx:zj=>x.nm) d.sC v.i).map .str)),(5,true,.int .i64 v.i)],v.H,v.n⟩) (λv=>INm d 3 d.sC.length (Kv [] (λx:zj=>x.nm) d.sC v.i) v) (λv=>d.sC.length-v.i)
  ⟨0,.nil,sA Ac 0 (.box (AL d)),3⟩ rfl ⟨oq _,AU.nil.sA (m:=3) (oq 3) (show 0<3 by decide),od _,rfl,.inl rfl,.inr rfl⟩ ?_
 rintro⟨i,tk,H,n⟩ ⟨hi,l0,hn,h0,l6,s9⟩;simp only at hi l0 hn h0 l6 s9;by_cases e9:i<d.sC.length
 ·have hg:=o8 e9;have e:=AI (k:=i) zo;have te:=HS [] (λx:zj=>x.nm) e9;have hnl:=JE [] (λx:zj=>x.nm) d.sC i;have hil:([]:List Bs).length<=8:=zd
  generalize d.sC[i]=x at hg te;generalize hL:Kv [] (λx:zj=>x.nm) d.sC i=L at te l6 s9 hnl⊢;have q1:At H 1 tk=True:=o7 l6.app;have q2:(L.length<=35184372088831)=True:=o7 zo;have q3:small (L.length+1) 16=True:=o7 (by unfold small;omega);simp only[eZ,seval,eY,AT e9,hg,e,h0,Bx l0,q1,q2,q3];refine .mk ⟨i+1,.own (n+8) 1,sA (AR H tk) (n+8) .tok,n+10⟩ ?_ ?_ zp
  ·simp only[te,oD];rfl
  ·refine⟨e9,(AZ l6 l0).sA (m:=n+10) zo zo,zp,?_,.inr (.inr ⟨n+8,rfl,zo,AC ..⟩),.inl rfl⟩;simp only[];rw[AA _ _ _ _ zo,Ai l6 (.inr ⟨_,h0⟩)];exact h0
 obtain rfl:i=d.sC.length:=zo
 have hNA:=JF [] (λx:zj=>x.nm) d.sC;have hil:([]:List Bs).length<=8:=zd
 rw[hNA]at s9;have hnf:sR (d.sC.map λx:zj=>x.nm):=show(d.sC.map λx:zj=>x.nm).length<_ by first|(rw[o6];omega)|(rw[ou,o6];omega)
 rw[oW]at hNA s9;cases ht:Ak (d.sC.map λx:zj=>x.nm)with
 |true=>
  have hR:EI d= .sH [DT [],.int .i64 161]:=by unfold EI;rw[oE ht]
  rw[hR];simp only[eZ,seval,o6,Ah e9,h0,hNA,et,s1,Dn s9,Cv,o7 hnf,ht];exact hU (Wk.sl (.inr rfl))
 |false=>
 have hR:EI d=match Ae (BJ d) d.sC with
  |none=>.sH [DT [],.int .i64 160]
  |some cs=>.sH [DT cs,.int .i64 0]:=by unfold EI;rw[og (by rw[ht];decide)]
 rw[hR];simp only[eZ,seval,o6,Ah e9,h0,hNA,et,s1,Dn s9,Cv,o7 hnf,ht];refine AQ (λv:VRs zj=>⟨[(1,true,.ptr 0 0),(6,true,.sl v.tk (v.dn.map Ao)),(7,true,.int .i64 v.i)],v.H,v.n⟩) (IRs d 12 d.sC (BJ d)) (λv=>d.sC.length-v.i)
  ⟨0,.nil,[],H,n⟩ rfl ⟨oq _,rfl,l0,hn,h0,.inl rfl,.inr rfl,by simp only[qC];cases Ae (BJ d) d.sC<;>rfl⟩ ?_
 rintro⟨j,tk,dn,H1,n1⟩ ⟨hj,hdl,t7,w7,z9,v9,he1,heq⟩;simp only at hj hdl t7 w7 z9 v9 he1 heq;by_cases t8:j<d.sC.length
 ·have hg:=o8 t8;have e:=AI (k:=j) zo;have hrf:=hd.rus _ (oK t8);rw[oX t8,EZ]at heq;generalize d.sC[j]=r at hg heq hrf;have y0:∀q,(n1+q=0)=False:=λq=>oA zo
  rw[W7]at heq;obtain⟨r',ok,hv⟩:∃a b,QH d r=(a,b):=⟨_,_,rfl⟩;rw[hv]at heq;have u1:sN 0 [Ba d,Ao r]=True:=o7 ⟨Ag 0 d,BA 0 r,zt⟩;have u2:∀b,Fs.under 0 (Tr (r',b))=True:=λb=>o7 ⟨BA 0 _,zt,zt⟩
  cases ok with
  |false=>
   simp only[oP,pb,qd]at heq;rw[heq];simp only[eZ,seval,oh,eY,AT t8,hg,z9,Bx t7,AH,eu,s2,Az,Ap,B0,BU,o7 hd,o7 h16,o7 hrf,hv,u1,u2];exact hU (Wk.sl (.inr rfl))
  |true=>
   simp only[pG]at heq;have q1:∀ob1,At (sA H1 (n1+10) ob1) 12 tk=True:=λob1=>o7 (v9.set (.inr (.inr (Bx t7 10)))).app
   have q2:(dn.length<=35184372088831)=True:=o7 zo;have q3:small (dn.length+1) 152=True:=o7 (AY zo zd);simp only[eZ,seval,o9,eY,AT t8,hg,e,z9,Bx t7,AH,eu,s2,Az,Ap,B0,BU,o7 hd,o7 h16,o7 hrf,hv,u1,u2,q1,q2,q3];obtain⟨H2,hH2⟩:∃H2,H2=sA H1 (n1+10) (.box (BT r')):=⟨_,rfl⟩;have gt:EG 12 3 H2 tk:=by rw[hH2];exact v9.set (.inr (.inr (Bx t7 10)))
   have gf:AU H2 (n1+18):=by rw[hH2];exact t7.sA (m:=n1+18) zo zo
   have g0:AD H2 0=some (.box (AL d)):=by rw[hH2,AA _ _ _ _ zo];exact z9
   refine .mk ⟨j+1,.own (n1+16) 12,dn++[r'],sA (AR H2 tk) (n1+16) .tok,n1+18⟩ ?_ ?_ zp
   ·rw[hH2];simp only[oD];rfl
   ·refine⟨t8,by simp [hdl],(AZ gt gf).sA (od _) (show n1+16<n1+18 by omega),zp,?_,.inr (.inr ⟨n1+16,rfl,zo,AC ..⟩),.inl rfl,?_⟩
    ·simp only[];rw[AA _ _ _ _ zo,Ai gt (.inl zo)];exact g0
    ·simp only[];rw[heq];cases Ae (BJ d) (d.sC.drop (j+1))<;>simp
 obtain rfl:j=d.sC.length:=zo
 rw[pA]at heq;have heq:Ae (BJ d) d.sC=some dn:=by rw[heq];simp [Ae]
 rw[heq];simp only[eZ,seval,o6,Ah t8,z9];exact hU (Wk.sl (he1.imp id λq=>by rw[q];rfl))
end
def aI:Fs:=.sl (.exact 1) (CL.map .str)
def pGvX:A6 prog 108 [] aI:=by
 refine .mk zt (Bo 0 CL) (d5.a (AE AG.sE (AF ?_)));simp only[eE,eN,seval,d5];exact Wk.refl _
def nN:List Fs->AB->Prop×Fs:=λa _=>match a with
 |[]=>(True,aI)
 |_=>(False,.sH [])
def qGx:∀args H n,(nN args H).1->Ad prog 108 args H n (nN args H).2:=by
 intro args H n hh;unfold nN at hh⊢;split at hh
 ·exact pGvX.quiet H n
 ·exact hh.elim
def Tre:Bk:=AJ 107 twS (AJ 108 nN (AJ 109 (s1 dD zy Dr) (AJ 110 (s1 dD (λd=>zy d/\d.sI.length<=16) EI) sE)))
def iC:AG prog Tre:=(((AG.sE.add (q1 λd h=>p110 d h.1 h.2)).add (q1 p109)).add qGx).add (q1 gn)
theorem Kw(a:List Fs)(H:AB):Tre 107 a H=s1 On sR (λl=>.bool (Ak l)) a H:=rfl
theorem Tre_g(a:List Fs)(H:AB):Tre 108 a H=nN a H:=rfl
theorem QI(a:List Fs)(H:AB):Tre 109 a H=s1 dD zy Dr a H:=rfl
theorem W9(a:List Fs)(H:AB):Tre 110 a H=s1 dD (λd=>zy d/\d.sI.length<=16) EI a H:=rfl
def iD{e:Int}:Wk (.sH [.agg Iq,.int .i64 e]) (.sH [Ba G6,.int .i64 e]):=hU (wk_Dk (Wk.sl (.inr rfl)) (Wk.sl (.inr rfl)) (Wk.sl (.inr rfl)) (Wk.sl (.inr rfl)) (Wk.sl (.inr rfl)))
def p67(d:x8)(hd:zy d)(hq9:d.sJ.length<999999000):A6 prog 67 [Ba d] (CV d):=by
 refine .mk ⟨Ag 0 d,zt⟩ (by unfold CV;split<;>exact⟨Ag 0 _,zt,zt⟩) (c67.a (AE iC (AF ?_)));have hsl:d.sI.length<1000000000:=hd.sy;have ua:d.sJ.length<1000000000:=hd.rg;have hE:∀e,B3 d= .error e->CV d= .sH [Ba G6,.int .i64 e]:=λe h=>by unfold CV;rw[h]
 have hO:∀x,B3 d= .ok x->CV d= .sH [Ba x,.int .i64 0]:=λx h=>by unfold CV;rw[h]
 by_cases h16:16<d.sI.length
 ·have hb:((16:Int)<(d.sI.length:Int))=True:=o7 zo;rw[hE 2 (by unfold B3;rw[oE h16])];simp only[eZ,seval,Au,o6,c67,hb];exact iD
 have hb:((16:Int)<(d.sI.length:Int))=False:=oA zo;have h16':d.sI.length<=16:=zo
 simp only[eZ,seval,o6,c67,hb];refine AQ (λv:VNm=>⟨[(1,true,.ptr 0 0),(2,true,.ptr 1 0),(4,true,.sl v.tk ((Kv [] (λx:xz=>x.nm) d.sI v.i).map .str)),(5,true,.int .i64 v.i)],v.H,v.n⟩) (λv=>(AD v.H 1=some (.box Iq))/\INm d 3 d.sI.length (Kv [] (λx:xz=>x.nm) d.sI v.i) v) (λv=>d.sI.length-v.i)
  ⟨0,.nil,sA (sA Ac 0 (.box (AL d))) 1 (.box Iq),3⟩ rfl ⟨rfl,oq _,(AU.nil.sA (m:=3) (oq 3) (show 0<3 by decide)).sA (od 3) (show 1<3 by decide),od _,rfl,.inl rfl,.inr rfl⟩ ?_
 rintro⟨i,tk,H,n⟩ ⟨h1,hi,l0,hn,h0,l6,s9⟩;simp only at h1 hi l0 hn h0 l6 s9;by_cases e9:i<d.sI.length
 ·have hg:=o8 e9;have e:=AI (k:=i) zo;have te:=HS [] (λx:xz=>x.nm) e9;have hnl:=JE [] (λx:xz=>x.nm) d.sI i;have hil:([]:List Bs).length<=8:=zd
  generalize d.sI[i]=x at hg te;generalize hL:Kv [] (λx:xz=>x.nm) d.sI i=L at te l6 s9 hnl⊢;have q1:At H 1 tk=True:=o7 l6.app;have q2:(L.length<=35184372088831)=True:=o7 zo;have q3:small (L.length+1) 16=True:=o7 (by unfold small;omega);simp only[eZ,seval,eY,AT e9,hg,e,h0,Bx l0,q1,q2,q3];refine .mk ⟨i+1,.own (n+8) 1,sA (AR H tk) (n+8) .tok,n+10⟩ ?_ ?_ zp
  ·simp only[te,oD];rfl
  ·refine⟨by simp only[];rw[AA _ _ _ _ zo,Ai l6 (.inr ⟨_,h1⟩)];exact h1,e9,(AZ l6 l0).sA (m:=n+10) zo zo,zp,?_,.inr (.inr ⟨n+8,rfl,zo,AC ..⟩),.inl rfl⟩;simp only[];rw[AA _ _ _ _ zo,Ai l6 (.inr ⟨_,h0⟩)];exact h0
 obtain rfl:i=d.sI.length:=zo
 have hNA:=JF [] (λx:xz=>x.nm) d.sI;have hil:([]:List Bs).length<=8:=zd
 rw[hNA]at s9;have hnf:sR (d.sI.map λx:xz=>x.nm):=show(d.sI.map λx:xz=>x.nm).length<_ by first|(rw[o6];omega)|(unfold Bd;rw[ou,o6];omega)
 rw[oW]at hNA s9;cases ht:Ak (d.sI.map λx:xz=>x.nm)with
 |true=>
  rw[hE 161 (by unfold B3;rw[og h16,oE ht])];simp only[eZ,seval,Au,o6,Ah e9,h0,h1,hNA,Kw,s1,Dn s9,Cv,o7 hnf,ht];exact iD
 |false=>
 have hgx:nN []=λ_=>(True,aI):=rfl
 have hg0:aI= .sl (.exact 1) ((Kv CL (λx:x9=>x.nm) d.sJ 0).map .str):=by unfold Kv;rw[pZ,pc,oR];rfl
 simp only[eZ,seval,o6,Ah e9,h0,hNA,Kw,Tre_g,hgx,s1,Dn s9,Cv,o7 hnf,ht];rw[hg0];clear s9 l6 hi e9 hNA hil hnf;refine AQ (λv:VNm=>⟨[(1,true,.ptr 0 0),(2,true,.ptr 1 0),(6,true,.sl v.tk ((Kv CL (λx:x9=>x.nm) d.sJ v.i).map .str)),(7,true,.int .i64 v.i)],v.H,v.n⟩) (λv=>(AD v.H 1=some (.box Iq))/\INm d 3 d.sJ.length (Kv CL (λx:x9=>x.nm) d.sJ v.i) v) (λv=>d.sJ.length-v.i)
  ⟨0,.exact 1,H,n⟩ rfl ⟨h1,oq _,l0,hn,h0,.inr (.inl rfl),.inl rfl⟩ ?_
 rintro⟨i,tk,H,n⟩ ⟨h1,hi,l0,hn,h0,l6,s9⟩;simp only at h1 hi l0 hn h0 l6 s9;by_cases e9:i<d.sJ.length
 ·have hg:=o8 e9;have e:=AI (k:=i) zo;have te:=HS CL (λx:x9=>x.nm) e9;have hnl:=JE CL (λx:x9=>x.nm) d.sJ i;have hil:(CL:List Bs).length<=8:=zd
  generalize d.sJ[i]=x at hg te;generalize hL:Kv CL (λx:x9=>x.nm) d.sJ i=L at te l6 s9 hnl⊢;have q1:At H 1 tk=True:=o7 l6.app;have q2:(L.length<=35184372088831)=True:=o7 zo;have q3:small (L.length+1) 16=True:=o7 (by unfold small;omega);simp only[eZ,seval,eY,AT e9,hg,e,h0,Bx l0,q1,q2,q3];refine .mk ⟨i+1,.own (n+8) 1,sA (AR H tk) (n+8) .tok,n+10⟩ ?_ ?_ zp
  ·simp only[te,oD];rfl
  ·refine⟨by simp only[];rw[AA _ _ _ _ zo,Ai l6 (.inr ⟨_,h1⟩)];exact h1,e9,(AZ l6 l0).sA (m:=n+10) zo zo,zp,?_,.inr (.inr ⟨n+8,rfl,zo,AC ..⟩),.inl rfl⟩;simp only[];rw[AA _ _ _ _ zo,Ai l6 (.inr ⟨_,h0⟩)];exact h0
 obtain rfl:i=d.sJ.length:=zo
 have hNA:=JF CL (λx:x9=>x.nm) d.sJ;have hil:(CL:List Bs).length<=8:=zd
 rw[hNA]at s9;have hnf:sR (Bd d):=show(Bd d).length<_ by first|(rw[o6];omega)|(unfold Bd;rw[ou,o6];omega)
 cases y9:Ak (Bd d)with
 |true=>
  rw[hE 161 (by unfold B3;rw[og h16,og (by rw[ht];decide),oE y9])];have hNA:Kv CL (λx:x9=>x.nm) d.sJ d.sJ.length=Bd d:=hNA;have s9:tk.esz=1\/Bd d=[]:=s9;simp only[eZ,seval,Au,o6,Ah e9,h0,h1,hNA,Kw,s1,Dn s9,Cv,o7 hnf,y9];exact iD
 |false=>
 have hNA:Kv CL (λx:x9=>x.nm) d.sJ d.sJ.length=Bd d:=hNA;have s9:tk.esz=1\/Bd d=[]:=s9;have uq:B3 d=if Ak (d.sD.map λx:x7=>x.nm)=true then .error 161 else match Ae (Bq d) d.sD with
   |none=>.error 160
   |some cs=>if Ak (d.sC.map λx:zj=>x.nm)=true then .error 161 else match Ae (BJ d) d.sC with
    |none=>.error 160
    |some rs=>.ok {d with sD:=cs,sC:=rs}:=by unfold B3;rw[og h16,og (by rw[ht];decide),og (by rw[y9];decide)];rfl
 have base:=λ(X:Fs) (hX:Dr d=X)=>hX
 cases ht3:Ak (d.sD.map λx:x7=>x.nm)with
 |true=>
  have hc:Dr d= .sH [EY [],.int .i64 161]:=by unfold Dr;rw[oE ht3]
  rw[hE 161 (by rw[uq,oE ht3])];simp only[eZ,seval,oh,eY,Au,Ah e9,h0,h1,hNA,Kw,QI,s1,Dn s9,Cv,Az,Ap,o7 hd,o7 hnf,y9,hc];exact iD
 |false=>
 rw[og (by rw[ht3];decide)]at uq;cases hcs:Ae (Bq d) d.sD with
 |none=>
  have hc:Dr d= .sH [EY [],.int .i64 160]:=by unfold Dr;rw[og (by rw[ht3];decide),hcs]
  rw[hE 160 (by rw[uq,hcs])];simp only[eZ,seval,oh,eY,Au,Ah e9,h0,h1,hNA,Kw,QI,s1,Dn s9,Cv,Az,Ap,o7 hd,o7 hnf,y9,hc];exact iD
 |some cs=>
 have hc:Dr d= .sH [EY cs,.int .i64 0]:=by unfold Dr;rw[og (by rw[ht3];decide),hcs]
 rw[hcs]at uq;simp only at uq;cases ht4:Ak (d.sC.map λx:zj=>x.nm)with
 |true=>
  have hr:EI d= .sH [DT [],.int .i64 161]:=by unfold EI;rw[oE ht4]
  rw[hE 161 (by rw[uq,oE ht4])];simp only[eZ,seval,o9,oh,eY,Au,Ah e9,h0,h1,hNA,Kw,QI,W9,s1,Dn s9,Cv,Az,Ap,o7 hd,o7 h16',o7 hnf,y9,hc,hr];exact iD
 |false=>
 rw[og (by rw[ht4];decide)]at uq;cases hrs:Ae (BJ d) d.sC with
 |none=>
  have hr:EI d= .sH [DT [],.int .i64 160]:=by unfold EI;rw[og (by rw[ht4];decide),hrs]
  rw[hE 160 (by rw[uq,hrs])];simp only[eZ,seval,o9,oh,eY,Au,Ah e9,h0,h1,hNA,Kw,QI,W9,s1,Dn s9,Cv,Az,Ap,o7 hd,o7 h16',o7 hnf,y9,hc,hr];exact iD
 |some rs=>
  have hr:EI d= .sH [DT rs,.int .i64 0]:=by unfold EI;rw[og (by rw[ht4];decide),hrs]
  rw[hO _ (by rw[uq,hrs])];simp only[eZ,seval,o9,eY,Au,Ah e9,h0,h1,hNA,Kw,QI,W9,s1,Dn s9,Cv,Az,Ap,o7 hd,o7 h16',o7 hnf,y9,hc,hr,AH];exact Wk.refl _
abbrev Gm(d:x8):Prop:=zy d/\d.sJ.length<999999000
def iE:Bk:=AJ 67 (s1 dD Gm CV) (AJ 111 (s2 dD dD (λa _=>zy a) λa b=>.bool (decide (a=b))) (AJ 69 Z4 (AJ 112 (s2 dD DD (λd g=>zy d/\Aq g.sh g.w g.h g.sB=some g.cells/\sR g.sB) λd g=>.int .i64 (DA g.cells d.sJ)) (AJ 113 (s1 dD zy λd=>.bool (Bv d)) (AJ 114 (s1 dD (λd=>sR d.sC) λd=>BY (Bl d.sC)) sE)))))
def iF:AG prog iE:=(((((AG.sE.add (q1 λd h=>p114 d h)).add (q1 λd h=>p113 d h)).add (q2 λd g h=>p112 d g h.1 h.2.1 h.2.2)).add qMk).add (q2 λa b h=>p111 a b h)).add (q1 λd h=>p67 d h.1 h.2)
theorem Kx(a:List Fs)(H:AB):iE 67 a H=s1 dD Gm CV a H:=rfl
theorem Lz(a:List Fs)(H:AB):iE 111 a H=s2 dD dD (λa _=>zy a) (λa b=>.bool (decide (a=b))) a H:=rfl
theorem QJ(sh w h:Int)(x:Fs)(H:AB):iE 69 [.int .i64 sh,.int .i64 w,.int .i64 h,x] H=(Cj.ok x/\sR (Cj.dec x),BX sh w h (Cj.dec x)):=rfl
theorem Ts(a:List Fs)(H:AB):iE 112 a H=s2 dD DD (λd g=>zy d/\Aq g.sh g.w g.h g.sB=some g.cells/\sR g.sB) (λd g=>.int .i64 (DA g.cells d.sJ)) a H:=rfl
theorem XA(a:List Fs)(H:AB):iE 113 a H=s1 dD zy (λd=>.bool (Bv d)) a H:=rfl
theorem ez(a:List Fs)(H:AB):iE 114 a H=s1 dD (λd=>sR d.sC) (λd=>BY (Bl d.sC)) a H:=rfl
theorem HT{α β:Type}{f:α->Option β}:∀{l:List α} {r:List β},Ae f l=some r->r.length=l.length/\∀y∈r,∃x∈l,f x=some y
 |[],r,h=>by
  simp only[Ae,Option.some.injEq]at h;subst h;exact⟨rfl,λy hy=>by cases hy⟩
 |x::l,r,h=>by
  rw[EZ]at h;cases hx:f x with
  |none=>rw[hx]at h;cases h
  |some z=>
   rw[hx]at h;simp only at h;cases hl:Ae f l with
   |none=>rw[hl]at h;cases h
   |some s=>
    rw[hl]at h;simp only[pr,Option.some.injEq]at h;subst h;obtain⟨h1,h2⟩:=HT hl;refine⟨by simp [h1],λy hy=>?_⟩;rcases ph.1 hy with rfl|hy
    ·exact⟨x,zw,hx⟩
    ·obtain⟨w,hw,e⟩:=h2 y hy;exact⟨w,by simp [hw],e⟩
def VH{d:x8}{r r':zj}(h:BJ d r=some r'):r'.ns=r.ns/\r'.os=r.os:=by
 unfold BJ at h;split at h
 ·cases h;exact⟨rfl,rfl⟩
 ·cases h
def IF{d x:x8}(hd:zy d)(h:B3 d= .ok x):zy x:=by
 obtain⟨-,-,-,-,-,e1,e2,e3⟩:=Rt h
 have key:∃cs rs,Ae (Bq d) d.sD=some cs/\Ae (BJ d) d.sC=some rs/\x.sD=cs/\x.sC=rs:=by
  unfold B3 at h
  repeat' split at h
  all_goals first
   |(cases h;done)
   |(rename_i cs hcs _ _ rs hrs
     cases h
     exact⟨_,_,hcs,hrs,rfl,rfl⟩)
 obtain⟨cs,rs,h1,h2,h3,h4⟩:=key
 obtain⟨l1,-⟩:=HT h1
 obtain⟨l2,m2⟩:=HT h2
 refine⟨by rw[e1];exact hd.ho,by rw[e2];exact hd.sy,by rw[e3];exact hd.rg,by rw[e3];exact hd.rgs,?_,?_,λr hr=>?_⟩
 ·rw[h3];show cs.length<_;rw[l1];exact hd.cl
 ·rw[h4];show rs.length<_;rw[l2];exact hd.ru
 ·rw[h4]at hr
  obtain⟨r0,hr0,e⟩:=m2 r hr
  obtain⟨q1,q2⟩:=VH e
  have:=hd.rus r0 hr0
  exact⟨by rw[q1];exact this.1,by rw[q2];exact this.2⟩
def aJ(d:x8):(decide ((d.sI.length:Int)=0)||decide ((16:Int)<d.sI.length)||decide ((4:Int)<d.sJ.length)||decide ((4:Int)<d.sD.length)||decide ((16:Int)<d.sC.length))= !If d:=by
 rw[oZ];unfold If;simp only[oV,oC,qM,Bool.and_eq_false_iff,qq];omega
def p68(d:x8)(hd:zy d):A6 prog 68 [Ba d] (.int .i64 (EH d)):=by
 refine .mk ⟨Ag 0 d,zt⟩ zt (aE.a (AE iF (AF ?_)));unfold EH;have hlb:=aJ d;cases hl:If d with
 |false=>
  rw[hl]at hlb;rw[oE rfl];simp only[eZ,seval,oh,o6,aE,hlb,oh]
 |true=>
 rw[hl]at hlb;rw[og zd];have l0:Gm d:=⟨hd,by
  unfold If at hl;simp only[oo,oC]at hl;omega⟩
 cases hr:B3 d with
 |error e=>
  have hv:CV d= .sH [Ba G6,.int .i64 e]:=by unfold CV;rw[hr]
  have he:(e=0)=False:=oA (GL hr);simp only[eZ,seval,o9,oh,eY,aE,hlb,o9,Kx,s1,Az,Ap,o7 l0,hv,he]
 |ok x=>
 have hv:CV d= .sH [Ba x,.int .i64 0]:=by unfold CV;rw[hr]
 have hfx:=IF hd hr;simp only[];by_cases hx:x=d;case neg=>
  rw[oE hx];simp only[eZ,seval,o9,oh,eY,aE,hlb,o9,Kx,Lz,s1,s2,Az,Ap,o7 l0,o7 hfx,hv,A5 hx]
 rw[og (λz=>z hx)];subst hx;by_cases hver:x.uw<1\/255<x.uw
 ·have hvb:(decide (x.uw<1)||decide (255<x.uw))=true:=by simpa using hver
  rw[oE hver];simp only[eZ,seval,o9,eY,aE,hlb,o9,Kx,Lz,s1,s2,Az,Ap,o7 l0,o7 hd,hv,hvb]
 have hvb:(decide (x.uw<1)||decide (255<x.uw))=false:=by simp;omega
 rw[og hver];cases hc:Aq x.sh x.w x.h x.sB with
 |none=>
  have hm:BX x.sh x.w x.h x.sB= .sH [Ec 0 0 0 [] [],.int .i64 130]:=by unfold BX;rw[hc]
  simp only[eZ,seval,o9,oh,eY,aE,hlb,o9,Kx,Lz,QJ,s1,s2,Az,Ap,As,Al,o7 l0,o7 hd,o7 hd.ho,hv,hvb,hm]
 |some cells=>
 have hm:BX x.sh x.w x.h x.sB= .sH [Ec x.sh x.w x.h x.sB cells,.int .i64 0]:=by unfold BX;rw[hc]
 simp only[];by_cases hre:DA cells x.sJ=0;case neg=>
  rw[oE hre];simp only[eZ,seval,o9,oh,eY,aE,hlb,o9,Kx,Lz,QJ,Ts,s1,s2,Az,Ap,As,Al,Fd,Dd,o7 l0,o7 hd,o7 hd.ho,hv,hvb,hm,hc,oA hre]
 rw[og (λz=>z hre)];cases hf:Bv x with
 |false=>
  rw[oE rfl];simp only[eZ,seval,o9,oh,eY,aE,hlb,o9,Kx,Lz,QJ,Ts,XA,s1,s2,Az,Ap,As,Al,Fd,Dd,o7 l0,o7 hd,o7 hd.ho,hv,hvb,hm,hc,hre,hf]
 |true=>
 rw[og zd];by_cases hu:Bl x.sC=[]
 ·rw[og (λz=>z hu)];simp only[eZ,seval,o9,eY,aE,hlb,o9,Kx,Lz,QJ,Ts,XA,ez,s1,s2,Az,Ap,As,Al,Fd,Dd,o7 l0,o7 hd,o7 hd.ho,o7 hd.ru,hv,hvb,hm,hc,hre,hf,hu]
 ·rw[oE hu];have hup:((0:Int)<((Bl x.sC).length:Int))=True:=o7 (by have:=List.length_pos_iff.2 hu;omega);simp only[eZ,seval,o9,eY,aE,hlb,o9,Kx,Lz,QJ,Ts,XA,ez,s1,s2,Az,Ap,As,Al,Fd,Dd,o7 l0,o7 hd,o7 hd.ho,o7 hd.ru,hv,hvb,hm,hc,hre,hf,hup]
end Go.AM
