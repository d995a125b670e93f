/-
  Equality in the references of grids, names and kinds (written by mkh5 · Grids, plainly: neighbours and lines as the refe.
  Conditions: none beyond those of its parts.
-/
import Derived.Test.YtbngedlokkndkaaGreatDoorB9
import Derived.Test.YtbngedlokkndkaaGreatDoorB10
import Derived.Test.YtbngedlokkndkaaGreatDoorB6
import Derived.Test.YtbngedlokkndkaaGreatDoorB8

set_option maxRecDepth 20000
set_option linter.all false
namespace Go.AM
open Go.Lib Go.Proofs Go.Proofs.Tryz
def p81(a b:List Int)(ha:wide a):A6 prog 81 [BY a,BY b] (.bool (decide (a=b))):=by
 refine .mk ⟨Av 0 _,Av 0 _,zt⟩ zt (c81.a (AE AG.sE (AF ?_)));have me:a.length<1125899906842624:=ha;by_cases hl:a.length=b.length;case neg=>
  have hR:decide (a=b)=false:=oN λq=>hl (by rw[q])
  have hq:((a.length:Int)=(b.length:Int))=False:=oA zo;rw[hR];simp only[eZ,seval,oh,o6,c81,hq]
 have hq:((a.length:Int)=(b.length:Int))=True:=o7 zo;simp only[eZ,seval,o9,o6,c81,hq];refine AQ (λi:Nat=>⟨[(0,true,BY a),(1,true,BY b),(5,true,.int .i64 i)],Ac,0⟩) (λi=>i<=a.length/\a.take i=b.take i) (λi=>a.length-i) 0 rfl ⟨oq _,rfl⟩ ?_;rintro i ⟨hi,l6⟩;by_cases e9:i<a.length
 ·have l7:i<b.length:=zo
  have hg:=o8 e9;have s6:=o8 l7;have e:=AI (k:=i) zo;have ta:a.take (i+1)=a.take i++[a[i]]:=by rw[oG,hg];rfl
  have tb:b.take (i+1)=b.take i++[b[i]]:=by rw[oG,s6];rfl
  generalize a[i]=x at hg ta;generalize b[i]=y at s6 tb;by_cases u0:x=y
  ·simp only[eZ,seval,o9,eY,AT e9,AT l7,hg,s6,e,u0];exact .mk (i+1) rfl ⟨e9,by rw[ta,tb,l6,u0]⟩ zo
  ·have hR:decide (a=b)=false:=oN λq=>u0 (by rw[q]at hg;rw[hg]at s6;exact Option.some.inj s6)
   rw[hR];simp only[eZ,seval,oh,eY,AT e9,AT l7,hg,s6,A5 u0]
 obtain rfl:i=a.length:=zo
 have hR:decide (a=b)=true:=pk (by rw[oF,hl,oF]at l6;exact l6);rw[hR];simp only[eZ,seval,o6,Ah e9]
def p121(a b:List Bs)(ha:wide a):A6 prog 121 [Fw a,Fw b] (.bool (decide (a=b))):=by
 refine .mk ⟨Bo 0 _,Bo 0 _,zt⟩ zt (mR.a (AE AG.sE (AF ?_)));have me:a.length<1125899906842624:=ha;by_cases hl:a.length=b.length;case neg=>
  have hR:decide (a=b)=false:=oN λq=>hl (by rw[q])
  have hq:((a.length:Int)=(b.length:Int))=False:=oA zo;rw[hR];simp only[eZ,seval,oh,o6,mR,hq]
 have hq:((a.length:Int)=(b.length:Int))=True:=o7 zo;simp only[eZ,seval,o9,o6,mR,hq];refine AQ (λi:Nat=>⟨[(0,true,Fw a),(1,true,Fw b),(5,true,.int .i64 i)],Ac,0⟩) (λi=>i<=a.length/\a.take i=b.take i) (λi=>a.length-i) 0 rfl ⟨oq _,rfl⟩ ?_;rintro i ⟨hi,l6⟩;by_cases e9:i<a.length
 ·have l7:i<b.length:=zo
  have hg:=o8 e9;have s6:=o8 l7;have e:=AI (k:=i) zo;have ta:a.take (i+1)=a.take i++[a[i]]:=by rw[oG,hg];rfl
  have tb:b.take (i+1)=b.take i++[b[i]]:=by rw[oG,s6];rfl
  generalize a[i]=x at hg ta;generalize b[i]=y at s6 tb;by_cases u0:x=y
  ·simp only[eZ,seval,o9,eY,AT e9,AT l7,hg,s6,e,Ay,BL u0];exact .mk (i+1) rfl ⟨e9,by rw[ta,tb,l6,u0]⟩ zo
  ·have hR:decide (a=b)=false:=oN λq=>u0 (by rw[q]at hg;rw[hg]at s6;exact Option.some.inj s6)
   rw[hR];simp only[eZ,seval,oh,eY,AT e9,AT l7,hg,s6,Ay,A5 u0]
 obtain rfl:i=a.length:=zo
 have hR:decide (a=b)=true:=pk (by rw[oF,hl,oF]at l6;exact l6);rw[hR];simp only[eZ,seval,o6,Ah e9]
def T6n:Bk:=AJ 121 (s2 On On (λa _=>wide a) λa b=>.bool (decide (a=b))) sE
def iG:AG prog T6n:=AG.sE.add (q2 p121)
def T6i:Bk:=AJ 81 (s2 Cj Cj (λa _=>wide a) λa b=>.bool (decide (a=b))) sE
def iH:AG prog T6i:=AG.sE.add (q2 p81)
def T3i:Bk:=AJ 39 (s2 Cj Cj (λa _=>wide a) λa b=>.bool (decide (a=b))) sE
def XB:AG prog T3i:=AG.sE.add (q2 p39W)
def p83(a b:zj)(ha:GK a):A6 prog 83 [Ao a,Ao b] (.bool (decide (a=b))):=by
 refine .mk ⟨BA 0 _,BA 0 _,zt⟩ zt (c83.a (AE iG (AF ?_)));obtain⟨h1,h2⟩:=ha;simp only[eZ,seval,c83,T6n,s2,FU,Do,o7 h1,o7 h2,BS,AJ];rw[oZ,oC,P6];simp only[oo,oC];constructor
 ·intro h;simp only[h,sb]
 ·intro h;simp only[h,sb]
def p19(a b:List (List Int))(ha:sR a)(hf:∀x∈a,wide x):A6 prog 19 [Bm a,Bm b] (.bool (decide (a=b))):=by
 refine .mk ⟨A0 0 _,A0 0 _,zt⟩ zt (c19.a (AE XB (AF ?_)));have me:a.length<1000000000:=ha;by_cases hl:a.length=b.length;case neg=>
  have hR:decide (a=b)=false:=oN λq=>hl (by rw[q])
  have hq:((a.length:Int)=(b.length:Int))=False:=oA zo;rw[hR];simp only[eZ,seval,oh,o6,c19,hq]
 have hq:((a.length:Int)=(b.length:Int))=True:=o7 zo;simp only[eZ,seval,o9,o6,c19,hq];refine AQ (λi:Nat=>⟨[(0,true,Bm a),(1,true,Bm b),(5,true,.int .i64 i)],Ac,0⟩) (λi=>i<=a.length/\a.take i=b.take i) (λi=>a.length-i) 0 rfl ⟨oq _,rfl⟩ ?_;rintro i ⟨hi,l6⟩;by_cases e9:i<a.length
 ·have l7:i<b.length:=zo
  have hg:=o8 e9;have s6:=o8 l7;have e:=AI (k:=i) zo;have ta:a.take (i+1)=a.take i++[a[i]]:=by rw[oG,hg];rfl
  have tb:b.take (i+1)=b.take i++[b[i]]:=by rw[oG,s6];rfl
  have my:=hf _ (oK e9);generalize a[i]=x at hg ta my;generalize b[i]=y at s6 tb;by_cases u0:x=y
  ·simp only[eZ,seval,o9,eY,AT e9,AT l7,hg,s6,e,T3i,s2,As,Al,o7 my,BL u0,AJ];exact .mk (i+1) rfl ⟨e9,by rw[ta,tb,l6,u0]⟩ zo
  ·have hR:decide (a=b)=false:=oN λq=>u0 (by rw[q]at hg;rw[hg]at s6;exact Option.some.inj s6)
   rw[hR];simp only[eZ,seval,oh,eY,AT e9,AT l7,hg,s6,T3i,s2,As,Al,o7 my,A5 u0,AJ]
 obtain rfl:i=a.length:=zo
 have hR:decide (a=b)=true:=pk (by rw[oF,hl,oF]at l6;exact l6);rw[hR];simp only[eZ,seval,o6,Ah e9]
def p82(x y:x9)(hx:B4 x.ls):A6 prog 82 [Fb x,Fb y] (.bool (decide (x=y))):=by
 refine .mk ⟨EA 0 x,EA 0 y,zt⟩ zt (c82.a (AE iH (AF ?_)));obtain⟨nm,a⟩:=x;obtain⟨nn,b⟩:=y;have ha:sR a:=hx.1;have hf:∀x∈a,wide x:=hx.2;have me:a.length<1000000000:=ha;by_cases hn:nm=nn;case neg=>
  have hR:decide ((⟨nm,a⟩:x9)=⟨nn,b⟩)=false:=oN λq=>hn (by injection q)
  rw[hR];simp only[eZ,seval,o9,oh,o6,c82,Ay,A5 hn]
 subst hn;by_cases hl:a.length=b.length;case neg=>
  have hR:decide ((⟨nm,a⟩:x9)=⟨nm,b⟩)=false:=oN λq=>hl (by injection q with _ q;rw[q])
  have hq:((a.length:Int)=(b.length:Int))=False:=oA zo;rw[hR];simp only[eZ,seval,o9,oh,o6,c82,hq,Ay]
 have hq:((a.length:Int)=(b.length:Int))=True:=o7 zo;have hS:decide ((⟨nm,a⟩:x9)=⟨nm,b⟩)=decide (a=b):=by rw[oZ];simp [x9.mk.injEq]
 rw[hS];simp only[eZ,seval,o9,o6,c82,hq,Ay];refine AQ (λi:Nat=>⟨[(2,true,.ptr 0 0),(3,true,.ptr 1 0),(5,true,.int .i64 i)],sA (sA Ac 0 (.box [.str nm,Bm a])) 1 (.box [.str nm,Bm b]),3⟩) (λi=>i<=a.length/\a.take i=b.take i) (λi=>a.length-i) 0 rfl ⟨oq _,rfl⟩ ?_;rintro i ⟨hi,l6⟩;by_cases e9:i<a.length
 ·have l7:i<b.length:=zo
  have hg:=o8 e9;have s6:=o8 l7;have e:=AI (k:=i) zo;have ta:a.take (i+1)=a.take i++[a[i]]:=by rw[oG,hg];rfl
  have tb:b.take (i+1)=b.take i++[b[i]]:=by rw[oG,s6];rfl
  have my:=hf _ (oK e9);generalize a[i]=x at hg ta my;generalize b[i]=y at s6 tb;by_cases u0:x=y
  ·simp only[eZ,seval,o9,eY,AT e9,AT l7,hg,s6,e,T6i,s2,As,Al,o7 my,BL u0,AJ];exact .mk (i+1) rfl ⟨e9,by rw[ta,tb,l6,u0]⟩ zo
  ·have hR:decide (a=b)=false:=oN λq=>u0 (by rw[q]at hg;rw[hg]at s6;exact Option.some.inj s6)
   rw[hR];simp only[eZ,seval,oh,eY,AT e9,AT l7,hg,s6,T6i,s2,As,Al,o7 my,A5 u0,AJ]
 obtain rfl:i=a.length:=zo
 have hR:decide (a=b)=true:=pk (by rw[oF,hl,oF]at l6;exact l6);rw[hR];simp only[eZ,seval,o6,Ah e9]
def p33(a b:xk)(h1:wide a.sB)(h2:wide a.cells):A6 prog 33 [B9 a,B9 b] (.bool (decide (a=b))):=by
 refine .mk ⟨⟨zt,zt,zt,Av 0 _,Av 0 _,zt⟩,⟨zt,zt,zt,Av 0 _,Av 0 _,zt⟩,zt⟩ zt (c33.a (AE XB (AF ?_)));simp only[eZ,seval,c33,T3i,s2,As,Al,o7 h1,o7 h2,AJ];rw[oZ];simp only[oo,oC];constructor
 ·intro h;obtain⟨a1,a2,a3,a4,a5⟩:=a;obtain⟨b1,b2,b3,b4,b5⟩:=b;simp only at h;simp only[h]
 ·intro h;simp only[h,sb]
def fA:Bk:=AJ 81 (s2 Cj Cj (λa _=>wide a) λa b=>.bool (decide (a=b))) (AJ 82 (s2 ZS ZS (λa _=>B4 a.ls) λa b=>.bool (decide (a=b))) (AJ 83 (s2 Kj Kj (λa _=>GK a) λa b=>.bool (decide (a=b))) sE))
def iJ:AG prog fA:=((AG.sE.add (q2 p83)).add (q2 p82)).add (q2 p81)
def p32(a b:x8)(hd:zy a):A6 prog 32 [Ba a,Ba b] (.bool (decide (a=b))):=by
 refine .mk ⟨Ag 0 _,Ag 0 _,zt⟩ zt (a32 (AE iJ (AF ?_)));cases h1:decide (a.nm=b.nm/\a.uw=b.uw/\a.sh=b.sh/\a.w=b.w/\a.h=b.h/\a.sB=b.sB)with
 |false=>
  have h1:=rO h1;have hR:decide (a=b)=false:=oN λq=>h1 (by rw[q];exact⟨rfl,rfl,rfl,rfl,rfl,rfl⟩)
  have hb:(scmp .neq a.nm b.nm|| !decide (a.uw=b.uw)|| !decide (a.sh=b.sh)|| !decide (a.w=b.w)|| !decide (a.h=b.h)|| !decide (a.sB=b.sB))=true:=by
   rw[Ay,<-rR];intro q;simp only[qA,rl,oC,qm]at q;exact h1 q
  rw[hR];simp only[eZ,seval,o9,o6,c32,fA,s2,As,Al,o7 (Dk hd.ho),hb,AJ]
 |true=>
 obtain⟨a1,a2,a3,a4,a5,a6⟩:=pg h1;have hb:(scmp .neq a.nm b.nm|| !decide (a.uw=b.uw)|| !decide (a.sh=b.sh)|| !decide (a.w=b.w)|| !decide (a.h=b.h)|| !decide (a.sB=b.sB))=false:=by
  rw[Ay];simp [a1,a2,a3,a4,a5,a6]
 clear h1;cases h2:decide (a.sI.length=b.sI.length/\a.sJ.length=b.sJ.length/\a.sD.length=b.sD.length/\a.sC.length=b.sC.length)with
 |false=>
  have h2:=rO h2;have hR:decide (a=b)=false:=oN λq=>h2 (by rw[q];exact⟨rfl,rfl,rfl,rfl⟩)
  have am:(!decide ((a.sI.length:Int)=(b.sI.length:Int))|| !decide ((a.sJ.length:Int)=(b.sJ.length:Int))|| !decide ((a.sD.length:Int)=(b.sD.length:Int))|| !decide ((a.sC.length:Int)=(b.sC.length:Int)))=true:=by grind
  rw[hR];simp only[eZ,seval,o6,c32,fA,s2,As,Al,o7 (Dk hd.ho),hb,am,AJ]
 |true=>
 obtain⟨l1,l2,l3,l4⟩:=pg h2;have am:(!decide ((a.sI.length:Int)=(b.sI.length:Int))|| !decide ((a.sJ.length:Int)=(b.sJ.length:Int))|| !decide ((a.sD.length:Int)=(b.sD.length:Int))|| !decide ((a.sC.length:Int)=(b.sC.length:Int)))=false:=by
  simp [l1,l2,l3,l4]
 clear h2;simp only[eZ,seval,o6,c32,fA,s2,As,Al,o7 (Dk hd.ho),hb,am,AJ];refine AQ (λi:Nat=>⟨[(2,true,.ptr 0 0),(3,true,.ptr 1 0),(5,true,.int .i64 i)],sA (sA Ac 0 (.box (AL a))) 1 (.box (AL b)),3⟩) (λi=>i<=a.sI.length/\a.sI.take i=b.sI.take i) (λi=>a.sI.length-i) 0 rfl ⟨oq _,rfl⟩ ?_;rintro i ⟨hi,l6⟩;have th:a.sI.length<1000000000:=hd.sy;by_cases e9:i<a.sI.length
 ·have l7:i<b.sI.length:=zo
  have hg:=o8 e9;have s6:=o8 l7;have e:=AI (k:=i) zo;have ta:a.sI.take (i+1)=a.sI.take i++[a.sI[i]]:=by rw[oG,hg];rfl
  have tb:b.sI.take (i+1)=b.sI.take i++[b.sI[i]]:=by rw[oG,s6];rfl
  generalize a.sI[i]=x at hg ta;generalize b.sI[i]=y at s6 tb;by_cases u0:x=y
  ·have hc:=Kk x y;rw[pk u0]at hc;simp only[eZ,seval,o9,eY,AT e9,AT l7,hg,s6,e,hc,ED];exact .mk (i+1) rfl ⟨e9,by rw[ta,tb,l6,u0]⟩ zo
  ·have hR:decide (a=b)=false:=oN λq=>u0 (by rw[q]at hg;rw[hg]at s6;exact Option.some.inj s6)
   have hc:=Kk x y;rw[oN u0]at hc;rw[hR];simp only[eZ,seval,oh,eY,AT e9,AT l7,hg,s6,hc,ED]
 obtain rfl:i=a.sI.length:=zo
 have b_syms:a.sI=b.sI:=by rw[oF,l1,oF]at l6;exact l6
 simp only[eZ,seval,o6,Ah e9];clear hi l6 th e9;refine AQ (λi:Nat=>⟨[(2,true,.ptr 0 0),(3,true,.ptr 1 0),(6,true,.int .i64 i)],sA (sA Ac 0 (.box (AL a))) 1 (.box (AL b)),3⟩) (λi=>i<=a.sJ.length/\a.sJ.take i=b.sJ.take i) (λi=>a.sJ.length-i) 0 rfl ⟨oq _,rfl⟩ ?_;rintro i ⟨hi,l6⟩;have th:a.sJ.length<1000000000:=hd.rg;by_cases e9:i<a.sJ.length
 ·have l7:i<b.sJ.length:=zo
  have hg:=o8 e9;have s6:=o8 l7;have e:=AI (k:=i) zo;have ta:a.sJ.take (i+1)=a.sJ.take i++[a.sJ[i]]:=by rw[oG,hg];rfl
  have tb:b.sJ.take (i+1)=b.sJ.take i++[b.sJ[i]]:=by rw[oG,s6];rfl
  have my:B4 a.sJ[i].ls:=hd.rgs _ (oK e9);generalize a.sJ[i]=x at hg ta my;generalize b.sJ[i]=y at s6 tb;by_cases u0:x=y
  ·simp only[eZ,seval,o9,eY,AT e9,AT l7,hg,s6,e,fA,s2,I9,G4,o7 my,BL u0,AJ];exact .mk (i+1) rfl ⟨e9,by rw[ta,tb,l6,u0]⟩ zo
  ·have hR:decide (a=b)=false:=oN λq=>u0 (by rw[q]at hg;rw[hg]at s6;exact Option.some.inj s6)
   rw[hR];simp only[eZ,seval,oh,eY,AT e9,AT l7,hg,s6,fA,s2,I9,G4,o7 my,A5 u0,AJ]
 obtain rfl:i=a.sJ.length:=zo
 have b_regs:a.sJ=b.sJ:=by rw[oF,l2,oF]at l6;exact l6
 simp only[eZ,seval,o6,Ah e9];clear hi l6 th e9;refine AQ (λi:Nat=>⟨[(2,true,.ptr 0 0),(3,true,.ptr 1 0),(7,true,.int .i64 i)],sA (sA Ac 0 (.box (AL a))) 1 (.box (AL b)),3⟩) (λi=>i<=a.sD.length/\a.sD.take i=b.sD.take i) (λi=>a.sD.length-i) 0 rfl ⟨oq _,rfl⟩ ?_;rintro i ⟨hi,l6⟩;have th:a.sD.length<1000000000:=hd.cl;by_cases e9:i<a.sD.length
 ·have l7:i<b.sD.length:=zo
  have hg:=o8 e9;have s6:=o8 l7;have e:=AI (k:=i) zo;have ta:a.sD.take (i+1)=a.sD.take i++[a.sD[i]]:=by rw[oG,hg];rfl
  have tb:b.sD.take (i+1)=b.sD.take i++[b.sD[i]]:=by rw[oG,s6];rfl
  generalize a.sD[i]=x at hg ta;generalize b.sD[i]=y at s6 tb;by_cases u0:x=y
  ·have hc:=Kl x y;rw[pk u0]at hc;simp only[eZ,seval,o9,eY,AT e9,AT l7,hg,s6,e,hc,ED];exact .mk (i+1) rfl ⟨e9,by rw[ta,tb,l6,u0]⟩ zo
  ·have hR:decide (a=b)=false:=oN λq=>u0 (by rw[q]at hg;rw[hg]at s6;exact Option.some.inj s6)
   have hc:=Kl x y;rw[oN u0]at hc;rw[hR];simp only[eZ,seval,oh,eY,AT e9,AT l7,hg,s6,hc,ED]
 obtain rfl:i=a.sD.length:=zo
 have b_clus:a.sD=b.sD:=by rw[oF,l3,oF]at l6;exact l6
 simp only[eZ,seval,o6,Ah e9];clear hi l6 th e9;refine AQ (λi:Nat=>⟨[(2,true,.ptr 0 0),(3,true,.ptr 1 0),(8,true,.int .i64 i)],sA (sA Ac 0 (.box (AL a))) 1 (.box (AL b)),3⟩) (λi=>i<=a.sC.length/\a.sC.take i=b.sC.take i) (λi=>a.sC.length-i) 0 rfl ⟨oq _,rfl⟩ ?_;rintro i ⟨hi,l6⟩;have th:a.sC.length<1000000000:=hd.ru;by_cases e9:i<a.sC.length
 ·have l7:i<b.sC.length:=zo
  have hg:=o8 e9;have s6:=o8 l7;have e:=AI (k:=i) zo;have ta:a.sC.take (i+1)=a.sC.take i++[a.sC[i]]:=by rw[oG,hg];rfl
  have tb:b.sC.take (i+1)=b.sC.take i++[b.sC[i]]:=by rw[oG,s6];rfl
  have my:GK a.sC[i]:=hd.rus _ (oK e9);generalize a.sC[i]=x at hg ta my;generalize b.sC[i]=y at s6 tb;by_cases u0:x=y
  ·simp only[eZ,seval,o9,eY,AT e9,AT l7,hg,s6,e,fA,s2,B0,BU,o7 my,BL u0,AJ];exact .mk (i+1) rfl ⟨e9,by rw[ta,tb,l6,u0]⟩ zo
  ·have hR:decide (a=b)=false:=oN λq=>u0 (by rw[q]at hg;rw[hg]at s6;exact Option.some.inj s6)
   rw[hR];simp only[eZ,seval,oh,eY,AT e9,AT l7,hg,s6,fA,s2,B0,BU,o7 my,A5 u0,AJ]
 obtain rfl:i=a.sC.length:=zo
 have b_ruls:a.sC=b.sC:=by rw[oF,l4,oF]at l6;exact l6
 have hR:decide (a=b)=true:=pk (by
  cases a;cases b;simp only at a1 a2 a3 a4 a5 a6 b_syms b_regs b_clus b_ruls;subst a1 a2 a3 a4 a5 a6 b_syms b_regs b_clus b_ruls;rfl)
 rw[hR];simp only[eZ,seval,o6,Ah e9]
def T8l:Bk:=AJ 19 (s2 Le Le (λa _=>B4 a) λa b=>.bool (decide (a=b))) (AJ 33 (s2 DD DD (λa _=>wide a.sB/\wide a.cells) λa b=>.bool (decide (a=b))) (AJ 32 (s2 dD dD (λa _=>zy a) λa b=>.bool (decide (a=b))) sE))
def iK:AG prog T8l:=((AG.sE.add (q2 p32)).add (q2 λa b h=>p33 a b h.1 h.2)).add (q2 λa b h=>p19 a b h.1 h.2)
structure uy(k:uV):Prop where
 d:zy k.d
 ho:wide k.g.sB
 ce:wide k.g.cells
 nb:B4 k.nb
 ls:wide k.ls
 lx:∀x∈k.ls,B4 x
def p13(x y:uV)(hx:uy x):A6 prog 13 [BM x,BM y] (.bool (decide (x=y))):=by
 refine .mk ⟨Bp 0 x,Bp 0 y,zt⟩ zt (c13.a (AE iK (AF ?_)));have me:x.ls.length<1125899906842624:=hx.ls;by_cases hl:x.ls.length=y.ls.length;case neg=>
  have hR:decide (x=y)=false:=oN λq=>hl (by rw[q])
  have hq:((x.ls.length:Int)=(y.ls.length:Int))=False:=oA zo;rw[hR];simp only[eZ,seval,oh,o6,c13,Ab,AK,AL,hq]
 have hq:((x.ls.length:Int)=(y.ls.length:Int))=True:=o7 zo;simp only[eZ,seval,o9,o6,c13,Ab,AK,AL,hq];refine AQ (λi:Nat=>⟨[(2,true,.ptr 0 0),(3,true,.ptr 1 0),(5,true,.int .i64 i)],sA (sA Ac 0 (.box (Ab x))) 1 (.box (Ab y)),3⟩) (λi=>i<=x.ls.length/\x.ls.take i=y.ls.take i) (λi=>x.ls.length-i) 0 rfl ⟨oq _,rfl⟩ ?_;rintro i ⟨hi,l6⟩;by_cases e9:i<x.ls.length
 ·have l7:i<y.ls.length:=zo
  have hg:=o8 e9;have s6:=o8 l7;have e:=AI (k:=i) zo;have ta:x.ls.take (i+1)=x.ls.take i++[x.ls[i]]:=by rw[oG,hg];rfl
  have tb:y.ls.take (i+1)=y.ls.take i++[y.ls[i]]:=by rw[oG,s6];rfl
  have my:=hx.lx _ (oK e9);generalize x.ls[i]=u at hg ta my;generalize y.ls[i]=v at s6 tb;by_cases u0:u=v
  ·simp only[eZ,seval,o9,eY,Ab,AK,AL,AT e9,AT l7,hg,s6,e,T8l,s2,Cp,CC,o7 my,BL u0,AJ];exact .mk (i+1) rfl ⟨e9,by rw[ta,tb,l6,u0]⟩ zo
  ·have hR:decide (x=y)=false:=oN λq=>u0 (by rw[q]at hg;rw[hg]at s6;exact Option.some.inj s6)
   rw[hR];simp only[eZ,seval,oh,eY,Ab,AK,AL,AT e9,AT l7,hg,s6,T8l,s2,Cp,CC,o7 my,A5 u0,AJ]
 obtain rfl:i=x.ls.length:=zo
 have hls:x.ls=y.ls:=by rw[oF,hl,oF]at l6;exact l6
 have e1:dD.ok (.agg (AL x.d))=True:=Az x.d;have e2:dD.dec (.agg (AL x.d))=x.d:=Ap x.d;have e3:dD.ok (.agg (AL y.d))=True:=Az y.d;have e4:dD.dec (.agg (AL y.d))=y.d:=Ap y.d;have f1:DD.ok (.agg (AK x.g.sh x.g.w x.g.h x.g.sB x.g.cells))=True:=D0 x.g;have f2:DD.dec (.agg (AK x.g.sh x.g.w x.g.h x.g.sB x.g.cells))=x.g:=Ct x.g;have f3:DD.ok (.agg (AK y.g.sh y.g.w y.g.h y.g.sB y.g.cells))=True:=D0 y.g;have f4:DD.dec (.agg (AK y.g.sh y.g.w y.g.h y.g.sB y.g.cells))=y.g:=Ct y.g;simp only[AL]at e1 e2 e3 e4;simp only[AK]at f1 f2 f3 f4;simp only[eZ,seval,o6,Ab,AK,AL,Ah e9,T8l,s2,Cp,CC,e1,e2,e3,e4,f1,f2,f3,f4,o7 hx.d,o7 hx.ho,o7 hx.ce,o7 hx.nb,AJ];rw[oZ];simp only[oo,oC];constructor
 ·rintro⟨⟨h1,h2⟩,h3⟩;obtain⟨a1,a2,a3,a4⟩:=x;obtain⟨b1,b2,b3,b4⟩:=y;simp only at h1 h2 h3 hls;subst h1 h2 h3 hls;rfl
 ·rintro rfl;exact⟨⟨rfl,rfl⟩,rfl⟩
def VI(sh:Int)(a b:A7):Bool:=(FX sh).any λd=>decide (b=Ih a d)
def L1(sh:Int)(a b:A7):Bool:=
 let dx:=b.1-a.1
 let dy:=b.2-a.2
 if sh=1 then decide (dy=0)&&(decide (dx=1)||decide (dx= -1))||decide (dx=0)&&(decide (dy=1)||decide (dy= -1))
 else decide (dx=1)&&decide (dy=0)||decide (dx= -1)&&decide (dy=0)||decide (dx=0)&&decide (dy=1)||decide (dx=0)&&decide (dy= -1)||decide (dx=1)&&decide (dy= -1)||decide (dx= -1)&&decide (dy=1)
def O5(sh:Int)(a b:A7):L1 sh a b=VI sh a b:=by
 obtain⟨a1,a2⟩:=a;obtain⟨b1,b2⟩:=b;rw[oZ];unfold L1 VI FX Ih;by_cases h:sh=1
 ·simp only[oE h,List.take,List.any_cons,List.any_nil,oV,oo,oC,Prod.mk.injEq,oP,or_false];omega
 ·simp only[og h,List.take,List.any_cons,List.any_nil,oV,oo,oC,Prod.mk.injEq,oP,or_false];omega
def XC(sh:Int)(S:List A7)(s:A7):HC sh S s=CE S.length λb=>match S[b]? with
  |some t=>VI sh s t
  |none=>false:=by
 unfold HC;refine D4 λi hi=>?_
 rw[o8 hi];unfold VI;simp only[Option.some.injEq]
def XD(sh:Int)(a:A7):VI sh a a=false:=by
 rw[<-O5,Bool.eq_false_iff];intro h;unfold L1 at h;by_cases h1:sh=1
 ·simp_all
 ·simp_all
def VJ{y:Int}(h:0<=y):(y-y.tmod 2).tdiv 2=y.tdiv 2:=by grind
structure uK(g:xk):Prop where
 hG:Aq g.sh g.w g.h g.sB=some g.cells
 ho:sR g.sB
def Aa(g:xk)(c:Int):Int:=g.cells.getD c.toNat 0
def It(g:xk)(c:Int):Prop:=0<=c/\c.toNat<g.cells.length
def uK.at{g:xk}(G:uK g){c:Int}(h:It g c):∃k:Nat,c=(k:Int)/\k<g.cells.length/\g.cells[k]?=some (Aa g c)/\0<=Aa g c/\1<=g.w/\g.w<=16/\0<=(Aa g c).tmod g.w/\(Aa g c).tmod g.w<16/\0<=(Aa g c).tdiv g.w/\(Aa g c).tdiv g.w<16/\((Aa g c).tdiv g.w).tdiv 2=(Aa g c).tdiv g.w/2/\(g.sh=1\/g.sh=2):=by
 obtain⟨h0,h1⟩:=h;obtain⟨hs,w1,w2,k1,k2,-,-,-,hc⟩:=H9 G.hG;obtain⟨-,-,hr⟩:=BP G.hG;have hg:=o8 h1;have hp:g.cells[c.toNat]?=some (Aa g c):=by unfold Aa;rw[pM,hg];rfl
 have hm:Aa g c∈g.cells:=qZ hp;have hm2:=hm;rw[hc]at hm2;have hm3:=(qn.mp hm2).1;have hq:0<=Aa g c/\Aa g c<g.w*g.h:=by grind [CM]
 refine⟨c.toNat,zo,h1,hp,hq.1,w1,w2,Int.tmod_nonneg _ hq.1,by have:=Int.tmod_lt_of_pos (Aa g c) (b:=g.w) zo;omega,Int.tdiv_nonneg hq.1 zo,?_,rt (Int.tdiv_nonneg hq.1 zo),hs⟩;rw[rt hq.1];have:=Int.ediv_lt_of_lt_mul (by omega:0<g.w) (by rw[Int.mul_comm];exact hq.2);omega
def p182(g:xk)(c:Int)(G:uK g)(h:It g c):A6 prog 182 [B9 g,.int .i64 c] (.int .i64 ((Aa g c).tmod g.w)):=by
 obtain⟨k,rfl,hk,hg,hp,w1,w2,x1,x2,y1,y2,ey,hs⟩:=G.at h;have hw:(g.w=0)=False:=oA zo;have uR:((k:Int)<(g.cells.length:Int))=True:=o7 zo;refine .mk ⟨BF 0 ..,zt,zt⟩ zt (c182.a (AE AG.sE (AF ?_)));simp only[eE,eN,seval,eY,c182,AK,hg,uR,hw]
def p183(g:xk)(c:Int)(G:uK g)(h:It g c):A6 prog 183 [B9 g,.int .i64 c] (.int .i64 ((Aa g c).tdiv g.w)):=by
 obtain⟨k,rfl,hk,hg,hp,w1,w2,x1,x2,y1,y2,ey,hs⟩:=G.at h;have hw:(g.w=0)=False:=oA zo;have uR:((k:Int)<(g.cells.length:Int))=True:=o7 zo;have e1:IntKind.wrap .i64 ((Aa g k).tdiv g.w)=(Aa g k).tdiv g.w:=An zo zo;refine .mk ⟨BF 0 ..,zt,zt⟩ zt (c183.a (AE AG.sE (AF ?_)));simp only[eE,eN,seval,eY,c183,AK,hg,uR,hw,e1]
def O6(g:xk)(c:Int):Fs:=.int .i64 ((Aa g c).tmod g.w)
def NY(g:xk)(c:Int):Fs:=.int .i64 ((Aa g c).tdiv g.w)
def J7(g:xk)(c:Int):Int:=(Aa g c).tmod g.w-((Aa g c).tdiv g.w).tdiv 2
def iL(g:xk)(c:Int):Fs:=.int .i64 (J7 g c)
def aK:Bk:=AJ 182 (s2 DD dI (λg c=>uK g/\It g c) O6) (AJ 183 (s2 DD dI (λg c=>uK g/\It g c) NY) sE)
def O7:AG prog aK:=(AG.sE.add (q2 λg c h=>p183 g c h.1 h.2)).add (q2 λg c h=>p182 g c h.1 h.2)
def p184(g:xk)(c:Int)(G:uK g)(h:It g c):A6 prog 184 [B9 g,.int .i64 c] (iL g c):=by
 obtain⟨k,-,hk,hg,hp,w1,w2,x1,x2,y1,y2,ey,hs⟩:=G.at h;have f1:DD.ok (.agg (AK g.sh g.w g.h g.sB g.cells))=True:=D0 g;have f2:DD.dec (.agg (AK g.sh g.w g.h g.sB g.cells))=g:=Ct g;simp only[AK]at f1 f2;unfold iL J7;have hG:(uK g)=True:=o7 G;have hI:(It g c)=True:=o7 h;refine .mk ⟨BF 0 ..,zt,zt⟩ zt (c184.a (AE O7 (AF ?_)));have a0:=VJ y1;have e1:IntKind.wrap .i64 ((Aa g c).tdiv g.w-((Aa g c).tdiv g.w).tmod 2)=(Aa g c).tdiv g.w-((Aa g c).tdiv g.w).tmod 2:=by
  have:=Int.tmod_nonneg 2 y1;have:=Int.tmod_lt_of_pos ((Aa g c).tdiv g.w) (b:=2) zd;exact An zo zo
 have e2:IntKind.wrap .i64 (((Aa g c).tdiv g.w).tdiv 2)=((Aa g c).tdiv g.w).tdiv 2:=An zo zo;have e3:IntKind.wrap .i64 ((Aa g c).tmod g.w-((Aa g c).tdiv g.w).tdiv 2)=(Aa g c).tmod g.w-((Aa g c).tdiv g.w).tdiv 2:=An zo zo;simp only[eE,eN,seval,c184,AK,aK,s2,f1,f2,BR,Ax,O6,NY,hG,hI,a0,e1,e2,e3,AJ]
def aL:Bk:=AJ 184 (s2 DD dI (λg c=>uK g/\It g c) iL) aK
def Tt:AG prog aL:=O7.add (q2 λg c h=>p184 g c h.1 h.2)
theorem SO(a:List Fs)(H:AB):aL 184 a H=s2 DD dI (λg c=>uK g/\It g c) iL a H:=rfl
theorem SP(a:List Fs)(H:AB):aL 182 a H=s2 DD dI (λg c=>uK g/\It g c) O6 a H:=rfl
theorem O8(a:List Fs)(H:AB):aL 183 a H=s2 DD dI (λg c=>uK g/\It g c) NY a H:=rfl
def p117(g:xk)(a b:Int)(G:uK g)(ha:It g a)(hb:It g b):A6 prog 117 [B9 g,.int .i64 a,.int .i64 b] (.bool (L1 g.sh (DC g.sh g.w (Aa g a)) (DC g.sh g.w (Aa g b)))):=by
 obtain⟨k,-,-,-,-,w1,w2,x1,x2,y1,y2,ey,hs⟩:=G.at ha;obtain⟨k',-,-,-,-,-,-,u1,u2,v1,v2,ev,-⟩:=G.at hb;have f1:DD.ok (.agg (AK g.sh g.w g.h g.sB g.cells))=True:=D0 g;have f2:DD.dec (.agg (AK g.sh g.w g.h g.sB g.cells))=g:=Ct g;simp only[AK]at f1 f2;have hG:(uK g)=True:=o7 G;have hI:(It g a)=True:=o7 ha;have hJ:(It g b)=True:=o7 hb;have e1:IntKind.wrap .i64 ((Aa g b).tmod g.w-(Aa g a).tmod g.w)=(Aa g b).tmod g.w-(Aa g a).tmod g.w:=An zo zo;have e2:IntKind.wrap .i64 ((Aa g b).tdiv g.w-(Aa g a).tdiv g.w)=(Aa g b).tdiv g.w-(Aa g a).tdiv g.w:=An zo zo;have e3:IntKind.wrap .i64 (J7 g b-J7 g a)=J7 g b-J7 g a:=by
  unfold J7;exact An zo zo
 refine .mk ⟨BF 0 ..,zt,zt,zt⟩ zt (mQ.a (AE Tt (AF ?_)));rcases hs with h1|h2
 ·have q:L1 g.sh (DC g.sh g.w (Aa g a)) (DC g.sh g.w (Aa g b))=(decide ((Aa g b).tdiv g.w-(Aa g a).tdiv g.w=0)&&(decide ((Aa g b).tmod g.w-(Aa g a).tmod g.w=1)||decide ((Aa g b).tmod g.w-(Aa g a).tmod g.w= -1))||decide ((Aa g b).tmod g.w-(Aa g a).tmod g.w=0)&&(decide ((Aa g b).tdiv g.w-(Aa g a).tdiv g.w=1)||decide ((Aa g b).tdiv g.w-(Aa g a).tdiv g.w= -1))):=by
   unfold L1 DC;simp only[oE h1,og (by omega:¬g.sh=2)]
  have hq:(g.sh=1)=True:=o7 h1;rw[q];simp only[eZ,seval,mQ,AK,SP,O8,s2,f1,f2,BR,Ax,O6,NY,hG,hI,hJ,e1,e2,hq]
 ·have q:L1 g.sh (DC g.sh g.w (Aa g a)) (DC g.sh g.w (Aa g b))=(decide (J7 g b-J7 g a=1)&&decide ((Aa g b).tdiv g.w-(Aa g a).tdiv g.w=0)||decide (J7 g b-J7 g a= -1)&&decide ((Aa g b).tdiv g.w-(Aa g a).tdiv g.w=0)||decide (J7 g b-J7 g a=0)&&decide ((Aa g b).tdiv g.w-(Aa g a).tdiv g.w=1)||decide (J7 g b-J7 g a=0)&&decide ((Aa g b).tdiv g.w-(Aa g a).tdiv g.w= -1)||decide (J7 g b-J7 g a=1)&&decide ((Aa g b).tdiv g.w-(Aa g a).tdiv g.w= -1)||decide (J7 g b-J7 g a= -1)&&decide ((Aa g b).tdiv g.w-(Aa g a).tdiv g.w=1)):=by
   unfold L1 DC J7;simp only[og (by omega:¬g.sh=1),oE h2]
  have hq:(g.sh=1)=False:=oA zo;rw[q];simp only[eZ,seval,mQ,AK,SP,O8,SO,s2,f1,f2,BR,Ax,O6,NY,iL,hG,hI,hJ,e1,e2,e3,hq]
def Ii(g:xk)(f c:Int):Int:=if f=1 then(Aa g c).tdiv g.w else if g.sh=1 then(Aa g c).tmod g.w else if f=2 then J7 g c else J7 g c+(Aa g c).tdiv g.w
def p185(g:xk)(f c:Int)(G:uK g)(h:It g c):A6 prog 185 [B9 g,.int .i64 f,.int .i64 c] (.int .i64 (Ii g f c)):=by
 obtain⟨k,-,-,-,-,w1,w2,x1,x2,y1,y2,ey,hs⟩:=G.at h;have f1:DD.ok (.agg (AK g.sh g.w g.h g.sB g.cells))=True:=D0 g;have f2:DD.dec (.agg (AK g.sh g.w g.h g.sB g.cells))=g:=Ct g;simp only[AK]at f1 f2;have hG:(uK g)=True:=o7 G;have hI:(It g c)=True:=o7 h;have e1:IntKind.wrap .i64 (J7 g c+(Aa g c).tdiv g.w)=J7 g c+(Aa g c).tdiv g.w:=by
  unfold J7;exact An zo zo
 refine .mk ⟨BF 0 ..,zt,zt,zt⟩ zt (ZJ.a (AE Tt (AF ?_)));unfold Ii;by_cases q1:f=1
 ·rw[oE q1];simp only[eZ,seval,ZJ,AK,O8,s2,f1,f2,BR,Ax,NY,hG,hI,o7 q1]
 rw[og q1];by_cases q2:g.sh=1
 ·rw[oE q2];simp only[eZ,seval,ZJ,AK,SP,s2,f1,f2,BR,Ax,O6,hG,hI,oA q1,o7 q2]
 rw[og q2];by_cases q3:f=2
 ·rw[oE q3];simp only[eZ,seval,ZJ,AK,SO,s2,f1,f2,BR,Ax,iL,hG,hI,oA q1,oA q2,o7 q3]
 rw[og q3];simp only[eZ,seval,ZJ,AK,O8,SO,s2,f1,f2,BR,Ax,NY,iL,hG,hI,oA q1,oA q2,oA q3,e1]
def DU(g:xk)(c:Nat):A7:=DC g.sh g.w (Aa g (c:Int))
def Ds{g:xk}{c:Nat}(h:c<g.cells.length):(AW g.sh g.w g.cells)[c]?=some (DU g c):=by
 unfold AW DU Aa;rw[oO,o8 h,oH,pM,o8 h];rfl
def B5(g:xk):(AW g.sh g.w g.cells).length=g.cells.length:=o6 ..
def Wx(g:xk)(a b:Nat):Bool:=L1 g.sh (DU g a) (DU g b)
def J2(g:xk)(a:Nat):List Int:=CE g.cells.length (Wx g a)
def XE(g:xk):(List.range g.cells.length).map (J2 g)=Ed g.sh (AW g.sh g.w g.cells):=by
 unfold Ed;refine List.ext_getElem? λi=>?_
 rw[oO,oO];by_cases h:i<g.cells.length
 ·rw[Ds h,qP h];simp only[pr];rw[XC,B5];unfold J2;congr 1;refine D4 λb hb=>?_
  rw[Ds hb];exact O5 ..
 ·simp_all [B5]
def Kz(g:xk):Fs:=if F6 g.sh g.w g.h g.sB g.cells then .sH [Bm (Ed g.sh (AW g.sh g.w g.cells)),.int .i64 0]else .sH [Bm [],.int .i64 130]
structure IFil(m:Nat)(P:Nat->Bool)(H0:AB)(n0:Nat)(v:VRi):Prop where
 hj:v.j<=m
 hn:n0<=v.n
 fr:AU v.H v.n
 hk:∀id,id<n0->AD v.H id=AD H0 id
 tok:EG 1 n0 v.H v.tc
 es:v.tc.esz=1\/CE v.j P=[]
structure INb(g:xk)(m:Nat)(L:Nat->List (List Int))(v:VRg):Prop where
 hi:v.i<=m
 hn:3<=v.n
 fr:AU v.H v.n
 h0:AD v.H 0=some (.box (AK g.sh g.w g.h g.sB g.cells))
 tok:EG 1 1 v.H v.tl
 es:v.tl.esz=1\/v.E=[]
 hE:Wks v.E ((L v.i).map BY)
def aM(g:xk)(a b:Int):Fs:=.bool (L1 g.sh (DC g.sh g.w (Aa g a)) (DC g.sh g.w (Aa g b)))
def Thn:Bk:=AJ 117 (s3 DD dI dI (λg a b=>uK g/\It g a/\It g b) aM) nM
def iM:AG prog Thn:=SN.add (q3 λg a b h=>p117 g a b h.1 h.2.1 h.2.2)
theorem fC(a:List Fs)(H:AB):Thn 117 a H=s3 DD dI dI (λg a b=>uK g/\It g a/\It g b) aM a H:=rfl
theorem fD(a:List Fs)(H:AB):Thn 116 a H=s1 DD (λg=>sR g.sB) JC a H:=rfl
def p70(g:xk)(hh:sR g.sB):A6 prog 70 [B9 g] (Kz g):=by
 refine .mk ⟨BF 0 ..,zt⟩ (by unfold Kz;split<;>exact⟨A0 0 _,zt,zt⟩) (c70.a (AE iM (AF ?_)));have f1:DD.ok (.agg (AK g.sh g.w g.h g.sB g.cells))=True:=D0 g;have f2:DD.dec (.agg (AK g.sh g.w g.h g.sB g.cells))=g:=Ct g;simp only[AK]at f1 f2;cases sn:F6 g.sh g.w g.h g.sB g.cells with
 |false=>
  have hv:Kz g= .sH [Bm [],.int .i64 130]:=by unfold Kz;rw[sn];rfl
  have hc:JC g= .int .i64 130:=by unfold JC;rw[sn];rfl
  rw[hv];simp only[eZ,seval,oh,c70,AK,fD,s1,f1,f2,o7 hh,hc];exact Wk.sH (.cons (Wk.sl (.inr rfl)) (.cons (Wk.refl _) .nil))
 |true=>
 have hc:JC g= .int .i64 0:=by unfold JC;rw[sn];rfl
 have hG:Aq g.sh g.w g.h g.sB=some g.cells:=pg sn;have G:uK g:=⟨hG,hh⟩;obtain⟨ti,ub,uh⟩:=BP hG;have hv:Kz g= .sH [Bm ((List.range g.cells.length).map (J2 g)),.int .i64 0]:=by unfold Kz;rw[sn,XE];rfl
 rw[hv];simp only[eZ,seval,o9,c70,AK,fD,s1,f1,f2,o7 hh,hc];refine AQ (λv:VRg=>⟨[(1,true,.ptr 0 0),(4,true,.sl v.tl v.E),(5,true,.int .i64 v.i)],v.H,v.n⟩) (INb g g.cells.length λi=>(List.range i).map (J2 g)) (λv=>g.cells.length-v.i)
  ⟨0,[],.nil,sA Ac 0 (.box (AK g.sh g.w g.h g.sB g.cells)),3⟩ rfl ⟨oq _,od _,AU.nil.sA (m:=3) (oq 3) (show 0<3 by decide),rfl,.inl rfl,.inr rfl,.nil⟩ ?_
 rintro⟨i,E,tl,H,n⟩ hI;have hi:=hI.hi;have hn:=hI.hn;have l0:=hI.fr;have h0:=hI.h0;have l6:=hI.tok;have s9:=hI.es;have hE:=hI.hE;simp only at hi hn l0 h0 l6 s9 hE;have h0':=h0;simp only[AK]at h0';by_cases e9:i<g.cells.length;case neg=>
  obtain rfl:i=g.cells.length:=zo
  simp only[eZ,seval,o6,h0',Ah e9];exact Wk.sH (.cons (Wk.slx s9 hE) (.cons (Wk.refl _) .nil))
 have e:=AI (k:=i) zo;have gi:It g (i:Int):=⟨zo,by rw[oH];exact e9⟩;simp only[eZ,seval,o6,h0',AT e9];refine AQ (λv:VRi=>⟨[(1,true,.ptr 0 0),(4,true,.sl tl E),(5,true,.int .i64 i),(6,true,.sl v.tc ((CE v.j (Wx g i)).map eI)),(7,true,.int .i64 v.j)],v.H,v.n⟩)
  (IFil g.cells.length (Wx g i) H n) (λv=>g.cells.length-v.j) ⟨0,.nil,H,n⟩ rfl ⟨oq _,od _,l0,λid s5=>rfl,.inl rfl,.inr rfl⟩ ?_
 rintro⟨j,tc,H1,n1⟩ ⟨hj,w7,t7,hk,sr,tn⟩;simp only at hj w7 t7 hk sr tn;have z9:AD H1 0=some (.box (AK g.sh g.w g.h g.sB g.cells)):=by rw[hk 0 zo];exact h0
 have ur:=z9;simp only[AK]at ur;by_cases t8:j<g.cells.length
 ·have ej:=AI (k:=j) zo;have gj:It g (j:Int):=⟨zo,by rw[oH];exact t8⟩;have hs:=EB j (Wx g i);have hb:L1 g.sh (DC g.sh g.w (Aa g (i:Int))) (DC g.sh g.w (Aa g (j:Int)))=Wx g i j:=rfl;cases hbb:Wx g i j with
  |false=>
   rw[hbb,og zd]at hs;rw[hbb]at hb;simp only[eZ,seval,o6,ur,AT t8,fC,s3,f1,f2,BR,Ax,aM,o7 G,o7 gi,o7 gj,hb,ej];exact .mk ⟨j+1,tc,H1,n1⟩ (by simp only[hs]) ⟨t8,w7,t7,hk,sr,by simp only[hs];exact tn⟩ zp
  |true=>
   rw[hbb,oE rfl]at hs;rw[hbb]at hb;have l9:=Cc j (Wx g i);have q1:At H1 1 tc=True:=o7 sr.app;have q2:((CE j (Wx g i)).length<=35184372088831)=True:=o7 zo;have q3:small ((CE j (Wx g i)).length+1) 8=True:=o7 (AY zo zd);simp only[eZ,seval,o6,ur,AT t8,fC,s3,f1,f2,BR,Ax,aM,o7 G,o7 gi,o7 gj,hb,ej,q1,q2,q3,Bx t7];refine .mk ⟨j+1,.own (n1+3) 1,sA (AR H1 tc) (n1+3) .tok,n1+5⟩ ?_ ⟨t8,zp,(AZ sr t7).sA (m:=n1+5) zo zo,λid s5=>?_,.inr (.inr ⟨n1+3,rfl,zo,AC ..⟩),.inl rfl⟩ zp
   ·simp only[hs,oD];rfl
   ·grind [AA,Ai]
 obtain rfl:j=g.cells.length:=zo
 have hEl:E.length=i:=by
  have:=hE.len;simp only[o6,qi]at this;exact this
 have v9:EG 1 1 H1 tl:=by
  rcases l6 with rfl|rfl|⟨id,rfl,h1,h2⟩
  ·exact .inl rfl
  ·exact .inr (.inl rfl)
  ·exact .inr (.inr ⟨id,rfl,h1,by rw[hk id (l0.lt h2)];exact h2⟩)
 have q1:At H1 1 tl=True:=o7 v9.app;have q2:(E.length<=35184372088831)=True:=o7 zo;have q3:small (E.length+1) 24=True:=o7 (AY zo zd);simp only[eZ,seval,o6,ur,Ah t8,e,q1,q2,q3,Bx t7];refine .mk ⟨i+1,E++[.sl tc ((J2 g i).map eI)],.own (n1+3) 1,sA (AR H1 tl) (n1+3) .tok,n1+5⟩ rfl ⟨e9,zp,(AZ v9 t7).sA (m:=n1+5) zo zo,?_,.inr (.inr ⟨n1+3,rfl,zo,AC ..⟩),.inl rfl,?_⟩ zp
 ·grind [AA,Ai]
 ·simp only[pU,oD,oL,pc];simp only[pO]at hE⊢;exact hE.app (.cons (Wk.sl (tn.imp id λq=>by unfold J2;rw[q];rfl)) .nil)
def SQ(g:xk)(f n:Int)(c:Nat):Bool:=decide (Ii g f (c:Int)=n)
def nO(g:xk)(f n:Int):List Int:=CE g.cells.length (SQ g f n)
def Tu(g:xk)(f:Int)(i:Nat):List (List Int):=((List.range i).map λ(k:Nat)=>nO g f (-16+(k:Int))).filter λl=>!l.isEmpty
def XG{g:xk}{f:Int}{fn:A7->Option Int}(h:∀c,c<g.cells.length->fn (DU g c)=some (Ii g f (c:Int))):Tu g f 49=CB (AW g.sh g.w g.cells) fn:=by
 unfold Tu CB J1;rw[pO];congr 1;refine pC λk _=>?_
 unfold nO CA;simp only[Function.comp];rw[B5];refine D4 λc hc=>?_
 rw[Ds hc,rI,h c hc];unfold SQ;rw[oZ];simp only[oC,Option.some.injEq];omega
def aN(g:xk)(f:Int)(i:Nat):(Tu g f i).length<=i:=by
 refine pu (qa ..) ?_;rw[o6,qi];exact od _
def XH(g:xk)(f:Int)(i:Nat):Tu g f (i+1)=Tu g f i++if(nO g f (-16+(i:Int))).isEmpty then[]else[nO g f (-16+(i:Int))]:=by
 unfold Tu;rw[pU,oD,qv];congr 1;simp only[oL,pc,qh,rY];cases (nO g f (-16+(i:Int))).isEmpty<;>rfl
def fLn(g:xk)(f c:Int):Fs:=.int .i64 (Ii g f c)
def Thl:Bk:=AJ 185 (s3 DD dI dI (λg f c=>uK g/\It g c) fLn) nM
def iO:AG prog Thl:=SN.add (q3 λg f c h=>p185 g f c h.1 h.2)
structure ILn(g:xk)(m:Nat)(L:Nat->List (List Int))(v:VRg):Prop where
 hi:v.i<=m
 hn:2<=v.n
 fr:AU v.H v.n
 h0:AD v.H 0=some (.box (AK g.sh g.w g.h g.sB g.cells))
 tok:EG 1 1 v.H v.tl
 es:v.tl.esz=1\/v.E=[]
 hE:Wks v.E ((L v.i).map BY)
def p118(g:xk)(f:Int)(G:uK g):A6 prog 118 [B9 g,.int .i64 f] (Bm (Tu g f 49)):=by
 refine .mk ⟨BF 0 ..,zt,zt⟩ (A0 0 _) (c118.a (AE iO (AF ?_)));have f1:DD.ok (.agg (AK g.sh g.w g.h g.sB g.cells))=True:=D0 g;have f2:DD.dec (.agg (AK g.sh g.w g.h g.sB g.cells))=g:=Ct g;simp only[AK]at f1 f2;obtain⟨ti,ub,uh⟩:=BP G.hG;simp only[eE,eN,seval,c118,AK];refine AQ (λv:VRg=>⟨[(1,true,.int .i64 f),(2,true,.ptr 0 0),(5,true,.sl v.tl v.E),(6,true,.int .i64 (-16+(v.i:Int)))],v.H,v.n⟩) (ILn g 49 (Tu g f)) (λv=>49-v.i)
  ⟨0,[],.nil,sA Ac 0 (.box (AK g.sh g.w g.h g.sB g.cells)),2⟩ rfl ⟨oq _,od _,AU.nil.sA (m:=2) (oq 2) (show 0<2 by decide),rfl,.inl rfl,.inr rfl,.nil⟩ ?_
 rintro⟨i,E,tl,H,n⟩ hI;have hi:=hI.hi;have hn:=hI.hn;have l0:=hI.fr;have h0:=hI.h0;have l6:=hI.tok;have s9:=hI.es;have hE:=hI.hE;simp only at hi hn l0 h0 l6 s9 hE;by_cases e9:i<49;case neg=>
  obtain rfl:i=49:=zo
  have hq:(-16+((49:Nat):Int)<=32)=False:=oA zo;simp only[eZ,seval,hq];exact Wk.slx s9 hE
 have hq:(-16+(i:Int)<=32)=True:=o7 zo;have e:IntKind.wrap .i64 (-16+(i:Int)+1)= -16+((i+1:Nat):Int):=by rw[An zo zo];omega
 simp only[eZ,seval,hq];refine AQ (λv:VRi=>⟨[(1,true,.int .i64 f),(2,true,.ptr 0 0),(5,true,.sl tl E),(6,true,.int .i64 (-16+(i:Int))),(7,true,.sl v.tc ((CE v.j (SQ g f (-16+(i:Int)))).map eI)),(8,true,.int .i64 v.j)],v.H,v.n⟩)
  (IFil g.cells.length (SQ g f (-16+(i:Int))) H n) (λv=>g.cells.length-v.j) ⟨0,.nil,H,n⟩ rfl ⟨oq _,od _,l0,λid s5=>rfl,.inl rfl,.inr rfl⟩ ?_
 rintro⟨j,tc,H1,n1⟩ ⟨hj,w7,t7,hk,sr,tn⟩;simp only at hj w7 t7 hk sr tn;have z9:AD H1 0=some (.box (AK g.sh g.w g.h g.sB g.cells)):=by rw[hk 0 zo];exact h0
 have ur:=z9;simp only[AK]at ur;by_cases t8:j<g.cells.length
 ·have ej:=AI (k:=j) zo;have gj:It g (j:Int):=⟨zo,by rw[oH];exact t8⟩;have hs:=EB j (SQ g f (-16+(i:Int)));cases hbb:SQ g f (-16+(i:Int)) j with
  |false=>
   rw[hbb,og zd]at hs;have hb:(Ii g f (j:Int)= -16+(i:Int))=False:=oA (rO hbb);simp only[eZ,seval,o6,ur,AT t8,Thl,s3,f1,f2,BR,Ax,fLn,o7 G,o7 gj,hb,ej,AJ];exact .mk ⟨j+1,tc,H1,n1⟩ (by simp only[hs]) ⟨t8,w7,t7,hk,sr,by simp only[hs];exact tn⟩ zp
  |true=>
   rw[hbb,oE rfl]at hs;have hb:(Ii g f (j:Int)= -16+(i:Int))=True:=o7 (pg hbb);have l9:=Cc j (SQ g f (-16+(i:Int)));have q1:At H1 1 tc=True:=o7 sr.app;have q2:((CE j (SQ g f (-16+(i:Int)))).length<=35184372088831)=True:=o7 zo;have q3:small ((CE j (SQ g f (-16+(i:Int)))).length+1) 8=True:=o7 (AY zo zd);simp only[eZ,seval,o6,ur,AT t8,Thl,s3,f1,f2,BR,Ax,fLn,o7 G,o7 gj,hb,ej,q1,q2,q3,Bx t7,AJ];refine .mk ⟨j+1,.own (n1+3) 1,sA (AR H1 tc) (n1+3) .tok,n1+5⟩ ?_ ⟨t8,zp,(AZ sr t7).sA (m:=n1+5) zo zo,λid s5=>?_,.inr (.inr ⟨n1+3,rfl,zo,AC ..⟩),.inl rfl⟩ zp
   ·simp only[hs,oD];rfl
   ·grind [AA,Ai]
 obtain rfl:j=g.cells.length:=zo
 have hEl:E.length<=i:=by
  have:=hE.len;simp only[o6]at this;have:=aN g f i;omega
 have v9:EG 1 1 H1 tl:=by
  rcases l6 with rfl|rfl|⟨id,rfl,h1,h2⟩
  ·exact .inl rfl
  ·exact .inr (.inl rfl)
  ·exact .inr (.inr ⟨id,rfl,h1,by rw[hk id (l0.lt h2)];exact h2⟩)
 have hsu:=XH g f i;have hLl:nO g f (-16+(i:Int))=CE g.cells.length (SQ g f (-16+(i:Int))):=rfl;rw[hLl]at hsu;by_cases hz:(CE g.cells.length (SQ g f (-16+(i:Int)))).length=0
 ·have hq0:((0:Int)<((CE g.cells.length (SQ g f (-16+(i:Int)))).length:Int))=False:=oA zo;rw[qb.1 hz]at hsu;simp only[List.isEmpty_nil,pG,oR]at hsu;simp only[eZ,seval,o6,ur,Ah t8,e,hq0];exact .mk ⟨i+1,E,tl,H1,n1⟩ rfl ⟨e9,zp,t7,z9,v9,s9,by simp only[hsu];exact hE⟩ zp
 have hq0:((0:Int)<((CE g.cells.length (SQ g f (-16+(i:Int)))).length:Int))=True:=o7 zo;have hem:(CE g.cells.length (SQ g f (-16+(i:Int)))).isEmpty=false:=by
  rw[List.isEmpty_eq_false_iff];intro q;rw[q]at hz;exact hz rfl
 rw[hem]at hsu;simp only[oP,pb]at hsu;have q1:At H1 1 tl=True:=o7 v9.app;have q2:(E.length<=35184372088831)=True:=o7 zo;have q3:small (E.length+1) 24=True:=o7 (AY zo zd);simp only[eZ,seval,o6,ur,Ah t8,e,hq0,q1,q2,q3,Bx t7];refine .mk ⟨i+1,E++[.sl tc ((CE g.cells.length (SQ g f (-16+(i:Int)))).map eI)],.own (n1+3) 1,sA (AR H1 tl) (n1+3) .tok,n1+5⟩ rfl ⟨e9,zp,(AZ v9 t7).sA (m:=n1+5) zo zo,?_,.inr (.inr ⟨n1+3,rfl,zo,AC ..⟩),.inl rfl,?_⟩ zp
 ·grind [AA,Ai]
 ·simp only[hsu,oD,oL,pc];exact hE.app (.cons (Wk.sl (tn.imp id λq=>by rw[q];rfl)) .nil)
def Tv(g:xk)(k c:Nat):Bool:=decide ((k:Int)=0)&&decide ((Aa g (c:Int)).tmod g.w=(Aa g (c:Int)).tdiv g.w)||decide ((k:Int)=1)&&decide ((Aa g (c:Int)).tmod g.w=g.w-1-(Aa g (c:Int)).tdiv g.w)
def IG(g:xk)(k:Nat):List Int:=CE g.cells.length (Tv g k)
def aO(g:xk):List (List Int):=(if(IG g 0).isEmpty then[]else[IG g 0])++(if(IG g 1).isEmpty||decide (IG g 0=IG g 1)then[]else[IG g 1])
def dgS_S{g:xk}(h:g.sh=1):aO g=LR g.w (AW g.sh g.w g.cells):=by
 have uE:∀c:Nat,DU g c=((Aa g (c:Int)).tmod g.w,(Aa g (c:Int)).tdiv g.w):=λc=>by
  unfold DU DC;rw[og zo]
 have h0:IG g 0=CA (AW g.sh g.w g.cells) (λs=>if s.1=s.2 then some 0 else none) 0:=by
  unfold IG CA;rw[B5];refine D4 λc hc=>?_
  rw[Ds hc,uE,rI];unfold Tv;by_cases q:(Aa g (c:Int)).tmod g.w=(Aa g (c:Int)).tdiv g.w<;>simp [q]
 have h1:IG g 1=CA (AW g.sh g.w g.cells) (λs=>if s.1+s.2=g.w-1 then some 0 else none) 0:=by
  unfold IG CA;rw[B5];refine D4 λc hc=>?_
  rw[Ds hc,uE,rI];unfold Tv;by_cases q:(Aa g (c:Int)).tmod g.w=g.w-1-(Aa g (c:Int)).tdiv g.w
  ·simp_all
  ·grind
 unfold aO LR;rw[h0,h1]
def Thd:Bk:=AJ 39 (s2 Cj Cj (λa _=>sR a) λa b=>.bool (decide (a=b))) aK
def iP:AG prog Thd:=O7.add (q2 p39)
theorem fE(a:List Fs)(H:AB):Thd 39 a H=s2 Cj Cj (λa _=>sR a) (λa b=>.bool (decide (a=b))) a H:=rfl
theorem fF(a:List Fs)(H:AB):Thd 182 a H=s2 DD dI (λg c=>uK g/\It g c) O6 a H:=rfl
theorem fG(a:List Fs)(H:AB):Thd 183 a H=s2 DD dI (λg c=>uK g/\It g c) NY a H:=rfl
structure IDg(g:xk)(v:VRg):Prop where
 hi:v.i<=2
 hn:2<=v.n
 fr:AU v.H v.n
 h0:AD v.H 0=some (.box (AK g.sh g.w g.h g.sB g.cells))
 tok:EG 1 1 v.H v.tl
 es:v.tl.esz=1\/v.E=[]
 ne:¬g.w=g.h->v.i=0
 e0:v.i=0->v.E=[]
 e1:v.i=1->(IG g 0=[]/\v.E=[])\/(IG g 0≠[]/\∃t,t.esz=1/\v.E=[.sl t ((IG g 0).map eI)])
 e2:v.i=2->Wks v.E ((aO g).map BY)
def fH(g:xk):List (List Int):=if g.w=g.h then aO g else[]
def p119(g:xk)(G:uK g):A6 prog 119 [B9 g] (Bm (fH g)):=by
 refine .mk ⟨BF 0 ..,zt⟩ (A0 0 _) (c119.a (AE iP (AF ?_)));have f1:DD.ok (.agg (AK g.sh g.w g.h g.sB g.cells))=True:=D0 g;have f2:DD.dec (.agg (AK g.sh g.w g.h g.sB g.cells))=g:=Ct g;simp only[AK]at f1 f2;obtain⟨ti,ub,uh⟩:=BP G.hG;simp only[eE,eN,seval,c119,AK];refine AQ (λv:VRg=>⟨[(1,true,.ptr 0 0),(3,true,.sl v.tl v.E),(4,true,.int .i64 v.i)],v.H,v.n⟩) (IDg g) (λv=>2-v.i)
  ⟨0,[],.nil,sA Ac 0 (.box (AK g.sh g.w g.h g.sB g.cells)),2⟩ rfl ⟨oq _,od _,AU.nil.sA (m:=2) (oq 2) (show 0<2 by decide),rfl,.inl rfl,.inr rfl,λ_=>rfl,λ_=>rfl,(λq=>by cases q),(λq=>by cases q)⟩ ?_
 rintro⟨i,E,tl,H,n⟩ hI;have hi:=hI.hi;have hn:=hI.hn;have l0:=hI.fr;have h0:=hI.h0;have l6:=hI.tok;have s9:=hI.es;have sZ:=hI.ne;have hE0:=hI.e0;have hE1:=hI.e1;have hE2:=hI.e2;simp only at hi hn l0 h0 l6 s9 sZ hE0 hE1 hE2;have h0':=h0;simp only[AK]at h0';by_cases so:g.w=g.h;case neg=>
  have hi0:=sZ so;subst hi0;have hE:=hE0 rfl;subst hE;have hv:fH g=[]:=by unfold fH;rw[og so]
  have hq:(((0:Nat):Int)<2)=True:=o7 zd;rw[hv];simp only[eZ,seval,c0,h0',oA so];exact Wk.sl s9
 have hv:fH g=aO g:=by unfold fH;rw[oE so]
 rw[hv];by_cases e9:i<2;case neg=>
  obtain rfl:i=2:=zo
  have hq:(((2:Nat):Int)<2)=False:=oA zd;simp only[eZ,seval,h0',hq];exact Wk.slx s9 (hE2 rfl)
 have hq:((i:Int)<2)=True:=o7 zo;have e:=AI (k:=i) zo;simp only[eZ,seval,h0',hq,o7 so];refine AQ (λv:VRi=>⟨[(1,true,.ptr 0 0),(3,true,.sl tl E),(4,true,.int .i64 i),(5,true,.sl v.tc ((CE v.j (Tv g i)).map eI)),(6,true,.int .i64 v.j)],v.H,v.n⟩)
  (IFil g.cells.length (Tv g i) H n) (λv=>g.cells.length-v.j) ⟨0,.nil,H,n⟩ rfl ⟨oq _,od _,l0,λid s5=>rfl,.inl rfl,.inr rfl⟩ ?_
 rintro⟨j,tc,H1,n1⟩ ⟨hj,w7,t7,hk,sr,tn⟩;simp only at hj w7 t7 hk sr tn;have z9:AD H1 0=some (.box (AK g.sh g.w g.h g.sB g.cells)):=by rw[hk 0 zo];exact h0
 have ur:=z9;simp only[AK]at ur;by_cases t8:j<g.cells.length
 ·have ej:=AI (k:=j) zo;have gj:It g (j:Int):=⟨zo,by rw[oH];exact t8⟩;obtain⟨-,-,-,-,-,w1,w2,x1,x2,y1,y2,ey,-⟩:=G.at gj;have r1:IntKind.wrap .i64 (g.w-1)=g.w-1:=An zo zo;have r2:IntKind.wrap .i64 (g.w-1-(Aa g (j:Int)).tdiv g.w)=g.w-1-(Aa g (j:Int)).tdiv g.w:=An zo zo;have hs:=EB j (Tv g i);have hb:(decide ((i:Int)=0)&&decide ((Aa g (j:Int)).tmod g.w=(Aa g (j:Int)).tdiv g.w)||decide ((i:Int)=1)&&decide ((Aa g (j:Int)).tmod g.w=g.w-1-(Aa g (j:Int)).tdiv g.w))=Tv g i j:=rfl;cases hbb:Tv g i j with
  |false=>
   rw[hbb,og zd]at hs;rw[hbb]at hb;simp only[eZ,seval,o6,ur,AT t8,fF,fG,s2,f1,f2,BR,Ax,O6,NY,o7 G,o7 gj,r1,r2,hb,ej];exact .mk ⟨j+1,tc,H1,n1⟩ (by simp only[hs]) ⟨t8,w7,t7,hk,sr,by simp only[hs];exact tn⟩ zp
  |true=>
   rw[hbb,oE rfl]at hs;rw[hbb]at hb;have l9:=Cc j (Tv g i);have q1:At H1 1 tc=True:=o7 sr.app;have q2:((CE j (Tv g i)).length<=35184372088831)=True:=o7 zo;have q3:small ((CE j (Tv g i)).length+1) 8=True:=o7 (AY zo zd);simp only[eZ,seval,o6,ur,AT t8,fF,fG,s2,f1,f2,BR,Ax,O6,NY,o7 G,o7 gj,r1,r2,hb,ej,q1,q2,q3,Bx t7];refine .mk ⟨j+1,.own (n1+3) 1,sA (AR H1 tc) (n1+3) .tok,n1+5⟩ ?_ ⟨t8,zp,(AZ sr t7).sA (m:=n1+5) zo zo,λid s5=>?_,.inr (.inr ⟨n1+3,rfl,zo,AC ..⟩),.inl rfl⟩ zp
   ·simp only[hs,oD];rfl
   ·grind [AA,Ai]
 obtain rfl:j=g.cells.length:=zo
 have v9:EG 1 1 H1 tl:=by
  rcases l6 with rfl|rfl|⟨id,rfl,h1,h2⟩
  ·exact .inl rfl
  ·exact .inr (.inl rfl)
  ·exact .inr (.inr ⟨id,rfl,h1,by rw[hk id (l0.lt h2)];exact h2⟩)
 have hA:IG g i=CE g.cells.length (Tv g i):=rfl;have hAl:=Cc g.cells.length (Tv g i);rw[<-hA]at tn hAl⊢;have hi01:i=0\/i=1:=zo
 have q1:At H1 1 tl=True:=o7 v9.app;by_cases hz:(IG g i).length=0
 ·have hz0:((0:Int)<((IG g i).length:Int))=False:=oA zo;have hzn:=qb.1 hz;simp only[eZ,seval,eY,ur,Ah t8,e,hz0];refine .mk ⟨i+1,E,tl,H1,n1⟩ rfl ⟨e9,zp,t7,z9,v9,s9,λq=>absurd so q,(λq=>by cases q),λq=>?_,λq=>?_⟩ zp
  ·have q':i+1=1:=q;obtain rfl:i=0:=zo
   exact .inl ⟨hzn,hE0 rfl⟩
  ·have q':i+1=2:=q;obtain rfl:i=1:=zo
   simp only[];unfold aO;rw[hzn];simp only[List.isEmpty_nil,Bool.true_or,pG,oR];rcases hE1 rfl with⟨a1,rfl⟩|⟨a1,t,a2,rfl⟩
   ·rw[a1];exact .nil
   ·rw[og (by simp [a1])];exact .cons (Wk.sl (.inl a2)) .nil
 have hz0:((0:Int)<((IG g i).length:Int))=True:=o7 zo;have hane:IG g i≠[]:=λq=>by rw[q]at hz;exact hz rfl
 have het:tc.esz=1:=tn.resolve_right hane;have tW:∀E':List Fs,((E'.length:Int)=0)=True\/True:=λ_=>.inr zt
 rcases hi01 with rfl|rfl
 ·have hE:=hE0 rfl;subst hE;have q3:small ([]:List Fs).length.succ 24=True:=o7 (AY zd zd);have q4:small 1 24=True:=o7 (AY zd zd);have z1:((([]:List Fs).length:Int)=0)=True:=o7 rfl;simp only[eZ,seval,o9,eY,ur,Ah t8,hz0,q1,q4,Bx t7];refine .mk ⟨1,[.sl tc ((IG g 0).map eI)],.own (n1+3) 1,sA (AR H1 tl) (n1+3) .tok,n1+5⟩ rfl ⟨(by show 1<=2;decide),zp,(AZ v9 t7).sA (m:=n1+5) zo zo,?_,.inr (.inr ⟨n1+3,rfl,zo,AC ..⟩),.inl rfl,λq=>absurd so q,(λq=>by cases q),λq=>.inr ⟨hane,tc,het,rfl⟩,(λq=>by cases q)⟩ zp;simp only[];rw[AA _ _ _ _ zo,Ai v9 (.inl zo)];exact z9
 ·rcases hE1 rfl with⟨a1,rfl⟩|⟨a1,t,a2,rfl⟩
  ·have q4:small 1 24=True:=o7 (AY zd zd);simp only[eZ,seval,o9,eY,ur,Ah t8,hz0,q1,q4,Bx t7];refine .mk ⟨2,[.sl tc ((IG g 1).map eI)],.own (n1+3) 1,sA (AR H1 tl) (n1+3) .tok,n1+5⟩ rfl ⟨(by show 2<=2;decide),zp,(AZ v9 t7).sA (m:=n1+5) zo zo,?_,.inr (.inr ⟨n1+3,rfl,zo,AC ..⟩),.inl rfl,λq=>absurd so q,(λq=>by cases q),(λq=>by cases q),λq=>?_⟩ zp
   ·grind [AA,Ai]
   ·simp only[];unfold aO;rw[a1];simp only[List.isEmpty_nil,pG,oW];rw[og (by simp [hane,Ne.symm hane])];exact .cons (Wk.sl (.inl het)) .nil
  ·have hts:tl.esz=1:=s9.resolve_right zw;have o1:Cj.ok (.sl t ((IG g 0).map eI))=True:=o7 ⟨.inl a2,by rw[Ew]⟩;have o2:Cj.dec (.sl t ((IG g 0).map eI))=IG g 0:=Ew _;have o3:Cj.ok (.sl tc ((IG g 1).map eI))=True:=o7 ⟨.inl het,by rw[Ew]⟩;have o4:Cj.dec (.sl tc ((IG g 1).map eI))=IG g 1:=Ew _;have hA0:=Cc g.cells.length (Tv g 0);have o5:sR (IG g 0)=True:=o7 (show(IG g 0).length<_ by unfold IG;omega);by_cases hsame:IG g 0=IG g 1
   ·simp only[eZ,seval,o9,eY,ur,Ah t8,hz0,o7 hts,fE,s2,o1,o2,o3,o4,o5,BL hsame];refine .mk ⟨2,[.sl t ((IG g 0).map eI)],tl,H1,n1⟩ rfl ⟨(by show 2<=2;decide),zp,t7,z9,v9,s9,λq=>absurd so q,(λq=>by cases q),(λq=>by cases q),λq=>?_⟩ zp;simp only[];unfold aO;rw[og (by simp [a1]),oE (by simp [hsame])];exact .cons (Wk.sl (.inl a2)) .nil
   ·have q4:small 2 24=True:=o7 (AY zd zd);simp only[eZ,seval,oh,eY,ur,Ah t8,hz0,o7 hts,fE,s2,o1,o2,o3,o4,o5,A5 hsame,q1,q4,Bx t7];refine .mk ⟨2,[.sl t ((IG g 0).map eI),.sl tc ((IG g 1).map eI)],.own (n1+3) 1,sA (AR H1 tl) (n1+3) .tok,n1+5⟩ rfl ⟨(by show 2<=2;decide),zp,(AZ v9 t7).sA (m:=n1+5) zo zo,?_,.inr (.inr ⟨n1+3,rfl,zo,AC ..⟩),.inl rfl,λq=>absurd so q,(λq=>by cases q),(λq=>by cases q),λq=>?_⟩ zp
    ·grind [AA,Ai]
    ·simp only[];unfold aO;rw[og (by simp [a1]),og (by simp [hane,hsame])];exact .cons (Wk.sl (.inl a2)) (.cons (Wk.sl (.inl het)) .nil)
def HU(g:xk)(c b:Nat):Bool:=decide ((b:Int)=(c:Int))||(J2 g c).contains (b:Int)
def XI(g:xk)(c:Nat):List Int:=CE g.cells.length (HU g c)
def Nr(g:xk)(c:Nat):List (List Int):=((J2 g c).filter λb=>decide ((c:Int)<b)).map λb=>[(c:Int),b]
def HJ(i:Nat):List Int:=CE i λ_=>true
def NT(g:xk)(f:Int)(i:Nat):List (List Int):=
 if f=0 then(List.range i).map λ(c:Nat)=>[(c:Int)]else if f=5 then(List.range i).map (XI g)else if f=6 then(List.range i).flatMap (Nr g)else[]
def XJ(g:xk)(f:Int):List (List Int):=
 if f=1\/f=2 then Tu g f 49 else if f=3 then(if g.sh=1 then fH g else Tu g f 49)else if f=4 then(List.range g.cells.length).map (J2 g)else if f=7 then[HJ g.cells.length]else NT g f g.cells.length
def VL(g:xk)(f:Int):Fs:=if F6 g.sh g.w g.h g.sB g.cells then(if f<0\/7<f then .sH [Bm [],.int .i64 1]else .sH [Bm (XJ g f),.int .i64 0])else .sH [Bm [],.int .i64 130]
def iQ{g:xk}(G:uK g){f:Nat}(hf:f<=7):XJ g (f:Int)=E5 g.sh g.w g.h (AW g.sh g.w g.cells) f:=by
 obtain⟨hs,-⟩:=H9 G.hG;have hrow:∀c:Nat,(DU g c).2=(Aa g (c:Int)).tdiv g.w:=λc=>rfl
 have hsq:g.sh=1->∀c:Nat,(DU g c).1=(Aa g (c:Int)).tmod g.w:=λh c=>by
  unfold DU DC;rw[og zo]
 have hhx:g.sh=2->∀c:Nat,(DU g c).1=J7 g (c:Int):=λh c=>by
  unfold DU DC J7;rw[oE h]
 have hl1:Tu g 1 49=CB (AW g.sh g.w g.cells) λs=>some s.2:=XG λc hc=>by
  unfold Ii;rw[oE rfl,hrow]
 have hl2:Tu g 2 49=CB (AW g.sh g.w g.cells) λs=>some s.1:=XG λc hc=>by
  unfold Ii;rcases hs with h|h
  ·rw[og zd,oE h,hsq h]
  ·rw[og zd,og zo,oE rfl,hhx h]
 have hl3:g.sh=2->Tu g 3 49=CB (AW g.sh g.w g.cells) λs=>some (s.1+s.2):=λh=>XG λc hc=>by
  unfold Ii;rw[og zd,og zo,og zd,hrow,hhx h]
 have hnb:=XE g;have hS:=B5 g;have hn:∀c:Nat,c<g.cells.length->((Ed g.sh (AW g.sh g.w g.cells))[c]?.getD [])=J2 g c:=λc hc=>by
  rw[<-hnb,oO,qP hc];rfl
 unfold XJ E5 NT;rcases(by omega:f=0\/f=1\/f=2\/f=3\/f=4\/f=5\/f=6\/f=7)with rfl|rfl|rfl|rfl|rfl|rfl|rfl|rfl
 ·simp_all [SF,pO]
 ·simp (decide:=true) only[pG,pb];exact hl1
 ·simp (decide:=true) only[pG,pb];exact hl2
 ·simp (decide:=true) only[pG,pb];rcases hs with h|h
  ·rw[oE h,og zo];unfold fH;rw[dgS_S h]
  ·rw[og zo,oE h];exact hl3 h
 ·simp (decide:=true) only[pG,pb];exact hnb
 ·simp (decide:=true) only[pG,pb];rw[hS];refine pC λc hc=>?_
  have hc':=px.1 hc;unfold XI;refine D4 λb hb=>?_
  unfold HU;rw[Ds hc'];have e1:(J2 g c).contains (b:Int)=Wx g c b:=by
   unfold J2;rw[oZ,pF,NQ];exact⟨λq=>q.2,λq=>⟨hb,q⟩⟩
  have e2:Wx g c b=(FX g.sh).any λd=>decide ((AW g.sh g.w g.cells)[b]?=some (Ih (DU g c) d)):=by
   unfold Wx;rw[O5,Ds hb];unfold VI;simp only[Option.some.injEq]
  rw[e1,e2];simp only[pr];congr 1;rw[oZ];simp only[oC];omega
 ·simp (decide:=true) only[pG,pb];rw[hS,List.flatMap_def,List.flatMap_def];congr 1;refine pC λc hc=>?_
  rw[hn c (px.1 hc)];rfl
 ·simp (decide:=true) only[pG,pb];rw[hS];rfl
def Lh{e lo n i:Nat}{H:AB}{tl ta:xv}(h:EG e lo H tl)(ha:EG e lo H ta)(hd:∀a b x y,tl= .own a x->ta= .own b y->a≠b)(hf:AU H n)(hi:n<=i):EG e lo (sA (AR H ta) i .tok) tl:=by
 rcases h with rfl|rfl|⟨id,rfl,h1,h2⟩
 ·exact .inl rfl
 ·exact .inr (.inl rfl)
 ·refine .inr (.inr ⟨id,rfl,h1,?_⟩);have s5:=hf.lt h2;rw[AA _ _ _ _ zo];rcases ha with rfl|rfl|⟨b,rfl,-,-⟩
  ·exact h2
  ·exact h2
  ·simp only[AR];rw[AA _ _ _ _ (hd _ _ _ _ rfl rfl).symm];exact h2
def O9(g:xk)(c:Nat):(J2 g c).length<=g.cells.length:=Cc ..
def VN(g:xk)(c:Nat):(Nr g c).length<=g.cells.length:=by
 unfold Nr;rw[o6];exact pu (qa ..) (O9 g c)
def Tw(g:xk)(f:Int)(h:g.cells.length<=256):∀i,(NT g f i).length<=256*i:=by
 intro i;unfold NT;split
 ·simp;omega
 ·split
  ·simp;omega
  ·split
   ·induction i with
    |zero=>simp
    |succ i ih=>
     rw[pU,re,ou];have:=VN g i;simp only[List.flatMap_cons,List.flatMap_nil,oR];omega
   ·simp
def Ns(i:Nat):HJ (i+1)=HJ i++[(i:Int)]:=by unfold HJ;rw[EB,oE rfl]
def NZ:Bk:=AJ 70 (s1 DD (λg=>sR g.sB) Kz) (AJ 115 (s2 Cj dI (λl _=>sR l) λl x=>.bool (l.contains x)) (AJ 118 (s2 DD dI (λg _=>uK g) λg f=>Bm (Tu g f 49)) (AJ 119 (s1 DD uK λg=>Bm (fH g)) sE)))
def aP:AG prog NZ:=(((AG.sE.add (q1 p119)).add (q2 λg f h=>p118 g f h)).add (q2 p115)).add (q1 p70)
structure VFm where
 i:Nat
 E:List Fs
 tl:xv
 ta:xv
 H:AB
 n:Nat
def Wy(tl ta:xv):Prop:=∀a b x y,tl= .own a x->ta= .own b y->a≠b
def Wy.symm{tl ta:xv}(h:Wy tl ta):Wy ta tl:=λa b x y h1 h2=>(h b a y x h2 h1).symm
def Wy.fresh{e lo n i:Nat}{H:AB}{tl:xv}(h:EG e lo H tl)(hf:AU H n)(hi:n<=i)(s:Nat):Wy tl (.own i s):=λa b x y h1 h2=>by
 injection h2 with h2 _
 subst h2;rcases h with rfl|rfl|⟨id,rfl,-,h3⟩
 ·cases h1
 ·cases h1
 ·injection h1 with h1 _
  have:=hf.lt h3;omega
structure IFm(g:xk)(f:Int)(v:VFm):Prop where
 hi:v.i<=g.cells.length
 hn:3<=v.n
 fr:AU v.H v.n
 h0:AD v.H 0=some (.box (AK g.sh g.w g.h g.sB g.cells))
 tok:EG 1 1 v.H v.tl
 toka:EG 1 1 v.H v.ta
 ap:Wy v.tl v.ta
 es:v.tl.esz=1\/v.E=[]
 esa:v.ta.esz=1\/v.i=0
 hE:Wks v.E ((NT g f v.i).map BY)
def XK(g:xk)(c j:Nat):List (List Int):=(((J2 g c).take j).filter λb=>decide ((c:Int)<b)).map λb=>[(c:Int),b]
def aQ(g:xk)(c j:Nat):(XK g c j).length<=j:=by
 unfold XK;rw[o6];refine pu (qa ..) ?_;rw[oJ];omega
def XL(g:xk)(c:Nat){j:Nat}(h:j<(J2 g c).length):XK g c (j+1)=if(c:Int)<(J2 g c)[j]then XK g c j++[[(c:Int),(J2 g c)[j]]]else XK g c j:=by
 unfold XK;rw[oG,o8 h];simp only[Option.toList,qv,qh,rY,oD,oC];split<;>simp
structure IPr(g:xk)(c ia:Nat)(v:VRg):Prop where
 hj:v.i<=(J2 g c).length
 hn:ia<v.n
 fr:AU v.H v.n
 h0:AD v.H 0=some (.box (AK g.sh g.w g.h g.sB g.cells))
 tok:EG 1 1 v.H v.tl
 toka:EG 1 1 v.H (.own ia 1)
 ap:Wy v.tl (.own ia 1)
 es:v.tl.esz=1\/v.E=[]
 hE:Wks v.E ((NT g 6 c++XK g c v.i).map BY)
def p71(g:xk)(f:Int)(hh:sR g.sB):A6 prog 71 [B9 g,.int .i64 f] (VL g f):=by
 refine .mk ⟨BF 0 ..,zt,zt⟩ (by unfold VL;split;(·split<;>exact⟨A0 0 _,zt,zt⟩);(·exact⟨A0 0 _,zt,zt⟩)) (c71.a (AE aP (AF ?_)));have f1:DD.ok (.agg (AK g.sh g.w g.h g.sB g.cells))=True:=D0 g;have f2:DD.dec (.agg (AK g.sh g.w g.h g.sB g.cells))=g:=Ct g;simp only[AK]at f1 f2;cases sn:F6 g.sh g.w g.h g.sB g.cells with
 |false=>
  have hv:VL g f= .sH [Bm [],.int .i64 130]:=by unfold VL;rw[sn];rfl
  have hc:Kz g= .sH [Bm [],.int .i64 130]:=by unfold Kz;rw[sn];rfl
  rw[hv];simp only[eZ,seval,oh,eY,c71,AK,NZ,s1,f1,f2,o7 hh,hc,AJ];exact Wk.sH (.cons (Wk.sl (.inr rfl)) (.cons (Wk.refl _) .nil))
 |true=>
 have hG:Aq g.sh g.w g.h g.sB=some g.cells:=pg sn;have G:uK g:=⟨hG,hh⟩;obtain⟨ti,ub,uh⟩:=BP hG;obtain⟨ar,har⟩:∃ar,ar=(List.range g.cells.length).map (J2 g):=⟨_,rfl⟩;have hc:Kz g= .sH [Bm ar,.int .i64 0]:=by unfold Kz;rw[sn,har,XE];rfl
 have harl:ar.length=g.cells.length:=by rw[har];simp
 have harg:∀c,c<g.cells.length->ar[c]?=some (J2 g c):=λc hc=>by rw[har,oO,qP hc];rfl
 by_cases hf:f<0\/7<f
 ·have hv:VL g f= .sH [Bm [],.int .i64 1]:=by unfold VL;rw[sn,oE rfl,oE hf]
  have hb:(decide (f<0)||decide (7<f))=true:=by simpa using hf
  rw[hv];simp only[eZ,seval,o9,eY,c71,AK,NZ,s1,f1,f2,o7 hh,hc,hb,AJ];exact Wk.sH (.cons (Wk.sl (.inr rfl)) (.cons (Wk.refl _) .nil))
 have hv:VL g f= .sH [Bm (XJ g f),.int .i64 0]:=by unfold VL;rw[sn,oE rfl,og hf]
 have hb:(decide (f<0)||decide (7<f))=false:=by
  rw[Bool.eq_false_iff];intro q;exact hf (by simpa using q)
 rw[hv];simp only[eZ,seval,o9,eY,c71,AK,NZ,s1,f1,f2,o7 hh,hc,hb,AJ];refine AQ (λv:VFm=>⟨[(1,true,.int .i64 f),(2,true,.ptr 0 0),(6,true,Bm ar),(8,true,.sl v.tl v.E),(9,true,.sl v.ta ((HJ v.i).map eI)),(10,true,.int .i64 v.i)],v.H,v.n⟩) (IFm g f) (λv=>g.cells.length-v.i)
  ⟨0,[],.nil,.nil,sA Ac 0 (.box (AK g.sh g.w g.h g.sB g.cells)),3⟩ rfl ⟨oq _,od _,AU.nil.sA (m:=3) (oq 3) (show 0<3 by decide),rfl,.inl rfl,.inl rfl,(λa b x y h=>by cases h),.inr rfl,.inr rfl,by
   have:NT g f 0=[]:=by
    unfold NT;repeat (split; ·rfl)
    rfl
   show Wks [] ((NT g f 0).map BY);rw[this];exact .nil⟩ ?_
 rintro⟨i,E,tl,ta,H,n⟩ hI;have hi:=hI.hi;have hn:=hI.hn;have l0:=hI.fr;have h0:=hI.h0;have tM:=hI.tok;have hta:=hI.toka;have tW:=hI.ap;have s9:=hI.es;have hesa:=hI.esa;have hE:=hI.hE;simp only at hi hn l0 h0 tM hta tW s9 hesa hE;have h0':=h0;simp only[AK]at h0';have hEl:E.length<=256*i:=by
  have:=hE.len;rw[o6]at this;rw[this];exact Tw g f ub i
 by_cases e9:i<g.cells.length;case neg=>
  obtain rfl:i=g.cells.length:=zo
  unfold XJ;by_cases q12:f=1\/f=2
  ·rw[oE q12];rcases q12 with rfl|rfl
   ·simp only[eZ,seval,o6,h0',Ah e9,NZ,s2,f1,f2,BR,Ax,o7 G,AJ];exact Wk.sH (.cons (Wk.refl _) (.cons (Wk.refl _) .nil))
   ·simp only[eZ,seval,o6,h0',Ah e9,NZ,s2,f1,f2,BR,Ax,o7 G,AJ];exact Wk.sH (.cons (Wk.refl _) (.cons (Wk.refl _) .nil))
  rw[og q12];have w1:(f=1)=False:=oA λq=>q12 (.inl q)
  have w2:(f=2)=False:=oA λq=>q12 (.inr q)
  by_cases q3:f=3
  ·rw[oE q3];by_cases qs:g.sh=1
   ·rw[oE qs];subst q3;simp only[eZ,seval,o6,h0',Ah e9,NZ,s1,f1,f2,o7 G,o7 qs,AJ];exact Wk.sH (.cons (Wk.refl _) (.cons (Wk.refl _) .nil))
   ·rw[og qs];subst q3;simp only[eZ,seval,o6,h0',Ah e9,NZ,s2,f1,f2,BR,Ax,o7 G,oA qs,AJ];exact Wk.sH (.cons (Wk.refl _) (.cons (Wk.refl _) .nil))
  rw[og q3];by_cases q4:f=4
  ·rw[oE q4,<-har];subst q4;simp only[eZ,seval,o6,h0',Ah e9];exact Wk.sH (.cons (Wk.refl _) (.cons (Wk.refl _) .nil))
  rw[og q4];by_cases q7:f=7
  ·rw[oE q7];subst q7;simp only[eZ,seval,o6,h0',Ah e9];refine Wk.sH (.cons (Wk.slx (.inl rfl) (.cons (Wk.sl (hesa.imp id λq=>by rw[q];rfl)) .nil)) (.cons (Wk.refl _) .nil))
  rw[og q7];simp only[eZ,seval,o6,h0',Ah e9,w1,w2,oA q3,oA q4,oA q7];exact Wk.sH (.cons (Wk.slx s9 hE) (.cons (Wk.refl _) .nil))
 have e:=AI (k:=i) zo;have me:(HJ i).length<=i:=Cc ..;have q1:At H 1 ta=True:=o7 hta.app;have q2:((HJ i).length<=35184372088831)=True:=o7 zo;have q3:small ((HJ i).length+1) 8=True:=o7 (AY zo zd);have hH2f:AU (sA (AR H ta) (n+3) .tok) (n+5):=(AZ hta l0).sA zo zo;have hH20:AD (sA (AR H ta) (n+3) .tok) 0=some (.box (AK g.sh g.w g.h g.sB g.cells)):=by grind [AA,Ai]
 have hH2l:EG 1 1 (sA (AR H ta) (n+3) .tok) tl:=Lh tM hta tW l0 zo;have hH2a:EG 1 1 (sA (AR H ta) (n+3) .tok) (.own (n+3) 1):=.inr (.inr ⟨n+3,rfl,zo,AC ..⟩);have hH2p:Wy tl (.own (n+3) 1):=Wy.fresh tM l0 zo 1;have hAs:=Ns i;have r2:(E.length<=35184372088831)=True:=o7 zo;have r3:small (E.length+1) 24=True:=o7 (AY zo zd);by_cases z0':f=0
 ·subst z0';have hfm:NT g 0 (i+1)=NT g 0 i++[[(i:Int)]]:=by
   unfold NT;rw[oE rfl,oE rfl,pU,oD];rfl
  have a1:At (sA (AR H ta) (n+3) .tok) 1 tl=True:=o7 hH2l.app;simp only[eZ,seval,o6,h0',AT e9,q1,q2,q3,Bx l0,Bx (AZ hta l0),a1,r2,r3,e];refine .mk ⟨i+1,E++[.sl (.exact 1) [.int .i64 i]],.own (n+9) 1,.own (n+3) 1,sA (AR (sA (AR H ta) (n+3) .tok) tl) (n+9) .tok,n+11⟩ (by simp only[hAs,oD];rfl) ⟨e9,zp,(AZ hH2l hH2f).sA (m:=n+11) zo zo,?_,.inr (.inr ⟨n+9,rfl,zo,AC ..⟩),Lh hH2a hH2l hH2p.symm hH2f zo,(Wy.fresh hH2a hH2f zo 1).symm,.inl rfl,.inl rfl,?_⟩ zp
  ·simp only[];rw[AA _ _ _ _ zo,Ai hH2l (.inl zo)];exact hH20
  ·simp only[hfm,oD,oL,pc];exact hE.app (.cons (Wk.sl (.inl rfl)) .nil)
 have z0:(f=0)=False:=oA z0';by_cases z5':f=5
 ·subst z5';have hfm:NT g 5 (i+1)=NT g 5 i++[XI g i]:=by
   unfold NT;rw[og zd,oE rfl,og zd,oE rfl,pU,oD];rfl
  simp only[eZ,seval,o6,h0',AT e9,q1,q2,q3,Bx l0];refine AQ (λv:VRi=>⟨[(1,true,.int .i64 5),(2,true,.ptr 0 0),(6,true,Bm ar),(8,true,.sl tl E),(9,true,.sl (.own (n+3) 1) ((HJ i).map eI++[.int .i64 i])),(10,true,.int .i64 i),(11,true,.sl v.tc ((CE v.j (HU g i)).map eI)),(12,true,.int .i64 v.j)],v.H,v.n⟩)
   (IFil g.cells.length (HU g i) (sA (AR H ta) (n+3) .tok) (n+5)) (λv=>g.cells.length-v.j) ⟨0,.nil,sA (AR H ta) (n+3) .tok,n+5⟩ rfl ⟨oq _,od _,hH2f,λid s5=>rfl,.inl rfl,.inr rfl⟩ ?_
  rintro⟨j,tc,H1,n1⟩ ⟨hj,w7,t7,hk,sr,tn⟩;simp only at hj w7 t7 hk sr tn;have z9:AD H1 0=some (.box (AK g.sh g.w g.h g.sB g.cells)):=by rw[hk 0 zo];exact hH20
  have ur:=z9;simp only[AK]at ur;by_cases t8:j<g.cells.length
  ·have ej:=AI (k:=j) zo;have hs:=EB j (HU g i);have uH:=harg i e9;have hia:i<ar.length:=zo
   have hfn:sR (J2 g i)=True:=o7 (show(J2 g i).length<_ by have:=O9 g i;omega);have hb:(decide ((j:Int)=(i:Int))||(J2 g i).contains (j:Int))=HU g i j:=rfl;cases hbb:HU g i j with
   |false=>
    rw[hbb,og zd]at hs;rw[hbb]at hb;simp only[eZ,seval,eY,ur,AT t8,AT hia,uH,NZ,s2,As,Al,BR,Ax,hfn,hb,ej,AJ];exact .mk ⟨j+1,tc,H1,n1⟩ (by simp only[hs]) ⟨t8,w7,t7,hk,sr,by simp only[hs];exact tn⟩ zp
   |true=>
    rw[hbb,oE rfl]at hs;rw[hbb]at hb;have l9:=Cc j (HU g i);have u1:At H1 1 tc=True:=o7 sr.app;have u2:((CE j (HU g i)).length<=35184372088831)=True:=o7 zo;have u3:small ((CE j (HU g i)).length+1) 8=True:=o7 (AY zo zd);simp only[eZ,seval,eY,ur,AT t8,AT hia,uH,NZ,s2,As,Al,BR,Ax,hfn,hb,ej,u1,u2,u3,Bx t7,AJ];refine .mk ⟨j+1,.own (n1+3) 1,sA (AR H1 tc) (n1+3) .tok,n1+5⟩ ?_ ⟨t8,zp,(AZ sr t7).sA (m:=n1+5) zo zo,λid s5=>?_,.inr (.inr ⟨n1+3,rfl,zo,AC ..⟩),.inl rfl⟩ zp
    ·simp only[hs,oD];rfl
    ·grind [AA,Ai]
  obtain rfl:j=g.cells.length:=zo
  have up:∀{t:xv},EG 1 1 (sA (AR H ta) (n+3) .tok) t->EG 1 1 H1 t:=λh=>by
   rcases h with rfl|rfl|⟨id,rfl,h1,h2⟩
   ·exact .inl rfl
   ·exact .inr (.inl rfl)
   ·exact .inr (.inr ⟨id,rfl,h1,by rw[hk id (hH2f.lt h2)];exact h2⟩)
  have v9:=up hH2l;have y9:=up hH2a;have a1:At H1 1 tl=True:=o7 v9.app;simp only[eZ,seval,o6,ur,Ah t8,e,a1,r2,r3,Bx t7];refine .mk ⟨i+1,E++[.sl tc ((CE g.cells.length (HU g i)).map eI)],.own (n1+3) 1,.own (n+3) 1,sA (AR H1 tl) (n1+3) .tok,n1+5⟩ (by simp only[hAs,oD];rfl) ⟨e9,zp,(AZ v9 t7).sA (m:=n1+5) zo zo,?_,.inr (.inr ⟨n1+3,rfl,zo,AC ..⟩),Lh y9 v9 hH2p.symm t7 zo,(Wy.fresh y9 t7 zo 1).symm,.inl rfl,.inl rfl,?_⟩ zp
  ·grind [AA,Ai]
  ·simp only[hfm,oD,oL,pc];exact hE.app (.cons (Wk.sl (tn.imp id λq=>by rw[q];rfl)) .nil)
 have z5:(f=5)=False:=oA z5';by_cases z6':f=6
 ·subst z6';have hfm:NT g 6 (i+1)=NT g 6 i++Nr g i:=by
   unfold NT;rw[og zd,og zd,oE rfl,og zd,og zd,oE rfl,pU,re];simp
  simp only[eZ,seval,o6,h0',AT e9,q1,q2,q3,Bx l0];refine AQ (λv:VRg=>⟨[(1,true,.int .i64 6),(2,true,.ptr 0 0),(6,true,Bm ar),(8,true,.sl v.tl v.E),(9,true,.sl (.own (n+3) 1) ((HJ i).map eI++[.int .i64 i])),(10,true,.int .i64 i),(13,true,.int .i64 v.i)],v.H,v.n⟩)
   (IPr g i (n+3)) (λv=>(J2 g i).length-v.i) ⟨0,E,tl,sA (AR H ta) (n+3) .tok,n+5⟩ rfl ⟨oq _,zp,hH2f,hH20,hH2l,hH2a,hH2p,s9,by
    show Wks E ((NT g 6 i++XK g i 0).map BY);have:XK g i 0=[]:=rfl;rw[this,oR];exact hE⟩ ?_
  rintro⟨j,E1,t1,H1,n1⟩ hJ;have hj:=hJ.hj;have w7:=hJ.hn;have t7:=hJ.fr;have z9:=hJ.h0;have v9:=hJ.tok;have y9:=hJ.toka;have hp1:=hJ.ap;have he1:=hJ.es;have hE1:=hJ.hE;simp only at hj w7 t7 z9 v9 y9 hp1 he1 hE1;have ur:=z9;simp only[AK]at ur;have uH:=harg i e9;have hia:i<ar.length:=zo
  have hnl:=O9 g i;by_cases t8:j<(J2 g i).length
  ·have ej:=AI (k:=j) zo;have to:=o8 t8;have sY:=XL g i t8;generalize (J2 g i)[j]=x at to sY;by_cases hx:(i:Int)<x
   ·rw[oE hx]at sY;have hEl1:E1.length<=65536:=by
     have:=hE1.len;rw[o6,ou]at this;have a:=Tw g 6 ub i;have b:=aQ g i j;omega
    have a1:At H1 1 t1=True:=o7 v9.app;have u2:(E1.length<=35184372088831)=True:=o7 zo;have u3:small (E1.length+1) 24=True:=o7 (AY zo zd);simp only[eZ,seval,eY,AT t8,to,AT hia,uH,o7 hx,ej,a1,u2,u3,Bx t7];refine .mk ⟨j+1,E1++[.sl (.exact 1) [.int .i64 i,.int .i64 x]],.own (n1+11) 1,sA (AR H1 t1) (n1+11) .tok,n1+13⟩ rfl ⟨t8,zp,(AZ v9 t7).sA (m:=n1+13) zo zo,?_,.inr (.inr ⟨n1+11,rfl,zo,AC ..⟩),Lh y9 v9 hp1.symm t7 zo,(Wy.fresh y9 t7 zo 1).symm,.inl rfl,?_⟩ zp
    ·grind [AA,Ai]
    ·simp only[sY,<-oT,oD,oL,pc];rw[oD]at hE1;exact hE1.app (.cons (Wk.sl (.inl rfl)) .nil)
   ·rw[og hx]at sY;simp only[eZ,seval,eY,AT t8,to,AT hia,uH,oA hx,ej];exact .mk ⟨j+1,E1,t1,H1,n1⟩ rfl ⟨t8,w7,t7,z9,v9,y9,hp1,he1,by simp only[sY];exact hE1⟩ zp
  obtain rfl:j=(J2 g i).length:=zo
  simp only[eZ,seval,eY,Ah t8,AT hia,uH,e];refine .mk ⟨i+1,E1,t1,.own (n+3) 1,H1,n1⟩ (by simp only[hAs,oD];rfl) ⟨e9,zp,t7,z9,v9,y9,hp1,he1,.inl rfl,?_⟩ zp;have sX:XK g i (J2 g i).length=Nr g i:=by unfold XK Nr;rw[oF]
  simp only[hfm,<-sX];exact hE1
 have z6:(f=6)=False:=oA z6';have hfm:NT g f (i+1)=NT g f i:=by
  unfold NT;rw[og z0',og z5',og z6',og z0',og z5',og z6']
 simp only[eZ,seval,o6,h0',AT e9,q1,q2,q3,Bx l0,z0,z5,z6,e];exact .mk ⟨i+1,E,tl,.own (n+3) 1,sA (AR H ta) (n+3) .tok,n+5⟩ (by simp only[hAs,oD];rfl) ⟨e9,zp,hH2f,hH20,hH2l,hH2a,hH2p,s9,.inl rfl,by simp only[hfm];exact hE⟩ zp
section
variable {cells:List Int}
theorem Tx:∀{l:List x9},DA cells l=0->∀r∈l,Ke cells r=0
 |[],_,r,h=>by cases h
 |a::s,h0,r,h=>by
  unfold DA at h0;split at h0
  ·rename_i ha;rcases ph.1 h with rfl|h
   ·exact ha
   ·exact Tx h0 r h
  ·rename_i ha;exact absurd h0 ha
theorem XM{x:x8}(h:EH x=0)(hc:Aq x.sh x.w x.h x.sB=some cells):DA cells x.sJ=0:=by
 unfold EH at h;split at h
 ·cases h
 ·split at h
  ·rename_i e he;exact absurd h (GL he)
  ·grind
theorem fmV_S{g:xk}(G:uK g){f:Nat}(hf:f<=7):VL g (f:Int)= .sH [Bm (E5 g.sh g.w g.h (AW g.sh g.w g.cells) f),.int .i64 0]:=by
 have sn:F6 g.sh g.w g.h g.sB g.cells=true:=pk G.hG;unfold VL;rw[sn,oE rfl,og zo,iQ G hf]
theorem XN{g:xk}(G:uK g):Kz g= .sH [Bm (Ed g.sh (AW g.sh g.w g.cells)),.int .i64 0]:=by
 have sn:F6 g.sh g.w g.h g.sB g.cells=true:=pk G.hG;unfold Kz;rw[sn,oE rfl]
theorem Ty{x:x8}(h:EH x=0)(hc:Aq x.sh x.w x.h x.sB=some cells){r:x9}(hr:r∈x.sJ):D2 cells r.ls= .sH [Bm (r.ls.map (Bb cells)),.int .i64 0]:=by
 have h1:=Tx (XM h hc) r hr;unfold Ke at h1;unfold D2;split at h1
 ·cases h1
 ·rename_i q;rw[oE (by simpa using q)]
end
abbrev DY:uV:=⟨G6,⟨0,0,0,[],[]⟩,[],[]⟩
def A9(d:x8):Fs:=match Ck d with
 | .error e=>.sH [BM DY,.int .i64 e]
 | .ok k=>.sH [BM k,.int .i64 0]
abbrev zKn:List Fs:=[.str [],z0,z0,z0,z0,zs,zs,zs,zs,zs,z0,z0,z0,zs,zs,zs,zs]
def XO{d:x8}{g:xk}{nb:List (List Int)}{ls:List (List (List Int))}{a b c d' e f h i j:Fs}(ha:Wk a (BY d.sB))(hb:Wk b (HP d.sI))(hc:Wk c (GV d.sJ))(hd:Wk d' (EY d.sD))(he:Wk e (DT d.sC))(hf:Wk f (BY g.sB))(hh:Wk h (BY g.cells))(hi:Wk i (Bm nb))(hj:Wk j (NS ls)):
  Wk (.agg [.str d.nm,.int .i64 d.uw,.int .i64 d.sh,.int .i64 d.w,.int .i64 d.h,a,b,c,d',e,.int .i64 g.sh,.int .i64 g.w,.int .i64 g.h,f,h,i,j]) (BM ⟨d,g,nb,ls⟩):=
 Wk.agg (.cons (Wk.refl _) (.cons (Wk.refl _) (.cons (Wk.refl _) (.cons (Wk.refl _) (.cons (Wk.refl _) (.cons ha (.cons hb (.cons hc (.cons hd (.cons he (.cons (Wk.refl _) (.cons (Wk.refl _) (.cons (Wk.refl _) (.cons hf (.cons hh (.cons hi (.cons hj .nil)))))))))))))))))
def PA(e:Int):Wk (.sH [.agg zKn,.int .i64 e]) (.sH [BM DY,.int .i64 e]):=
 Wk.sH (.cons (XO (d:=G6) (g:=⟨0,0,0,[],[]⟩) (Wk.sl (.inr rfl)) (Wk.sl (.inr rfl)) (Wk.sl (.inr rfl)) (Wk.sl (.inr rfl)) (Wk.sl (.inr rfl)) (Wk.sl (.inr rfl)) (Wk.sl (.inr rfl)) (Wk.sl (.inr rfl)) (Wk.sl (.inr rfl))) (.cons (Wk.refl _) .nil))
def iR:Bk:=AJ 67 (s1 dD Gm CV) (AJ 68 (s1 dD zy λd=>.int .i64 (EH d)) (AJ 69 Z4 (AJ 70 (s1 DD (λg=>sR g.sB) Kz) (AJ 71 (s2 DD dI (λg _=>sR g.sB) VL) (AJ 72 (s2 DD Le (λg l=>Aq g.sh g.w g.h g.sB=some g.cells/\sR g.sB/\B4 l) λg l=>D2 g.cells l) sE)))))
def iU:AG prog iR:=(((((AG.sE.add (q2 λg l h=>p72 g l h.1 h.2.1 h.2.2)).add (q2 λg f h=>p71 g f h)).add (q1 p70)).add qMk).add (q1 λd h=>p68 d h)).add (q1 λd h=>p67 d h.1 h.2)
theorem XP(a:List Fs)(H:AB):iR 67 a H=s1 dD Gm CV a H:=rfl
theorem fI(a:List Fs)(H:AB):iR 68 a H=s1 dD zy (λd=>.int .i64 (EH d)) a H:=rfl
theorem Tbd_m(sh w h:Int)(x:Fs)(H:AB):iR 69 [.int .i64 sh,.int .i64 w,.int .i64 h,x] H=(Cj.ok x/\sR (Cj.dec x),BX sh w h (Cj.dec x)):=rfl
theorem Tbd_n(a:List Fs)(H:AB):iR 70 a H=s1 DD (λg=>sR g.sB) Kz a H:=rfl
theorem Tbd_f(a:List Fs)(H:AB):iR 71 a H=s2 DD dI (λg _=>sR g.sB) VL a H:=rfl
theorem Tbd_g(a:List Fs)(H:AB):iR 72 a H=s2 DD Le (λg l=>Aq g.sh g.w g.h g.sB=some g.cells/\sR g.sB/\B4 l) (λg l=>D2 g.cells l) a H:=rfl
abbrev VO(x:x8)(cells:List Int)(v:Fs):List Fs:=[.str x.nm,.int .i64 x.uw,.int .i64 x.sh,.int .i64 x.w,.int .i64 x.h,BY x.sB,HP x.sI,GV x.sJ,EY x.sD,DT x.sC,.int .i64 x.sh,.int .i64 x.w,.int .i64 x.h,BY x.sB,BY cells,Bm (Ed x.sh (AW x.sh x.w cells)),v]
structure IBd(x:x8)(cells:List Int)(m:Nat)(L:Nat->List (List (List Int)))(v:VRg):Prop where
 hi:v.i<=m
 hn:15<=v.n
 fr:AU v.H v.n
 h1:AD v.H 1=some (.box zKn)
 h8:AD v.H 8=some (.box (AL x))
 h13:AD v.H 13=some (.box (VO x cells (.sl v.tl v.E)))
 tok:EG 1 14 v.H v.tl
 es:v.tl.esz=1\/v.E=[]
 hE:Wks v.E ((L v.i).map Bm)
def p27(d:x8)(hd:Gm d):A6 prog 27 [Ba d] (A9 d):=by
 refine .mk ⟨Ag 0 d,zt⟩ (by unfold A9;split<;>exact⟨Bp 0 _,zt,zt⟩) (c27.a (AE iU (AF ?_)));have e1:dD.ok (.agg (AL d))=True:=Az d;have e2:dD.dec (.agg (AL d))=d:=Ap d;simp only[AL]at e1 e2;unfold A9 Ck;cases hr:B3 d with
 |error e=>
  have hv:CV d= .sH [Ba G6,.int .i64 e]:=by unfold CV;rw[hr]
  have he:(e=0)=False:=oA (GL hr);simp only[eZ,seval,oh,eY,Au,c27,AL,XP,s1,e1,e2,o7 hd,hv,he];exact PA e
 |ok x=>
 have hv:CV d= .sH [Ba x,.int .i64 0]:=by unfold CV;rw[hr]
 have hfx:=IF hd.1 hr;have x1:dD.ok (.agg (AL x))=True:=Az x;have x2:dD.dec (.agg (AL x))=x:=Ap x;simp only[AL]at x1 x2;simp only[];by_cases hc:EH x=0;case neg=>
  rw[oE hc];simp only[eZ,seval,o9,oh,eY,Au,c27,AL,XP,fI,s1,e1,e2,x1,x2,o7 hd,o7 hfx,hv,oA hc];exact PA _
 rw[og (λz=>z hc)];obtain⟨cells,hg⟩:=SJ hc;rw[hg];simp only[];have hm:BX x.sh x.w x.h x.sB= .sH [Ec x.sh x.w x.h x.sB cells,.int .i64 0]:=by unfold BX;rw[hg]
 have G:uK (A8 x cells):=⟨hg,hfx.ho⟩;have g1:DD.ok (.agg [.int .i64 x.sh,.int .i64 x.w,.int .i64 x.h,BY x.sB,BY cells])=True:=D0 (A8 x cells);have g2:DD.dec (.agg [.int .i64 x.sh,.int .i64 x.w,.int .i64 x.h,BY x.sB,BY cells])=A8 x cells:=Ct (A8 x cells);have hho:sR (A8 x cells).sB=True:=o7 hfx.ho;have hnb:Kz (A8 x cells)= .sH [Bm (Ed x.sh (AW x.sh x.w cells)),.int .i64 0]:=XN G;simp only[eZ,seval,o9,eY,c27,AL,XP,fI,Tbd_m,Tbd_n,s1,e1,e2,x1,x2,g1,g2,As,Al,o7 hd,o7 hfx,o7 hfx.ho,hho,hv,hc,hm,hnb];refine AQ (λv:VRg=>⟨[(2,true,.ptr 1 0),(4,true,.ptr 8 0),(6,true,.ptr 13 0),(7,true,.int .i64 v.i)],v.H,v.n⟩) (IBd x cells 8 λi=>(List.range i).map λf=>E5 x.sh x.w x.h (AW x.sh x.w cells) f) (λv=>8-v.i)
  ⟨0,[],.nil,_,15⟩ rfl ?_ ?_
 ·refine⟨oq _,od _,?_,rfl,rfl,rfl,.inl rfl,.inr rfl,.nil⟩;simp only[];repeat' (first|exact AU.nil.sA (m:=15) (oq _) zd|refine AU.sA ?_ (od _) zd)
 rintro⟨i,E,tl,H,n⟩ hI;have hi:=hI.hi;have hn:=hI.hn;have l0:=hI.fr;have h1:=hI.h1;have h8:=hI.h8;have h13:=hI.h13;have tM:=hI.tok;have s9:=hI.es;have hE:=hI.hE;simp only at hi hn l0 h1 h8 h13 tM s9 hE;have h8':=h8;simp only[AL]at h8';by_cases e9:i<8
 ·have e:=AI (k:=i) zo;have hq:((i:Int)<8)=True:=o7 zo;have hfm:VL (A8 x cells) (i:Int)= .sH [Bm (E5 x.sh x.w x.h (AW x.sh x.w cells) i),.int .i64 0]:=fmV_S G zo;have hEl:E.length=i:=by
   have:=hE.len;rw[o6,o6,qi]at this;exact this
  have q1:At H 1 tl=True:=o7 tM.app;have q2:(E.length<=35184372088831)=True:=o7 zo;have q3:small (E.length+1) 24=True:=o7 (AY zo zd);have hk13:=Ai tM (i:=13) (.inr ⟨_,h13⟩);rw[h13]at hk13;have y1:∀k,(13=n+k)=False:=λk=>oA zo
  have y2:(n=9)=False:=oA zo;have y3:(9=n)=False:=oA zo;simp only[eZ,seval,eY,h13,hq,Tbd_f,s2,g1,g2,BR,Ax,hho,hfm,e,q1,q2,q3,Bx l0,hk13,y2];refine .mk ⟨i+1,E++[Bm (E5 x.sh x.w x.h (AW x.sh x.w cells) i)],.own (n+4) 1,sA (sA (AR H tl) (n+4) .tok) 13 (.box (VO x cells (.sl (.own (n+4) 1) (E++[Bm (E5 x.sh x.w x.h (AW x.sh x.w cells) i)])))),n+7⟩ rfl ⟨e9,zp,((AZ tM l0).sA (m:=n+7) zo zo).sA (od _) (show 13<n+7 by omega),?_,?_,AC ..,.inr (.inr ⟨n+4,rfl,zo,?_⟩),.inl rfl,?_⟩ zp
  ·grind [AA,Ai]
  ·grind [AA,Ai]
  ·simp only[];rw[AA _ _ _ _ zo,AC]
  ·simp only[pU,oD,oL,pc]at hE⊢;exact hE.app (.cons (Wk.refl _) .nil)
 obtain rfl:i=8:=zo
 have hq:(((8:Nat):Int)<8)=False:=oA zd;simp only[eZ,seval,hq];refine AQ (λv:VRg=>⟨[(2,true,.ptr 1 0),(4,true,.ptr 8 0),(6,true,.ptr 13 0),(10,true,.int .i64 v.i)],v.H,v.n⟩) (IBd x cells x.sJ.length λi=>((List.range 8).map λf=>E5 x.sh x.w x.h (AW x.sh x.w cells) f)++(x.sJ.take i).map λr=>r.ls.map (Bb cells)) (λv=>x.sJ.length-v.i)
  ⟨0,E,tl,H,n⟩ rfl ⟨oq _,hn,l0,h1,h8,h13,tM,s9,by
   simp only[pZ,pc,oR];exact hE⟩ ?_
 clear hE s9 tM h13 h8' h8 h1 l0 hn hI hq e9 hi;rintro⟨i,E,tl,H,n⟩ hI;have hi:=hI.hi;have hn:=hI.hn;have l0:=hI.fr;have h1:=hI.h1;have h8:=hI.h8;have h13:=hI.h13;have tM:=hI.tok;have s9:=hI.es;have hE:=hI.hE;simp only at hi hn l0 h1 h8 h13 tM s9 hE;have h8':=h8;simp only[AL]at h8';have ua:x.sJ.length<=4:=by simp_all [EH,If,oo,oC]<;>omega
 by_cases e9:i<x.sJ.length
 ·have e:=AI (k:=i) zo;have hgr:=o8 e9;have ux:x.sJ[i]∈x.sJ:=oK e9;have hrg:=Ty hc hg ux;have th:B4 x.sJ[i].ls=True:=o7 (hfx.rgs _ ux);have l6:x.sJ.take (i+1)=x.sJ.take i++[x.sJ[i]]:=by rw[oG,hgr];rfl
  generalize x.sJ[i]=r at hgr hrg th l6;have hgc:(Aq (A8 x cells).sh (A8 x cells).w (A8 x cells).h (A8 x cells).sB=some (A8 x cells).cells)=True:=o7 hg;have hgd:(Aq (A8 x cells).sh (A8 x cells).w (A8 x cells).h (A8 x cells).sB=some cells)=True:=o7 hg;have hgx:(A8 x cells).cells=cells:=rfl;have hEl:E.length=8+i:=by
   have:=hE.len;rw[o6,ou,o6,o6,qi,oJ]at this;omega
  have q1:At H 1 tl=True:=o7 tM.app;have q2:(E.length<=35184372088831)=True:=o7 zo;have q3:small (E.length+1) 24=True:=o7 (AY zo zd);have hk13:=Ai tM (i:=13) (.inr ⟨_,h13⟩);rw[h13]at hk13;have y1:∀k,(13=n+k)=False:=λk=>oA zo
  have y2:(n=9)=False:=oA zo;have y3:(9=n)=False:=oA zo;simp only[eZ,seval,eY,h8',h13,AT e9,hgr,Tbd_g,s2,g1,g2,Cp,CC,hho,hgd,hgx,th,hrg,e,q1,q2,q3,Bx l0,hk13,y2];refine .mk ⟨i+1,E++[Bm (r.ls.map (Bb cells))],.own (n+4) 1,sA (sA (AR H tl) (n+4) .tok) 13 (.box (VO x cells (.sl (.own (n+4) 1) (E++[Bm (r.ls.map (Bb cells))])))),n+7⟩ rfl ⟨e9,zp,((AZ tM l0).sA (m:=n+7) zo zo).sA (od _) (show 13<n+7 by omega),?_,?_,AC ..,.inr (.inr ⟨n+4,rfl,zo,?_⟩),.inl rfl,?_⟩ zp
  ·grind [AA,Ai]
  ·grind [AA,Ai]
  ·simp only[];rw[AA _ _ _ _ zo,AC]
  ·simp only[l6,oD,oL,pc]at hE⊢;rw[<-oT];exact hE.app (.cons (Wk.refl _) .nil)
 obtain rfl:i=x.sJ.length:=zo
 rw[oF]at hE;simp only[eZ,seval,Au,o6,h8',h13,h1,Ah e9];exact Wk.sH (.cons (XO (d:=x) (g:=A8 x cells) (Wk.refl _) (Wk.refl _) (Wk.refl _) (Wk.refl _) (Wk.refl _) (Wk.refl _) (Wk.refl _) (Wk.refl _) (Wk.slx s9 hE)) (.cons (Wk.refl _) .nil))
def Nt{d:x8}{e:Int}(h:Ck d= .error e):¬e=0:=by
 unfold Ck at h;split at h
 ·rename_i e' he;cases h;exact GL he
 ·grind
def T8c:Bk:=AJ 27 (s1 dD Gm A9) (AJ 13 (s2 DO DO (λa _=>uy a) λa b=>.bool (decide (a=b))) sE)
def iV:AG prog T8c:=(AG.sE.add (q2 λa b h=>p13 a b h)).add (q1 λd h=>p27 d h)
def p11(k:uV)(h1:Gm k.d)(h2:uy k):A6 prog 11 [BM k] (.int .i64 (Cq k)):=by
 refine .mk ⟨Bp 0 k,zt⟩ zt (c11.a (AE iV (AF ?_)));have e1:dD.ok (.agg (AL k.d))=True:=Az k.d;have e2:dD.dec (.agg (AL k.d))=k.d:=Ap k.d;have u1:DO.ok (.agg (Ab k))=True:=FY k;have u2:DO.dec (.agg (Ab k))=k:=Dq k;simp only[AL]at e1 e2;simp only[Ab,AK,AL,pp,oW]at u1 u2;unfold Cq Tl;cases hb:Ck k.d with
 |error e=>
  have hv:A9 k.d= .sH [BM DY,.int .i64 e]:=by unfold A9;rw[hb]
  have he:(e=0)=False:=oA (Nt hb);simp only[eZ,seval,o9,oh,eY,c11,Ab,AK,AL,T8c,s1,s2,e1,e2,u1,u2,o7 h1,o7 h2,hv,he,AJ]
 |ok x=>
 have hv:A9 k.d= .sH [BM x,.int .i64 0]:=by unfold A9;rw[hb]
 have v1:DO.ok (.agg (Ab x))=True:=FY x;have v2:DO.dec (.agg (Ab x))=x:=Dq x;simp only[Ab,AK,AL,pp,oW]at v1 v2;simp only[];by_cases hx:k=x
 ·simp only[eZ,seval,o9,eY,c11,Ab,AK,AL,T8c,s1,s2,e1,e2,u1,u2,v1,v2,o7 h1,o7 h2,hv,BL hx,AJ]
 ·simp only[eZ,seval,o9,oh,eY,c11,Ab,AK,AL,T8c,s1,s2,e1,e2,u1,u2,v1,v2,o7 h1,o7 h2,hv,A5 hx,AJ]
end Go.AM
