/-
  Parts of the proof. Conditions: none.
-/
import Derived.Test.YtncahiacfdihpaaGreatDoorB10
import Derived.Test.YtncahiacfdihpaaGreatDoorB7
set_option maxRecDepth 20000
set_option linter.all false
namespace Go.AM
open Go.Lib Go.Proofs Go.Proofs.Tryz
def p162(a b:List Int)(ha:wide a):Pur prog 162 [eIs a,eIs b] (.bool (decide (a=b))):=by
 refine .mk ⟨AR 0 _,AR 0 _,trivial⟩ trivial (c162.a (AF AI.tnil (AG ?_)));have l6:a.length<1125899906842624:=ha;by_cases hl:a.length=b.length;case neg=>
  have hR:decide (a=b)=false:=Wp λq=>hl (by rw[q])
  have hq:((a.length:Int)=(b.length:Int))=False:=W4 zo;rw[hR];simp only[eZ,seval,W6,W0,c162,hq]
 have hq:((a.length:Int)=(b.length:Int))=True:=W1 zo;simp only[eZ,seval,W3,W0,c162,hq];refine AL (λi:Nat=>⟨[(0,true,eIs a),(1,true,eIs b),(5,true,.int .i64 i)],hnil,0⟩) (λi=>i<=a.length/\a.take i=b.take i) (λi=>a.length-i) 0 rfl ⟨We _,rfl⟩ ?_;rintro i ⟨hi,c7⟩;by_cases c5:i<a.length
 ·have hltb:i<b.length:=zo
  have hg:=W2 c5;have hgb:=W2 hltb;have e:=AE (k:=i) zo;have ta:a.take (i+1)=a.take i++[a[i]]:=by rw[Wl,hg];rfl
  have tb:b.take (i+1)=b.take i++[b[i]]:=by rw[Wl,hgb];rfl
  generalize a[i]=x at hg ta;generalize b[i]=y at hgb tb;by_cases hxy:x=y
  ·simp only[eZ,seval,W3,eY,lt_T c5,lt_T hltb,hg,hgb,e,hxy];exact .mk (i+1) rfl ⟨c5,by rw[ta,tb,c7,hxy]⟩ zo
  ·have hR:decide (a=b)=false:=Wp λq=>hxy (by rw[q]at hg;rw[hg]at hgb;exact Option.some.inj hgb)
   rw[hR];simp only[eZ,seval,W6,eY,lt_T c5,lt_T hltb,hg,hgb,Ax hxy]
 obtain rfl:i=a.length:=zo
 have hR:decide (a=b)=true:=Wv (by rw[Wj,hl,Wj]at c7;exact c7);rw[hR];simp only[eZ,seval,W0,lt_F c5]
def p229(a b:List Bs)(ha:wide a):Pur prog 229 [eSs a,eSs b] (.bool (decide (a=b))):=by
 refine .mk ⟨BS 0 _,BS 0 _,trivial⟩ trivial (c229.a (AF AI.tnil (AG ?_)));have l6:a.length<1125899906842624:=ha;by_cases hl:a.length=b.length;case neg=>
  have hR:decide (a=b)=false:=Wp λq=>hl (by rw[q])
  have hq:((a.length:Int)=(b.length:Int))=False:=W4 zo;rw[hR];simp only[eZ,seval,W6,W0,c229,hq]
 have hq:((a.length:Int)=(b.length:Int))=True:=W1 zo;simp only[eZ,seval,W3,W0,c229,hq];refine AL (λi:Nat=>⟨[(0,true,eSs a),(1,true,eSs b),(5,true,.int .i64 i)],hnil,0⟩) (λi=>i<=a.length/\a.take i=b.take i) (λi=>a.length-i) 0 rfl ⟨We _,rfl⟩ ?_;rintro i ⟨hi,c7⟩;by_cases c5:i<a.length
 ·have hltb:i<b.length:=zo
  have hg:=W2 c5;have hgb:=W2 hltb;have e:=AE (k:=i) zo;have ta:a.take (i+1)=a.take i++[a[i]]:=by rw[Wl,hg];rfl
  have tb:b.take (i+1)=b.take i++[b[i]]:=by rw[Wl,hgb];rfl
  generalize a[i]=x at hg ta;generalize b[i]=y at hgb tb;by_cases hxy:x=y
  ·simp only[eZ,seval,W3,eY,lt_T c5,lt_T hltb,hg,hgb,e,Ao,BB hxy];exact .mk (i+1) rfl ⟨c5,by rw[ta,tb,c7,hxy]⟩ zo
  ·have hR:decide (a=b)=false:=Wp λq=>hxy (by rw[q]at hg;rw[hg]at hgb;exact Option.some.inj hgb)
   rw[hR];simp only[eZ,seval,W6,eY,lt_T c5,lt_T hltb,hg,hgb,Ao,Ax hxy]
 obtain rfl:i=a.length:=zo
 have hR:decide (a=b)=true:=Wv (by rw[Wj,hl,Wj]at c7;exact c7);rw[hR];simp only[eZ,seval,W0,lt_F c5]
def Tsi:Tab:=tadd 162 (s2 dIs dIs (λa _=>wide a) λa b=>.bool (decide (a=b))) tnil
def Tsi_ok:AI prog Tsi:=AI.tnil.add (q2 p162)
def p163(a b:List (List Int))(ha:few a)(hf:∀x∈a,wide x):Pur prog 163 [eLl a,eLl b] (.bool (decide (a=b))):=by
 refine .mk ⟨Ak 0 _,Ak 0 _,trivial⟩ trivial (c163.a (AF Tsi_ok (AG ?_)));have l6:a.length<1000000000:=ha;by_cases hl:a.length=b.length;case neg=>
  have hR:decide (a=b)=false:=Wp λq=>hl (by rw[q])
  have hq:((a.length:Int)=(b.length:Int))=False:=W4 zo;rw[hR];simp only[eZ,seval,W6,W0,c163,hq]
 have hq:((a.length:Int)=(b.length:Int))=True:=W1 zo;simp only[eZ,seval,W3,W0,c163,hq];refine AL (λi:Nat=>⟨[(0,true,eLl a),(1,true,eLl b),(5,true,.int .i64 i)],hnil,0⟩) (λi=>i<=a.length/\a.take i=b.take i) (λi=>a.length-i) 0 rfl ⟨We _,rfl⟩ ?_;rintro i ⟨hi,c7⟩;by_cases c5:i<a.length
 ·have hltb:i<b.length:=zo
  have hg:=W2 c5;have hgb:=W2 hltb;have e:=AE (k:=i) zo;have ta:a.take (i+1)=a.take i++[a[i]]:=by rw[Wl,hg];rfl
  have tb:b.take (i+1)=b.take i++[b[i]]:=by rw[Wl,hgb];rfl
  have hxf:=hf _ (Wn c5);generalize a[i]=x at hg ta hxf;generalize b[i]=y at hgb tb;by_cases hxy:x=y
  ·simp only[eZ,seval,W3,eY,lt_T c5,lt_T hltb,hg,hgb,e,Tsi,s2,Ad,AY,W1 hxf,BB hxy,tadd];exact .mk (i+1) rfl ⟨c5,by rw[ta,tb,c7,hxy]⟩ zo
  ·have hR:decide (a=b)=false:=Wp λq=>hxy (by rw[q]at hg;rw[hg]at hgb;exact Option.some.inj hgb)
   rw[hR];simp only[eZ,seval,W6,eY,lt_T c5,lt_T hltb,hg,hgb,Tsi,s2,Ad,AY,W1 hxf,Ax hxy,tadd]
 obtain rfl:i=a.length:=zo
 have hR:decide (a=b)=true:=Wv (by rw[Wj,hl,Wj]at c7;exact c7);rw[hR];simp only[eZ,seval,W0,lt_F c5]
def Tsn:Tab:=tadd 229 (s2 dSs dSs (λa _=>wide a) λa b=>.bool (decide (a=b))) tnil
def Tsn_ok:AI prog Tsn:=AI.tnil.add (q2 p229)
def p164(a b:Zf)(ha:Fk a):Pur prog 164 [BT a,BT b] (.bool (decide (a=b))):=by
 refine .mk ⟨Ar 0 _,Ar 0 _,trivial⟩ trivial (c164.a (AF Tsn_ok (AG ?_)));obtain⟨h1,h2⟩:=ha;simp only[eZ,seval,c164,Tsn,s2,Fj,EB,W1 h1,W1 h2,A3,tadd];rw[Wt,W9,MN];simp only[W5,W9];constructor
 ·intro h;simp only[h,and_self]
 ·intro h;simp only[h,and_self]
def Tsd:Tab:=tadd 162 (s2 dIs dIs (λa _=>wide a) λa b=>.bool (decide (a=b))) (tadd 163 (s2 dLl dLl (λa _=>Bp a) λa b=>.bool (decide (a=b))) (tadd 164 (s2 dRu dRu (λa _=>Fk a) λa b=>.bool (decide (a=b))) tnil))
def Tsd_ok:AI prog Tsd:=((AI.tnil.add (q2 p164)).add (q2 λa b h=>p163 a b h.1 h.2)).add (q2 p162)
def Tx(x y:Zl):(scmp .neq x.nm y.nm|| !decide (x.ls=y.ls))= !decide (x=y):=by
 rw[Ao];cases x;cases y;rw[Wt];simp [Zl.mk.injEq]
def p120(a b:Zo)(hd:Zh a):Pur prog 120 [encD a,encD b] (.bool (decide (a=b))):=by
 refine .mk ⟨Ab 0 _,Ab 0 _,trivial⟩ trivial (a120 (AF Tsd_ok (AG ?_)));cases h1:decide (a.nm=b.nm/\a.ver=b.ver/\a.sh=b.sh/\a.w=b.w/\a.h=b.h/\a.holes=b.holes)with
 |false=>
  have h1:=YO h1;have hR:decide (a=b)=false:=Wp λq=>h1 (by rw[q];exact⟨rfl,rfl,rfl,rfl,rfl,rfl⟩)
  have hb:(scmp .neq a.nm b.nm|| !decide (a.ver=b.ver)|| !decide (a.sh=b.sh)|| !decide (a.w=b.w)|| !decide (a.h=b.h)|| !decide (a.holes=b.holes))=true:=by
   rw[Ao,<-YQ];intro q;simp only[Yd,YC,W9,Y8]at q;exact h1 q
  rw[hR];simp only[eZ,seval,c120,Tsd,s2,Ad,AY,W1 (Cg hd.ho),hb,tadd]
 |true=>
 obtain⟨a1,a2,a3,a4,a5,a6⟩:=Xa h1;have hb:(scmp .neq a.nm b.nm|| !decide (a.ver=b.ver)|| !decide (a.sh=b.sh)|| !decide (a.w=b.w)|| !decide (a.h=b.h)|| !decide (a.holes=b.holes))=false:=by
  rw[Ao];simp [a1,a2,a3,a4,a5,a6]
 clear h1;cases h2:decide (a.syms.length=b.syms.length/\a.regs.length=b.regs.length/\a.clus.length=b.clus.length/\a.ruls.length=b.ruls.length)with
 |false=>
  have h2:=YO h2;have hR:decide (a=b)=false:=Wp λq=>h2 (by rw[q];exact⟨rfl,rfl,rfl,rfl⟩)
  have i8:(!decide ((a.syms.length:Int)=(b.syms.length:Int))|| !decide ((a.regs.length:Int)=(b.regs.length:Int))|| !decide ((a.clus.length:Int)=(b.clus.length:Int))|| !decide ((a.ruls.length:Int)=(b.ruls.length:Int)))=true:=by
   rw[<-YQ];intro q;simp only[Yd,YC,W9,Y8]at q;exact h2 zo
  rw[hR];simp only[eZ,seval,W0,c120,Tsd,s2,Ad,AY,W1 (Cg hd.ho),hb,i8,tadd]
 |true=>
 obtain⟨l1,l2,l3,l4⟩:=Xa h2;have i8:(!decide ((a.syms.length:Int)=(b.syms.length:Int))|| !decide ((a.regs.length:Int)=(b.regs.length:Int))|| !decide ((a.clus.length:Int)=(b.clus.length:Int))|| !decide ((a.ruls.length:Int)=(b.ruls.length:Int)))=false:=by
  simp [l1,l2,l3,l4]
 clear h2;simp only[eZ,seval,W0,c120,Tsd,s2,Ad,AY,W1 (Cg hd.ho),hb,i8,tadd];refine AL (λi:Nat=>⟨[(2,true,.ptr 0 0),(3,true,.ptr 1 0),(5,true,.int .i64 i)],hset (hset hnil 0 (.box (AH a))) 1 (.box (AH b)),3⟩) (λi=>i<=a.syms.length/\a.syms.take i=b.syms.take i) (λi=>a.syms.length-i) 0 rfl ⟨We _,rfl⟩ ?_;rintro i ⟨hi,c7⟩;have hfl:a.syms.length<1000000000:=hd.sy;by_cases c5:i<a.syms.length
 ·have hltb:i<b.syms.length:=zo
  have hg:=W2 c5;have hgb:=W2 hltb;have e:=AE (k:=i) zo;have ta:a.syms.take (i+1)=a.syms.take i++[a.syms[i]]:=by rw[Wl,hg];rfl
  have tb:b.syms.take (i+1)=b.syms.take i++[b.syms[i]]:=by rw[Wl,hgb];rfl
  generalize a.syms[i]=x at hg ta;generalize b.syms[i]=y at hgb tb;by_cases hxy:x=y
  ·have hc:=Ix x y;rw[Wv hxy]at hc;simp only[eZ,seval,W3,eY,lt_T c5,lt_T hltb,hg,hgb,e,hc,cfit];exact .mk (i+1) rfl ⟨c5,by rw[ta,tb,c7,hxy]⟩ zo
  ·have hR:decide (a=b)=false:=Wp λq=>hxy (by rw[q]at hg;rw[hg]at hgb;exact Option.some.inj hgb)
   have hc:=Ix x y;rw[Wp hxy]at hc;rw[hR];simp only[eZ,seval,W6,eY,lt_T c5,lt_T hltb,hg,hgb,hc,cfit]
 obtain rfl:i=a.syms.length:=zo
 have b_syms:a.syms=b.syms:=by rw[Wj,l1,Wj]at c7;exact c7
 simp only[eZ,seval,W0,lt_F c5];clear hi c7 hfl c5;refine AL (λi:Nat=>⟨[(2,true,.ptr 0 0),(3,true,.ptr 1 0),(6,true,.int .i64 i)],hset (hset hnil 0 (.box (AH a))) 1 (.box (AH b)),3⟩) (λi=>i<=a.regs.length/\a.regs.take i=b.regs.take i) (λi=>a.regs.length-i) 0 rfl ⟨We _,rfl⟩ ?_;rintro i ⟨hi,c7⟩;have hfl:a.regs.length<1000000000:=hd.rg;by_cases c5:i<a.regs.length
 ·have hltb:i<b.regs.length:=zo
  have hg:=W2 c5;have hgb:=W2 hltb;have e:=AE (k:=i) zo;have ta:a.regs.take (i+1)=a.regs.take i++[a.regs[i]]:=by rw[Wl,hg];rfl
  have tb:b.regs.take (i+1)=b.regs.take i++[b.regs[i]]:=by rw[Wl,hgb];rfl
  have hxf:Bp a.regs[i].ls:=hd.rgs _ (Wn c5);generalize a.regs[i]=x at hg ta hxf;generalize b.regs[i]=y at hgb tb;by_cases hxy:x=y
  ·have hc:=Tx x y;rw[Wv hxy]at hc;simp only[eZ,seval,W3,eY,lt_T c5,lt_T hltb,hg,hgb,e,Tsd,s2,CH,Bd,W1 hxf,hc,tadd];exact .mk (i+1) rfl ⟨c5,by rw[ta,tb,c7,hxy]⟩ zo
  ·have hR:decide (a=b)=false:=Wp λq=>hxy (by rw[q]at hg;rw[hg]at hgb;exact Option.some.inj hgb)
   have hc:=Tx x y;rw[Wp hxy]at hc;rw[hR];simp only[eZ,seval,W6,eY,lt_T c5,lt_T hltb,hg,hgb,Tsd,s2,CH,Bd,W1 hxf,hc,tadd]
 obtain rfl:i=a.regs.length:=zo
 have b_regs:a.regs=b.regs:=by rw[Wj,l2,Wj]at c7;exact c7
 simp only[eZ,seval,W0,lt_F c5];clear hi c7 hfl c5;refine AL (λi:Nat=>⟨[(2,true,.ptr 0 0),(3,true,.ptr 1 0),(7,true,.int .i64 i)],hset (hset hnil 0 (.box (AH a))) 1 (.box (AH b)),3⟩) (λi=>i<=a.clus.length/\a.clus.take i=b.clus.take i) (λi=>a.clus.length-i) 0 rfl ⟨We _,rfl⟩ ?_;rintro i ⟨hi,c7⟩;have hfl:a.clus.length<1000000000:=hd.cl;by_cases c5:i<a.clus.length
 ·have hltb:i<b.clus.length:=zo
  have hg:=W2 c5;have hgb:=W2 hltb;have e:=AE (k:=i) zo;have ta:a.clus.take (i+1)=a.clus.take i++[a.clus[i]]:=by rw[Wl,hg];rfl
  have tb:b.clus.take (i+1)=b.clus.take i++[b.clus[i]]:=by rw[Wl,hgb];rfl
  generalize a.clus[i]=x at hg ta;generalize b.clus[i]=y at hgb tb;by_cases hxy:x=y
  ·have hc:=Iy x y;rw[Wv hxy]at hc;simp only[eZ,seval,W3,eY,lt_T c5,lt_T hltb,hg,hgb,e,hc,cfit];exact .mk (i+1) rfl ⟨c5,by rw[ta,tb,c7,hxy]⟩ zo
  ·have hR:decide (a=b)=false:=Wp λq=>hxy (by rw[q]at hg;rw[hg]at hgb;exact Option.some.inj hgb)
   have hc:=Iy x y;rw[Wp hxy]at hc;rw[hR];simp only[eZ,seval,W6,eY,lt_T c5,lt_T hltb,hg,hgb,hc,cfit]
 obtain rfl:i=a.clus.length:=zo
 have b_clus:a.clus=b.clus:=by rw[Wj,l3,Wj]at c7;exact c7
 simp only[eZ,seval,W0,lt_F c5];clear hi c7 hfl c5;refine AL (λi:Nat=>⟨[(2,true,.ptr 0 0),(3,true,.ptr 1 0),(8,true,.int .i64 i)],hset (hset hnil 0 (.box (AH a))) 1 (.box (AH b)),3⟩) (λi=>i<=a.ruls.length/\a.ruls.take i=b.ruls.take i) (λi=>a.ruls.length-i) 0 rfl ⟨We _,rfl⟩ ?_;rintro i ⟨hi,c7⟩;have hfl:a.ruls.length<1000000000:=hd.ru;by_cases c5:i<a.ruls.length
 ·have hltb:i<b.ruls.length:=zo
  have hg:=W2 c5;have hgb:=W2 hltb;have e:=AE (k:=i) zo;have ta:a.ruls.take (i+1)=a.ruls.take i++[a.ruls[i]]:=by rw[Wl,hg];rfl
  have tb:b.ruls.take (i+1)=b.ruls.take i++[b.ruls[i]]:=by rw[Wl,hgb];rfl
  have hxf:Fk a.ruls[i]:=hd.rus _ (Wn c5);generalize a.ruls[i]=x at hg ta hxf;generalize b.ruls[i]=y at hgb tb;by_cases hxy:x=y
  ·simp only[eZ,seval,W3,eY,lt_T c5,lt_T hltb,hg,hgb,e,Tsd,s2,Bc,A7,W1 hxf,BB hxy,tadd];exact .mk (i+1) rfl ⟨c5,by rw[ta,tb,c7,hxy]⟩ zo
  ·have hR:decide (a=b)=false:=Wp λq=>hxy (by rw[q]at hg;rw[hg]at hgb;exact Option.some.inj hgb)
   rw[hR];simp only[eZ,seval,W6,eY,lt_T c5,lt_T hltb,hg,hgb,Tsd,s2,Bc,A7,W1 hxf,Ax hxy,tadd]
 obtain rfl:i=a.ruls.length:=zo
 have b_ruls:a.ruls=b.ruls:=by rw[Wj,l4,Wj]at c7;exact c7
 have hR:decide (a=b)=true:=Wv (by
  cases a;cases b;simp only at a1 a2 a3 a4 a5 a6 b_syms b_regs b_clus b_ruls;subst a1 a2 a3 a4 a5 a6 b_syms b_regs b_clus b_ruls;rfl)
 rw[hR];simp only[eZ,seval,W0,lt_F c5]
def p124(l:List Int)(x:Int)(hl:few l):Pur prog 124 [eIs l,.int .i64 x] (.bool (l.contains x)):=by
 refine .mk ⟨AR 0 _,trivial,trivial⟩ trivial (c124.a (AF AI.tnil (AG ?_)));have l8:l.length<1000000000:=hl;simp only[eE,eN,seval,c124];refine AL (λi:Nat=>⟨[(0,true,eIs l),(1,true,.int .i64 x),(5,true,.int .i64 i)],hnil,0⟩) (λi=>i<=l.length/\l.contains x=(l.drop i).contains x) (λi=>l.length-i) 0 rfl ⟨We _,rfl⟩ ?_;rintro i ⟨hi,hc⟩;by_cases c5:i<l.length
 ·have hg:=W2 c5;have e:=AE (k:=i) zo;rw[Wy c5,List.contains_cons]at hc;generalize l[i]=y at hg hc;by_cases hy:y=x
  ·have hR:l.contains x=true:=by rw[hc,hy];simp
   rw[hR];simp only[eZ,seval,eY,lt_T c5,hg,BB hy]
  ·have hy':(x==y)=false:=beq_eq_false_iff_ne.2 λq=>hy q.symm
   rw[hy',XG]at hc;simp only[eZ,seval,eY,lt_T c5,hg,e,Ax hy];exact .mk (i+1) rfl ⟨c5,hc⟩ zo
 obtain rfl:i=l.length:=zo
 rw[Xc]at hc;rw[hc];simp only[eZ,seval,W0,lt_F c5];rfl
def Tin:Tab:=tadd 124 (s2 dIs dI (λl _=>few l) λl x=>.bool (l.contains x)) tnil
def Oy:AI prog Tin:=AI.tnil.add (q2 p124)
def hosL(holes:List Int)(k:Nat):List Int:=((List.range k).map λ(i:Nat)=>(i:Int)).filter λp=>holes.contains p
def Oz(holes:List Int)(k:Nat):hosL holes (k+1)=if holes.contains (k:Int)then hosL holes k++[(k:Int)]else hosL holes k:=by
 unfold hosL;rw[XI,Wh,XW];cases h:holes.contains (k:Int)<;>simp only[Wu,X5,XH,YE,h,Xi,X4,Ws,X2]
def Un(holes:List Int)(k:Nat):(hosL holes k).length<=k:=by
 have:=Xu (λp=>holes.contains p) ((List.range k).map λ(i:Nat)=>(i:Int));simpa [hosL]using this
structure VMh where
 i:Nat
 last:Int
structure VMm where
 k:Nat
 t1:Zu
 t2:Zu
 H:AC
 n:Nat
structure IMr(sh w h:Int)(holes:List Int)(m:Nat)(v:VMm):Prop where
 hk:v.k<=m
 hn:8<=v.n
 fr:AQ v.H v.n
 h0:hget v.H 0=some (.box [z0,z0,z0,zs,zs])
 h6:hget v.H 6=some (.box [.int .i64 sh,.int .i64 w,.int .i64 h,.sl v.t1 ((hosL holes v.k).map eI),.sl v.t2 ((posL holes v.k).map eI)])
 tok1:tkG 1 7 v.H v.t1
 tok2:tkG 1 7 v.H v.t2
 dj:∀i,v.t1= .own i 1->v.t2≠ .own i 1
 es1:v.t1.esz=1\/hosL holes v.k=[]
 es2:v.t2.esz=1\/posL holes v.k=[]
def p87(sh w h:Int)(holes:List Int)(hl:few holes):Pur prog 87 [.int .i64 sh,.int .i64 w,.int .i64 h,eIs holes] (BJ sh w h holes):=by
 refine .mk ⟨trivial,trivial,trivial,AR 0 _,trivial⟩ (Hn sh w h holes) (c87.a (AF Oy (AG ?_)));have l8:holes.length<1000000000:=hl;by_cases hc:(sh=1\/sh=2)/\1<=w/\w<=16/\1<=h/\h<=16;case neg=>
  have hn:BJ sh w h holes= .tup [encG 0 0 0 [] [],.int .i64 130]:=by
   unfold BJ Ai;rw[W7 λq=>hc ⟨q.1,q.2.1,q.2.2.1,q.2.2.2.1,q.2.2.2.2.1⟩]
  have hb:(!decide (sh=1)&& !decide (sh=2)||decide (w<1)||decide (16<w)||decide (h<1)||decide (16<h))=true:=by
   rw[<-YQ];intro q;simp only[Yd,YU,YC,W9,XN]at q;exact hc zo
  rw[hn];simp only[eZ,seval,BG,c87,hb];exact wk_G (Wk.sl (.inr rfl)) (Wk.sl (.inr rfl))
 have hb:(!decide (sh=1)&& !decide (sh=2)||decide (w<1)||decide (16<w)||decide (h<1)||decide (16<h))=false:=by
  simp only[Yd,YU,YC,W9,XN];omega
 obtain⟨hsh,hw1,hw2,hh1,hh2⟩:=hc;obtain⟨p1,p2⟩:=WM hw1 hw2 hh1 hh2;have hwh:IntKind.wrap .i64 (w*h)=w*h:=Aq zo zo;have i6:(Bo (-1) holes&&holes.all λp=>decide (p<w*h))=false->BJ sh w h holes= .tup [encG 0 0 0 [] [],.int .i64 130]:=λq=>by
  unfold BJ Ai;rw[W7];intro z;rw[z.2.2.2.2.2.2.1,z.2.2.2.2.2.2.2]at q;cases q
 simp only[eZ,seval,c87,hb];refine AL (λv:VMh=>⟨[(0,true,.int .i64 sh),(1,true,.int .i64 w),(2,true,.int .i64 h),(3,true,eIs holes),(8,true,.ptr 0 0),(10,true,.int .i64 v.i)],hset hnil 0 (.box [z0,z0,z0,zs,zs]),2⟩)
  (λv=>v.i<=holes.length/\(Bo (-1) holes&&holes.all λp=>decide (p<w*h))=(Bo v.last (holes.drop v.i)&&(holes.drop v.i).all λp=>decide (p<w*h))/\(v.i=0->v.last= -1)/\∀j,v.i=j+1->holes[j]?=some v.last/\0<=v.last) (λv=>holes.length-v.i)
  ⟨0,-1⟩ rfl ⟨We _,rfl,λ_=>rfl,λj q=>by cases q⟩ ?_
 rintro⟨i,last⟩ ⟨hi,he,hz,hs⟩;simp only at hi he hz hs;by_cases c5:i<holes.length
 ·have hg:=W2 c5;have e:=AE (k:=i) zo;rw[Wy c5,Bo,Yw]at he;generalize holes[i]=x at hg he;have hnext:last<x/\x<w*h->(Bo (-1) holes&&holes.all λp=>decide (p<w*h))=(Bo x (holes.drop (i+1))&&(holes.drop (i+1)).all λp=>decide (p<w*h)):=λq=>by
   rw[he,Wv q.1,Wv q.2];simp
  have hstop:¬(last<x/\x<w*h)->(Bo (-1) holes&&holes.all λp=>decide (p<w*h))=false:=λq=>by
   rw[he,<-Bool.not_eq_true];intro z;simp only[W5,W9]at z;exact q ⟨z.1.1,z.2.1⟩
  cases i with
  |zero=>
   have hl1:=hz rfl;have h0l:((0:Int)<(holes.length:Int))=True:=W1 zo;have e1:IntKind.wrap .i64 ((0:Int)+1)=1:=zd
   by_cases d9:last<x/\x<w*h
   ·have hd:(decide (x<0)||decide (w*h<=x))=false:=by simp;omega
    simp only[eZ,seval,eY,h0l,hg,e1,hwh,hd];refine .mk ⟨1,x⟩ rfl ⟨c5,hnext d9,(λq=>by cases q),λj q=>?_⟩ zp;have q':1=j+1:=q;have:j=0:=zo
    subst this;exact⟨hg,zp⟩
   ·have hd:(decide (x<0)||decide (w*h<=x))=true:=by simp;omega
    rw[i6 (hstop d9)];simp only[eZ,seval,W3,eY,BG,h0l,hg,hwh,hd];exact wk_G (Wk.sl (.inr rfl)) (Wk.sl (.inr rfl))
  |succ j=>
   obtain⟨hgl,hl0⟩:=hs j rfl;have hjl:j<holes.length:=zo
   have ej:IntKind.wrap .i64 (((j+1:Nat):Int)-1)=(j:Int):=by rw[Aq zo zo];omega
   by_cases d9:last<x/\x<w*h
   ·have hd:(decide (x<0)||decide (w*h<=x))=false:=by simp;omega
    have hd2:(x<=last)=False:=W4 zo;simp only[eZ,seval,eY,lt_T c5,hg,e,hwh,hd,cS1,ej,lt_T hjl,hgl,hd2];refine .mk ⟨j+2,x⟩ rfl ⟨c5,hnext d9,(λq=>by cases q),λj' q=>?_⟩ zp;have q':j+2=j'+1:=q;have:j'=j+1:=zo
    subst this;exact⟨hg,zp⟩
   ·by_cases hd:(decide (x<0)||decide (w*h<=x))=true
    ·rw[i6 (hstop d9)];simp only[eZ,seval,W3,eY,BG,lt_T c5,hg,hwh,hd];exact wk_G (Wk.sl (.inr rfl)) (Wk.sl (.inr rfl))
    ·have hd:(decide (x<0)||decide (w*h<=x))=false:=by simpa using hd
     have hd':=hd;simp only[Yd,XN]at hd';have hd2:(x<=last)=True:=W1 zo;rw[i6 (hstop d9)];simp only[eZ,seval,eY,BG,lt_T c5,hg,hwh,hd,cS1,ej,lt_T hjl,hgl,hd2];exact wk_G (Wk.sl (.inr rfl)) (Wk.sl (.inr rfl))
 obtain rfl:i=holes.length:=zo
 rw[Xc]at he;have he':(Bo (-1) holes&&holes.all λp=>decide (p<w*h))=true:=he;obtain⟨hr1,hr2⟩:=(W5 _ _).mp he';obtain⟨r1,r2⟩:=Et.1 hr1;have j9:∀x∈holes,0<=x/\x<w*h:=λx hx=>⟨by have:=r1 x hx;omega,Xa (Wo.1 hr2 x hx)⟩
 obtain⟨m,hm⟩:∃m:Nat,w*h=(m:Int):=⟨(w*h).toNat,zo⟩;have hmt:(w*h).toNat=m:=zo
 have hwm:IntKind.wrap .i64 (m:Int)=m:=by rw[<-hm];exact hwh
 have hHos:hosL holes m=holes:=by
  have:=RU j9 r2;unfold Br at this;rw[hmt]at this;exact this
 have hC:Ai sh w h holes=if posL holes m≠[]then some (posL holes m)else none:=by
  rw[<-RO];unfold RN;have ep:((Br (w*h)).filter λp=>!holes.contains p)=posL holes m:=by unfold Br posL;rw[hmt]
  rw[ep];by_cases q:posL holes m=[]
  ·rw[W7 λz=>z.2.2.2.2.2.2.2 q,W7 (λz=>z q)]
  ·rw[Wg ⟨hsh,hw1,hw2,hh1,hh2,j9,r2,q⟩,Wg q]
 simp only[eZ,seval,W0,lt_F c5,hm,AN];refine AL (λv:VMm=>⟨[(1,true,.int .i64 w),(2,true,.int .i64 h),(3,true,eIs holes),(8,true,.ptr 0 0),(11,true,.ptr 6 0),(12,true,.int .i64 v.k)],v.H,v.n⟩) (IMr sh w h holes m) (λv=>m-v.k)
  ⟨0,.nil,.nil,hset (hset hnil 0 (.box [z0,z0,z0,zs,zs])) 6 (.box [.int .i64 sh,.int .i64 w,.int .i64 h,zs,zs]),8⟩ rfl ⟨We _,W8 _,(AQ.nil.hset (m:=8) (We 8) (show 0<8 by decide)).hset (W8 8) (show 6<8 by decide),rfl,rfl,.inl rfl,.inl rfl,λi q=>(by cases q),.inr rfl,.inr rfl⟩ ?_
 rintro⟨k,t1,t2,H,n⟩ ⟨hk,hn,c6,h0,h6,i7,l0,hdj,hes1,hes2⟩;simp only at hk hn c6 h0 h6 i7 l0 hdj hes1 hes2;by_cases hlt2:k<m
 ·have e:=AE (k:=k) zo;have hps:=K4 holes k;have hhs:=Oz holes k;have r9:=Rd holes k;have hhl:=Un holes k;have y0:∀j,(n+j=6)=False:=λj=>W4 zo
  have y1:∀j,(n+j=0)=False:=λj=>W4 zo
  cases hin2:holes.contains (k:Int)with
  |true=>
   rw[hin2,Wg rfl]at hps hhs;have q1:A5 H 1 t1=True:=W1 i7.app;have q2:((hosL holes k).length<=35184372088831)=True:=W1 zo;have q3:Aj ((hosL holes k).length+1) 8=True:=W1 (AX zo zd);have kx:hget (AO H t1) 6=some (.box [.int .i64 sh,.int .i64 w,.int .i64 h,.sl t1 ((hosL holes k).map eI),.sl t2 ((posL holes k).map eI)]):=by rw[AV i7 (.inl zo)];exact h6
   simp only[eZ,seval,W0,hwm,hm,lt_T hlt2,Tin,s2,Ad,AY,Aw,Ag,W1 hl,hin2,e,h6,q1,q2,q3,fr1 c6,kx,y0,tadd];have hdn:∀i,((.own (n+4) 1:Zu)= .own i 1)->(t2:Zu)≠ .own i 1:=λi q z=>by
    cases q;rcases l0 with h|h|⟨id,h,-,h'⟩<;>rw[h]at z<;>cases z
    rw[fr1 c6 4]at h';cases h'
   refine .mk ⟨k+1,.own (n+4) 1,t2,hset (hset (AO H t1) (n+4) .tok) 6 (.box [.int .i64 sh,.int .i64 w,.int .i64 h,.sl (.own (n+4) 1) ((hosL holes (k+1)).map eI),.sl t2 ((posL holes (k+1)).map eI)]),n+7⟩ ?_ ⟨hlt2,zp,((AU i7 c6).hset (m:=n+7) zo zo).hset (W8 (n+7)) (show 6<n+7 by omega),?_,AB ..,.inr (.inr ⟨n+4,rfl,zo,by rw[AA _ _ _ _ zo];exact AB ..⟩),(((l0.kill i7 (λi q z=>hdj i z q)).set (.inr (.inr (Kv i7 (fr1 c6 4))))).set (.inl zo)),hdn,.inl rfl,by simp only[hps];exact hes2⟩ zp
   ·simp only[hps,hhs,Wh];rfl
   ·simp only[];rw[AA _ _ _ _ zo,AA _ _ _ _ zo,AV i7 (.inl zo)];exact h0
  |false=>
   rw[hin2,W7 zd]at hps hhs;have q1:A5 H 1 t2=True:=W1 l0.app;have q2:((posL holes k).length<=35184372088831)=True:=W1 zo;have q3:Aj ((posL holes k).length+1) 8=True:=W1 (AX zo zd);have kx:hget (AO H t2) 6=some (.box [.int .i64 sh,.int .i64 w,.int .i64 h,.sl t1 ((hosL holes k).map eI),.sl t2 ((posL holes k).map eI)]):=by rw[AV l0 (.inl zo)];exact h6
   simp only[eZ,seval,W0,hwm,hm,lt_T hlt2,Tin,s2,Ad,AY,Aw,Ag,W1 hl,hin2,e,h6,q1,q2,q3,fr1 c6,kx,y0,tadd];have hdn:∀i,((t1:Zu)= .own i 1)->(.own (n+4) 1:Zu)≠ .own i 1:=λi q z=>by
    cases z;rcases i7 with h|h|⟨id,h,-,h'⟩<;>rw[h]at q<;>cases q
    rw[fr1 c6 4]at h';cases h'
   refine .mk ⟨k+1,t1,.own (n+4) 1,hset (hset (AO H t2) (n+4) .tok) 6 (.box [.int .i64 sh,.int .i64 w,.int .i64 h,.sl t1 ((hosL holes (k+1)).map eI),.sl (.own (n+4) 1) ((posL holes (k+1)).map eI)]),n+7⟩ ?_ ⟨hlt2,zp,((AU l0 c6).hset (m:=n+7) zo zo).hset (W8 (n+7)) (show 6<n+7 by omega),?_,AB ..,(((i7.kill l0 (λi q=>hdj i q)).set (.inr (.inr (Kv l0 (fr1 c6 4))))).set (.inl zo)),.inr (.inr ⟨n+4,rfl,zo,by rw[AA _ _ _ _ zo];exact AB ..⟩),hdn,by simp only[hhs];exact hes1,.inl rfl⟩ zp
   ·simp only[hps,hhs,Wh];rfl
   ·simp only[];rw[AA _ _ _ _ zo,AA _ _ _ _ zo,AV l0 (.inl zo)];exact h0
 obtain rfl:k=m:=zo
 by_cases hp0:posL holes k=[]
 ·have hM:BJ sh w h holes= .tup [encG 0 0 0 [] [],.int .i64 130]:=by unfold BJ;rw[hC,W7 (λz=>z hp0)]
  have hl0:(((posL holes k).length:Int)=0)=True:=W1 (by rw[hp0];rfl);rw[hM];simp only[eZ,seval,BG,W0,hwm,hm,lt_F hlt2,h6,h0,hl0];exact wk_G (Wk.sl (.inr rfl)) (Wk.sl (.inr rfl))
 ·have hM:BJ sh w h holes= .tup [encG sh w h holes (posL holes k),.int .i64 0]:=by unfold BJ;rw[hC,Wg hp0]
  have hl0:(((posL holes k).length:Int)=0)=False:=W4 (λq=>hp0 (XD.1 zo));rw[hM];simp only[eZ,seval,BG,W0,hwm,hm,lt_F hlt2,h6,h0,hl0];rw[hHos]at hes1⊢;exact wk_G (Wk.sl (hes1.imp id λq=>by rw[q];rfl)) (Wk.sl (hes2.imp id λq=>by rw[q];rfl))
def sMk:List Fs->AC->Prop×Fs:=λa H=>match a with
 |[.int .i64 sh,.int .i64 w,.int .i64 h,x]=>(dIs.ok x/\few (dIs.dec x),BJ sh w h (dIs.dec x))
 |_=>(False,.tup [])
def qMk:∀args H n,(sMk args H).1->Am prog 87 args H n (sMk args H).2:=by
 intro args H n hh;unfold sMk at hh⊢;split at hh
 ·obtain⟨h1,h2⟩:=hh;refine AP.args ((p87 _ _ _ _ h2).quiet H n) ?_;rintro g vs ⟨v,r,rfl,k1,w,r',rfl,k2,u,r2,rfl,k3,z,r3,rfl,k4,k5⟩;exact⟨v,_,rfl,k1,w,_,rfl,k2,u,_,rfl,k3,z,_,rfl,dIs.wk _ h1 _ _ k4,k5⟩
 ·exact hh.elim
def Tck:Tab:=tadd 87 sMk (tadd 130 (s2 dIs dIs (λa _=>few a) λa b=>.bool (decide (a=b))) tnil)
def Tck_ok:AI prog Tck:=(AI.tnil.add (q2 p130)).add qMk
theorem Uo(sh w h:Int)(x:Fs)(H:AC):Tck 87 [.int .i64 sh,.int .i64 w,.int .i64 h,x] H=(dIs.ok x/\few (dIs.dec x),BJ sh w h (dIs.dec x)):=rfl
theorem Tck_s(a:List Fs)(H:AC):Tck 130 a H=s2 dIs dIs (λa _=>few a) (λa b=>.bool (decide (a=b))) a H:=rfl
def p125(g:Zs)(hh:few g.holes):Pur prog 125 [Bz g] (chkV g):=by
 refine .mk ⟨Ap 0 ..,trivial⟩ trivial (c125.a (AF Tck_ok (AG ?_)));unfold chkV grOK;cases hc:Ai g.sh g.w g.h g.holes with
 |none=>
  have hv:BJ g.sh g.w g.h g.holes= .tup [encG 0 0 0 [] [],.int .i64 130]:=by unfold BJ;rw[hc]
  simp only[eZ,seval,W3,W6,eY,c125,Uo,Ad,AY,W1 hh,hv]
 |some c=>
  have hv:BJ g.sh g.w g.h g.holes= .tup [encG g.sh g.w g.h g.holes c,.int .i64 0]:=by unfold BJ;rw[hc]
  have hfc:few c:=show c.length<_ by have:=(Ay hc).2.1;omega
  by_cases hcc:c=g.cells
  ·have hR:decide (some c=some g.cells)=true:=Wv (by rw[hcc]);rw[hR];simp only[eZ,seval,W3,eY,c125,Uo,Tck_s,s2,Ad,AY,W1 hh,hv,W1 hfc,BB hcc]
  ·have hR:decide (some c=some g.cells)=false:=Wp (λq=>hcc (Option.some.inj q));rw[hR];simp only[eZ,seval,W3,W6,eY,c125,Uo,Tck_s,s2,Ad,AY,W1 hh,hv,W1 hfc,Ax hcc]
def atV(cells:List Int)(p:Int):Fs:=if cells.contains p=true then .tup [.int .i64 (lowB cells p),.bool true]else .tup [.int .i64 0,.bool false]
def p129(g:Zs)(p:Int)(hf:few g.cells)(hs:List.Pairwise (λx y=>x<y) g.cells):Pur prog 129 [Bz g,.int .i64 p] (atV g.cells p):=by
 refine .mk ⟨Ap 0 ..,trivial,trivial⟩ (by unfold atV;split<;>exact⟨trivial,trivial,trivial⟩) (c129.a (AF AI.tnil (AG ?_)));have l8:g.cells.length<1000000000:=hf;simp only[eE,eN,seval,c129];refine AL (λi:Nat=>⟨[(1,true,.int .i64 p),(2,true,.ptr 0 0),(6,true,.int .i64 i)],hset hnil 0 (.box (AD g.sh g.w g.h g.holes g.cells)),3⟩) (λi=>i<=g.cells.length/\g.cells.contains p=(g.cells.drop i).contains p) (λi=>g.cells.length-i) 0 rfl ⟨We _,rfl⟩ ?_;rintro i ⟨hi,hc⟩;by_cases c5:i<g.cells.length
 ·have hg:=W2 c5;have e:=AE (k:=i) zo;have hlow:=RV hs c5;rw[Wy c5,List.contains_cons]at hc;generalize g.cells[i]=y at hg hc hlow;by_cases hy:y=p
  ·have hR:atV g.cells p= .tup [.int .i64 i,.bool true]:=by unfold atV;rw[Wg (by rw[hc,hy];simp),<-hy,hlow]
   rw[hR];simp only[eZ,seval,eY,lt_T c5,hg,BB hy];exact Wk.refl _
  ·have hy':(p==y)=false:=beq_eq_false_iff_ne.2 λq=>hy q.symm
   rw[hy',XG]at hc;simp only[eZ,seval,eY,lt_T c5,hg,e,Ax hy];exact .mk (i+1) rfl ⟨c5,hc⟩ zo
 obtain rfl:i=g.cells.length:=zo
 rw[Xc]at hc;have hR:atV g.cells p= .tup [.int .i64 0,.bool false]:=by unfold atV;rw[W7 (by rw[hc];simp)]
 rw[hR];simp only[eZ,seval,W0,lt_F c5];exact Wk.refl _
def Trr:Tab:=tadd 125 (s1 dGd (λg=>few g.holes) chkV) (tadd 129 (s2 dGd dI (λg _=>few g.cells/\List.Pairwise (λx y=>x<y) g.cells) λg p=>atV g.cells p) Tin)
def O0:AI prog Trr:=(Oy.add (q2 λg p h=>p129 g p h.1 h.2)).add (q1 p125)
theorem Trr_c(a:List Fs)(H:AC):Trr 125 a H=s1 dGd (λg=>few g.holes) chkV a H:=rfl
theorem Up(a:List Fs)(H:AC):Trr 129 a H=s2 dGd dI (λg _=>few g.cells/\List.Pairwise (λx y=>x<y) g.cells) (λg p=>atV g.cells p) a H:=rfl
theorem Trr_i(a:List Fs)(H:AC):Trr 124 a H=s2 dIs dI (λl _=>few l) (λl x=>.bool (l.contains x)) a H:=rfl
structure IRj(g:Zs)(x:List Int)(H0:AC)(n0:Nat)(v:VRi):Prop where
 hj:v.j<=x.length
 hn:n0<=v.n
 fr:AQ v.H v.n
 hk:∀id,id<n0->hget v.H id=hget H0 id
 tok:tkG 1 n0 v.H v.tc
 es:v.tc.esz=1\/v.j=0
 sub:∀q∈x.take v.j,q∈g.cells
 eq:F6 g.cells [] x=F6 g.cells (x.take v.j) (x.drop v.j)
 nd:(x.take v.j).Nodup
def p90(g:Zs)(lists:List (List Int))(hG:Ai g.sh g.w g.h g.holes=some g.cells)(hh:few g.holes)(hl:Bp lists):Pur prog 90 [Bz g,eLl lists] (rgsV g.cells lists):=by
 refine .mk ⟨Ap 0 ..,Ak 0 _,trivial⟩ (by unfold rgsV;split<;>exact⟨Ak 0 _,trivial,trivial⟩) (c90.a (AF O0 (AG ?_)));obtain⟨hr1,hr2,hr3⟩:=Ay hG;have hfc:few g.cells:=show g.cells.length<_ by omega
 have hgo:grOK g.sh g.w g.h g.holes g.cells=true:=by unfold grOK;rw[hG];simp
 have l8:lists.length<1000000000:=hl.1;by_cases h64:64<lists.length
 ·have hv:rgsV g.cells lists= .tup [eLl [],.int .i64 130]:=by unfold rgsV;rw[W7];simp;omega
  have l64:((64:Int)<(lists.length:Int))=True:=W1 zo;rw[hv];simp only[eZ,seval,W3,W0,c90,Trr_c,s1,Ez,Cv,W1 hh,hgo,l64];exact Wk.tup (.cons (Wk.sl (.inr rfl)) (.cons (Wk.refl _) .nil))
 have l64:((64:Int)<(lists.length:Int))=False:=W4 zo;simp only[eZ,seval,W3,W0,c90,Trr_c,s1,Ez,Cv,W1 hh,hgo,l64];have i6:lists.all (Da g.cells)=false->rgsV g.cells lists= .tup [eLl [],.int .i64 130]:=λq=>by unfold rgsV;rw[q,YA,W7 zd]
 refine AL (λv:VRg=>⟨[(1,true,eLl lists),(2,true,.ptr 0 0),(6,true,.sl v.tl v.E),(7,true,.int .i64 v.i)],v.H,v.n⟩) (IRg g lists) (λv=>lists.length-v.i)
  ⟨0,[],.nil,hset hnil 0 (.box (AD g.sh g.w g.h g.holes g.cells)),3⟩ rfl ⟨We _,W8 _,AQ.nil.hset (m:=3) (We 3) (show 0<3 by decide),rfl,.inl rfl,.inr rfl,.nil,rfl⟩ ?_
 rintro⟨i,E,tl,H,n⟩ hI;have hi:=hI.hi;have hn:=hI.hn;have c6:=hI.fr;have h0:=hI.h0;have c7:=hI.tok;have d7:=hI.es;have hE:=hI.hE;have heq:=hI.eq;simp only at hi hn c6 h0 c7 d7 hE heq;by_cases c5:i<lists.length;case neg=>
  have i5:i=lists.length:=zo
  subst i5;rw[Xc]at heq;rw[Wj]at hE;have hv:rgsV g.cells lists= .tup [eLl (lists.map (BO g.cells)),.int .i64 0]:=by
   unfold rgsV;rw[heq,Wg];simp;omega
  rw[hv];simp only[eZ,seval,W0,lt_F c5];exact Wk.tup (.cons (Wk.slx d7 hE) (.cons (Wk.refl _) .nil))
 have hg:=W2 c5;have e:=AE (k:=i) zo;have hxf:=hl.2 _ (Wn c5);have hxe:=map_take (f:=BO g.cells) c5;rw[Wy c5,Yw]at heq;generalize hx:lists[i]=x at hg hxf heq hxe;have hxl:x.length<1125899906842624:=hxf;simp only[eZ,seval,W0,lt_T c5];refine AL (λv:VRi=>⟨[(1,true,eLl lists),(2,true,.ptr 0 0),(6,true,.sl tl E),(7,true,.int .i64 i),(8,true,.sl v.tc ((BO g.cells (x.take v.j)).map eI)),(9,true,.int .i64 v.j)],v.H,v.n⟩)
  (IRj g x H n) (λv=>x.length-v.j) ⟨0,.nil,H,n⟩ rfl ⟨We _,W8 _,c6,λid d6=>rfl,.inl rfl,.inr rfl,λq hq=>by(simp at hq),rfl,zw⟩ ?_
 rintro⟨j,tc,H1,n1⟩ ⟨hj,j8,hf1,hk,htc,hec,hsub,hme,hnd⟩;simp only at hj j8 hf1 hk htc hec hsub hme hnd;have hj256:j<=256:=by
  have:=Hp hnd hsub;rw[Wx]at this;omega
 have k9:hget H1 0=some (.box (AD g.sh g.w g.h g.holes g.cells)):=by rw[hk 0 zo];exact h0
 by_cases hlj:j<x.length
 ·have hgj:=W2 hlj;have ej:=AE (k:=j) zo;have htx:=map_take (f:=λp=>(lowB g.cells p:Int)) hlj;have htk2:x.take (j+1)=x.take j++[x[j]]:=by rw[Wl,hgj];rfl
  rw[Wy hlj,F6]at hme;have hlen:(BO g.cells (x.take j)).length=j:=by rw[Fl,Wx];omega
  have hcf:few (BO g.cells (x.take j)):=show(BO g.cells (x.take j)).length<_ by omega
  generalize hp:x[j]=p at hgj htx htk2 hme;have e9:(g.cells.contains p&& !(x.take j).contains p)=false->rgsV g.cells lists= .tup [eLl [],.int .i64 130]:=λq=>i6 (by
   rw[heq,Eu,hme,q];simp)
  cases j9:g.cells.contains p with
  |false=>
   have hat:atV g.cells p= .tup [.int .i64 0,.bool false]:=by unfold atV;rw[j9,W7 zd]
   rw[e9 (by rw[j9];rfl)];simp only[eZ,seval,W3,W6,eY,lt_T c5,hg,lt_T hlj,hgj,k9,Up,s2,Ez,Cv,Aw,Ag,W1 hfc,W1 hr1,hat];exact Wk.tup (.cons (Wk.sl (.inr rfl)) (.cons (Wk.refl _) .nil))
  |true=>
   have hat:atV g.cells p= .tup [.int .i64 (lowB g.cells p),.bool true]:=by unfold atV;rw[j9,Wg rfl]
   have hpm:p∈g.cells:=X6.1 j9;have hcm:=NO hr1 hsub hpm;have htcok:dIs.ok (.sl tc ((BO g.cells (x.take j)).map eI))=True:=W1 ⟨hec.imp id λq=>by rw[q];rfl,by rw[As]⟩;have htcdec:dIs.dec (.sl tc ((BO g.cells (x.take j)).map eI))=BO g.cells (x.take j):=As _;cases hmt:(x.take j).contains p with
   |true=>
    rw[e9 (by rw[j9,hmt];rfl)];rw[hmt]at hcm;simp only[eZ,seval,W3,eY,lt_T c5,hg,lt_T hlj,hgj,k9,Up,Trr_i,s2,Ez,Cv,Aw,Ag,htcok,htcdec,W1 hfc,W1 hr1,W1 hcf,hat,hcm];exact Wk.tup (.cons (Wk.sl (.inr rfl)) (.cons (Wk.refl _) .nil))
   |false=>
    rw[hmt]at hcm;have q1:A5 H1 1 tc=True:=W1 htc.app;have q2:(j<=35184372088831)=True:=W1 zo;have q3:Aj (j+1) 8=True:=W1 (AX zo zd);simp only[eZ,seval,W3,eY,lt_T c5,hg,lt_T hlj,hgj,k9,Up,Trr_i,s2,Ez,Cv,Aw,Ag,htcok,htcdec,W1 hfc,W1 hr1,W1 hcf,hat,hcm,ej,q1,q2,q3,hlen,fr1 hf1];have s9:BO g.cells (x.take (j+1))=BO g.cells (x.take j)++[(lowB g.cells p:Int)]:=htx;refine .mk ⟨j+1,.own (n1+3) 1,hset (AO H1 tc) (n1+3) .tok,n1+5⟩ ?_ ⟨hlj,zp,(AU htc hf1).hset (m:=n1+5) zo zo,λid d6=>?_,.inr (.inr ⟨n1+3,rfl,zo,AB ..⟩),.inl rfl,λq hq=>?_,?_,?_⟩ zp
    ·rw[s9,Wh];rfl
    ·simp only[];rw[AA _ _ _ _ zo,AV htc (.inl d6)];exact hk id d6
    ·simp only[htk2]at hq;rcases Xo.1 hq with q1|q1
     ·exact hsub q q1
     ·rw[Xs.1 q1];exact hpm
    ·simp only[];rw[htk2,hme,j9,hmt];rfl
    ·simp only[];rw[htk2,Y1];refine⟨hnd,zw,λa ha b hb e=>?_⟩;rw[Xs]at hb;subst hb;subst e;rw[X6.2 ha]at hmt;cases hmt
 have hj':j=x.length:=zo
 subst hj';rw[Xc,Wj]at hme;have hlx:(BO g.cells (x.take x.length)).length=x.length:=by rw[Fl,Wj]
 by_cases hx0:x.length=0
 ·have e9:rgsV g.cells lists= .tup [eLl [],.int .i64 130]:=i6 (by rw[heq,Eu,hx0];simp);rw[e9];simp only[eZ,seval,eY,lt_T c5,hg,lt_F hlj,hlx,BB (show((x.length:Nat):Int)=0 by omega)];exact Wk.tup (.cons (Wk.sl (.inr rfl)) (.cons (Wk.refl _) .nil))
 have hEl:E.length<=64:=by
  have:=hE.len;simp only[W0,Wx]at this;omega
 have i7:tkG 1 1 H1 tl:=by
  rcases c7 with rfl|rfl|⟨id,rfl,h1,h2⟩
  ·exact .inl rfl
  ·exact .inr (.inl rfl)
  ·exact .inr (.inr ⟨id,rfl,h1,by rw[hk id (c6.lt h2)];exact h2⟩)
 have q1:A5 H1 1 tl=True:=W1 i7.app;have q2:(E.length<=35184372088831)=True:=W1 zo;have q3:Aj (E.length+1) 24=True:=W1 (AX zo zd);simp only[eZ,seval,eY,lt_T c5,hg,lt_F hlj,hlx,Ax (show ¬((x.length:Nat):Int)=0 by omega),e,q1,q2,q3,fr1 hf1];refine .mk ⟨i+1,E++[.sl tc ((BO g.cells x).map eI)],.own (n1+3) 1,hset (AO H1 tl) (n1+3) .tok,n1+5⟩ ?_ ⟨c5,zp,(AU i7 hf1).hset (m:=n1+5) zo zo,?_,.inr (.inr ⟨n1+3,rfl,zo,AB ..⟩),.inl rfl,?_,?_⟩ zp
 ·rw[Wj]
 ·simp only[];rw[AA _ _ _ _ zo,AV i7 (.inl zo)];exact k9
 ·simp only[];rw[hxe,Wh];exact hE.app (.cons (Wk.sl (hec.imp id λq=>by rw[XD.1 q];rfl)) .nil)
 ·simp only[];have d9:Da g.cells x=true:=by rw[Eu,hme];simp [F6];omega
  rw[heq,d9,XU]
def Gd{α:Type}{p:α->Bool}{l:List α}{i:Nat}(h:i<l.length):(l.drop i).all p=(p l[i]&&(l.drop (i+1)).all p):=by
 rw[Wy h,Yw]
def p165(a b:List Int)(ha:few a)(hb:few b):Pur prog 165 [eIs a,eIs b] (.bool (Ck a b)):=by
 refine .mk ⟨AR 0 _,AR 0 _,trivial⟩ trivial (c165.a (AF Oy (AG ?_)));have l6:a.length<1000000000:=ha;have hbl:b.length<1000000000:=hb;simp only[eE,eN,seval,c165];refine AL (λi:Nat=>⟨[(0,true,eIs a),(1,true,eIs b),(5,true,.int .i64 i)],hnil,0⟩) (λi=>i<=a.length/\(a.all λx=>b.contains x)=((a.drop i).all λx=>b.contains x)) (λi=>a.length-i) 0 rfl ⟨We _,rfl⟩ ?_;rintro i ⟨hi,hc⟩;by_cases c5:i<a.length
 ·have hg:=W2 c5;have e:=AE (k:=i) zo;rw[Gd c5]at hc;generalize a[i]=x at hg hc;cases hx:b.contains x with
  |false=>
   have hR:Ck a b=false:=by unfold Ck;rw[hc,hx];simp
   rw[hR];simp only[eZ,seval,W6,eY,lt_T c5,hg,Tin,s2,Ad,AY,Aw,Ag,W1 hb,hx,tadd]
  |true=>
   rw[hx,XU]at hc;simp only[eZ,seval,W3,eY,lt_T c5,hg,e,Tin,s2,Ad,AY,Aw,Ag,W1 hb,hx,tadd];exact .mk (i+1) rfl ⟨c5,hc⟩ zo
 obtain rfl:i=a.length:=zo
 rw[Xc]at hc;have hc:(a.all λx=>b.contains x)=true:=hc;simp only[eZ,seval,W0,lt_F c5];refine AL (λi:Nat=>⟨[(0,true,eIs a),(1,true,eIs b),(6,true,.int .i64 i)],hnil,0⟩) (λi=>i<=b.length/\(b.all λx=>a.contains x)=((b.drop i).all λx=>a.contains x)) (λi=>b.length-i) 0 rfl ⟨We _,rfl⟩ ?_;rintro i ⟨hi2,hc2⟩;by_cases hlt2:i<b.length
 ·have hg:=W2 hlt2;have e:=AE (k:=i) zo;rw[Gd hlt2]at hc2;generalize b[i]=x at hg hc2;cases hx:a.contains x with
  |false=>
   have hR:Ck a b=false:=by unfold Ck;rw[hc2,hx];simp
   rw[hR];simp only[eZ,seval,W6,eY,lt_T hlt2,hg,Tin,s2,Ad,AY,Aw,Ag,W1 ha,hx,tadd]
  |true=>
   rw[hx,XU]at hc2;simp only[eZ,seval,W3,eY,lt_T hlt2,hg,e,Tin,s2,Ad,AY,Aw,Ag,W1 ha,hx,tadd];exact .mk (i+1) rfl ⟨hlt2,hc2⟩ zo
 obtain rfl:i=b.length:=zo
 rw[Xc]at hc2;have hc2:(b.all λx=>a.contains x)=true:=hc2;have hR:Ck a b=true:=by unfold Ck;rw[hc,hc2];rfl
 rw[hR];simp only[eZ,seval,W0,lt_F hlt2]
def Tzr:Tab:=tadd 90 (s2 dGd dLl (λg l=>Ai g.sh g.w g.h g.holes=some g.cells/\few g.holes/\Bp l) λg l=>rgsV g.cells l) (tadd 165 (s2 dIs dIs (λa b=>few a/\few b) λa b=>.bool (Ck a b)) tnil)
def Tzr_ok:AI prog Tzr:=(AI.tnil.add (q2 λa b h=>p165 a b h.1 h.2)).add (q2 λg l h=>p90 g l h.1 h.2.1 h.2.2)
def p121(d:Zo)(g:Zs)(hd:Zh d)(hG:Ai g.sh g.w g.h g.holes=some g.cells)(hh:few g.holes):Pur prog 121 [encD d,Bz g] (.int .i64 (C5 g.cells d.regs)):=by
 refine .mk ⟨Ab 0 d,Ap 0 ..,trivial⟩ trivial (c121.a (AF Tzr_ok (AG ?_)));have hrl:d.regs.length<1000000000:=hd.rg;simp only[eE,eN,seval,c121];refine AL (λi:Nat=>⟨[(2,true,.ptr 0 0),(3,true,.ptr 1 0),(5,true,.int .i64 i)],hset (hset hnil 0 (.box (AH d))) 1 (.box (AD g.sh g.w g.h g.holes g.cells)),3⟩) (λi=>i<=d.regs.length/\C5 g.cells d.regs=C5 g.cells (d.regs.drop i)) (λi=>d.regs.length-i)
  0 rfl ⟨We _,rfl⟩ ?_
 rintro i ⟨hi,heq⟩;by_cases c5:i<d.regs.length;case neg=>
  obtain rfl:i=d.regs.length:=zo
  rw[Xc]at heq;rw[heq];simp only[eZ,seval,W0,lt_F c5];rfl
 have hg:=W2 c5;have e:=AE (k:=i) zo;have hrf:MM d.regs[i]:=hd.rgs _ (Wn c5);rw[K0 _ _ _ c5]at heq;generalize d.regs[i]=r at hg hrf heq;have hc:=W1 (⟨hG,hh,hrf⟩:Ai g.sh g.w g.h g.holes=some g.cells/\few g.holes/\Bp r.ls);by_cases hb:(decide (r.ls.length<=64)&&r.ls.all (Da g.cells))=true;case neg=>
  have hv:rgsV g.cells r.ls= .tup [eLl [],.int .i64 130]:=W7 hb;have hE:regE g.cells r=130:=Wg (by simpa using hb);rw[hE,W7 zd]at heq;rw[heq];simp only[eZ,seval,W6,eY,lt_T c5,hg,Tzr,s2,Ez,Cv,CH,Bd,hc,hv,tadd]
 have hv:rgsV g.cells r.ls= .tup [eLl (r.ls.map (BO g.cells)),.int .i64 0]:=Wg hb;have hregE:regE g.cells r=if Bm r.ls=true then 161 else 0:=by unfold regE;rw[hb,W7 zd]
 have l8:r.ls.length<1000000000:=hrf.1;have hfw:∀l∈r.ls,few l:=λl hl=>by
  obtain⟨q1,-,q3⟩:=Eh (Wo.1 ((W5 _ _).mp hb).2 _ hl);have h1:=Hp q1 q3;have h2:=(Ay hG).2.1;show l.length<_;omega
 simp only[eZ,seval,W3,eY,lt_T c5,hg,Tzr,s2,Ez,Cv,CH,Bd,hc,hv,tadd];refine AL (λa:Nat=>⟨[(2,true,.ptr 0 0),(3,true,.ptr 1 0),(5,true,.int .i64 i),(6,true,eLl r.ls),(9,true,.int .i64 a)],hset (hset hnil 0 (.box (AH d))) 1 (.box (AD g.sh g.w g.h g.holes g.cells)),3⟩) (λa=>a<=r.ls.length/\∀x y (hx:x<r.ls.length) (hy:y<r.ls.length),x<a->y<x->Ck r.ls[x] r.ls[y]=false) (λa=>r.ls.length-a)
  0 rfl ⟨We _,λx y _ _ q=>absurd q (Xl _)⟩ ?_
 rintro a ⟨ha,e9⟩;by_cases hla:a<r.ls.length
 ·have hga:=W2 hla;have ea:=AE (k:=a) zo;have hfa:few r.ls[a]:=hfw _ (Wn hla);simp only[eZ,seval,W0,lt_T hla];refine AL (λb:Nat=>⟨[(2,true,.ptr 0 0),(3,true,.ptr 1 0),(5,true,.int .i64 i),(6,true,eLl r.ls),(9,true,.int .i64 a),(10,true,.int .i64 b)],hset (hset hnil 0 (.box (AH d))) 1 (.box (AD g.sh g.w g.h g.holes g.cells)),3⟩) (λb=>b<=a/\∀y (hy:y<r.ls.length),y<b->Ck r.ls[a] r.ls[y]=false) (λb=>a-b)
   0 rfl ⟨We _,λy _ q=>absurd q (Xl _)⟩ ?_
  rintro b ⟨i8,q9⟩;by_cases hlb:b<a
  ·have hbl:b<r.ls.length:=zo
   have hgb:=W2 hbl;have eb:=AE (k:=b) zo;have hfb:few r.ls[b]:=hfw _ (Wn hbl);cases l6:Ck r.ls[a] r.ls[b]with
   |true=>
    rw[hregE,Wg (Ff.2 ⟨a,b,hla,hbl,hlb,l6⟩),W7 zd]at heq;rw[heq];generalize r.ls[a]=la at hga hfa l6;generalize r.ls[b]=lb at hgb hfb l6;simp only[eZ,seval,eY,lt_T hlb,lt_T hla,lt_T hbl,hga,hgb,Tzr,s2,Ad,AY,W1 hfa,W1 hfb,l6,tadd]
   |false=>
    have hnx:∀y (hy:y<r.ls.length),y<b+1->Ck r.ls[a] r.ls[y]=false:=λy hy q=>by
     by_cases z:y=b
     ·subst z;exact l6
     ·exact q9 y hy zo
    generalize hA:r.ls[a]=la at hga hfa l6;generalize hB:r.ls[b]=lb at hgb hfb l6;simp only[eZ,seval,eY,lt_T hlb,lt_T hla,lt_T hbl,hga,hgb,Tzr,s2,Ad,AY,W1 hfa,W1 hfb,l6,eb,tadd];exact .mk (b+1) rfl ⟨hlb,λy hy q=>by rw[<-hA];exact hnx y hy q⟩ zo
  obtain rfl:b=a:=zo
  simp only[eZ,seval,lt_F hlb,ea];refine .mk (b+1) rfl ⟨hla,λx y hx hy q1 q2=>?_⟩ zo;by_cases z:x=b
  ·subst z;exact q9 y hy q2
  ·exact e9 x y hx hy zo q2
 obtain rfl:a=r.ls.length:=zo
 have hpt:Bm r.ls=false:=by
  cases q:Bm r.ls with
  |false=>rfl
  |true=>
   obtain⟨x,y,hx,hy,hxy,h2⟩:=Ff.1 q;rw[e9 x y hx hy hx hxy]at h2;cases h2
 have hE0:regE g.cells r=0:=by rw[hregE,hpt];rfl
 rw[hE0,Wg rfl]at heq;simp only[eZ,seval,W0,lt_F hla,e];exact .mk (i+1) rfl ⟨c5,heq⟩ zo
def p167(c:Zj):Pur prog 167 [B7 c] (.bool (Di c)):=by
 refine .mk ⟨EA 0 c,trivial⟩ trivial (c167.a (AF AI.tnil (AG ?_)));unfold Di;by_cases h1:c.ty=1
 ·simp only[eZ,seval,c167,h1]
 by_cases h2:c.ty=2
 ·simp only[eZ,seval,c167,h2]
 by_cases h3:c.ty=3
 ·simp only[eZ,seval,c167,h3];rw[show(decide (1<=c.fam)&&decide (c.fam<=3)||decide (8<=c.fam))=(decide (c.fam=1)||decide (c.fam=2)||decide (c.fam=3)||decide (8<=c.fam))by
   rw[Wt];simp;omega]
 simp only[eZ,seval,c167,h1,h2,h3]
def p231(d:Zo)(r:Zf)(w:Int)(on:Bool):Pur prog 231 [encD d,BT r,.int .i64 w,.bool on] (.bool (C6 d.clus r w on)):=by
 refine .mk ⟨Ab 0 d,Ar 0 r,trivial,trivial,trivial⟩ trivial (c231.a (AF AI.tnil (AG ?_)));by_cases hc:r.clue<0\/(d.clus.length:Int)<=r.clue
 ·have m6:(decide (r.clue<0)||decide ((d.clus.length:Int)<=r.clue))=true:=by simpa using hc
  have hP:C6 d.clus r w on=false:=by unfold C6;rw[Wg hc]
  rw[hP];simp only[eZ,seval,W0,c231,m6]
 ·have m6:(decide (r.clue<0)||decide ((d.clus.length:Int)<=r.clue))=false:=by simp;omega
  obtain⟨j,hj⟩:∃j:Nat,r.clue=(j:Int):=⟨r.clue.toNat,zo⟩;have hjl:j<d.clus.length:=zo
  have hg:=W2 hjl;generalize d.clus[j]=c at hg;have hP:C6 d.clus r w on=(decide (c.ty=w)&&(!on||decide (c.fam=r.fam))):=by
   unfold C6;(rw[W7 hc,hj,Wf,hg])<;>rfl
  rw[hP];rw[hj]at m6;cases on
  ·simp only[eZ,seval,W3,W6,eY,c231,hj,m6,lt_T hjl,hg]
  ·simp only[eZ,seval,W3,eY,c231,hj,m6,lt_T hjl,hg]
def sCl:List Fs->AC->Prop×Fs:=λa H=>match a with
 |[x,y,.int .i64 w,.bool on]=>(dD.ok x/\dRu.ok y,.bool (C6 (dD.dec x).clus (dRu.dec y) w on))
 |_=>(False,.tup [])
def qCl:∀args H n,(sCl args H).1->Am prog 231 args H n (sCl args H).2:=by
 intro args H n hh;unfold sCl at hh⊢;split at hh
 ·obtain⟨h1,h2⟩:=hh;refine AP.args ((p231 _ _ _ _).quiet H n) ?_;rintro g vs ⟨v,r,rfl,k1,w,r',rfl,k2,k3⟩;exact⟨v,_,rfl,dD.wk _ h1 _ _ k1,w,_,rfl,dRu.wk _ h2 _ _ k2,k3⟩
 ·exact hh.elim
def Tzc:Tab:=tadd 231 sCl tnil
def Ty:AI prog Tzc:=AI.tnil.add qCl
theorem Tzc_e(x y:Fs)(w:Int)(on:Bool)(H:AC):Tzc 231 [x,y,.int .i64 w,.bool on] H=(dD.ok x/\dRu.ok y,.bool (C6 (dD.dec x).clus (dRu.dec y) w on)):=rfl
def p230(d:Zo)(r:Zf):Pur prog 230 [encD d,BT r] (.bool (EH d.clus r)):=by
 refine .mk ⟨Ab 0 d,Ar 0 r,trivial⟩ trivial (c230.a (AF Ty (AG ?_)));unfold EH;by_cases ho:r.op<1\/3<r.op
 ·have hb:(decide (r.op<1)||decide (3<r.op))=true:=by simpa using ho
  rw[Wg ho];simp only[eZ,seval,c230,hb]
 have hb:(decide (r.op<1)||decide (3<r.op))=false:=by simp;omega
 rw[W7 ho];by_cases hn:r.byN=[]
 ·rw[Wg hn];simp only[eZ,seval,c230,hb,A3,BB hn]
 ·rw[W7 hn];simp only[eZ,seval,c230,hb,A3,Ax hn,Tzc_e,A8,Al,Bc,A7]
def sndA:Zd->Zd
 | .seq _ b=>b
 |c=>c
def sndN:Nat->Zd->Zd
 |0,c=>c
 |k+1,c=>sndN k (sndA c)
def putN:Nat->Zd->Zd->Zd
 |0,_,R=>R
 |k+1,.seq a b,R=>.seq a (putN k b R)
 |_+1,c,_=>c
def Tru:Tab:=tadd 230 (s2 dD dRu any2 λd r=>.bool (EH d.clus r)) Tzc
def Tru_ok:AI prog Tru:=Ty.add (q2 λd r _=>p230 d r)
theorem R6(a:List Fs)(H:AC):Tru 230 a H=s2 dD dRu any2 (λd r=>.bool (EH d.clus r)) a H:=rfl
theorem R7(x y:Fs)(w:Int)(on:Bool)(H:AC):Tru 231 [x,y,.int .i64 w,.bool on] H=(dD.ok x/\dRu.ok y,.bool (C6 (dD.dec x).clus (dRu.dec y) w on)):=rfl
def rstR(cl:List Zj)(r:Zf)(on set oth num by' lim:Bool):Bool:=
 if(!on&&(decide (r.on≠[])||decide (r.fam≠0)))||(!set&&(decide (0<r.ns.length)||decide (r.set≠0)))||(!oth&&(decide (0<r.os.length)||decide (r.oth≠0)))then false
 else if(on&&decide (r.on=[]))||(set&&decide (r.set=0))||(oth&&decide (r.oth=0))then false
 else if !lim&&(decide (r.op≠0)||(!num&&decide (r.n≠0))||(!by'&&(decide (r.byN≠[])||decide (r.clue≠ -1))))then false
 else if(lim&& !EH cl r)||(num&&(decide (r.n<0)||decide (65536<r.n)))then false
 else if r.kind=5 then C6 cl r 3 true
 else if r.kind=11 then C6 cl r 1 false else true
theorem R8:c166=putN 8 c166 (sndN 8 c166):=rfl
def rr1(d:Zo)(r:Zf)(on set oth num by' lim:Bool)(X:List (Nat×Bool×Fs))(hA1:(!on&&(!decide (r.on=[])|| !decide (r.fam=0))|| !set&&(decide (0<r.ns.length)|| !decide (r.set=0))|| !oth&&(decide (0<r.os.length)|| !decide (r.oth=0)))=true):evK prog Tru (sndN 8 c166) [] (C3 [.t 4] (Ret (.bool (false))))
  ⟨(2,true,.ptr 0 0)::(3,true,.ptr 1 0)::(5,true,.bool on)::(6,true,.bool set)::(7,true,.bool oth)::(8,true,.bool num)::(9,true,.bool by')::(10,true,.bool lim)::X,hset (hset hnil 0 (.box (AH d))) 1 (.box (BP r)),3⟩:=by
 have e1:∀(l:List Bs),decide ((0:Int)<(l.length:Int))=decide (0<l.length):=λl=>by
  rw[Wt,W9,W9];omega
 simp only[eZ,seval,W0,c166,sndN,sndA,Ao,e1,hA1]
def rr2(d:Zo)(r:Zf)(on set oth num by' lim:Bool)(X:List (Nat×Bool×Fs))(hA1:(!on&&(!decide (r.on=[])|| !decide (r.fam=0))|| !set&&(decide (0<r.ns.length)|| !decide (r.set=0))|| !oth&&(decide (0<r.os.length)|| !decide (r.oth=0)))=false)(hA2:(on&&decide (r.on=[])||set&&decide (r.set=0)||oth&&decide (r.oth=0))=true):evK prog Tru (sndN 8 c166) [] (C3 [.t 4] (Ret (.bool (false))))
  ⟨(2,true,.ptr 0 0)::(3,true,.ptr 1 0)::(5,true,.bool on)::(6,true,.bool set)::(7,true,.bool oth)::(8,true,.bool num)::(9,true,.bool by')::(10,true,.bool lim)::X,hset (hset hnil 0 (.box (AH d))) 1 (.box (BP r)),3⟩:=by
 have e1:∀(l:List Bs),decide ((0:Int)<(l.length:Int))=decide (0<l.length):=λl=>by
  rw[Wt,W9,W9];omega
 simp only[eZ,seval,W0,c166,sndN,sndA,Ao,A3,e1,hA1,hA2]
def rr3(d:Zo)(r:Zf)(on set oth num by':Bool)(X:List (Nat×Bool×Fs))(hA1:(!on&&(!decide (r.on=[])|| !decide (r.fam=0))|| !set&&(decide (0<r.ns.length)|| !decide (r.set=0))|| !oth&&(decide (0<r.os.length)|| !decide (r.oth=0)))=false)(hA2:(on&&decide (r.on=[])||set&&decide (r.set=0)||oth&&decide (r.oth=0))=false)(hA3:(!decide (r.op=0)|| !num&& !decide (r.n=0)|| !by'&&(!decide (r.byN=[])|| !decide (r.clue= -1)))=true):evK prog Tru (sndN 8 c166) [] (C3 [.t 4] (Ret (.bool (false))))
  ⟨(2,true,.ptr 0 0)::(3,true,.ptr 1 0)::(5,true,.bool on)::(6,true,.bool set)::(7,true,.bool oth)::(8,true,.bool num)::(9,true,.bool by')::(10,true,.bool false)::X,hset (hset hnil 0 (.box (AH d))) 1 (.box (BP r)),3⟩:=by
 have e1:∀(l:List Bs),decide ((0:Int)<(l.length:Int))=decide (0<l.length):=λl=>by
  rw[Wt,W9,W9];omega
 simp only[eZ,seval,W6,W0,c166,sndN,sndA,Ao,A3,e1,hA1,hA2,hA3]
def rr4a(d:Zo)(r:Zf)(on set oth num by':Bool)(X:List (Nat×Bool×Fs))(hA1:(!on&&(!decide (r.on=[])|| !decide (r.fam=0))|| !set&&(decide (0<r.ns.length)|| !decide (r.set=0))|| !oth&&(decide (0<r.os.length)|| !decide (r.oth=0)))=false)(hA2:(on&&decide (r.on=[])||set&&decide (r.set=0)||oth&&decide (r.oth=0))=false)(hb:(!EH d.clus r||num&&(decide (r.n<0)||decide (65536<r.n)))=true):evK prog Tru (sndN 8 c166) [] (C3 [.t 4] (Ret (.bool (false))))
  ⟨(2,true,.ptr 0 0)::(3,true,.ptr 1 0)::(5,true,.bool on)::(6,true,.bool set)::(7,true,.bool oth)::(8,true,.bool num)::(9,true,.bool by')::(10,true,.bool true)::X,hset (hset hnil 0 (.box (AH d))) 1 (.box (BP r)),3⟩:=by
 have e1:∀(l:List Bs),decide ((0:Int)<(l.length:Int))=decide (0<l.length):=λl=>by
  rw[Wt,W9,W9];omega
 simp only[eZ,seval,W3,W0,c166,sndN,sndA,Ao,A3,e1,hA1,hA2,Tru,s2,A8,Al,Bc,A7,hb,tadd]
def rr4b(d:Zo)(r:Zf)(on set oth num by':Bool)(X:List (Nat×Bool×Fs))(hA1:(!on&&(!decide (r.on=[])|| !decide (r.fam=0))|| !set&&(decide (0<r.ns.length)|| !decide (r.set=0))|| !oth&&(decide (0<r.os.length)|| !decide (r.oth=0)))=false)(hA2:(on&&decide (r.on=[])||set&&decide (r.set=0)||oth&&decide (r.oth=0))=false)(hb:(!EH d.clus r||num&&(decide (r.n<0)||decide (65536<r.n)))=false)(h5:r.kind=5):evK prog Tru (sndN 8 c166) [] (C3 [.t 4] (Ret (.bool (C6 d.clus r 3 true))))
  ⟨(2,true,.ptr 0 0)::(3,true,.ptr 1 0)::(5,true,.bool on)::(6,true,.bool set)::(7,true,.bool oth)::(8,true,.bool num)::(9,true,.bool by')::(10,true,.bool true)::X,hset (hset hnil 0 (.box (AH d))) 1 (.box (BP r)),3⟩:=by
 have e1:∀(l:List Bs),decide ((0:Int)<(l.length:Int))=decide (0<l.length):=λl=>by
  rw[Wt,W9,W9];omega
 simp only[eZ,seval,W3,W0,c166,sndN,sndA,Ao,A3,e1,hA1,hA2,R6,R7,s2,A8,Al,Bc,A7,hb,BB h5]
def rr4c(d:Zo)(r:Zf)(on set oth num by':Bool)(X:List (Nat×Bool×Fs))(hA1:(!on&&(!decide (r.on=[])|| !decide (r.fam=0))|| !set&&(decide (0<r.ns.length)|| !decide (r.set=0))|| !oth&&(decide (0<r.os.length)|| !decide (r.oth=0)))=false)(hA2:(on&&decide (r.on=[])||set&&decide (r.set=0)||oth&&decide (r.oth=0))=false)(hb:(!EH d.clus r||num&&(decide (r.n<0)||decide (65536<r.n)))=false)(h5:¬r.kind=5)(h11:r.kind=11):evK prog Tru (sndN 8 c166) [] (C3 [.t 4] (Ret (.bool (C6 d.clus r 1 false))))
  ⟨(2,true,.ptr 0 0)::(3,true,.ptr 1 0)::(5,true,.bool on)::(6,true,.bool set)::(7,true,.bool oth)::(8,true,.bool num)::(9,true,.bool by')::(10,true,.bool true)::X,hset (hset hnil 0 (.box (AH d))) 1 (.box (BP r)),3⟩:=by
 have e1:∀(l:List Bs),decide ((0:Int)<(l.length:Int))=decide (0<l.length):=λl=>by
  rw[Wt,W9,W9];omega
 simp only[eZ,seval,W3,W0,c166,sndN,sndA,Ao,A3,e1,hA1,hA2,R6,R7,s2,A8,Al,Bc,A7,hb,Ax h5,W1 h11]
def rr4d(d:Zo)(r:Zf)(on set oth num by':Bool)(X:List (Nat×Bool×Fs))(hA1:(!on&&(!decide (r.on=[])|| !decide (r.fam=0))|| !set&&(decide (0<r.ns.length)|| !decide (r.set=0))|| !oth&&(decide (0<r.os.length)|| !decide (r.oth=0)))=false)(hA2:(on&&decide (r.on=[])||set&&decide (r.set=0)||oth&&decide (r.oth=0))=false)(hb:(!EH d.clus r||num&&(decide (r.n<0)||decide (65536<r.n)))=false)(h5:¬r.kind=5)(h11:¬r.kind=11):evK prog Tru (sndN 8 c166) [] (C3 [.t 4] (Ret (.bool (true))))
  ⟨(2,true,.ptr 0 0)::(3,true,.ptr 1 0)::(5,true,.bool on)::(6,true,.bool set)::(7,true,.bool oth)::(8,true,.bool num)::(9,true,.bool by')::(10,true,.bool true)::X,hset (hset hnil 0 (.box (AH d))) 1 (.box (BP r)),3⟩:=by
 have e1:∀(l:List Bs),decide ((0:Int)<(l.length:Int))=decide (0<l.length):=λl=>by
  rw[Wt,W9,W9];omega
 simp only[eZ,seval,W3,W6,W0,c166,sndN,sndA,Ao,A3,e1,hA1,hA2,Tru,s2,A8,Al,Bc,A7,hb,Ax h5,W4 h11,tadd]
def rr5a(d:Zo)(r:Zf)(on set oth num by':Bool)(X:List (Nat×Bool×Fs))(hA1:(!on&&(!decide (r.on=[])|| !decide (r.fam=0))|| !set&&(decide (0<r.ns.length)|| !decide (r.set=0))|| !oth&&(decide (0<r.os.length)|| !decide (r.oth=0)))=false)(hA2:(on&&decide (r.on=[])||set&&decide (r.set=0)||oth&&decide (r.oth=0))=false)(hA3:(!decide (r.op=0)|| !num&& !decide (r.n=0)|| !by'&&(!decide (r.byN=[])|| !decide (r.clue= -1)))=false)(hb:(num&&(decide (r.n<0)||decide (65536<r.n)))=true):evK prog Tru (sndN 8 c166) [] (C3 [.t 4] (Ret (.bool (false))))
  ⟨(2,true,.ptr 0 0)::(3,true,.ptr 1 0)::(5,true,.bool on)::(6,true,.bool set)::(7,true,.bool oth)::(8,true,.bool num)::(9,true,.bool by')::(10,true,.bool false)::X,hset (hset hnil 0 (.box (AH d))) 1 (.box (BP r)),3⟩:=by
 have e1:∀(l:List Bs),decide ((0:Int)<(l.length:Int))=decide (0<l.length):=λl=>by
  rw[Wt,W9,W9];omega
 simp only[eZ,seval,W6,W0,c166,sndN,sndA,Ao,A3,e1,hA1,hA2,hA3,Tru,s2,A8,Al,Bc,A7,hb,tadd]
def rr5b(d:Zo)(r:Zf)(on set oth num by':Bool)(X:List (Nat×Bool×Fs))(hA1:(!on&&(!decide (r.on=[])|| !decide (r.fam=0))|| !set&&(decide (0<r.ns.length)|| !decide (r.set=0))|| !oth&&(decide (0<r.os.length)|| !decide (r.oth=0)))=false)(hA2:(on&&decide (r.on=[])||set&&decide (r.set=0)||oth&&decide (r.oth=0))=false)(hA3:(!decide (r.op=0)|| !num&& !decide (r.n=0)|| !by'&&(!decide (r.byN=[])|| !decide (r.clue= -1)))=false)(hb:(num&&(decide (r.n<0)||decide (65536<r.n)))=false)(h5:r.kind=5):evK prog Tru (sndN 8 c166) [] (C3 [.t 4] (Ret (.bool (C6 d.clus r 3 true))))
  ⟨(2,true,.ptr 0 0)::(3,true,.ptr 1 0)::(5,true,.bool on)::(6,true,.bool set)::(7,true,.bool oth)::(8,true,.bool num)::(9,true,.bool by')::(10,true,.bool false)::X,hset (hset hnil 0 (.box (AH d))) 1 (.box (BP r)),3⟩:=by
 have e1:∀(l:List Bs),decide ((0:Int)<(l.length:Int))=decide (0<l.length):=λl=>by
  rw[Wt,W9,W9];omega
 simp only[eZ,seval,W6,W0,c166,sndN,sndA,Ao,A3,e1,hA1,hA2,hA3,R6,R7,s2,A8,Al,Bc,A7,hb,BB h5]
def rr5c(d:Zo)(r:Zf)(on set oth num by':Bool)(X:List (Nat×Bool×Fs))(hA1:(!on&&(!decide (r.on=[])|| !decide (r.fam=0))|| !set&&(decide (0<r.ns.length)|| !decide (r.set=0))|| !oth&&(decide (0<r.os.length)|| !decide (r.oth=0)))=false)(hA2:(on&&decide (r.on=[])||set&&decide (r.set=0)||oth&&decide (r.oth=0))=false)(hA3:(!decide (r.op=0)|| !num&& !decide (r.n=0)|| !by'&&(!decide (r.byN=[])|| !decide (r.clue= -1)))=false)(hb:(num&&(decide (r.n<0)||decide (65536<r.n)))=false)(h5:¬r.kind=5)(h11:r.kind=11):evK prog Tru (sndN 8 c166) [] (C3 [.t 4] (Ret (.bool (C6 d.clus r 1 false))))
  ⟨(2,true,.ptr 0 0)::(3,true,.ptr 1 0)::(5,true,.bool on)::(6,true,.bool set)::(7,true,.bool oth)::(8,true,.bool num)::(9,true,.bool by')::(10,true,.bool false)::X,hset (hset hnil 0 (.box (AH d))) 1 (.box (BP r)),3⟩:=by
 have e1:∀(l:List Bs),decide ((0:Int)<(l.length:Int))=decide (0<l.length):=λl=>by
  rw[Wt,W9,W9];omega
 simp only[eZ,seval,W3,W6,W0,c166,sndN,sndA,Ao,A3,e1,hA1,hA2,hA3,R6,R7,s2,A8,Al,Bc,A7,hb,Ax h5,W1 h11]
def rr5d(d:Zo)(r:Zf)(on set oth num by':Bool)(X:List (Nat×Bool×Fs))(hA1:(!on&&(!decide (r.on=[])|| !decide (r.fam=0))|| !set&&(decide (0<r.ns.length)|| !decide (r.set=0))|| !oth&&(decide (0<r.os.length)|| !decide (r.oth=0)))=false)(hA2:(on&&decide (r.on=[])||set&&decide (r.set=0)||oth&&decide (r.oth=0))=false)(hA3:(!decide (r.op=0)|| !num&& !decide (r.n=0)|| !by'&&(!decide (r.byN=[])|| !decide (r.clue= -1)))=false)(hb:(num&&(decide (r.n<0)||decide (65536<r.n)))=false)(h5:¬r.kind=5)(h11:¬r.kind=11):evK prog Tru (sndN 8 c166) [] (C3 [.t 4] (Ret (.bool (true))))
  ⟨(2,true,.ptr 0 0)::(3,true,.ptr 1 0)::(5,true,.bool on)::(6,true,.bool set)::(7,true,.bool oth)::(8,true,.bool num)::(9,true,.bool by')::(10,true,.bool false)::X,hset (hset hnil 0 (.box (AH d))) 1 (.box (BP r)),3⟩:=by
 have e1:∀(l:List Bs),decide ((0:Int)<(l.length:Int))=decide (0<l.length):=λl=>by
  rw[Wt,W9,W9];omega
 simp only[eZ,seval,W3,W6,W0,c166,sndN,sndA,Ao,A3,e1,hA1,hA2,hA3,Tru,s2,A8,Al,Bc,A7,hb,Ax h5,W4 h11,tadd]
theorem O1(d:Zo)(r:Zf)(on set oth num by' lim:Bool)(X:List (Nat×Bool×Fs)):evK prog Tru (sndN 8 c166) [] (C3 [.t 4] (Ret (.bool (rstR d.clus r on set oth num by' lim))))
  ⟨(2,true,.ptr 0 0)::(3,true,.ptr 1 0)::(5,true,.bool on)::(6,true,.bool set)::(7,true,.bool oth)::(8,true,.bool num)::(9,true,.bool by')::(10,true,.bool lim)::X,hset (hset hnil 0 (.box (AH d))) 1 (.box (BP r)),3⟩:=by
 unfold rstR;simp only[ne_eq,decide_not];cases hA1:(!on&&(!decide (r.on=[])|| !decide (r.fam=0))|| !set&&(decide (0<r.ns.length)|| !decide (r.set=0))|| !oth&&(decide (0<r.os.length)|| !decide (r.oth=0)))with
 |true=>rw[Wg rfl];exact rr1 d r on set oth num by' lim X hA1
 |false=>
 rw[W7 zd];cases hA2:(on&&decide (r.on=[])||set&&decide (r.set=0)||oth&&decide (r.oth=0))with
 |true=>rw[Wg rfl];exact rr2 d r on set oth num by' lim X hA1 hA2
 |false=>
 rw[W7 zd];cases lim with
 |true=>
  rw[W3,Ys,W7 zd,XU];cases hb:(!EH d.clus r||num&&(decide (r.n<0)||decide (65536<r.n)))with
  |true=>rw[Wg rfl];exact rr4a d r on set oth num by' X hA1 hA2 hb
  |false=>
  rw[W7 zd];by_cases h5:r.kind=5
  ·rw[Wg h5];exact rr4b d r on set oth num by' X hA1 hA2 hb h5
  rw[W7 h5];by_cases h11:r.kind=11
  ·rw[Wg h11];exact rr4c d r on set oth num by' X hA1 hA2 hb h5 h11
  rw[W7 h11];exact rr4d d r on set oth num by' X hA1 hA2 hb h5 h11
 |false=>
  rw[W6,XU,Ys,XG];cases hA3:(!decide (r.op=0)|| !num&& !decide (r.n=0)|| !by'&&(!decide (r.byN=[])|| !decide (r.clue= -1)))with
  |true=>rw[Wg rfl];exact rr3 d r on set oth num by' X hA1 hA2 hA3
  |false=>
  rw[W7 zd];cases hb:(num&&(decide (r.n<0)||decide (65536<r.n)))with
  |true=>rw[Wg rfl];exact rr5a d r on set oth num by' X hA1 hA2 hA3 hb
  |false=>
  rw[W7 zd];by_cases h5:r.kind=5
  ·rw[Wg h5];exact rr5b d r on set oth num by' X hA1 hA2 hA3 hb h5
  rw[W7 h5];by_cases h11:r.kind=11
  ·rw[Wg h11];exact rr5c d r on set oth num by' X hA1 hA2 hA3 hb h5 h11
  rw[W7 h11];exact rr5d d r on set oth num by' X hA1 hA2 hA3 hb h5 h11
def p166(d:Zo)(r:Zf):Pur prog 166 [encD d,BT r] (.bool (Eg d.clus r)):=by
 refine .mk ⟨Ab 0 d,Ar 0 r,trivial⟩ trivial (c166.a (AF Tru_ok (AG ?_)));have hrest:=O1 d r;rw[R8];rw[WI];have w8:∀on set oth num by' lim rdb clue,Cs r.kind=⟨on,set,oth,lim,num,rdb,true,clue⟩->by'=decide (clue≠0)->Is d.clus r=rstR d.clus r on set oth num by' lim:=λon set oth num by' lim rdb clue h q=>by
  subst q;unfold Is rstR;rw[h];rfl
 by_cases hk:r.kind<1\/13<r.kind
 ·have hR:Is d.clus r=false:=by
   have hkn:(Cs r.kind).knw=false:=by unfold Cs;repeat rw[W7 zo]
   unfold Is;simp only[];rw[Wg hkn]
  have n1:(r.kind=1)=False:=W4 zo;have n2:(r.kind=2)=False:=W4 zo;have n3:(r.kind=3)=False:=W4 zo;have n4:(r.kind=4)=False:=W4 zo;have n5:(r.kind=5)=False:=W4 zo;have n6:(r.kind=6)=False:=W4 zo;have n7:(r.kind=7)=False:=W4 zo;have n8:(r.kind=8)=False:=W4 zo;have n9:(r.kind=9)=False:=W4 zo;have n10:(r.kind=10)=False:=W4 zo;have n11:(r.kind=11)=False:=W4 zo;have n12:(r.kind=12)=False:=W4 zo;have n13:(r.kind=13)=False:=W4 zo;rw[hR];generalize sndN 8 c166=R;simp only[eZ,seval,c166,putN,n1,n2,n3,n4,n5,n6,n7,n8,n9,n10,n11,n12,n13]
 generalize sndN 8 c166=R at hrest⊢;have j7:r.kind=1\/r.kind=2\/r.kind=3\/r.kind=4\/r.kind=5\/r.kind=6\/r.kind=7\/r.kind=8\/r.kind=9\/r.kind=10\/r.kind=11\/r.kind=12\/r.kind=13:=zo
 rcases j7 with j7|j7|j7|j7|j7|j7|j7|j7|j7|j7|j7|j7|j7
 all_goals
  rw[w8 _ _ _ _ _ _ _ _ (by rw[j7];rfl) rfl];simp only[eZ,seval,c166,putN,j7];exact hrest _ _ _ _ _ _ _
def Tfo:Tab:=tadd 166 (s2 dD dRu any2 λd r=>.bool (Eg d.clus r)) (tadd 167 (s1 dCl any1 λc=>.bool (Di c)) tnil)
def Tfo_ok:AI prog Tfo:=(AI.tnil.add (q1 λc _=>p167 c)).add (q2 λd r _=>p166 d r)
def p122(d:Zo)(hd:Zh d):Pur prog 122 [encD d] (.bool (Ba d)):=by
 refine .mk ⟨Ab 0 d,trivial⟩ trivial (c122.a (AF Tfo_ok (AG ?_)));have hsl:d.syms.length<1000000000:=hd.sy;have hrl:d.ruls.length<1000000000:=hd.ru;have m5:d.clus.length<1000000000:=hd.cl;simp only[eE,eN,seval,c122];refine AL (λi:Nat=>⟨[(1,true,.ptr 0 0),(3,true,.int .i64 i)],hset hnil 0 (.box (AH d)),2⟩) (λi=>i<=d.syms.length/\(d.syms.all λs=>decide (0<=s.v)&&decide (s.v<=99))=((d.syms.drop i).all λs=>decide (0<=s.v)&&decide (s.v<=99))) (λi=>d.syms.length-i)
  0 rfl ⟨We _,rfl⟩ ?_
 rintro i ⟨hi,c8⟩;by_cases c5:i<d.syms.length
 ·have hg:=W2 c5;have e:=AE (k:=i) zo;rw[Gd c5]at c8;generalize d.syms[i]=s at hg c8;by_cases hs:0<=s.v/\s.v<=99
  ·have hb:(decide (s.v<0)||decide (99<s.v))=false:=by simp;omega
   simp only[eZ,seval,eY,lt_T c5,hg,e,hb];exact .mk (i+1) rfl ⟨c5,by rw[c8,BB hs.1,BB hs.2];rfl⟩ zo
  ·have hb:(decide (s.v<0)||decide (99<s.v))=true:=by simp;omega
   have hR:Ba d=false:=by
    unfold Ba;rw[c8,show(decide (0<=s.v)&&decide (s.v<=99))=false by simp;omega];rfl
   rw[hR];simp only[eZ,seval,eY,lt_T c5,hg,hb]
 obtain rfl:i=d.syms.length:=zo
 rw[Xc]at c8;simp only[eZ,seval,W0,lt_F c5];refine AL (λi:Nat=>⟨[(1,true,.ptr 0 0),(4,true,.int .i64 i)],hset hnil 0 (.box (AH d)),2⟩) (λi=>i<=d.ruls.length/\d.ruls.all (Eg d.clus)=(d.ruls.drop i).all (Eg d.clus)) (λi=>d.ruls.length-i)
  0 rfl ⟨We _,rfl⟩ ?_
 rintro k ⟨hk,d9⟩;by_cases o8:k<d.ruls.length
 ·have hg:=W2 o8;have e:=AE (k:=k) zo;rw[Gd o8]at d9;generalize d.ruls[k]=r at hg d9;cases hr:Eg d.clus r with
  |false=>
   have hR:Ba d=false:=by
    unfold Ba;rw[d9,hr];simp
   rw[hR];simp only[eZ,seval,W6,eY,lt_T o8,hg,Tfo,s2,A8,Al,Bc,A7,hr,tadd]
  |true=>
   rw[hr,XU]at d9;simp only[eZ,seval,W3,eY,lt_T o8,hg,Tfo,s2,A8,Al,Bc,A7,hr,e,tadd];exact .mk (k+1) rfl ⟨o8,d9⟩ zo
 obtain rfl:k=d.ruls.length:=zo
 rw[Xc]at d9;simp only[eZ,seval,W0,lt_F o8];refine AL (λj:Nat=>⟨[(1,true,.ptr 0 0),(5,true,.int .i64 j)],hset hnil 0 (.box (AH d)),2⟩) (λi=>i<=d.clus.length/\∀j (h:j<d.clus.length),j<i->D9 d.ruls j=1/\Di d.clus[j]=true) (λi=>d.clus.length-i)
  0 rfl ⟨We _,λj h q=>absurd q (Xl _)⟩ ?_
 rintro j ⟨hj,l6⟩;by_cases hlj:j<d.clus.length
 ·have hg:=W2 hlj;have ej:=AE (k:=j) zo;have i6:¬(D9 d.ruls j=1/\Di d.clus[j]=true)->Ba d=false:=λq=>by
   unfold Ba;rw[c8,d9];cases q1:((List.range d.clus.length).all λi=>decide (D9 d.ruls i=1))with
   |false=>rfl
   |true=>
   cases q2:d.clus.all Di with
   |false=>rfl
   |true=>exact absurd ⟨Xa (Wo.1 q1 j (Xj.2 hlj)),Wo.1 q2 _ (Wn hlj)⟩ q
  have hnext:D9 d.ruls j=1/\Di d.clus[j]=true->∀q (h:q<d.clus.length),q<j+1->D9 d.ruls q=1/\Di d.clus[q]=true:=λz q h hq=>by
   by_cases w:q=j
   ·subst w;exact z
   ·exact l6 q h zo
  generalize hx:d.clus[j]=x at hg i6 hnext;simp only[eZ,seval,W0,lt_T hlj];refine AL (λk:Nat=>⟨[(1,true,.ptr 0 0),(5,true,.int .i64 j),(6,true,.int .i64 (cntZ (d.ruls.take k) j)),(7,true,.int .i64 k)],hset hnil 0 (.box (AH d)),2⟩) (λk=>k<=d.ruls.length) (λk=>d.ruls.length-k)
   0 rfl (We _) ?_
  intro k hk;by_cases o8:k<d.ruls.length
  ·have hgk:=W2 o8;have ek:=AE (k:=k) zo;have c7:d.ruls.take (k+1)=d.ruls.take k++[d.ruls[k]]:=by rw[Wl,W2 o8];rfl
   have hcle:=Ub (d.ruls.take k) (j:Int);rw[Wx]at hcle;have ew:=AE (k:=cntZ (d.ruls.take k) (j:Int)) zo;generalize d.ruls[k]=r at hgk c7;have hcn:=Rb (d.ruls.take k) r (j:Int);rw[<-c7]at hcn;by_cases hrc:r.clue=j
   ·rw[Wg hrc]at hcn;simp only[eZ,seval,eY,lt_T o8,hgk,ek,W1 hrc,ew];exact .mk (k+1) (by simp only[hcn]) o8 zo
   ·replace hcn:cntZ (d.ruls.take (k+1)) (j:Int)=cntZ (d.ruls.take k) (j:Int):=by rw[hcn,W7 hrc];rfl
    simp only[eZ,seval,eY,lt_T o8,hgk,ek,W4 hrc];exact .mk (k+1) (by simp only[hcn]) o8 zo
  obtain rfl:k=d.ruls.length:=zo
  have hmc0:cntZ d.ruls (j:Int)=D9 d.ruls j:=NL _ _;by_cases hmc:D9 d.ruls j=1
  ·have hmb:(((D9 d.ruls j:Nat):Int)=1)=True:=W1 zo;cases hc:Di x with
   |false=>
    rw[i6 (by rw[hc];simp)];simp only[eZ,seval,W3,W6,eY,lt_F o8,Wj,hmc0,hmb,lt_T hlj,hg,Tfo,s1,Hh,FO,hc,tadd]
   |true=>
    simp only[eZ,seval,W3,eY,lt_F o8,Wj,hmc0,hmb,lt_T hlj,hg,Tfo,s1,Hh,FO,hc,ej,tadd];exact .mk (j+1) rfl ⟨hlj,λq h z=>hnext ⟨hmc,hc⟩ q h z⟩ zo
  ·have hmb:(((D9 d.ruls j:Nat):Int)=1)=False:=W4 zo;rw[i6 (λq=>hmc q.1)];simp only[eZ,seval,W3,W6,eY,lt_F o8,Wj,hmc0,hmb]
 obtain rfl:j=d.clus.length:=zo
 have hR:Ba d=true:=by
  have z2:d.clus.all Di=true:=Wo.2 λq hq=>by
   obtain⟨m,hm,rfl⟩:=X9.1 hq;exact(l6 m hm hm).2
  unfold Ba;rw[c8,d9,Wo.2 λq hq=>Wv (l6 q (Xj.1 hq) (Xj.1 hq)).1,z2];rfl
 rw[hR];simp only[eZ,seval,W0,lt_F hlj]
def p117:Pur prog 117 [] (eSs Bq):=by
 refine .mk trivial (BS 0 _) (c117.a (AF AI.tnil (AG ?_)));simp only[eE,eN,seval,c117];exact Wk.sl (.inl rfl)
def numV(l:List Bs)(s:Bs):Fs:=match BE l s with
 |some i=>.tup [.int .i64 i,.bool true]
 |none=>.tup [.int .i64 0,.bool false]
def Fp(n:Nat)(l:List Bs)(s:Bs):(numV l s).under n:=by unfold numV;split<;>exact⟨trivial,trivial,trivial⟩
def I4{α:Type}(f:α->Bs){l:List α}{s:Bs}{i:Nat}(hi:i<l.length)(h:f l[i]=s)(hb:∀k (hk:k<l.length),k<i->¬f l[k]=s):BE (l.map f) s=some (i:Int):=by
 unfold BE;rw[Xq.2 ⟨by simpa using hi,by simpa using h,λj hj=>by simpa using hb j zo hj⟩];rfl
def Ge{α:Type}(f:α->Bs){l:List α}{s:Bs}(hb:∀k (hk:k<l.length),¬f l[k]=s):BE (l.map f) s=none:=by
 rw[Bb];intro h;obtain⟨y,hy,e⟩:=Xh.1 h;obtain⟨k,hk,rfl⟩:=X9.1 hy;exact hb k hk e
def p259(d:Zo)(s:Bs)(hd:Zh d):Pur prog 259 [encD d,.str s] (numV (d.syms.map (·.nm)) s):=by
 refine .mk ⟨Ab 0 d,trivial,trivial⟩ (Fp 0 _ _) (c259.a (AF AI.tnil (AG ?_)));have l8:d.syms.length<1000000000:=hd.sy;simp only[eE,eN,seval,c259];refine AL (λi:Nat=>⟨[(1,true,.str s),(2,true,.ptr 0 0),(6,true,.int .i64 i)],hset hnil 0 (.box (AH d)),3⟩) (λi=>i<=d.syms.length/\∀k (hk:k<d.syms.length),k<i->¬d.syms[k].nm=s) (λi=>d.syms.length-i)
  0 rfl ⟨We _,λk _ q=>absurd q (Xl _)⟩ ?_
 rintro i ⟨hi,hb⟩;by_cases c5:i<d.syms.length
 ·have hg:=W2 c5;have e:=AE (k:=i) zo;have hhit:=λq=>I4 (λx=>x.nm) (s:=s) c5 q hb
  have hnx:¬d.syms[i].nm=s->∀k (hk:k<d.syms.length),k<i+1->¬d.syms[k].nm=s:=λq k hk h=>by
   by_cases z:k=i
   ·subst z;exact q
   ·exact hb k hk zo
  generalize d.syms[i]=x at hg hhit hnx;by_cases hx:x.nm=s
  ·have hR:numV (d.syms.map (·.nm)) s= .tup [.int .i64 i,.bool true]:=by unfold numV;rw[hhit hx]
   rw[hR];simp only[eZ,seval,eY,lt_T c5,hg,A3,BB hx];exact Wk.refl _
  ·simp only[eZ,seval,eY,lt_T c5,hg,e,A3,Ax hx];exact .mk (i+1) rfl ⟨c5,hnx hx⟩ zo
 obtain rfl:i=d.syms.length:=zo
 have hR:numV (d.syms.map (·.nm)) s= .tup [.int .i64 0,.bool false]:=by unfold numV;rw[Ge _ λk hk=>hb k hk hk]
 rw[hR];simp only[eZ,seval,W0,lt_F c5];exact Wk.refl _
def p228(d:Zo)(s:Bs)(hd:Zh d):Pur prog 228 [encD d,.str s] (numV (d.clus.map (·.nm)) s):=by
 refine .mk ⟨Ab 0 d,trivial,trivial⟩ (Fp 0 _ _) (c228.a (AF AI.tnil (AG ?_)));have l8:d.clus.length<1000000000:=hd.cl;simp only[eE,eN,seval,c228];refine AL (λi:Nat=>⟨[(1,true,.str s),(2,true,.ptr 0 0),(6,true,.int .i64 i)],hset hnil 0 (.box (AH d)),3⟩) (λi=>i<=d.clus.length/\∀k (hk:k<d.clus.length),k<i->¬d.clus[k].nm=s) (λi=>d.clus.length-i)
  0 rfl ⟨We _,λk _ q=>absurd q (Xl _)⟩ ?_
 rintro i ⟨hi,hb⟩;by_cases c5:i<d.clus.length
 ·have hg:=W2 c5;have e:=AE (k:=i) zo;have hhit:=λq=>I4 (λx=>x.nm) (s:=s) c5 q hb
  have hnx:¬d.clus[i].nm=s->∀k (hk:k<d.clus.length),k<i+1->¬d.clus[k].nm=s:=λq k hk h=>by
   by_cases z:k=i
   ·subst z;exact q
   ·exact hb k hk zo
  generalize d.clus[i]=x at hg hhit hnx;by_cases hx:x.nm=s
  ·have hR:numV (d.clus.map (·.nm)) s= .tup [.int .i64 i,.bool true]:=by unfold numV;rw[hhit hx]
   rw[hR];simp only[eZ,seval,eY,lt_T c5,hg,A3,BB hx];exact Wk.refl _
  ·simp only[eZ,seval,eY,lt_T c5,hg,e,A3,Ax hx];exact .mk (i+1) rfl ⟨c5,hnx hx⟩ zo
 obtain rfl:i=d.clus.length:=zo
 have hR:numV (d.clus.map (·.nm)) s= .tup [.int .i64 0,.bool false]:=by unfold numV;rw[Ge _ λk hk=>hb k hk hk]
 rw[hR];simp only[eZ,seval,W0,lt_F c5];exact Wk.refl _
def sGv:List Fs->AC->Prop×Fs:=λa _=>match a with
 |[]=>(True,eSs Bq)
 |_=>(False,.tup [])
def qGv:∀args H n,(sGv args H).1->Am prog 117 args H n (sGv args H).2:=by
 intro args H n hh;unfold sGv at hh⊢;split at hh
 ·exact p117.quiet H n
 ·exact hh.elim
def Tgv:Tab:=tadd 117 sGv tnil
def Tgv_ok:AI prog Tgv:=AI.tnil.add qGv
def p160(d:Zo)(s:Bs)(hd:Zh d):Pur prog 160 [encD d,.str s] (numV (Bl d) s):=by
 refine .mk ⟨Ab 0 d,trivial,trivial⟩ (Fp 0 _ _) (c160.a (AF Tgv_ok (AG ?_)));have l8:d.regs.length<1000000000:=hd.rg;have c6:=WL d s;obtain⟨G,hG⟩:∃G:List Bs,G=Bq:=⟨_,rfl⟩;have hGl:G.length=8:=by rw[hG];rfl
 rw[<-hG]at c6;have hsg:sGv []=λ_=>(True,eSs G):=by rw[hG];rfl
 simp only[eE,eN,seval,c160,Tgv,hsg,tadd];refine AL (λi:Nat=>⟨[(1,true,.str s),(2,true,.ptr 0 0),(6,true,eSs G),(7,true,.int .i64 i)],hset hnil 0 (.box (AH d)),3⟩) (λi=>i<=G.length/\∀k (hk:k<G.length),k<i->¬G[k]=s) (λi=>G.length-i)
  0 rfl ⟨We _,λk _ q=>absurd q (Xl _)⟩ ?_
 rintro i ⟨hi,hb⟩;by_cases c5:i<G.length
 ·have hg:=W2 c5;have e:=AE (k:=i) zo;have hhit:=λq=>I4 (λx:Bs=>x) (s:=s) c5 q hb
  rw[show G.map (λx:Bs=>x)=G from List.map_id _]at hhit;have hnx:¬G[i]=s->∀k (hk:k<G.length),k<i+1->¬G[k]=s:=λq k hk h=>by
   by_cases z:k=i
   ·subst z;exact q
   ·exact hb k hk zo
  generalize G[i]=x at hg hhit hnx;by_cases hx:x=s
  ·have hR:numV (Bl d) s= .tup [.int .i64 i,.bool true]:=by unfold numV;rw[c6,hhit hx]
   rw[hR];simp only[eZ,seval,eY,lt_T c5,hg,A3,BB hx];exact Wk.refl _
  ·simp only[eZ,seval,eY,lt_T c5,hg,e,A3,Ax hx];exact .mk (i+1) rfl ⟨c5,hnx hx⟩ zo
 obtain rfl:i=G.length:=zo
 have e9:BE G s=none:=by
  have:=Ge (λx:Bs=>x) (l:=G) (s:=s) λk hk=>hb k hk hk
  rw[show G.map (λx:Bs=>x)=G from List.map_id _]at this;exact this
 rw[e9]at c6;simp only at c6;simp only[eZ,seval,W0,lt_F c5];refine AL (λi:Nat=>⟨[(1,true,.str s),(2,true,.ptr 0 0),(8,true,.int .i64 i)],hset hnil 0 (.box (AH d)),3⟩) (λi=>i<=d.regs.length/\∀k (hk:k<d.regs.length),k<i->¬d.regs[k].nm=s) (λi=>d.regs.length-i)
  0 rfl ⟨We _,λk _ q=>absurd q (Xl _)⟩ ?_
 rintro i ⟨hi,hb⟩;by_cases hlt2:i<d.regs.length
 ·have hg:=W2 hlt2;have e:=AE (k:=i) zo;have e8:IntKind.wrap .i64 (8+(i:Int))=8+(i:Int):=Aq zo zo;have hhit:=λq=>I4 (λx:Zl=>x.nm) (s:=s) hlt2 q hb
  have hnx:¬d.regs[i].nm=s->∀k (hk:k<d.regs.length),k<i+1->¬d.regs[k].nm=s:=λq k hk h=>by
   by_cases z:k=i
   ·subst z;exact q
   ·exact hb k hk zo
  generalize d.regs[i]=x at hg hhit hnx;by_cases hx:x.nm=s
  ·have hR:numV (Bl d) s= .tup [.int .i64 (8+(i:Int)),.bool true]:=by unfold numV;rw[c6,hhit hx];rfl
   rw[hR];simp only[eZ,seval,eY,lt_T hlt2,hg,e8,A3,BB hx];exact Wk.refl _
  ·simp only[eZ,seval,eY,lt_T hlt2,hg,e,A3,Ax hx];exact .mk (i+1) rfl ⟨hlt2,hnx hx⟩ zo
 obtain rfl:i=d.regs.length:=zo
 have hR:numV (Bl d) s= .tup [.int .i64 0,.bool false]:=by unfold numV;rw[c6,Ge (λx:Zl=>x.nm) λk hk=>hb k hk hk];rfl
 rw[hR];simp only[eZ,seval,W0,lt_F hlt2];exact Wk.refl _
def Jr{l:List Bs}:Af l=true↔∃(a b:Nat) (ha:a<l.length) (hb:b<l.length),b<a/\l[a]=l[b]:=by
 constructor
 ·intro h;apply Classical.byContradiction;intro q;have:Af l=false:=By.2 (List.nodup_iff_pairwise_ne.2 (XR.2 λi j hi hj hij e=>q ⟨j,i,hj,hi,hij,e.symm⟩));rw[this]at h;cases h
 ·rintro⟨a,b,ha,hb,o7,e⟩;cases h:Af l with
  |true=>rfl
  |false=>exact absurd e.symm (XR.1 (List.nodup_iff_pairwise_ne.1 (By.1 h)) b a hb ha o7)
def p116(l:List Bs)(hl:few l):Pur prog 116 [eSs l] (.bool (Af l)):=by
 refine .mk ⟨BS 0 _,trivial⟩ trivial (c116.a (AF AI.tnil (AG ?_)));have l8:l.length<1000000000:=hl;simp only[eE,eN,seval,c116];refine AL (λa:Nat=>⟨[(0,true,eSs l),(3,true,.int .i64 a)],hnil,0⟩) (λa=>a<=l.length/\∀x y (hx:x<l.length) (hy:y<l.length),x<a->y<x->¬l[x]=l[y]) (λa=>l.length-a)
  0 rfl ⟨We _,λx y _ _ q=>absurd q (Xl _)⟩ ?_
 rintro a ⟨ha,e9⟩;by_cases hla:a<l.length
 ·have hga:=W2 hla;have ea:=AE (k:=a) zo;simp only[eZ,seval,W0,lt_T hla];refine AL (λb:Nat=>⟨[(0,true,eSs l),(3,true,.int .i64 a),(4,true,.int .i64 b)],hnil,0⟩) (λb=>b<=a/\∀y (hy:y<l.length),y<b->¬l[a]=l[y]) (λb=>a-b)
   0 rfl ⟨We _,λy _ q=>absurd q (Xl _)⟩ ?_
  rintro b ⟨i8,q9⟩;by_cases hlb:b<a
  ·have hbl:b<l.length:=zo
   have hgb:=W2 hbl;have eb:=AE (k:=b) zo;by_cases l6:l[a]=l[b]
   ·have hR:Af l=true:=Jr.2 ⟨a,b,hla,hbl,hlb,l6⟩;rw[hR];generalize l[a]=la at hga l6;generalize l[b]=lb at hgb l6;simp only[eZ,seval,eY,lt_T hlb,lt_T hla,lt_T hbl,hga,hgb,A3,BB l6]
   ·have hnx:∀y (hy:y<l.length),y<b+1->¬l[a]=l[y]:=λy hy q=>by
     by_cases z:y=b
     ·subst z;exact l6
     ·exact q9 y hy zo
    generalize hA:l[a]=la at hga l6;generalize hB:l[b]=lb at hgb l6;simp only[eZ,seval,eY,lt_T hlb,lt_T hla,lt_T hbl,hga,hgb,A3,Ax l6,eb];exact .mk (b+1) rfl ⟨hlb,λy hy q=>by rw[<-hA];exact hnx y hy q⟩ zo
  obtain rfl:b=a:=zo
  simp only[eZ,seval,lt_F hlb,ea];refine .mk (b+1) rfl ⟨hla,λx y hx hy q1 q2=>?_⟩ zo;by_cases z:x=b
  ·subst z;exact q9 y hy q2
  ·exact e9 x y hx hy zo q2
 obtain rfl:a=l.length:=zo
 have hR:Af l=false:=by
  cases q:Af l with
  |false=>rfl
  |true=>
   obtain⟨x,y,hx,hy,hxy,h2⟩:=Jr.1 q;exact absurd h2 (e9 x y hx hy hx hxy)
 rw[hR];simp only[eZ,seval,W0,lt_F hla]
def setV(l ss:List Bs):Fs:=match CO l ss with
 |some n=>.tup [.int .i64 n,.bool true]
 |none=>.tup [.int .i64 0,.bool false]
def Tsy:Tab:=tadd 259 (s2 dD dS (λd _=>Zh d) λd s=>numV (d.syms.map (·.nm)) s) tnil
def Tsy_ok:AI prog Tsy:=AI.tnil.add (q2 p259)
def p227(d:Zo)(ss:List Bs)(hd:Zh d)(m8:d.syms.length<=16)(t9:wide ss):Pur prog 227 [encD d,eSs ss] (setV (d.syms.map (·.nm)) ss):=by
 refine .mk ⟨Ab 0 d,BS 0 _,trivial⟩ (by unfold setV;split<;>exact⟨trivial,trivial,trivial⟩) (c227.a (AF Tsy_ok (AG ?_)));have hsl:ss.length<1125899906842624:=t9;unfold setV;rw[<-MT];generalize hl:d.syms.map (·.nm)=l;have l8:l.length<=16:=by rw[<-hl,W0];exact m8
 simp only[eE,eN,seval,c227];refine AL (λv:Nat×Nat=>⟨[(1,true,eSs ss),(2,true,.ptr 0 0),(6,true,.int .i64 v.2),(7,true,.int .i64 v.1)],hset hnil 0 (.box (AH d)),3⟩) (λv=>v.1<=ss.length/\v.2<65536/\EO l 0 ss=EO l v.2 (ss.drop v.1)) (λv=>ss.length-v.1) (0,0) rfl ⟨We _,zd,rfl⟩ ?_;rintro⟨i,acc⟩ ⟨hi,x0,heq⟩;simp only at hi x0 heq;by_cases c5:i<ss.length
 ·have hg:=W2 c5;have e:=AE (k:=i) zo;rw[Wy c5,Gr]at heq;generalize ss[i]=s at hg heq;cases e9:BE l s with
  |none=>
   have i9:numV l s= .tup [.int .i64 0,.bool false]:=by unfold numV;rw[e9]
   rw[e9]at heq;simp only at heq;rw[heq];simp only[eZ,seval,W6,eY,lt_T c5,hg,Tsy,s2,A8,Al,Gc,EI,W1 hd,hl,i9,tadd];exact Wk.refl _
  |some k=>
   have i9:numV l s= .tup [.int .i64 k,.bool true]:=by unfold numV;rw[e9]
   rw[e9]at heq;simp only at heq;obtain⟨h0,h1⟩:=Kx e9;obtain⟨j,rfl⟩:∃j:Nat,k=j:=⟨k.toNat,zo⟩;rw[Wf]at heq;simp only[eZ,seval,W3,eY,lt_T c5,hg,Tsy,s2,A8,Al,Gc,EI,W1 hd,hl,i9,Oo (show j<16 by omega),Tr x0 (MS (show j<16 by omega)),e,tadd];exact .mk (i+1,acc|||1<<<j) rfl ⟨c5,Nat.or_lt_two_pow (n:=16) x0 (MS zo),heq⟩ zp
 obtain rfl:i=ss.length:=zo
 rw[Xc,IC]at heq;rw[heq];simp only[eZ,seval,W0,lt_F c5];exact Wk.refl _
section
structure VNm where
 i:Nat
 tk:Zu
 H:AC
 n:Nat
structure INm(d:Zo)(lo m:Nat)(ns:List Bs)(v:VNm):Prop where
 hi:v.i<=m
 fr:AQ v.H v.n
 hn:lo<=v.n
 h0:hget v.H 0=some (.box (AH d))
 tok:tkG 1 lo v.H v.tk
 es:v.tk.esz=1\/ns=[]
def Co{t:Zu}{l:List Bs}(ht:t.esz=1\/l=[]):dSs.ok (.sl t (l.map .str))=True:=W1 ⟨ht.imp id λq=>by rw[q];rfl,by rw[Cf]⟩
def B8{t:Zu}(l:List Bs):dSs.dec (.sl t (l.map .str))=l:=Cf l
def tw:Tab:=tadd 116 (s1 dSs few λl=>.bool (Af l)) tnil
def twS:List Fs->AC->Prop×Fs:=s1 dSs few λl=>.bool (Af l)
structure VRs(α:Type) where
 i:Nat
 tk:Zu
 dn:List α
 H:AC
 n:Nat
structure IRs{α β:Type}(d:Zo)(e:Nat)(l:List α)(f:α->Option β)(v:VRs β):Prop where
 hi:v.i<=l.length
 dl:v.dn.length=v.i
 fr:AQ v.H v.n
 hn:3<=v.n
 h0:hget v.H 0=some (.box (AH d))
 tok:tkG e 3 v.H v.tk
 es:v.tk.esz=e\/v.dn=[]
 eq:Ae f l=(Ae f (l.drop v.i)).map λr=>v.dn++r
variable {α:Type}
def nmF(init:List Bs)(f:α->Bs)(l:List α)(i:Nat):List Bs:=init++(l.take i).map f
theorem Gf(init:List Bs)(f:α->Bs){l:List α}{i:Nat}(h:i<l.length):nmF init f l (i+1)=nmF init f l i++[f l[i]]:=by
 unfold nmF;rw[map_take h,X8]
theorem I5(init:List Bs)(f:α->Bs)(l:List α)(i:Nat):(nmF init f l i).length<=init.length+i:=by
 unfold nmF;rw[Wr,W0,Wx];omega
theorem I6(init:List Bs)(f:α->Bs)(l:List α):nmF init f l l.length=init++l.map f:=by
 unfold nmF;rw[Wj]
def DD(d:Zo):Fs:=if Af (d.clus.map λx:Zj=>x.nm)=true then .tup [eCls [],.int .i64 161]else match Ae (Bf d) d.clus with
 |none=>.tup [eCls [],.int .i64 160]
 |some cs=>.tup [eCls cs,.int .i64 0]
def Tcv:Tab:=tadd 116 twS (tadd 160 (s2 dD dS (λd _=>Zh d) λd s=>numV (Bl d) s) tnil)
theorem Tcv_ok:AI prog Tcv:=(AI.tnil.add (q2 p160)).add (q1 p116)
theorem Tcv_t(a:List Fs)(H:AC):Tcv 116 a H=s1 dSs few (λl=>.bool (Af l)) a H:=rfl
theorem Tcv_f(a:List Fs)(H:AC):Tcv 160 a H=s2 dD dS (λd _=>Zh d) (λd s=>numV (Bl d) s) a H:=rfl
theorem wk2{a b:Fs}{e:Int}(h:Wk a b):Wk (.tup [a,.int .i64 e]) (.tup [b,.int .i64 e]):=Wk.tup (.cons h (.cons (Wk.refl _) .nil))
theorem p118(d:Zo)(hd:Zh d):Pur prog 118 [encD d] (DD d):=by
 refine .mk ⟨Ab 0 d,trivial⟩ (by unfold DD;split;exact⟨DB 0 _,trivial,trivial⟩;split<;>exact⟨DB 0 _,trivial,trivial⟩) (c118.a (AF Tcv_ok (AG ?_)));have m5:d.clus.length<1000000000:=hd.cl;simp only[eE,eN,seval,c118];refine AL (λv:VNm=>⟨[(1,true,.ptr 0 0),(4,true,.sl v.tk ((nmF [] (λx:Zj=>x.nm) d.clus v.i).map .str)),(5,true,.int .i64 v.i)],v.H,v.n⟩) (λv=>INm d 3 d.clus.length (nmF [] (λx:Zj=>x.nm) d.clus v.i) v) (λv=>d.clus.length-v.i)
  ⟨0,.nil,hset hnil 0 (.box (AH d)),3⟩ rfl ⟨We _,AQ.nil.hset (m:=3) (We 3) (show 0<3 by decide),W8 _,rfl,.inl rfl,.inr rfl⟩ ?_
 rintro⟨i,tk,H,n⟩ ⟨hi,c6,hn,h0,c7,d7⟩;simp only at hi c6 hn h0 c7 d7;by_cases c5:i<d.clus.length
 ·have hg:=W2 c5;have e:=AE (k:=i) zo;have htx:=Gf [] (λx:Zj=>x.nm) c5;have hnl:=I5 [] (λx:Zj=>x.nm) d.clus i;have t6:([]:List Bs).length<=8:=zd
  generalize d.clus[i]=x at hg htx;generalize hL:nmF [] (λx:Zj=>x.nm) d.clus i=L at htx c7 d7 hnl⊢;have q1:A5 H 1 tk=True:=W1 c7.app;have q2:(L.length<=35184372088831)=True:=W1 zo;have q3:Aj (L.length+1) 16=True:=W1 (by unfold Aj;omega);simp only[eZ,seval,eY,lt_T c5,hg,e,h0,fr1 c6,q1,q2,q3];refine .mk ⟨i+1,.own (n+8) 1,hset (AO H tk) (n+8) .tok,n+10⟩ ?_ ?_ zp
  ·simp only[htx,Wh];rfl
  ·refine⟨c5,(AU c7 c6).hset (m:=n+10) zo zo,zp,?_,.inr (.inr ⟨n+8,rfl,zo,AB ..⟩),.inl rfl⟩;simp only[];rw[AA _ _ _ _ zo,AV c7 (.inr ⟨_,h0⟩)];exact h0
 obtain rfl:i=d.clus.length:=zo
 have hNA:=I6 [] (λx:Zj=>x.nm) d.clus;have t6:([]:List Bs).length<=8:=zd
 rw[hNA]at d7;have hnf:few (d.clus.map λx:Zj=>x.nm):=show(d.clus.map λx:Zj=>x.nm).length<_ by first|(rw[W0];omega)|(rw[Wr,W0];omega)
 rw[X1]at hNA d7;cases ht:Af (d.clus.map λx:Zj=>x.nm)with
 |true=>
  have hR:DD d= .tup [eCls [],.int .i64 161]:=by unfold DD;rw[Wg ht]
  rw[hR];simp only[eZ,seval,W0,lt_F c5,h0,hNA,Tcv_t,s1,Co d7,B8,W1 hnf,ht];exact wk2 (Wk.sl (.inr rfl))
 |false=>
 have hR:DD d=match Ae (Bf d) d.clus with
  |none=>.tup [eCls [],.int .i64 160]
  |some cs=>.tup [eCls cs,.int .i64 0]:=by unfold DD;rw[W7 (by rw[ht];decide)]
 rw[hR];simp only[eZ,seval,W0,lt_F c5,h0,hNA,Tcv_t,s1,Co d7,B8,W1 hnf,ht];refine AL (λv:VRs Zj=>⟨[(1,true,.ptr 0 0),(6,true,.sl v.tk (v.dn.map B7)),(7,true,.int .i64 v.i)],v.H,v.n⟩) (IRs d 6 d.clus (Bf d)) (λv=>d.clus.length-v.i)
  ⟨0,.nil,[],H,n⟩ rfl ⟨We _,rfl,c6,hn,h0,.inl rfl,.inr rfl,by simp only[Z9];cases Ae (Bf d) d.clus<;>rfl⟩ ?_
 rintro⟨j,tk,dn,H1,n1⟩ ⟨hj,hdl,hf1,j8,k9,i7,he1,heq⟩;simp only at hj hdl hf1 j8 k9 i7 he1 heq;by_cases hlj:j<d.clus.length
 ·have hg:=W2 hlj;have e:=AE (k:=j) zo;rw[Wy hlj,Ci]at heq;generalize d.clus[j]=c at hg heq;have y0:∀q,(n1+q=0)=False:=λq=>W4 zo
  cases e9:BE (Bl d) c.on with
  |none=>
   have i9:numV (Bl d) c.on= .tup [.int .i64 0,.bool false]:=by unfold numV;rw[e9]
   rw[show Bf d c=none by unfold Bf;rw[e9];rfl]at heq;simp only[XX]at heq;rw[heq];simp only[eZ,seval,W6,eY,lt_T hlj,hg,k9,fr1 hf1,y0,AN,Tcv_f,s2,A8,Al,Gc,EI,W1 hd,i9];exact wk2 (Wk.sl (.inr rfl))
  |some f=>
   have i9:numV (Bl d) c.on= .tup [.int .i64 f,.bool true]:=by unfold numV;rw[e9]
   rw[show Bf d c=some {c with fam:=f}by unfold Bf;rw[e9];rfl]at heq;simp only at heq;have q1:∀ob1,A5 (hset H1 (n1+5) ob1) 6 tk=True:=λob1=>W1 (i7.set (.inr (.inr (fr1 hf1 5)))).app
   have q2:(dn.length<=35184372088831)=True:=W1 zo;have q3:Aj (dn.length+1) 64=True:=W1 (AX zo zd);simp only[eZ,seval,W3,eY,lt_T hlj,hg,e,k9,fr1 hf1,y0,AN,Tcv_f,s2,A8,Al,Gc,EI,W1 hd,i9,q1,q2,q3];obtain⟨H2,hH2⟩:∃H2,H2=hset H1 (n1+5) (.box (B7 {c with fam:=f}).cells):=⟨_,rfl⟩;have gt:tkG 6 3 H2 tk:=by rw[hH2];exact i7.set (.inr (.inr (fr1 hf1 5)))
   have gf:AQ H2 (n1+12):=by rw[hH2];exact hf1.hset (m:=n1+12) zo zo
   have g0:hget H2 0=some (.box (AH d)):=by rw[hH2,AA _ _ _ _ zo];exact k9
   refine .mk ⟨j+1,.own (n1+10) 6,dn++[{c with fam:=f}],hset (AO H2 tk) (n1+10) .tok,n1+12⟩ ?_ ?_ zp
   ·rw[hH2];simp only[Wh];rfl
   ·refine⟨hlj,by simp [hdl],(AU gt gf).hset (W8 _) (show n1+10<n1+12 by omega),zp,?_,.inr (.inr ⟨n1+10,rfl,zo,AB ..⟩),.inl rfl,?_⟩
    ·simp only[];rw[AA _ _ _ _ zo,AV gt (.inl zo)];exact g0
    ·simp only[];rw[heq];cases Ae (Bf d) (d.clus.drop (j+1))<;>simp
 obtain rfl:j=d.clus.length:=zo
 rw[Xc]at heq;have heq:Ae (Bf d) d.clus=some dn:=by rw[heq];simp [Ae]
 rw[heq];simp only[eZ,seval,W0,lt_F hlj,k9];exact wk2 (Wk.sl (he1.imp id λq=>by rw[q];rfl))
def rulV(d:Zo)(r:Zf):Zf×Bool:=match (if r.on=[]then some 0 else BE (Bl d) r.on)with
 |none=>({r with fam:=0},false)
 |some f=>match (if r.byN=[]then some (-1)else BE (d.clus.map (·.nm)) r.byN)with
  |none=>({r with fam:=f,set:=(CO (d.syms.map (·.nm)) r.ns).getD 0,oth:=(CO (d.syms.map (·.nm)) r.os).getD 0,clue:=-1},false)
  |some c=>({r with fam:=f,set:=(CO (d.syms.map (·.nm)) r.ns).getD 0,oth:=(CO (d.syms.map (·.nm)) r.os).getD 0,clue:=c},(CO (d.syms.map (·.nm)) r.ns).isSome&&(CO (d.syms.map (·.nm)) r.os).isSome)
theorem R9(d:Zo)(r:Zf):BD d r=if(rulV d r).2=true then some (rulV d r).1 else none:=by
 unfold BD rulV;cases (if r.on=[]then some 0 else BE (Bl d) r.on)with
 |none=>rfl
 |some f=>
 cases (if r.byN=[]then some (-1)else BE (d.clus.map (·.nm)) r.byN)with
 |none=>cases CO (d.syms.map (·.nm)) r.ns<;>cases CO (d.syms.map (·.nm)) r.os<;>rfl
 |some c=>cases CO (d.syms.map (·.nm)) r.ns<;>cases CO (d.syms.map (·.nm)) r.os<;>rfl
abbrev SA(x:Zf×Bool):Fs:=.tup [BT x.1,.bool x.2]
theorem IF(l ss:List Bs):setV l ss= .tup [.int .i64 ((CO l ss).getD 0),.bool (CO l ss).isSome]:=by unfold setV;cases CO l ss<;>rfl
def Tsr:Tab:=tadd 160 (s2 dD dS (λd _=>Zh d) λd s=>numV (Bl d) s) (tadd 228 (s2 dD dS (λd _=>Zh d) λd s=>numV (d.clus.map (·.nm)) s) (tadd 227 (s2 dD dSs (λd ss=>Zh d/\d.syms.length<=16/\wide ss) λd ss=>setV (d.syms.map (·.nm)) ss) tnil))
theorem Tsr_ok:AI prog Tsr:=((AI.tnil.add (q2 λd ss h=>p227 d ss h.1 h.2.1 h.2.2)).add (q2 p228)).add (q2 p160)
theorem p161(d:Zo)(r:Zf)(hd:Zh d)(m8:d.syms.length<=16)(hr:Fk r):Pur prog 161 [encD d,BT r] (SA (rulV d r)):=by
 refine .mk ⟨Ab 0 d,Ar 0 r,trivial⟩ ⟨Ar 0 _,trivial,trivial⟩ (c161.a (AF Tsr_ok (AG ?_)));have l7:=W1 (⟨hd,m8,hr.1⟩:Zh d/\d.syms.length<=16/\wide r.ns);have t7:=W1 (⟨hd,m8,hr.2⟩:Zh d/\d.syms.length<=16/\wide r.os);unfold rulV;by_cases h1:r.on=[]
 ·rw[Wg h1];by_cases h2:r.byN=[]
  ·rw[Wg h2];simp only[eZ,seval,W3,eY,BG,c161,Ao,BB h1,BB h2,Tsr,s2,A8,Al,Fj,EB,W1 hd,W1 m8,W1 hr.1,W1 hr.2,IF,tadd];exact Wk.refl _
  ·rw[W7 h2];cases hc:BE (d.clus.map (·.nm)) r.byN with
   |none=>
    have i9:numV (d.clus.map (·.nm)) r.byN= .tup [.int .i64 0,.bool false]:=by unfold numV;rw[hc]
    simp only[eZ,seval,W3,W6,eY,BG,c161,Ao,BB h1,Ax h2,Tsr,s2,A8,Al,Fj,EB,Gc,EI,W1 hd,W1 m8,W1 hr.1,W1 hr.2,IF,i9,tadd];exact Wk.refl _
   |some c=>
    have i9:numV (d.clus.map (·.nm)) r.byN= .tup [.int .i64 c,.bool true]:=by unfold numV;rw[hc]
    simp only[eZ,seval,W3,W6,eY,BG,c161,Ao,BB h1,Ax h2,Tsr,s2,A8,Al,Fj,EB,Gc,EI,W1 hd,W1 m8,W1 hr.1,W1 hr.2,IF,i9,tadd];exact Wk.refl _
 ·rw[W7 h1];cases hf:BE (Bl d) r.on with
  |none=>
   have hnf:numV (Bl d) r.on= .tup [.int .i64 0,.bool false]:=by unfold numV;rw[hf]
   simp only[eZ,seval,W6,eY,BG,c161,Ao,Ax h1,Tsr,s2,A8,Al,Gc,EI,W1 hd,hnf,tadd];exact Wk.refl _
  |some f=>
   have hnf:numV (Bl d) r.on= .tup [.int .i64 f,.bool true]:=by unfold numV;rw[hf]
   by_cases h2:r.byN=[]
   ·rw[Wg h2];simp only[eZ,seval,W3,W6,eY,BG,c161,Ao,Ax h1,BB h2,Tsr,s2,A8,Al,Fj,EB,Gc,EI,W1 hd,W1 m8,W1 hr.1,W1 hr.2,IF,hnf,tadd];exact Wk.refl _
   ·rw[W7 h2];cases hc:BE (d.clus.map (·.nm)) r.byN with
    |none=>
     have i9:numV (d.clus.map (·.nm)) r.byN= .tup [.int .i64 0,.bool false]:=by unfold numV;rw[hc]
     simp only[eZ,seval,W3,W6,eY,BG,c161,Ao,Ax h1,Ax h2,Tsr,s2,A8,Al,Fj,EB,Gc,EI,W1 hd,W1 m8,W1 hr.1,W1 hr.2,IF,hnf,i9,tadd];exact Wk.refl _
    |some c=>
     have i9:numV (d.clus.map (·.nm)) r.byN= .tup [.int .i64 c,.bool true]:=by unfold numV;rw[hc]
     simp only[eZ,seval,W3,W6,eY,BG,c161,Ao,Ax h1,Ax h2,Tsr,s2,A8,Al,Fj,EB,Gc,EI,W1 hd,W1 m8,W1 hr.1,W1 hr.2,IF,hnf,i9,tadd];exact Wk.refl _
def DT(d:Zo):Fs:=if Af (d.ruls.map λx:Zf=>x.nm)=true then .tup [eRus [],.int .i64 161]else match Ae (BD d) d.ruls with
 |none=>.tup [eRus [],.int .i64 160]
 |some cs=>.tup [eRus cs,.int .i64 0]
def Trv:Tab:=tadd 116 twS (tadd 161 (s2 dD dRu (λd r=>Zh d/\d.syms.length<=16/\Fk r) λd r=>SA (rulV d r)) tnil)
theorem Trv_ok:AI prog Trv:=(AI.tnil.add (q2 λd r h=>p161 d r h.1 h.2.1 h.2.2)).add (q1 p116)
theorem Trv_t(a:List Fs)(H:AC):Trv 116 a H=s1 dSs few (λl=>.bool (Af l)) a H:=rfl
theorem Trv_r(a:List Fs)(H:AC):Trv 161 a H=s2 dD dRu (λd r=>Zh d/\d.syms.length<=16/\Fk r) (λd r=>SA (rulV d r)) a H:=rfl
theorem p119(d:Zo)(hd:Zh d)(m8:d.syms.length<=16):Pur prog 119 [encD d] (DT d):=by
 refine .mk ⟨Ab 0 d,trivial⟩ (by unfold DT;split;exact⟨CG 0 _,trivial,trivial⟩;split<;>exact⟨CG 0 _,trivial,trivial⟩) (c119.a (AF Trv_ok (AG ?_)));have m5:d.ruls.length<1000000000:=hd.ru;simp only[eE,eN,seval,c119];refine AL (λv:VNm=>⟨[(1,true,.ptr 0 0),(4,true,.sl v.tk ((nmF [] (λx:Zf=>x.nm) d.ruls v.i).map .str)),(5,true,.int .i64 v.i)],v.H,v.n⟩) (λv=>INm d 3 d.ruls.length (nmF [] (λx:Zf=>x.nm) d.ruls v.i) v) (λv=>d.ruls.length-v.i)
  ⟨0,.nil,hset hnil 0 (.box (AH d)),3⟩ rfl ⟨We _,AQ.nil.hset (m:=3) (We 3) (show 0<3 by decide),W8 _,rfl,.inl rfl,.inr rfl⟩ ?_
 rintro⟨i,tk,H,n⟩ ⟨hi,c6,hn,h0,c7,d7⟩;simp only at hi c6 hn h0 c7 d7;by_cases c5:i<d.ruls.length
 ·have hg:=W2 c5;have e:=AE (k:=i) zo;have htx:=Gf [] (λx:Zf=>x.nm) c5;have hnl:=I5 [] (λx:Zf=>x.nm) d.ruls i;have t6:([]:List Bs).length<=8:=zd
  generalize d.ruls[i]=x at hg htx;generalize hL:nmF [] (λx:Zf=>x.nm) d.ruls i=L at htx c7 d7 hnl⊢;have q1:A5 H 1 tk=True:=W1 c7.app;have q2:(L.length<=35184372088831)=True:=W1 zo;have q3:Aj (L.length+1) 16=True:=W1 (by unfold Aj;omega);simp only[eZ,seval,eY,lt_T c5,hg,e,h0,fr1 c6,q1,q2,q3];refine .mk ⟨i+1,.own (n+8) 1,hset (AO H tk) (n+8) .tok,n+10⟩ ?_ ?_ zp
  ·simp only[htx,Wh];rfl
  ·refine⟨c5,(AU c7 c6).hset (m:=n+10) zo zo,zp,?_,.inr (.inr ⟨n+8,rfl,zo,AB ..⟩),.inl rfl⟩;simp only[];rw[AA _ _ _ _ zo,AV c7 (.inr ⟨_,h0⟩)];exact h0
 obtain rfl:i=d.ruls.length:=zo
 have hNA:=I6 [] (λx:Zf=>x.nm) d.ruls;have t6:([]:List Bs).length<=8:=zd
 rw[hNA]at d7;have hnf:few (d.ruls.map λx:Zf=>x.nm):=show(d.ruls.map λx:Zf=>x.nm).length<_ by first|(rw[W0];omega)|(rw[Wr,W0];omega)
 rw[X1]at hNA d7;cases ht:Af (d.ruls.map λx:Zf=>x.nm)with
 |true=>
  have hR:DT d= .tup [eRus [],.int .i64 161]:=by unfold DT;rw[Wg ht]
  rw[hR];simp only[eZ,seval,W0,lt_F c5,h0,hNA,Trv_t,s1,Co d7,B8,W1 hnf,ht];exact wk2 (Wk.sl (.inr rfl))
 |false=>
 have hR:DT d=match Ae (BD d) d.ruls with
  |none=>.tup [eRus [],.int .i64 160]
  |some cs=>.tup [eRus cs,.int .i64 0]:=by unfold DT;rw[W7 (by rw[ht];decide)]
 rw[hR];simp only[eZ,seval,W0,lt_F c5,h0,hNA,Trv_t,s1,Co d7,B8,W1 hnf,ht];refine AL (λv:VRs Zf=>⟨[(1,true,.ptr 0 0),(6,true,.sl v.tk (v.dn.map BT)),(7,true,.int .i64 v.i)],v.H,v.n⟩) (IRs d 12 d.ruls (BD d)) (λv=>d.ruls.length-v.i)
  ⟨0,.nil,[],H,n⟩ rfl ⟨We _,rfl,c6,hn,h0,.inl rfl,.inr rfl,by simp only[Z9];cases Ae (BD d) d.ruls<;>rfl⟩ ?_
 rintro⟨j,tk,dn,H1,n1⟩ ⟨hj,hdl,hf1,j8,k9,i7,he1,heq⟩;simp only at hj hdl hf1 j8 k9 i7 he1 heq;by_cases hlj:j<d.ruls.length
 ·have hg:=W2 hlj;have e:=AE (k:=j) zo;have hrf:=hd.rus _ (Wn hlj);rw[Wy hlj,Ci]at heq;generalize d.ruls[j]=r at hg heq hrf;have y0:∀q,(n1+q=0)=False:=λq=>W4 zo
  rw[R9]at heq;obtain⟨r',ok,hv⟩:∃a b,rulV d r=(a,b):=⟨_,_,rfl⟩;rw[hv]at heq;have u1:unders 0 [encD d,BT r]=True:=W1 ⟨Ab 0 d,Ar 0 r,trivial⟩;have u2:∀b,Fs.under 0 (SA (r',b))=True:=λb=>W1 ⟨Ar 0 _,trivial,trivial⟩
  cases ok with
  |false=>
   simp only[Ws,X4,XX]at heq;rw[heq];simp only[eZ,seval,W6,eY,lt_T hlj,hg,k9,fr1 hf1,AN,Trv_r,s2,A8,Al,Bc,A7,W1 hd,W1 m8,W1 hrf,hv,u1,u2];exact wk2 (Wk.sl (.inr rfl))
  |true=>
   simp only[Xi]at heq;have q1:∀ob1,A5 (hset H1 (n1+10) ob1) 12 tk=True:=λob1=>W1 (i7.set (.inr (.inr (fr1 hf1 10)))).app
   have q2:(dn.length<=35184372088831)=True:=W1 zo;have q3:Aj (dn.length+1) 152=True:=W1 (AX zo zd);simp only[eZ,seval,W3,eY,lt_T hlj,hg,e,k9,fr1 hf1,AN,Trv_r,s2,A8,Al,Bc,A7,W1 hd,W1 m8,W1 hrf,hv,u1,u2,q1,q2,q3];obtain⟨H2,hH2⟩:∃H2,H2=hset H1 (n1+10) (.box (BP r')):=⟨_,rfl⟩;have gt:tkG 12 3 H2 tk:=by rw[hH2];exact i7.set (.inr (.inr (fr1 hf1 10)))
   have gf:AQ H2 (n1+18):=by rw[hH2];exact hf1.hset (m:=n1+18) zo zo
   have g0:hget H2 0=some (.box (AH d)):=by rw[hH2,AA _ _ _ _ zo];exact k9
   refine .mk ⟨j+1,.own (n1+16) 12,dn++[r'],hset (AO H2 tk) (n1+16) .tok,n1+18⟩ ?_ ?_ zp
   ·rw[hH2];simp only[Wh];rfl
   ·refine⟨hlj,by simp [hdl],(AU gt gf).hset (W8 _) (show n1+16<n1+18 by omega),zp,?_,.inr (.inr ⟨n1+16,rfl,zo,AB ..⟩),.inl rfl,?_⟩
    ·simp only[];rw[AA _ _ _ _ zo,AV gt (.inl zo)];exact g0
    ·simp only[];rw[heq];cases Ae (BD d) (d.ruls.drop (j+1))<;>simp
 obtain rfl:j=d.ruls.length:=zo
 rw[Xc]at heq;have heq:Ae (BD d) d.ruls=some dn:=by rw[heq];simp [Ae]
 rw[heq];simp only[eZ,seval,W0,lt_F hlj,k9];exact wk2 (Wk.sl (he1.imp id λq=>by rw[q];rfl))
end
def givX:Fs:=.sl (.exact 1) (Bq.map .str)
def pGvX:Pur prog 117 [] givX:=by
 refine .mk trivial (BS 0 Bq) (c117.a (AF AI.tnil (AG ?_)));simp only[eE,eN,seval,c117];exact Wk.refl _
def sGx:List Fs->AC->Prop×Fs:=λa _=>match a with
 |[]=>(True,givX)
 |_=>(False,.tup [])
def qGx:∀args H n,(sGx args H).1->Am prog 117 args H n (sGx args H).2:=by
 intro args H n hh;unfold sGx at hh⊢;split at hh
 ·exact pGvX.quiet H n
 ·exact hh.elim
def Tre:Tab:=tadd 116 twS (tadd 117 sGx (tadd 118 (s1 dD Zh DD) (tadd 119 (s1 dD (λd=>Zh d/\d.syms.length<=16) DT) tnil)))
def Tre_ok:AI prog Tre:=(((AI.tnil.add (q1 λd h=>p119 d h.1 h.2)).add (q1 p118)).add qGx).add (q1 p116)
theorem Js(a:List Fs)(H:AC):Tre 116 a H=s1 dSs few (λl=>.bool (Af l)) a H:=rfl
theorem Tre_g(a:List Fs)(H:AC):Tre 117 a H=sGx a H:=rfl
theorem O2(a:List Fs)(H:AC):Tre 118 a H=s1 dD Zh DD a H:=rfl
theorem Uq(a:List Fs)(H:AC):Tre 119 a H=s1 dD (λd=>Zh d/\d.syms.length<=16) DT a H:=rfl
def wk0{e:Int}:Wk (.tup [.agg Hu,.int .i64 e]) (.tup [encD dcl0,.int .i64 e]):=wk2 (wk_Dk (Wk.sl (.inr rfl)) (Wk.sl (.inr rfl)) (Wk.sl (.inr rfl)) (Wk.sl (.inr rfl)) (Wk.sl (.inr rfl)))
def p85(d:Zo)(hd:Zh d)(hq9:d.regs.length<999999000):Pur prog 85 [encD d] (CA d):=by
 refine .mk ⟨Ab 0 d,trivial⟩ (by unfold CA;split<;>exact⟨Ab 0 _,trivial,trivial⟩) (c85.a (AF Tre_ok (AG ?_)));have hsl:d.syms.length<1000000000:=hd.sy;have hrl:d.regs.length<1000000000:=hd.rg;have hE:∀e,resD d= .error e->CA d= .tup [encD dcl0,.int .i64 e]:=λe h=>by unfold CA;rw[h]
 have hO:∀x,resD d= .ok x->CA d= .tup [encD x,.int .i64 0]:=λx h=>by unfold CA;rw[h]
 by_cases m8:16<d.syms.length
 ·have hb:((16:Int)<(d.syms.length:Int))=True:=W1 zo;rw[hE 2 (by unfold resD;rw[Wg m8])];simp only[eZ,seval,BG,W0,c85,hb];exact wk0
 have hb:((16:Int)<(d.syms.length:Int))=False:=W4 zo;have h16':d.syms.length<=16:=zo
 simp only[eZ,seval,W0,c85,hb];refine AL (λv:VNm=>⟨[(1,true,.ptr 0 0),(2,true,.ptr 1 0),(4,true,.sl v.tk ((nmF [] (λx:Zq=>x.nm) d.syms v.i).map .str)),(5,true,.int .i64 v.i)],v.H,v.n⟩) (λv=>(hget v.H 1=some (.box Hu))/\INm d 3 d.syms.length (nmF [] (λx:Zq=>x.nm) d.syms v.i) v) (λv=>d.syms.length-v.i)
  ⟨0,.nil,hset (hset hnil 0 (.box (AH d))) 1 (.box Hu),3⟩ rfl ⟨rfl,We _,(AQ.nil.hset (m:=3) (We 3) (show 0<3 by decide)).hset (W8 3) (show 1<3 by decide),W8 _,rfl,.inl rfl,.inr rfl⟩ ?_
 rintro⟨i,tk,H,n⟩ ⟨h1,hi,c6,hn,h0,c7,d7⟩;simp only at h1 hi c6 hn h0 c7 d7;by_cases c5:i<d.syms.length
 ·have hg:=W2 c5;have e:=AE (k:=i) zo;have htx:=Gf [] (λx:Zq=>x.nm) c5;have hnl:=I5 [] (λx:Zq=>x.nm) d.syms i;have t6:([]:List Bs).length<=8:=zd
  generalize d.syms[i]=x at hg htx;generalize hL:nmF [] (λx:Zq=>x.nm) d.syms i=L at htx c7 d7 hnl⊢;have q1:A5 H 1 tk=True:=W1 c7.app;have q2:(L.length<=35184372088831)=True:=W1 zo;have q3:Aj (L.length+1) 16=True:=W1 (by unfold Aj;omega);simp only[eZ,seval,eY,lt_T c5,hg,e,h0,fr1 c6,q1,q2,q3];refine .mk ⟨i+1,.own (n+8) 1,hset (AO H tk) (n+8) .tok,n+10⟩ ?_ ?_ zp
  ·simp only[htx,Wh];rfl
  ·refine⟨by simp only[];rw[AA _ _ _ _ zo,AV c7 (.inr ⟨_,h1⟩)];exact h1,c5,(AU c7 c6).hset (m:=n+10) zo zo,zp,?_,.inr (.inr ⟨n+8,rfl,zo,AB ..⟩),.inl rfl⟩;simp only[];rw[AA _ _ _ _ zo,AV c7 (.inr ⟨_,h0⟩)];exact h0
 obtain rfl:i=d.syms.length:=zo
 have hNA:=I6 [] (λx:Zq=>x.nm) d.syms;have t6:([]:List Bs).length<=8:=zd
 rw[hNA]at d7;have hnf:few (d.syms.map λx:Zq=>x.nm):=show(d.syms.map λx:Zq=>x.nm).length<_ by first|(rw[W0];omega)|(unfold Bl;rw[Wr,W0];omega)
 rw[X1]at hNA d7;cases ht:Af (d.syms.map λx:Zq=>x.nm)with
 |true=>
  rw[hE 161 (by unfold resD;rw[W7 m8,Wg ht])];simp only[eZ,seval,BG,W0,lt_F c5,h0,h1,hNA,Js,s1,Co d7,B8,W1 hnf,ht];exact wk0
 |false=>
 have hgx:sGx []=λ_=>(True,givX):=rfl
 have hg0:givX= .sl (.exact 1) ((nmF Bq (λx:Zl=>x.nm) d.regs 0).map .str):=by unfold nmF;rw[XT,X5,X2];rfl
 simp only[eZ,seval,W0,lt_F c5,h0,hNA,Js,Tre_g,hgx,s1,Co d7,B8,W1 hnf,ht];rw[hg0];clear d7 c7 hi c5 hNA t6 hnf;refine AL (λv:VNm=>⟨[(1,true,.ptr 0 0),(2,true,.ptr 1 0),(6,true,.sl v.tk ((nmF Bq (λx:Zl=>x.nm) d.regs v.i).map .str)),(7,true,.int .i64 v.i)],v.H,v.n⟩) (λv=>(hget v.H 1=some (.box Hu))/\INm d 3 d.regs.length (nmF Bq (λx:Zl=>x.nm) d.regs v.i) v) (λv=>d.regs.length-v.i)
  ⟨0,.exact 1,H,n⟩ rfl ⟨h1,We _,c6,hn,h0,.inr (.inl rfl),.inl rfl⟩ ?_
 rintro⟨i,tk,H,n⟩ ⟨h1,hi,c6,hn,h0,c7,d7⟩;simp only at h1 hi c6 hn h0 c7 d7;by_cases c5:i<d.regs.length
 ·have hg:=W2 c5;have e:=AE (k:=i) zo;have htx:=Gf Bq (λx:Zl=>x.nm) c5;have hnl:=I5 Bq (λx:Zl=>x.nm) d.regs i;have t6:(Bq:List Bs).length<=8:=zd
  generalize d.regs[i]=x at hg htx;generalize hL:nmF Bq (λx:Zl=>x.nm) d.regs i=L at htx c7 d7 hnl⊢;have q1:A5 H 1 tk=True:=W1 c7.app;have q2:(L.length<=35184372088831)=True:=W1 zo;have q3:Aj (L.length+1) 16=True:=W1 (by unfold Aj;omega);simp only[eZ,seval,eY,lt_T c5,hg,e,h0,fr1 c6,q1,q2,q3];refine .mk ⟨i+1,.own (n+8) 1,hset (AO H tk) (n+8) .tok,n+10⟩ ?_ ?_ zp
  ·simp only[htx,Wh];rfl
  ·refine⟨by simp only[];rw[AA _ _ _ _ zo,AV c7 (.inr ⟨_,h1⟩)];exact h1,c5,(AU c7 c6).hset (m:=n+10) zo zo,zp,?_,.inr (.inr ⟨n+8,rfl,zo,AB ..⟩),.inl rfl⟩;simp only[];rw[AA _ _ _ _ zo,AV c7 (.inr ⟨_,h0⟩)];exact h0
 obtain rfl:i=d.regs.length:=zo
 have hNA:=I6 Bq (λx:Zl=>x.nm) d.regs;have t6:(Bq:List Bs).length<=8:=zd
 rw[hNA]at d7;have hnf:few (Bl d):=show(Bl d).length<_ by first|(rw[W0];omega)|(unfold Bl;rw[Wr,W0];omega)
 cases l0:Af (Bl d)with
 |true=>
  rw[hE 161 (by unfold resD;rw[W7 m8,W7 (by rw[ht];decide),Wg l0])];have hNA:nmF Bq (λx:Zl=>x.nm) d.regs d.regs.length=Bl d:=hNA;have d7:tk.esz=1\/Bl d=[]:=d7;simp only[eZ,seval,BG,W0,lt_F c5,h0,h1,hNA,Js,s1,Co d7,B8,W1 hnf,l0];exact wk0
 |false=>
 have hNA:nmF Bq (λx:Zl=>x.nm) d.regs d.regs.length=Bl d:=hNA;have d7:tk.esz=1\/Bl d=[]:=d7;have hres:resD d=if Af (d.clus.map λx:Zj=>x.nm)=true then .error 161 else match Ae (Bf d) d.clus with
   |none=>.error 160
   |some cs=>if Af (d.ruls.map λx:Zf=>x.nm)=true then .error 161 else match Ae (BD d) d.ruls with
    |none=>.error 160
    |some rs=>.ok {d with clus:=cs,ruls:=rs}:=by unfold resD;rw[W7 m8,W7 (by rw[ht];decide),W7 (by rw[l0];decide)];rfl
 have base:=λ(X:Fs) (hX:DD d=X)=>hX
 cases v9:Af (d.clus.map λx:Zj=>x.nm)with
 |true=>
  have hc:DD d= .tup [eCls [],.int .i64 161]:=by unfold DD;rw[Wg v9]
  rw[hE 161 (by rw[hres,Wg v9])];simp only[eZ,seval,W6,eY,BG,lt_F c5,h0,h1,hNA,Js,O2,s1,Co d7,B8,A8,Al,W1 hd,W1 hnf,l0,hc];exact wk0
 |false=>
 rw[W7 (by rw[v9];decide)]at hres;cases q8:Ae (Bf d) d.clus with
 |none=>
  have hc:DD d= .tup [eCls [],.int .i64 160]:=by unfold DD;rw[W7 (by rw[v9];decide),q8]
  rw[hE 160 (by rw[hres,q8])];simp only[eZ,seval,W6,eY,BG,lt_F c5,h0,h1,hNA,Js,O2,s1,Co d7,B8,A8,Al,W1 hd,W1 hnf,l0,hc];exact wk0
 |some cs=>
 have hc:DD d= .tup [eCls cs,.int .i64 0]:=by unfold DD;rw[W7 (by rw[v9];decide),q8]
 rw[q8]at hres;simp only at hres;cases x7:Af (d.ruls.map λx:Zf=>x.nm)with
 |true=>
  have hr:DT d= .tup [eRus [],.int .i64 161]:=by unfold DT;rw[Wg x7]
  rw[hE 161 (by rw[hres,Wg x7])];simp only[eZ,seval,W3,W6,eY,BG,lt_F c5,h0,h1,hNA,Js,O2,Uq,s1,Co d7,B8,A8,Al,W1 hd,W1 h16',W1 hnf,l0,hc,hr];exact wk0
 |false=>
 rw[W7 (by rw[x7];decide)]at hres;cases hrs:Ae (BD d) d.ruls with
 |none=>
  have hr:DT d= .tup [eRus [],.int .i64 160]:=by unfold DT;rw[W7 (by rw[x7];decide),hrs]
  rw[hE 160 (by rw[hres,hrs])];simp only[eZ,seval,W3,W6,eY,BG,lt_F c5,h0,h1,hNA,Js,O2,Uq,s1,Co d7,B8,A8,Al,W1 hd,W1 h16',W1 hnf,l0,hc,hr];exact wk0
 |some rs=>
  have hr:DT d= .tup [eRus rs,.int .i64 0]:=by unfold DT;rw[W7 (by rw[x7];decide),hrs]
  rw[hO _ (by rw[hres,hrs])];simp only[eZ,seval,W3,eY,BG,lt_F c5,h0,h1,hNA,Js,O2,Uq,s1,Co d7,B8,A8,Al,W1 hd,W1 h16',W1 hnf,l0,hc,hr,AN];exact Wk.refl _
abbrev FewR(d:Zo):Prop:=Zh d/\d.regs.length<999999000
def Tcz:Tab:=tadd 85 (s1 dD FewR CA) (tadd 120 (s2 dD dD (λa _=>Zh a) λa b=>.bool (decide (a=b))) (tadd 87 sMk (tadd 121 (s2 dD dGd (λd g=>Zh d/\Ai g.sh g.w g.h g.holes=some g.cells/\few g.holes) λd g=>.int .i64 (C5 g.cells d.regs)) (tadd 122 (s1 dD Zh λd=>.bool (Ba d)) (tadd 123 (s1 dD (λd=>few d.ruls) λd=>eIs (BV d.ruls)) tnil)))))
def Tcz_ok:AI prog Tcz:=(((((AI.tnil.add (q1 λd h=>p123 d h)).add (q1 λd h=>p122 d h)).add (q2 λd g h=>p121 d g h.1 h.2.1 h.2.2)).add qMk).add (q2 λa b h=>p120 a b h)).add (q1 λd h=>p85 d h.1 h.2)
theorem Jt(a:List Fs)(H:AC):Tcz 85 a H=s1 dD FewR CA a H:=rfl
theorem LK(a:List Fs)(H:AC):Tcz 120 a H=s2 dD dD (λa _=>Zh a) (λa b=>.bool (decide (a=b))) a H:=rfl
theorem O3(sh w h:Int)(x:Fs)(H:AC):Tcz 87 [.int .i64 sh,.int .i64 w,.int .i64 h,x] H=(dIs.ok x/\few (dIs.dec x),BJ sh w h (dIs.dec x)):=rfl
theorem SB(a:List Fs)(H:AC):Tcz 121 a H=s2 dD dGd (λd g=>Zh d/\Ai g.sh g.w g.h g.holes=some g.cells/\few g.holes) (λd g=>.int .i64 (C5 g.cells d.regs)) a H:=rfl
theorem Ur(a:List Fs)(H:AC):Tcz 122 a H=s1 dD Zh (λd=>.bool (Ba d)) a H:=rfl
theorem Tcz_u(a:List Fs)(H:AC):Tcz 123 a H=s1 dD (λd=>few d.ruls) (λd=>eIs (BV d.ruls)) a H:=rfl
theorem FA{α β:Type}{f:α->Option β}:∀{l:List α} {r:List β},Ae f l=some r->r.length=l.length/\∀y∈r,∃x∈l,f x=some y
 |[],r,h=>by
  simp only[Ae,Option.some.injEq]at h;subst h;exact⟨rfl,λy hy=>by cases hy⟩
 |x::l,r,h=>by
  rw[Ci]at h;cases hx:f x with
  |none=>rw[hx]at h;cases h
  |some z=>
   rw[hx]at h;simp only at h;cases hl:Ae f l with
   |none=>rw[hl]at h;cases h
   |some s=>
    rw[hl]at h;simp only[Xf,Option.some.injEq]at h;subst h;obtain⟨h1,h2⟩:=FA hl;refine⟨by simp [h1],λy hy=>?_⟩;rcases X7.1 hy with rfl|hy
    ·exact⟨x,zw,hx⟩
    ·obtain⟨w,hw,e⟩:=h2 y hy;exact⟨w,by simp [hw],e⟩
def O4{d:Zo}{r r':Zf}(h:BD d r=some r'):r'.ns=r.ns/\r'.os=r.os:=by
 unfold BD at h;split at h
 ·cases h;exact⟨rfl,rfl⟩
 ·cases h
def Fq{d x:Zo}(hd:Zh d)(h:resD d= .ok x):Zh x:=by
 obtain⟨-,-,-,-,-,e1,e2,e3⟩:=NK h
 have key:∃cs rs,Ae (Bf d) d.clus=some cs/\Ae (BD d) d.ruls=some rs/\x.clus=cs/\x.ruls=rs:=by
  unfold resD at h
  repeat' split at h
  all_goals first
   |(cases h;done)
   |(rename_i cs q8 _ _ rs hrs
     cases h
     exact⟨_,_,q8,hrs,rfl,rfl⟩)
 obtain⟨cs,rs,h1,h2,h3,h4⟩:=key
 obtain⟨l1,-⟩:=FA h1
 obtain⟨l2,m2⟩:=FA h2
 refine⟨by rw[e1];exact hd.ho,by rw[e2];exact hd.sy,by rw[e3];exact hd.rg,by rw[e3];exact hd.rgs,?_,?_,λr hr=>?_⟩
 ·rw[h3];show cs.length<_;rw[l1];exact hd.cl
 ·rw[h4];show rs.length<_;rw[l2];exact hd.ru
 ·rw[h4]at hr
  obtain⟨r0,hr0,e⟩:=m2 r hr
  obtain⟨q1,q2⟩:=O4 e
  have:=hd.rus r0 hr0
  exact⟨by rw[q1];exact this.1,by rw[q2];exact this.2⟩
def Us(d:Zo):(decide ((d.syms.length:Int)=0)||decide ((16:Int)<d.syms.length)||decide ((4:Int)<d.regs.length)||decide ((4:Int)<d.clus.length)||decide ((16:Int)<d.ruls.length))= !limD d:=by
 rw[Wt];unfold limD;simp only[Wz,W9,XQ,YU,XN];omega
def p86(d:Zo)(hd:Zh d):Pur prog 86 [encD d] (.int .i64 (chkD d)):=by
 refine .mk ⟨Ab 0 d,trivial⟩ trivial (c86.a (AF Tcz_ok (AG ?_)));unfold chkD;have hlb:=Us d;cases hl:limD d with
 |false=>
  rw[hl]at hlb;rw[Wg rfl];simp only[eZ,seval,W6,W0,c86,hlb,W6]
 |true=>
 rw[hl]at hlb;rw[W7 zd];have c6:FewR d:=⟨hd,by
  unfold limD at hl;simp only[W5,W9]at hl;omega⟩
 cases hr:resD d with
 |error e=>
  have hv:CA d= .tup [encD dcl0,.int .i64 e]:=by unfold CA;rw[hr]
  have he:(e=0)=False:=W4 (EP hr);simp only[eZ,seval,W3,W6,eY,c86,hlb,W3,Jt,s1,A8,Al,W1 c6,hv,he]
 |ok x=>
 have hv:CA d= .tup [encD x,.int .i64 0]:=by unfold CA;rw[hr]
 have hfx:=Fq hd hr;simp only[];by_cases hx:x=d;case neg=>
  rw[Wg hx];simp only[eZ,seval,W3,W6,eY,c86,hlb,W3,Jt,LK,s1,s2,A8,Al,W1 c6,W1 hfx,hv,Ax hx]
 rw[W7 (λz=>z hx)];subst hx;by_cases hver:x.ver<1\/255<x.ver
 ·have hvb:(decide (x.ver<1)||decide (255<x.ver))=true:=by simpa using hver
  rw[Wg hver];simp only[eZ,seval,W3,eY,c86,hlb,W3,Jt,LK,s1,s2,A8,Al,W1 c6,W1 hd,hv,hvb]
 have hvb:(decide (x.ver<1)||decide (255<x.ver))=false:=by simp;omega
 rw[W7 hver];cases hc:Ai x.sh x.w x.h x.holes with
 |none=>
  have hm:BJ x.sh x.w x.h x.holes= .tup [encG 0 0 0 [] [],.int .i64 130]:=by unfold BJ;rw[hc]
  simp only[eZ,seval,W3,W6,eY,c86,hlb,W3,Jt,LK,O3,s1,s2,A8,Al,Ad,AY,W1 c6,W1 hd,W1 hd.ho,hv,hvb,hm]
 |some cells=>
 have hm:BJ x.sh x.w x.h x.holes= .tup [encG x.sh x.w x.h x.holes cells,.int .i64 0]:=by unfold BJ;rw[hc]
 simp only[];by_cases hre:C5 cells x.regs=0;case neg=>
  rw[Wg hre];simp only[eZ,seval,W3,W6,eY,c86,hlb,W3,Jt,LK,O3,SB,s1,s2,A8,Al,Ad,AY,Ez,Cv,W1 c6,W1 hd,W1 hd.ho,hv,hvb,hm,hc,W4 hre]
 rw[W7 (λz=>z hre)];cases hf:Ba x with
 |false=>
  rw[Wg rfl];simp only[eZ,seval,W3,W6,eY,c86,hlb,W3,Jt,LK,O3,SB,Ur,s1,s2,A8,Al,Ad,AY,Ez,Cv,W1 c6,W1 hd,W1 hd.ho,hv,hvb,hm,hc,hre,hf]
 |true=>
 rw[W7 zd];by_cases hu:BV x.ruls=[]
 ·rw[W7 (λz=>z hu)];simp only[eZ,seval,W3,eY,c86,hlb,W3,Jt,LK,O3,SB,Ur,Tcz_u,s1,s2,A8,Al,Ad,AY,Ez,Cv,W1 c6,W1 hd,W1 hd.ho,W1 hd.ru,hv,hvb,hm,hc,hre,hf,hu]
 ·rw[Wg hu];have hup:((0:Int)<((BV x.ruls).length:Int))=True:=W1 (by have:=List.length_pos_iff.2 hu;omega);simp only[eZ,seval,W3,eY,c86,hlb,W3,Jt,LK,O3,SB,Ur,Tcz_u,s1,s2,A8,Al,Ad,AY,Ez,Cv,W1 c6,W1 hd,W1 hd.ho,W1 hd.ru,hv,hvb,hm,hc,hre,hf,hup]
abbrev eLLs(ls:List (List (List Int))):Fs:=.sl (.none 1) (ls.map eLl)
abbrev AJ(k:Zm):List Fs:=AH k.d++(AD k.g.sh k.g.w k.g.h k.g.holes k.g.cells++[eLl k.nb,eLLs k.ls])
abbrev Bh(k:Zm):Fs:=.agg (AJ k)
def O5:Fs->List (List (List Int))
 | .sl _ L=>L.map Oi
 |_=>[]
def decKn:Fs->Zm
 | .agg [nm,v,sh,w,h,ho,sy,rg,cl,ru,gs,gw,gh,gho,gce,nb,ls]=>⟨decD (.agg [nm,v,sh,w,h,ho,sy,rg,cl,ru]),Re (.agg [gs,gw,gh,gho,gce]),Oi nb,O5 ls⟩
 |_=>⟨dcl0,⟨0,0,0,[],[]⟩,[],[]⟩
def Dj(n:Nat)(l:List (List (List Int))):(eLLs l).under n:=⟨trivial,Au (Ak n) _⟩
def Ah(n:Nat)(k:Zm):(Bh k).under n:=⟨trivial,trivial,trivial,trivial,trivial,AR n _,Ev n _,DA n _,DB n _,CG n _,trivial,trivial,trivial,AR n _,AR n _,Ak n _,Dj n _,trivial⟩
def Nh(l:List (List (List Int))):O5 (eLLs l)=l:=Dh Ei l
def Ju(k:Zm):decKn (Bh k)=k:=by
 have h1:=Jg k.d;have h2:=Ho k.g;show Zm.mk (decD (encD k.d)) (Re (Bz k.g)) (Oi (eLl k.nb)) (O5 (eLLs k.ls))=k;rw[h1,h2,Ei,Nh]
def dLLs:Dc (List (List (List Int))):=dLi 1 eLl Oi
def Ut(l:List (List (List Int))):dLLs.ok (eLLs l)=True:=Hi Ei (.inl rfl)
def SC(l:List (List (List Int))):dLLs.dec (eLLs l)=l:=FP Ei
def dKn:Dc Zm:=dWk Bh decKn
def DE(x:Zm):dKn.ok (Bh x)=True:=Hg Ju x
def CC(x:Zm):dKn.dec (Bh x)=x:=Ju x
def p105(a b:List (List Int))(hb:Bp b):Pur prog 105 [eLl a,eLl b] (.bool (decide (a=b))):=by
 refine .mk ⟨Ak 0 a,Ak 0 b,trivial⟩ trivial (c105.a (AF Ud (AG ?_)));simp only[eE,eN,seval,c105,Tcl,s2f,CH,Bd,W1 hb,tadd]
def Tke:Tab:=tadd 105 (s2 dLl dLl (λ_ b=>Bp b) λa b=>.bool (decide (a=b))) tnil
def Tz:AI prog Tke:=AI.tnil.add (q2 p105)
def p106(a b:List (List (List Int)))(hb:few b)(hx:∀x∈b,Bp x):Pur prog 106 [eLLs a,eLLs b,.fn (.func 105) [] []] (.bool (decide (a=b))):=by
 refine .mk ⟨Dj 0 a,Dj 0 b,by simp [Fs.under,unders],trivial⟩ trivial (c106.a (AF Tz (AG ?_)));by_cases hl:a.length=b.length;case neg=>
  simp only[eZ,seval,W6,W0,c106,GN hl,W6];exact(Wp λe=>hl (by rw[e])).symm
 simp only[eZ,seval,W3,W0,c106,GO hl];refine AL (λi:Nat=>⟨[(1,true,eLLs b),(2,true,.fn (.func 105) [] []),(15,true,eLLs a),(16,true,.int .i64 a.length),(17,true,.int .i64 i)],hnil,0⟩) (λi=>i<=a.length/\∀j,j<i->a[j]?=b[j]?) (λi=>a.length-i) 0 rfl ⟨We _,λj hj=>zo⟩ ?_;rintro i ⟨hi,c8⟩;by_cases c5:i<a.length;case neg=>
  simp only[eZ,seval,lt_F c5];exact(Wv (DZ hl λj hj=>c8 j zo)).symm
 have hltb:i<b.length:=zo
 have hga:=W2 c5;have hgb:=W2 hltb;have e:=AE (k:=i) (by have:b.length<1000000000:=hb;omega);have hf:=hx _ (Wn hltb);by_cases hs:a[i]=b[i]
 ·simp only[eZ,seval,W3,Wm,Wf,Wi,W0,Wq,lt_T c5,lt_T hltb,hga,hgb,e,Tke,s2,CH,Bd,W1 hf,BB hs,tadd];refine lpN.drop (i+1) rfl rfl rfl rfl AQ.nil (λ_ _ h=>by cases h) ⟨Dj 0 b,by simp [Fs.under,unders],Dj 0 a,trivial,trivial,trivial⟩ ⟨c5,λj h=>?_⟩ zo;by_cases q:j=i
  ·subst q;rw[hga,hgb,hs]
  ·exact c8 j zo
 ·simp only[eZ,seval,W6,Wm,Wf,Wi,W0,Wq,lt_T c5,lt_T hltb,hga,hgb,Tke,s2,CH,Bd,W1 hf,Ax hs,tadd];exact(Wp λq=>hs (by simp [q])).symm
structure FewKn(k:Zm):Prop where
 d:Zh k.d
 ho:wide k.g.holes
 ce:wide k.g.cells
 nb:Bp k.nb
 ls:few k.ls
 lx:∀x∈k.ls,Bp x
def Tks:Tab:=tadd 103 (s2 dIs dIs (λ_ b=>wide b) λa b=>.bool (decide (a=b))) (tadd 104 (s2 dD dD (λ_ b=>Zh b) λa b=>.bool (decide (a=b))) (tadd 106 (s2f 105 dLLs dLLs (λ_ b=>few b/\∀x∈b,Bp x) λa b=>.bool (decide (a=b))) Tke))
def Tks_ok:AI prog Tks:=((Tz.add (q2f λa b h=>p106 a b h.1 h.2)).add (q2 p104)).add (q2 p103)
theorem Tks_i(a:List Fs)(H:AC):Tks 103 a H=s2 dIs dIs (λ_ b=>wide b) (λa b=>.bool (decide (a=b))) a H:=rfl
theorem Tks_s(a:List Fs)(H:AC):Tks 104 a H=s2 dD dD (λ_ b=>Zh b) (λa b=>.bool (decide (a=b))) a H:=rfl
theorem Tks_f(a:List Fs)(H:AC):Tks 106 a H=s2f 105 dLLs dLLs (λ_ b=>few b/\∀x∈b,Bp x) (λa b=>.bool (decide (a=b))) a H:=rfl
theorem Tks_e(a:List Fs)(H:AC):Tks 105 a H=s2 dLl dLl (λ_ b=>Bp b) (λa b=>.bool (decide (a=b))) a H:=rfl
def Uu{a b:Zm}:a=b↔(((((((a.g.sh=b.g.sh/\a.g.w=b.g.w)/\a.g.h=b.g.h)/\a.g.holes=b.g.holes)/\a.g.cells=b.g.cells)/\a.d=b.d)/\a.nb=b.nb)/\a.ls=b.ls):=by
 obtain⟨ad,⟨a1,a2,a3,a4,a5⟩,an,al⟩:=a;obtain⟨bd,⟨b1,b2,b3,b4,b5⟩,bn,bl⟩:=b;simp only[Zm.mk.injEq,Zs.mk.injEq];constructor
 ·simp_all
 ·simp_all
def p58(a b:Zm)(hb:FewKn b):Pur prog 58 [Bh a,Bh b] (.bool (decide (a=b))):=by
 refine .mk ⟨Ah 0 a,Ah 0 b,trivial⟩ trivial (c58.a (AF Tks_ok (AG ?_)));have e1:dD.ok (.agg (AH a.d))=True:=A8 a.d;have e2:dD.dec (.agg (AH a.d))=a.d:=Al a.d;have e3:dD.ok (.agg (AH b.d))=True:=A8 b.d;have e4:dD.dec (.agg (AH b.d))=b.d:=Al b.d;simp only[AH]at e1 e2 e3 e4;simp only[eZ,seval,c58,AJ,AD,AH,Tks_i,Tks_s,Tks_f,Tks_e,s2,s2f,Ad,AY,CH,Bd,Ut,SC,e1,e2,e3,e4,W1 hb.d,W1 hb.ho,W1 hb.ce,W1 hb.nb,W1 hb.ls,W1 hb.lx];rw[Wt];simp only[W5,W9,Uu]
def p131(a b:List Int)(ha:wide a):Pur prog 131 [eIs a,eIs b] (.bool (decide (a=b))):=by
 refine .mk ⟨AR 0 _,AR 0 _,trivial⟩ trivial (c131.a (AF AI.tnil (AG ?_)));have l6:a.length<1125899906842624:=ha;by_cases hl:a.length=b.length;case neg=>
  have hR:decide (a=b)=false:=Wp λq=>hl (by rw[q])
  have hq:((a.length:Int)=(b.length:Int))=False:=W4 zo;rw[hR];simp only[eZ,seval,W6,W0,c131,hq]
 have hq:((a.length:Int)=(b.length:Int))=True:=W1 zo;simp only[eZ,seval,W3,W0,c131,hq];refine AL (λi:Nat=>⟨[(0,true,eIs a),(1,true,eIs b),(5,true,.int .i64 i)],hnil,0⟩) (λi=>i<=a.length/\a.take i=b.take i) (λi=>a.length-i) 0 rfl ⟨We _,rfl⟩ ?_;rintro i ⟨hi,c7⟩;by_cases c5:i<a.length
 ·have hltb:i<b.length:=zo
  have hg:=W2 c5;have hgb:=W2 hltb;have e:=AE (k:=i) zo;have ta:a.take (i+1)=a.take i++[a[i]]:=by rw[Wl,hg];rfl
  have tb:b.take (i+1)=b.take i++[b[i]]:=by rw[Wl,hgb];rfl
  generalize a[i]=x at hg ta;generalize b[i]=y at hgb tb;by_cases hxy:x=y
  ·simp only[eZ,seval,W3,eY,lt_T c5,lt_T hltb,hg,hgb,e,hxy];exact .mk (i+1) rfl ⟨c5,by rw[ta,tb,c7,hxy]⟩ zo
  ·have hR:decide (a=b)=false:=Wp λq=>hxy (by rw[q]at hg;rw[hg]at hgb;exact Option.some.inj hgb)
   rw[hR];simp only[eZ,seval,W6,eY,lt_T c5,lt_T hltb,hg,hgb,Ax hxy]
 obtain rfl:i=a.length:=zo
 have hR:decide (a=b)=true:=Wv (by rw[Wj,hl,Wj]at c7;exact c7);rw[hR];simp only[eZ,seval,W0,lt_F c5]
def p173(a b:List Bs)(ha:wide a):Pur prog 173 [eSs a,eSs b] (.bool (decide (a=b))):=by
 refine .mk ⟨BS 0 _,BS 0 _,trivial⟩ trivial (c173.a (AF AI.tnil (AG ?_)));have l6:a.length<1125899906842624:=ha;by_cases hl:a.length=b.length;case neg=>
  have hR:decide (a=b)=false:=Wp λq=>hl (by rw[q])
  have hq:((a.length:Int)=(b.length:Int))=False:=W4 zo;rw[hR];simp only[eZ,seval,W6,W0,c173,hq]
 have hq:((a.length:Int)=(b.length:Int))=True:=W1 zo;simp only[eZ,seval,W3,W0,c173,hq];refine AL (λi:Nat=>⟨[(0,true,eSs a),(1,true,eSs b),(5,true,.int .i64 i)],hnil,0⟩) (λi=>i<=a.length/\a.take i=b.take i) (λi=>a.length-i) 0 rfl ⟨We _,rfl⟩ ?_;rintro i ⟨hi,c7⟩;by_cases c5:i<a.length
 ·have hltb:i<b.length:=zo
  have hg:=W2 c5;have hgb:=W2 hltb;have e:=AE (k:=i) zo;have ta:a.take (i+1)=a.take i++[a[i]]:=by rw[Wl,hg];rfl
  have tb:b.take (i+1)=b.take i++[b[i]]:=by rw[Wl,hgb];rfl
  generalize a[i]=x at hg ta;generalize b[i]=y at hgb tb;by_cases hxy:x=y
  ·simp only[eZ,seval,W3,eY,lt_T c5,lt_T hltb,hg,hgb,e,Ao,BB hxy];exact .mk (i+1) rfl ⟨c5,by rw[ta,tb,c7,hxy]⟩ zo
  ·have hR:decide (a=b)=false:=Wp λq=>hxy (by rw[q]at hg;rw[hg]at hgb;exact Option.some.inj hgb)
   rw[hR];simp only[eZ,seval,W6,eY,lt_T c5,lt_T hltb,hg,hgb,Ao,Ax hxy]
 obtain rfl:i=a.length:=zo
 have hR:decide (a=b)=true:=Wv (by rw[Wj,hl,Wj]at c7;exact c7);rw[hR];simp only[eZ,seval,W0,lt_F c5]
def T6n:Tab:=tadd 173 (s2 dSs dSs (λa _=>wide a) λa b=>.bool (decide (a=b))) tnil
def T6n_ok:AI prog T6n:=AI.tnil.add (q2 p173)
def T6i:Tab:=tadd 131 (s2 dIs dIs (λa _=>wide a) λa b=>.bool (decide (a=b))) tnil
def T6i_ok:AI prog T6i:=AI.tnil.add (q2 p131)
def T3i:Tab:=tadd 130 (s2 dIs dIs (λa _=>wide a) λa b=>.bool (decide (a=b))) tnil
def T0:AI prog T3i:=AI.tnil.add (q2 p130W)
def p133(a b:Zf)(ha:Fk a):Pur prog 133 [BT a,BT b] (.bool (decide (a=b))):=by
 refine .mk ⟨Ar 0 _,Ar 0 _,trivial⟩ trivial (c133.a (AF T6n_ok (AG ?_)));obtain⟨h1,h2⟩:=ha;simp only[eZ,seval,c133,T6n,s2,Fj,EB,W1 h1,W1 h2,A3,tadd];rw[Wt,W9,MN];simp only[W5,W9];constructor
 ·intro h;simp only[h,and_self]
 ·intro h;simp only[h,and_self]
def p91(a b:List (List Int))(ha:few a)(hf:∀x∈a,wide x):Pur prog 91 [eLl a,eLl b] (.bool (decide (a=b))):=by
 refine .mk ⟨Ak 0 _,Ak 0 _,trivial⟩ trivial (c91.a (AF T0 (AG ?_)));have l6:a.length<1000000000:=ha;by_cases hl:a.length=b.length;case neg=>
  have hR:decide (a=b)=false:=Wp λq=>hl (by rw[q])
  have hq:((a.length:Int)=(b.length:Int))=False:=W4 zo;rw[hR];simp only[eZ,seval,W6,W0,c91,hq]
 have hq:((a.length:Int)=(b.length:Int))=True:=W1 zo;simp only[eZ,seval,W3,W0,c91,hq];refine AL (λi:Nat=>⟨[(0,true,eLl a),(1,true,eLl b),(5,true,.int .i64 i)],hnil,0⟩) (λi=>i<=a.length/\a.take i=b.take i) (λi=>a.length-i) 0 rfl ⟨We _,rfl⟩ ?_;rintro i ⟨hi,c7⟩;by_cases c5:i<a.length
 ·have hltb:i<b.length:=zo
  have hg:=W2 c5;have hgb:=W2 hltb;have e:=AE (k:=i) zo;have ta:a.take (i+1)=a.take i++[a[i]]:=by rw[Wl,hg];rfl
  have tb:b.take (i+1)=b.take i++[b[i]]:=by rw[Wl,hgb];rfl
  have hxf:=hf _ (Wn c5);generalize a[i]=x at hg ta hxf;generalize b[i]=y at hgb tb;by_cases hxy:x=y
  ·simp only[eZ,seval,W3,eY,lt_T c5,lt_T hltb,hg,hgb,e,T3i,s2,Ad,AY,W1 hxf,BB hxy,tadd];exact .mk (i+1) rfl ⟨c5,by rw[ta,tb,c7,hxy]⟩ zo
  ·have hR:decide (a=b)=false:=Wp λq=>hxy (by rw[q]at hg;rw[hg]at hgb;exact Option.some.inj hgb)
   rw[hR];simp only[eZ,seval,W6,eY,lt_T c5,lt_T hltb,hg,hgb,T3i,s2,Ad,AY,W1 hxf,Ax hxy,tadd]
 obtain rfl:i=a.length:=zo
 have hR:decide (a=b)=true:=Wv (by rw[Wj,hl,Wj]at c7;exact c7);rw[hR];simp only[eZ,seval,W0,lt_F c5]
def p132(x y:Zl)(hx:Bp x.ls):Pur prog 132 [Fg x,Fg y] (.bool (decide (x=y))):=by
 refine .mk ⟨Cb 0 x,Cb 0 y,trivial⟩ trivial (c132.a (AF T6i_ok (AG ?_)));obtain⟨nm,a⟩:=x;obtain⟨nn,b⟩:=y;have ha:few a:=hx.1;have hf:∀x∈a,wide x:=hx.2;have l6:a.length<1000000000:=ha;by_cases hn:nm=nn;case neg=>
  have hR:decide ((⟨nm,a⟩:Zl)=⟨nn,b⟩)=false:=Wp λq=>hn (by injection q)
  rw[hR];simp only[eZ,seval,W3,W6,W0,c132,Ao,Ax hn]
 subst hn;by_cases hl:a.length=b.length;case neg=>
  have hR:decide ((⟨nm,a⟩:Zl)=⟨nm,b⟩)=false:=Wp λq=>hl (by injection q with _ q;rw[q])
  have hq:((a.length:Int)=(b.length:Int))=False:=W4 zo;rw[hR];simp only[eZ,seval,W3,W6,W0,c132,hq,Ao]
 have hq:((a.length:Int)=(b.length:Int))=True:=W1 zo;have hS:decide ((⟨nm,a⟩:Zl)=⟨nm,b⟩)=decide (a=b):=by rw[Wt];simp [Zl.mk.injEq]
 rw[hS];simp only[eZ,seval,W3,W0,c132,hq,Ao];refine AL (λi:Nat=>⟨[(2,true,.ptr 0 0),(3,true,.ptr 1 0),(5,true,.int .i64 i)],hset (hset hnil 0 (.box [.str nm,eLl a])) 1 (.box [.str nm,eLl b]),3⟩) (λi=>i<=a.length/\a.take i=b.take i) (λi=>a.length-i) 0 rfl ⟨We _,rfl⟩ ?_;rintro i ⟨hi,c7⟩;by_cases c5:i<a.length
 ·have hltb:i<b.length:=zo
  have hg:=W2 c5;have hgb:=W2 hltb;have e:=AE (k:=i) zo;have ta:a.take (i+1)=a.take i++[a[i]]:=by rw[Wl,hg];rfl
  have tb:b.take (i+1)=b.take i++[b[i]]:=by rw[Wl,hgb];rfl
  have hxf:=hf _ (Wn c5);generalize a[i]=x at hg ta hxf;generalize b[i]=y at hgb tb;by_cases hxy:x=y
  ·simp only[eZ,seval,W3,eY,lt_T c5,lt_T hltb,hg,hgb,e,T6i,s2,Ad,AY,W1 hxf,BB hxy,tadd];exact .mk (i+1) rfl ⟨c5,by rw[ta,tb,c7,hxy]⟩ zo
  ·have hR:decide (a=b)=false:=Wp λq=>hxy (by rw[q]at hg;rw[hg]at hgb;exact Option.some.inj hgb)
   rw[hR];simp only[eZ,seval,W6,eY,lt_T c5,lt_T hltb,hg,hgb,T6i,s2,Ad,AY,W1 hxf,Ax hxy,tadd]
 obtain rfl:i=a.length:=zo
 have hR:decide (a=b)=true:=Wv (by rw[Wj,hl,Wj]at c7;exact c7);rw[hR];simp only[eZ,seval,W0,lt_F c5]
def p93(a b:Zs)(h1:wide a.holes)(h2:wide a.cells):Pur prog 93 [Bz a,Bz b] (.bool (decide (a=b))):=by
 refine .mk ⟨⟨trivial,trivial,trivial,AR 0 _,AR 0 _,trivial⟩,⟨trivial,trivial,trivial,AR 0 _,AR 0 _,trivial⟩,trivial⟩ trivial (c93.a (AF T0 (AG ?_)));simp only[eZ,seval,c93,T3i,s2,Ad,AY,W1 h1,W1 h2,tadd];rw[Wt];simp only[W5,W9];constructor
 ·intro h;obtain⟨a1,a2,a3,a4,a5⟩:=a;obtain⟨b1,b2,b3,b4,b5⟩:=b;simp only at h;simp only[h]
 ·intro h;simp only[h,and_self]
def T6d:Tab:=tadd 131 (s2 dIs dIs (λa _=>wide a) λa b=>.bool (decide (a=b))) (tadd 132 (s2 dRg dRg (λa _=>Bp a.ls) λa b=>.bool (decide (a=b))) (tadd 133 (s2 dRu dRu (λa _=>Fk a) λa b=>.bool (decide (a=b))) tnil))
def T6d_ok:AI prog T6d:=((AI.tnil.add (q2 p133)).add (q2 p132)).add (q2 p131)
def p92(a b:Zo)(hd:Zh a):Pur prog 92 [encD a,encD b] (.bool (decide (a=b))):=by
 refine .mk ⟨Ab 0 _,Ab 0 _,trivial⟩ trivial (a92 (AF T6d_ok (AG ?_)));cases h1:decide (a.nm=b.nm/\a.ver=b.ver/\a.sh=b.sh/\a.w=b.w/\a.h=b.h/\a.holes=b.holes)with
 |false=>
  have h1:=YO h1;have hR:decide (a=b)=false:=Wp λq=>h1 (by rw[q];exact⟨rfl,rfl,rfl,rfl,rfl,rfl⟩)
  have hb:(scmp .neq a.nm b.nm|| !decide (a.ver=b.ver)|| !decide (a.sh=b.sh)|| !decide (a.w=b.w)|| !decide (a.h=b.h)|| !decide (a.holes=b.holes))=true:=by
   rw[Ao,<-YQ];intro q;simp only[Yd,YC,W9,Y8]at q;exact h1 q
  rw[hR];simp only[eZ,seval,W3,W0,c92,T6d,s2,Ad,AY,W1 (Cg hd.ho),hb,tadd]
 |true=>
 obtain⟨a1,a2,a3,a4,a5,a6⟩:=Xa h1;have hb:(scmp .neq a.nm b.nm|| !decide (a.ver=b.ver)|| !decide (a.sh=b.sh)|| !decide (a.w=b.w)|| !decide (a.h=b.h)|| !decide (a.holes=b.holes))=false:=by
  rw[Ao];simp [a1,a2,a3,a4,a5,a6]
 clear h1;cases h2:decide (a.syms.length=b.syms.length/\a.regs.length=b.regs.length/\a.clus.length=b.clus.length/\a.ruls.length=b.ruls.length)with
 |false=>
  have h2:=YO h2;have hR:decide (a=b)=false:=Wp λq=>h2 (by rw[q];exact⟨rfl,rfl,rfl,rfl⟩)
  have i8:(!decide ((a.syms.length:Int)=(b.syms.length:Int))|| !decide ((a.regs.length:Int)=(b.regs.length:Int))|| !decide ((a.clus.length:Int)=(b.clus.length:Int))|| !decide ((a.ruls.length:Int)=(b.ruls.length:Int)))=true:=by grind
  rw[hR];simp only[eZ,seval,W0,c92,T6d,s2,Ad,AY,W1 (Cg hd.ho),hb,i8,tadd]
 |true=>
 obtain⟨l1,l2,l3,l4⟩:=Xa h2;have i8:(!decide ((a.syms.length:Int)=(b.syms.length:Int))|| !decide ((a.regs.length:Int)=(b.regs.length:Int))|| !decide ((a.clus.length:Int)=(b.clus.length:Int))|| !decide ((a.ruls.length:Int)=(b.ruls.length:Int)))=false:=by
  simp [l1,l2,l3,l4]
 clear h2;simp only[eZ,seval,W0,c92,T6d,s2,Ad,AY,W1 (Cg hd.ho),hb,i8,tadd];refine AL (λi:Nat=>⟨[(2,true,.ptr 0 0),(3,true,.ptr 1 0),(5,true,.int .i64 i)],hset (hset hnil 0 (.box (AH a))) 1 (.box (AH b)),3⟩) (λi=>i<=a.syms.length/\a.syms.take i=b.syms.take i) (λi=>a.syms.length-i) 0 rfl ⟨We _,rfl⟩ ?_;rintro i ⟨hi,c7⟩;have hfl:a.syms.length<1000000000:=hd.sy;by_cases c5:i<a.syms.length
 ·have hltb:i<b.syms.length:=zo
  have hg:=W2 c5;have hgb:=W2 hltb;have e:=AE (k:=i) zo;have ta:a.syms.take (i+1)=a.syms.take i++[a.syms[i]]:=by rw[Wl,hg];rfl
  have tb:b.syms.take (i+1)=b.syms.take i++[b.syms[i]]:=by rw[Wl,hgb];rfl
  generalize a.syms[i]=x at hg ta;generalize b.syms[i]=y at hgb tb;by_cases hxy:x=y
  ·have hc:=Ix x y;rw[Wv hxy]at hc;simp only[eZ,seval,W3,eY,lt_T c5,lt_T hltb,hg,hgb,e,hc,cfit];exact .mk (i+1) rfl ⟨c5,by rw[ta,tb,c7,hxy]⟩ zo
  ·have hR:decide (a=b)=false:=Wp λq=>hxy (by rw[q]at hg;rw[hg]at hgb;exact Option.some.inj hgb)
   have hc:=Ix x y;rw[Wp hxy]at hc;rw[hR];simp only[eZ,seval,W6,eY,lt_T c5,lt_T hltb,hg,hgb,hc,cfit]
 obtain rfl:i=a.syms.length:=zo
 have b_syms:a.syms=b.syms:=by rw[Wj,l1,Wj]at c7;exact c7
 simp only[eZ,seval,W0,lt_F c5];clear hi c7 hfl c5;refine AL (λi:Nat=>⟨[(2,true,.ptr 0 0),(3,true,.ptr 1 0),(6,true,.int .i64 i)],hset (hset hnil 0 (.box (AH a))) 1 (.box (AH b)),3⟩) (λi=>i<=a.regs.length/\a.regs.take i=b.regs.take i) (λi=>a.regs.length-i) 0 rfl ⟨We _,rfl⟩ ?_;rintro i ⟨hi,c7⟩;have hfl:a.regs.length<1000000000:=hd.rg;by_cases c5:i<a.regs.length
 ·have hltb:i<b.regs.length:=zo
  have hg:=W2 c5;have hgb:=W2 hltb;have e:=AE (k:=i) zo;have ta:a.regs.take (i+1)=a.regs.take i++[a.regs[i]]:=by rw[Wl,hg];rfl
  have tb:b.regs.take (i+1)=b.regs.take i++[b.regs[i]]:=by rw[Wl,hgb];rfl
  have hxf:Bp a.regs[i].ls:=hd.rgs _ (Wn c5);generalize a.regs[i]=x at hg ta hxf;generalize b.regs[i]=y at hgb tb;by_cases hxy:x=y
  ·simp only[eZ,seval,W3,eY,lt_T c5,lt_T hltb,hg,hgb,e,T6d,s2,Iu,F7,W1 hxf,BB hxy,tadd];exact .mk (i+1) rfl ⟨c5,by rw[ta,tb,c7,hxy]⟩ zo
  ·have hR:decide (a=b)=false:=Wp λq=>hxy (by rw[q]at hg;rw[hg]at hgb;exact Option.some.inj hgb)
   rw[hR];simp only[eZ,seval,W6,eY,lt_T c5,lt_T hltb,hg,hgb,T6d,s2,Iu,F7,W1 hxf,Ax hxy,tadd]
 obtain rfl:i=a.regs.length:=zo
 have b_regs:a.regs=b.regs:=by rw[Wj,l2,Wj]at c7;exact c7
 simp only[eZ,seval,W0,lt_F c5];clear hi c7 hfl c5;refine AL (λi:Nat=>⟨[(2,true,.ptr 0 0),(3,true,.ptr 1 0),(7,true,.int .i64 i)],hset (hset hnil 0 (.box (AH a))) 1 (.box (AH b)),3⟩) (λi=>i<=a.clus.length/\a.clus.take i=b.clus.take i) (λi=>a.clus.length-i) 0 rfl ⟨We _,rfl⟩ ?_;rintro i ⟨hi,c7⟩;have hfl:a.clus.length<1000000000:=hd.cl;by_cases c5:i<a.clus.length
 ·have hltb:i<b.clus.length:=zo
  have hg:=W2 c5;have hgb:=W2 hltb;have e:=AE (k:=i) zo;have ta:a.clus.take (i+1)=a.clus.take i++[a.clus[i]]:=by rw[Wl,hg];rfl
  have tb:b.clus.take (i+1)=b.clus.take i++[b.clus[i]]:=by rw[Wl,hgb];rfl
  generalize a.clus[i]=x at hg ta;generalize b.clus[i]=y at hgb tb;by_cases hxy:x=y
  ·have hc:=Iy x y;rw[Wv hxy]at hc;simp only[eZ,seval,W3,eY,lt_T c5,lt_T hltb,hg,hgb,e,hc,cfit];exact .mk (i+1) rfl ⟨c5,by rw[ta,tb,c7,hxy]⟩ zo
  ·have hR:decide (a=b)=false:=Wp λq=>hxy (by rw[q]at hg;rw[hg]at hgb;exact Option.some.inj hgb)
   have hc:=Iy x y;rw[Wp hxy]at hc;rw[hR];simp only[eZ,seval,W6,eY,lt_T c5,lt_T hltb,hg,hgb,hc,cfit]
 obtain rfl:i=a.clus.length:=zo
 have b_clus:a.clus=b.clus:=by rw[Wj,l3,Wj]at c7;exact c7
 simp only[eZ,seval,W0,lt_F c5];clear hi c7 hfl c5;refine AL (λi:Nat=>⟨[(2,true,.ptr 0 0),(3,true,.ptr 1 0),(8,true,.int .i64 i)],hset (hset hnil 0 (.box (AH a))) 1 (.box (AH b)),3⟩) (λi=>i<=a.ruls.length/\a.ruls.take i=b.ruls.take i) (λi=>a.ruls.length-i) 0 rfl ⟨We _,rfl⟩ ?_;rintro i ⟨hi,c7⟩;have hfl:a.ruls.length<1000000000:=hd.ru;by_cases c5:i<a.ruls.length
 ·have hltb:i<b.ruls.length:=zo
  have hg:=W2 c5;have hgb:=W2 hltb;have e:=AE (k:=i) zo;have ta:a.ruls.take (i+1)=a.ruls.take i++[a.ruls[i]]:=by rw[Wl,hg];rfl
  have tb:b.ruls.take (i+1)=b.ruls.take i++[b.ruls[i]]:=by rw[Wl,hgb];rfl
  have hxf:Fk a.ruls[i]:=hd.rus _ (Wn c5);generalize a.ruls[i]=x at hg ta hxf;generalize b.ruls[i]=y at hgb tb;by_cases hxy:x=y
  ·simp only[eZ,seval,W3,eY,lt_T c5,lt_T hltb,hg,hgb,e,T6d,s2,Bc,A7,W1 hxf,BB hxy,tadd];exact .mk (i+1) rfl ⟨c5,by rw[ta,tb,c7,hxy]⟩ zo
  ·have hR:decide (a=b)=false:=Wp λq=>hxy (by rw[q]at hg;rw[hg]at hgb;exact Option.some.inj hgb)
   rw[hR];simp only[eZ,seval,W6,eY,lt_T c5,lt_T hltb,hg,hgb,T6d,s2,Bc,A7,W1 hxf,Ax hxy,tadd]
 obtain rfl:i=a.ruls.length:=zo
 have b_ruls:a.ruls=b.ruls:=by rw[Wj,l4,Wj]at c7;exact c7
 have hR:decide (a=b)=true:=Wv (by
  cases a;cases b;simp only at a1 a2 a3 a4 a5 a6 b_syms b_regs b_clus b_ruls;subst a1 a2 a3 a4 a5 a6 b_syms b_regs b_clus b_ruls;rfl)
 rw[hR];simp only[eZ,seval,W0,lt_F c5]
def T8l:Tab:=tadd 91 (s2 dLl dLl (λa _=>Bp a) λa b=>.bool (decide (a=b))) (tadd 93 (s2 dGd dGd (λa _=>wide a.holes/\wide a.cells) λa b=>.bool (decide (a=b))) (tadd 92 (s2 dD dD (λa _=>Zh a) λa b=>.bool (decide (a=b))) tnil))
def T8l_ok:AI prog T8l:=((AI.tnil.add (q2 p92)).add (q2 λa b h=>p93 a b h.1 h.2)).add (q2 λa b h=>p91 a b h.1 h.2)
structure FewKr(k:Zm):Prop where
 d:Zh k.d
 ho:wide k.g.holes
 ce:wide k.g.cells
 nb:Bp k.nb
 ls:wide k.ls
 lx:∀x∈k.ls,Bp x
def p53(x y:Zm)(hx:FewKr x):Pur prog 53 [Bh x,Bh y] (.bool (decide (x=y))):=by
 refine .mk ⟨Ah 0 x,Ah 0 y,trivial⟩ trivial (c53.a (AF T8l_ok (AG ?_)));have l6:x.ls.length<1125899906842624:=hx.ls;by_cases hl:x.ls.length=y.ls.length;case neg=>
  have hR:decide (x=y)=false:=Wp λq=>hl (by rw[q])
  have hq:((x.ls.length:Int)=(y.ls.length:Int))=False:=W4 zo;rw[hR];simp only[eZ,seval,W6,W0,c53,AJ,AD,AH,hq]
 have hq:((x.ls.length:Int)=(y.ls.length:Int))=True:=W1 zo;simp only[eZ,seval,W3,W0,c53,AJ,AD,AH,hq];refine AL (λi:Nat=>⟨[(2,true,.ptr 0 0),(3,true,.ptr 1 0),(5,true,.int .i64 i)],hset (hset hnil 0 (.box (AJ x))) 1 (.box (AJ y)),3⟩) (λi=>i<=x.ls.length/\x.ls.take i=y.ls.take i) (λi=>x.ls.length-i) 0 rfl ⟨We _,rfl⟩ ?_;rintro i ⟨hi,c7⟩;by_cases c5:i<x.ls.length
 ·have hltb:i<y.ls.length:=zo
  have hg:=W2 c5;have hgb:=W2 hltb;have e:=AE (k:=i) zo;have ta:x.ls.take (i+1)=x.ls.take i++[x.ls[i]]:=by rw[Wl,hg];rfl
  have tb:y.ls.take (i+1)=y.ls.take i++[y.ls[i]]:=by rw[Wl,hgb];rfl
  have hxf:=hx.lx _ (Wn c5);generalize x.ls[i]=u at hg ta hxf;generalize y.ls[i]=v at hgb tb;by_cases hxy:u=v
  ·simp only[eZ,seval,W3,eY,AJ,AD,AH,lt_T c5,lt_T hltb,hg,hgb,e,T8l,s2,CH,Bd,W1 hxf,BB hxy,tadd];exact .mk (i+1) rfl ⟨c5,by rw[ta,tb,c7,hxy]⟩ zo
  ·have hR:decide (x=y)=false:=Wp λq=>hxy (by rw[q]at hg;rw[hg]at hgb;exact Option.some.inj hgb)
   rw[hR];simp only[eZ,seval,W6,eY,AJ,AD,AH,lt_T c5,lt_T hltb,hg,hgb,T8l,s2,CH,Bd,W1 hxf,Ax hxy,tadd]
 obtain rfl:i=x.ls.length:=zo
 have s6:x.ls=y.ls:=by rw[Wj,hl,Wj]at c7;exact c7
 have e1:dD.ok (.agg (AH x.d))=True:=A8 x.d;have e2:dD.dec (.agg (AH x.d))=x.d:=Al x.d;have e3:dD.ok (.agg (AH y.d))=True:=A8 y.d;have e4:dD.dec (.agg (AH y.d))=y.d:=Al y.d;have f1:dGd.ok (.agg (AD x.g.sh x.g.w x.g.h x.g.holes x.g.cells))=True:=DO x.g;have f2:dGd.dec (.agg (AD x.g.sh x.g.w x.g.h x.g.holes x.g.cells))=x.g:=CE x.g;have f3:dGd.ok (.agg (AD y.g.sh y.g.w y.g.h y.g.holes y.g.cells))=True:=DO y.g;have f4:dGd.dec (.agg (AD y.g.sh y.g.w y.g.h y.g.holes y.g.cells))=y.g:=CE y.g;simp only[AH]at e1 e2 e3 e4;simp only[AD]at f1 f2 f3 f4;simp only[eZ,seval,W0,AJ,AD,AH,lt_F c5,T8l,s2,CH,Bd,e1,e2,e3,e4,f1,f2,f3,f4,W1 hx.d,W1 hx.ho,W1 hx.ce,W1 hx.nb,tadd];rw[Wt];simp only[W5,W9];constructor
 ·rintro⟨⟨h1,h2⟩,h3⟩;obtain⟨a1,a2,a3,a4⟩:=x;obtain⟨b1,b2,b3,b4⟩:=y;simp only at h1 h2 h3 s6;subst h1 h2 h3 s6;rfl
 ·rintro rfl;exact⟨⟨rfl,rfl⟩,rfl⟩
end Go.AM
