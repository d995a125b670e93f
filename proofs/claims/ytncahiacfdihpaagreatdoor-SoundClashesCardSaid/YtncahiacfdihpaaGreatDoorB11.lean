/-
  Parts of the proof. Conditions: none.
-/
import Derived.Test.YtncahiacfdihpaaGreatDoorB10
import Derived.Test.YtncahiacfdihpaaGreatDoorB7
set_option maxRecDepth 20000
set_option linter.all false
namespace Go.AM
open Go.Lib Go.Proofs Go.Proofs.Tryz
def p162(a b:List Int)(ha:wide a):Pur prog 162 [eIs a,eIs b] (.bool (decide (a=b))):=by
 refine .mk ⟨AR 0 _,AR 0 _,trivial⟩ trivial (c162.a (AF AI.tnil (AG ?_)));have hal:a.length<1125899906842624:=ha;by_cases hl:a.length=b.length;case neg=>
  have hR:decide (a=b)=false:=X9 λq=>hl (by rw[q])
  have hq:((a.length:Int)=(b.length:Int))=False:=W4 zo;rw[hR];simp only[eZ,seval,W7,W0,c162,hq]
 have hq:((a.length:Int)=(b.length:Int))=True:=W1 zo;simp only[eZ,seval,W3,W0,c162,hq];refine AL (λi:Nat=>⟨[(0,true,eIs a),(1,true,eIs b),(5,true,.int .i64 i)],hnil,0⟩) (λi=>i<=a.length/\a.take i=b.take i) (λi=>a.length-i) 0 rfl ⟨Wz _,rfl⟩ ?_;rintro i ⟨hi,c8⟩;by_cases c5:i<a.length
 ·have hltb:i<b.length:=zo
  have hg:=W2 c5;have hgb:=W2 hltb;have e:=AE (k:=i) zo;have ta:a.take (i+1)=a.take i++[a[i]]:=by rw[X7,hg];rfl
  have tb:b.take (i+1)=b.take i++[b[i]]:=by rw[X7,hgb];rfl
  generalize a[i]=x at hg ta;generalize b[i]=y at hgb tb;by_cases hxy:x=y
  ·simp only[eZ,seval,W3,eY,lt_T c5,lt_T hltb,hg,hgb,e,hxy];exact .mk (i+1) rfl ⟨c5,by rw[ta,tb,c8,hxy]⟩ zo
  ·have hR:decide (a=b)=false:=X9 λq=>hxy (by rw[q]at hg;rw[hg]at hgb;exact Option.some.inj hgb)
   rw[hR];simp only[eZ,seval,W7,eY,lt_T c5,lt_T hltb,hg,hgb,Aw hxy]
 obtain rfl:i=a.length:=zo
 have hR:decide (a=b)=true:=Xf (by rw[X4,hl,X4]at c8;exact c8);rw[hR];simp only[eZ,seval,W0,lt_F c5]
def p229(a b:List Bs)(ha:wide a):Pur prog 229 [eSs a,eSs b] (.bool (decide (a=b))):=by
 refine .mk ⟨BT 0 _,BT 0 _,trivial⟩ trivial (c229.a (AF AI.tnil (AG ?_)));have hal:a.length<1125899906842624:=ha;by_cases hl:a.length=b.length;case neg=>
  have hR:decide (a=b)=false:=X9 λq=>hl (by rw[q])
  have hq:((a.length:Int)=(b.length:Int))=False:=W4 zo;rw[hR];simp only[eZ,seval,W7,W0,c229,hq]
 have hq:((a.length:Int)=(b.length:Int))=True:=W1 zo;simp only[eZ,seval,W3,W0,c229,hq];refine AL (λi:Nat=>⟨[(0,true,eSs a),(1,true,eSs b),(5,true,.int .i64 i)],hnil,0⟩) (λi=>i<=a.length/\a.take i=b.take i) (λi=>a.length-i) 0 rfl ⟨Wz _,rfl⟩ ?_;rintro i ⟨hi,c8⟩;by_cases c5:i<a.length
 ·have hltb:i<b.length:=zo
  have hg:=W2 c5;have hgb:=W2 hltb;have e:=AE (k:=i) zo;have ta:a.take (i+1)=a.take i++[a[i]]:=by rw[X7,hg];rfl
  have tb:b.take (i+1)=b.take i++[b[i]]:=by rw[X7,hgb];rfl
  generalize a[i]=x at hg ta;generalize b[i]=y at hgb tb;by_cases hxy:x=y
  ·simp only[eZ,seval,W3,eY,lt_T c5,lt_T hltb,hg,hgb,e,Ap,BA hxy];exact .mk (i+1) rfl ⟨c5,by rw[ta,tb,c8,hxy]⟩ zo
  ·have hR:decide (a=b)=false:=X9 λq=>hxy (by rw[q]at hg;rw[hg]at hgb;exact Option.some.inj hgb)
   rw[hR];simp only[eZ,seval,W7,eY,lt_T c5,lt_T hltb,hg,hgb,Ap,Aw hxy]
 obtain rfl:i=a.length:=zo
 have hR:decide (a=b)=true:=Xf (by rw[X4,hl,X4]at c8;exact c8);rw[hR];simp only[eZ,seval,W0,lt_F c5]
def Tsi:Tab:=tadd 162 (s2 dIs dIs (λa _=>wide a) λa b=>.bool (decide (a=b))) tnil
def Tsi_ok:AI prog Tsi:=AI.tnil.add (q2 p162)
def p163(a b:List (List Int))(ha:few a)(hf:∀x∈a,wide x):Pur prog 163 [eLl a,eLl b] (.bool (decide (a=b))):=by
 refine .mk ⟨Ak 0 _,Ak 0 _,trivial⟩ trivial (c163.a (AF Tsi_ok (AG ?_)));have hal:a.length<1000000000:=ha;by_cases hl:a.length=b.length;case neg=>
  have hR:decide (a=b)=false:=X9 λq=>hl (by rw[q])
  have hq:((a.length:Int)=(b.length:Int))=False:=W4 zo;rw[hR];simp only[eZ,seval,W7,W0,c163,hq]
 have hq:((a.length:Int)=(b.length:Int))=True:=W1 zo;simp only[eZ,seval,W3,W0,c163,hq];refine AL (λi:Nat=>⟨[(0,true,eLl a),(1,true,eLl b),(5,true,.int .i64 i)],hnil,0⟩) (λi=>i<=a.length/\a.take i=b.take i) (λi=>a.length-i) 0 rfl ⟨Wz _,rfl⟩ ?_;rintro i ⟨hi,c8⟩;by_cases c5:i<a.length
 ·have hltb:i<b.length:=zo
  have hg:=W2 c5;have hgb:=W2 hltb;have e:=AE (k:=i) zo;have ta:a.take (i+1)=a.take i++[a[i]]:=by rw[X7,hg];rfl
  have tb:b.take (i+1)=b.take i++[b[i]]:=by rw[X7,hgb];rfl
  have hxf:=hf _ (X5 c5);generalize a[i]=x at hg ta hxf;generalize b[i]=y at hgb tb;by_cases hxy:x=y
  ·simp only[eZ,seval,W3,eY,lt_T c5,lt_T hltb,hg,hgb,e,Tsi,s2,Ad,AY,W1 hxf,BA hxy,tadd];exact .mk (i+1) rfl ⟨c5,by rw[ta,tb,c8,hxy]⟩ zo
  ·have hR:decide (a=b)=false:=X9 λq=>hxy (by rw[q]at hg;rw[hg]at hgb;exact Option.some.inj hgb)
   rw[hR];simp only[eZ,seval,W7,eY,lt_T c5,lt_T hltb,hg,hgb,Tsi,s2,Ad,AY,W1 hxf,Aw hxy,tadd]
 obtain rfl:i=a.length:=zo
 have hR:decide (a=b)=true:=Xf (by rw[X4,hl,X4]at c8;exact c8);rw[hR];simp only[eZ,seval,W0,lt_F c5]
def Tsn:Tab:=tadd 229 (s2 dSs dSs (λa _=>wide a) λa b=>.bool (decide (a=b))) tnil
def Tsn_ok:AI prog Tsn:=AI.tnil.add (q2 p229)
def p164(a b:qz)(ha:Fo a):Pur prog 164 [BV a,BV b] (.bool (decide (a=b))):=by
 refine .mk ⟨Ar 0 _,Ar 0 _,trivial⟩ trivial (c164.a (AF Tsn_ok (AG ?_)));obtain⟨h1,h2⟩:=ha;simp only[eZ,seval,c164,Tsn,s2,Fm,ED,W1 h1,W1 h2,A3,tadd];rw[Xc,W8,MR];simp only[W5,W8];constructor
 ·intro h;simp only[h,and_self]
 ·intro h;simp only[h,and_self]
def Tsd:Tab:=tadd 162 (s2 dIs dIs (λa _=>wide a) λa b=>.bool (decide (a=b))) (tadd 163 (s2 dLl dLl (λa _=>Br a) λa b=>.bool (decide (a=b))) (tadd 164 (s2 dRu dRu (λa _=>Fo a) λa b=>.bool (decide (a=b))) tnil))
def Tsd_ok:AI prog Tsd:=((AI.tnil.add (q2 p164)).add (q2 λa b h=>p163 a b h.1 h.2)).add (q2 p162)
def UJ(x y:zj):(scmp .neq x.nm y.nm|| !decide (x.ls=y.ls))= !decide (x=y):=by
 rw[Ap];cases x;cases y;rw[Xc];simp [zj.mk.injEq]
def p120(a b:zk)(hd:qk a):Pur prog 120 [encD a,encD b] (.bool (decide (a=b))):=by
 refine .mk ⟨Ab 0 _,Ab 0 _,trivial⟩ trivial (a120 (AF Tsd_ok (AG ?_)));cases h1:decide (a.nm=b.nm/\a.ver=b.ver/\a.sh=b.sh/\a.w=b.w/\a.h=b.h/\a.holes=b.holes)with
 |false=>
  have h1:=Zb h1;have hR:decide (a=b)=false:=X9 λq=>h1 (by rw[q];exact⟨rfl,rfl,rfl,rfl,rfl,rfl⟩)
  have hb:(scmp .neq a.nm b.nm|| !decide (a.ver=b.ver)|| !decide (a.sh=b.sh)|| !decide (a.w=b.w)|| !decide (a.h=b.h)|| !decide (a.holes=b.holes))=true:=by
   rw[Ap,<-Zc];intro q;simp only[Yx,YZ,W8,Yp]at q;exact h1 q
  rw[hR];simp only[eZ,seval,c120,Tsd,s2,Ad,AY,W1 (Ci hd.ho),hb,tadd]
 |true=>
 obtain⟨a1,a2,a3,a4,a5,a6⟩:=Xu h1;have hb:(scmp .neq a.nm b.nm|| !decide (a.ver=b.ver)|| !decide (a.sh=b.sh)|| !decide (a.w=b.w)|| !decide (a.h=b.h)|| !decide (a.holes=b.holes))=false:=by
  rw[Ap];simp [a1,a2,a3,a4,a5,a6]
 clear h1;cases h2:decide (a.syms.length=b.syms.length/\a.regs.length=b.regs.length/\a.clus.length=b.clus.length/\a.ruls.length=b.ruls.length)with
 |false=>
  have h2:=Zb h2;have hR:decide (a=b)=false:=X9 λq=>h2 (by rw[q];exact⟨rfl,rfl,rfl,rfl⟩)
  have k9:(!decide ((a.syms.length:Int)=(b.syms.length:Int))|| !decide ((a.regs.length:Int)=(b.regs.length:Int))|| !decide ((a.clus.length:Int)=(b.clus.length:Int))|| !decide ((a.ruls.length:Int)=(b.ruls.length:Int)))=true:=by
   rw[<-Zc];intro q;simp only[Yx,YZ,W8,Yp]at q;exact h2 zo
  rw[hR];simp only[eZ,seval,W0,c120,Tsd,s2,Ad,AY,W1 (Ci hd.ho),hb,k9,tadd]
 |true=>
 obtain⟨l1,l2,l3,l4⟩:=Xu h2;have k9:(!decide ((a.syms.length:Int)=(b.syms.length:Int))|| !decide ((a.regs.length:Int)=(b.regs.length:Int))|| !decide ((a.clus.length:Int)=(b.clus.length:Int))|| !decide ((a.ruls.length:Int)=(b.ruls.length:Int)))=false:=by
  simp [l1,l2,l3,l4]
 clear h2;simp only[eZ,seval,W0,c120,Tsd,s2,Ad,AY,W1 (Ci hd.ho),hb,k9,tadd];refine AL (λi:Nat=>⟨[(2,true,.ptr 0 0),(3,true,.ptr 1 0),(5,true,.int .i64 i)],hset (hset hnil 0 (.box (AH a))) 1 (.box (AH b)),3⟩) (λi=>i<=a.syms.length/\a.syms.take i=b.syms.take i) (λi=>a.syms.length-i) 0 rfl ⟨Wz _,rfl⟩ ?_;rintro i ⟨hi,c8⟩;have hfl:a.syms.length<1000000000:=hd.sy;by_cases c5:i<a.syms.length
 ·have hltb:i<b.syms.length:=zo
  have hg:=W2 c5;have hgb:=W2 hltb;have e:=AE (k:=i) zo;have ta:a.syms.take (i+1)=a.syms.take i++[a.syms[i]]:=by rw[X7,hg];rfl
  have tb:b.syms.take (i+1)=b.syms.take i++[b.syms[i]]:=by rw[X7,hgb];rfl
  generalize a.syms[i]=x at hg ta;generalize b.syms[i]=y at hgb tb;by_cases hxy:x=y
  ·have hc:=I2 x y;rw[Xf hxy]at hc;simp only[eZ,seval,W3,eY,lt_T c5,lt_T hltb,hg,hgb,e,hc,cfit];exact .mk (i+1) rfl ⟨c5,by rw[ta,tb,c8,hxy]⟩ zo
  ·have hR:decide (a=b)=false:=X9 λq=>hxy (by rw[q]at hg;rw[hg]at hgb;exact Option.some.inj hgb)
   have hc:=I2 x y;rw[X9 hxy]at hc;rw[hR];simp only[eZ,seval,W7,eY,lt_T c5,lt_T hltb,hg,hgb,hc,cfit]
 obtain rfl:i=a.syms.length:=zo
 have b_syms:a.syms=b.syms:=by rw[X4,l1,X4]at c8;exact c8
 simp only[eZ,seval,W0,lt_F c5];clear hi c8 hfl c5;refine AL (λi:Nat=>⟨[(2,true,.ptr 0 0),(3,true,.ptr 1 0),(6,true,.int .i64 i)],hset (hset hnil 0 (.box (AH a))) 1 (.box (AH b)),3⟩) (λi=>i<=a.regs.length/\a.regs.take i=b.regs.take i) (λi=>a.regs.length-i) 0 rfl ⟨Wz _,rfl⟩ ?_;rintro i ⟨hi,c8⟩;have hfl:a.regs.length<1000000000:=hd.rg;by_cases c5:i<a.regs.length
 ·have hltb:i<b.regs.length:=zo
  have hg:=W2 c5;have hgb:=W2 hltb;have e:=AE (k:=i) zo;have ta:a.regs.take (i+1)=a.regs.take i++[a.regs[i]]:=by rw[X7,hg];rfl
  have tb:b.regs.take (i+1)=b.regs.take i++[b.regs[i]]:=by rw[X7,hgb];rfl
  have hxf:Br a.regs[i].ls:=hd.rgs _ (X5 c5);generalize a.regs[i]=x at hg ta hxf;generalize b.regs[i]=y at hgb tb;by_cases hxy:x=y
  ·have hc:=UJ x y;rw[Xf hxy]at hc;simp only[eZ,seval,W3,eY,lt_T c5,lt_T hltb,hg,hgb,e,Tsd,s2,CQ,Bm,W1 hxf,hc,tadd];exact .mk (i+1) rfl ⟨c5,by rw[ta,tb,c8,hxy]⟩ zo
  ·have hR:decide (a=b)=false:=X9 λq=>hxy (by rw[q]at hg;rw[hg]at hgb;exact Option.some.inj hgb)
   have hc:=UJ x y;rw[X9 hxy]at hc;rw[hR];simp only[eZ,seval,W7,eY,lt_T c5,lt_T hltb,hg,hgb,Tsd,s2,CQ,Bm,W1 hxf,hc,tadd]
 obtain rfl:i=a.regs.length:=zo
 have b_regs:a.regs=b.regs:=by rw[X4,l2,X4]at c8;exact c8
 simp only[eZ,seval,W0,lt_F c5];clear hi c8 hfl c5;refine AL (λi:Nat=>⟨[(2,true,.ptr 0 0),(3,true,.ptr 1 0),(7,true,.int .i64 i)],hset (hset hnil 0 (.box (AH a))) 1 (.box (AH b)),3⟩) (λi=>i<=a.clus.length/\a.clus.take i=b.clus.take i) (λi=>a.clus.length-i) 0 rfl ⟨Wz _,rfl⟩ ?_;rintro i ⟨hi,c8⟩;have hfl:a.clus.length<1000000000:=hd.cl;by_cases c5:i<a.clus.length
 ·have hltb:i<b.clus.length:=zo
  have hg:=W2 c5;have hgb:=W2 hltb;have e:=AE (k:=i) zo;have ta:a.clus.take (i+1)=a.clus.take i++[a.clus[i]]:=by rw[X7,hg];rfl
  have tb:b.clus.take (i+1)=b.clus.take i++[b.clus[i]]:=by rw[X7,hgb];rfl
  generalize a.clus[i]=x at hg ta;generalize b.clus[i]=y at hgb tb;by_cases hxy:x=y
  ·have hc:=I3 x y;rw[Xf hxy]at hc;simp only[eZ,seval,W3,eY,lt_T c5,lt_T hltb,hg,hgb,e,hc,cfit];exact .mk (i+1) rfl ⟨c5,by rw[ta,tb,c8,hxy]⟩ zo
  ·have hR:decide (a=b)=false:=X9 λq=>hxy (by rw[q]at hg;rw[hg]at hgb;exact Option.some.inj hgb)
   have hc:=I3 x y;rw[X9 hxy]at hc;rw[hR];simp only[eZ,seval,W7,eY,lt_T c5,lt_T hltb,hg,hgb,hc,cfit]
 obtain rfl:i=a.clus.length:=zo
 have b_clus:a.clus=b.clus:=by rw[X4,l3,X4]at c8;exact c8
 simp only[eZ,seval,W0,lt_F c5];clear hi c8 hfl c5;refine AL (λi:Nat=>⟨[(2,true,.ptr 0 0),(3,true,.ptr 1 0),(8,true,.int .i64 i)],hset (hset hnil 0 (.box (AH a))) 1 (.box (AH b)),3⟩) (λi=>i<=a.ruls.length/\a.ruls.take i=b.ruls.take i) (λi=>a.ruls.length-i) 0 rfl ⟨Wz _,rfl⟩ ?_;rintro i ⟨hi,c8⟩;have hfl:a.ruls.length<1000000000:=hd.ru;by_cases c5:i<a.ruls.length
 ·have hltb:i<b.ruls.length:=zo
  have hg:=W2 c5;have hgb:=W2 hltb;have e:=AE (k:=i) zo;have ta:a.ruls.take (i+1)=a.ruls.take i++[a.ruls[i]]:=by rw[X7,hg];rfl
  have tb:b.ruls.take (i+1)=b.ruls.take i++[b.ruls[i]]:=by rw[X7,hgb];rfl
  have hxf:Fo a.ruls[i]:=hd.rus _ (X5 c5);generalize a.ruls[i]=x at hg ta hxf;generalize b.ruls[i]=y at hgb tb;by_cases hxy:x=y
  ·simp only[eZ,seval,W3,eY,lt_T c5,lt_T hltb,hg,hgb,e,Tsd,s2,Bf,A6,W1 hxf,BA hxy,tadd];exact .mk (i+1) rfl ⟨c5,by rw[ta,tb,c8,hxy]⟩ zo
  ·have hR:decide (a=b)=false:=X9 λq=>hxy (by rw[q]at hg;rw[hg]at hgb;exact Option.some.inj hgb)
   rw[hR];simp only[eZ,seval,W7,eY,lt_T c5,lt_T hltb,hg,hgb,Tsd,s2,Bf,A6,W1 hxf,Aw hxy,tadd]
 obtain rfl:i=a.ruls.length:=zo
 have b_ruls:a.ruls=b.ruls:=by rw[X4,l4,X4]at c8;exact c8
 have hR:decide (a=b)=true:=Xf (by
  cases a;cases b;simp only at a1 a2 a3 a4 a5 a6 b_syms b_regs b_clus b_ruls;subst a1 a2 a3 a4 a5 a6 b_syms b_regs b_clus b_ruls;rfl)
 rw[hR];simp only[eZ,seval,W0,lt_F c5]
def p124(l:List Int)(x:Int)(hl:few l):Pur prog 124 [eIs l,.int .i64 x] (.bool (l.contains x)):=by
 refine .mk ⟨AR 0 _,trivial,trivial⟩ trivial (c124.a (AF AI.tnil (AG ?_)));have m9:l.length<1000000000:=hl;simp only[eE,eN,seval,c124];refine AL (λi:Nat=>⟨[(0,true,eIs l),(1,true,.int .i64 x),(5,true,.int .i64 i)],hnil,0⟩) (λi=>i<=l.length/\l.contains x=(l.drop i).contains x) (λi=>l.length-i) 0 rfl ⟨Wz _,rfl⟩ ?_;rintro i ⟨hi,hc⟩;by_cases c5:i<l.length
 ·have hg:=W2 c5;have e:=AE (k:=i) zo;rw[Xj c5,List.contains_cons]at hc;generalize l[i]=y at hg hc;by_cases hy:y=x
  ·have hR:l.contains x=true:=by rw[hc,hy];simp
   rw[hR];simp only[eZ,seval,eY,lt_T c5,hg,BA hy]
  ·have hy':(x==y)=false:=beq_eq_false_iff_ne.2 λq=>hy q.symm
   rw[hy',Y3]at hc;simp only[eZ,seval,eY,lt_T c5,hg,e,Aw hy];exact .mk (i+1) rfl ⟨c5,hc⟩ zo
 obtain rfl:i=l.length:=zo
 rw[Xv]at hc;rw[hc];simp only[eZ,seval,W0,lt_F c5];rfl
def Tin:Tab:=tadd 124 (s2 dIs dI (λl _=>few l) λl x=>.bool (l.contains x)) tnil
def O9:AI prog Tin:=AI.tnil.add (q2 p124)
def hosL(holes:List Int)(k:Nat):List Int:=((List.range k).map λ(i:Nat)=>(i:Int)).filter λp=>holes.contains p
def PA(holes:List Int)(k:Nat):hosL holes (k+1)=if holes.contains (k:Int)then hosL holes k++[(k:Int)]else hosL holes k:=by
 unfold hosL;rw[Y4,X2,Yr];cases h:holes.contains (k:Int)<;>simp only[Xh,Xp,XA,Zs,h,XG,Xo,Xd,Xn]
def U5(holes:List Int)(k:Nat):(hosL holes k).length<=k:=by
 have:=XU (λp=>holes.contains p) ((List.range k).map λ(i:Nat)=>(i:Int));simpa [hosL]using this
structure VMh where
 i:Nat
 last:Int
structure VMm where
 k:Nat
 t1:jz
 t2:jz
 H:AC
 n:Nat
structure IMr(sh w h:Int)(holes:List Int)(m:Nat)(v:VMm):Prop where
 hk:v.k<=m
 hn:8<=v.n
 fr:AQ v.H v.n
 h0:hget v.H 0=some (.box [z0,z0,z0,zs,zs])
 h6:hget v.H 6=some (.box [.int .i64 sh,.int .i64 w,.int .i64 h,.sl v.t1 ((hosL holes v.k).map eI),.sl v.t2 ((posL holes v.k).map eI)])
 tok1:tkG 1 7 v.H v.t1
 tok2:tkG 1 7 v.H v.t2
 dj:∀i,v.t1= .own i 1->v.t2≠ .own i 1
 es1:v.t1.esz=1\/hosL holes v.k=[]
 es2:v.t2.esz=1\/posL holes v.k=[]
def p87(sh w h:Int)(holes:List Int)(hl:few holes):Pur prog 87 [.int .i64 sh,.int .i64 w,.int .i64 h,eIs holes] (BK sh w h holes):=by
 refine .mk ⟨trivial,trivial,trivial,AR 0 _,trivial⟩ (Hp sh w h holes) (c87.a (AF O9 (AG ?_)));have m9:holes.length<1000000000:=hl;by_cases hc:(sh=1\/sh=2)/\1<=w/\w<=16/\1<=h/\h<=16;case neg=>
  have hn:BK sh w h holes= .tup [encG 0 0 0 [] [],.int .i64 130]:=by
   unfold BK Ai;rw[W6 λq=>hc ⟨q.1,q.2.1,q.2.2.1,q.2.2.2.1,q.2.2.2.2.1⟩]
  have hb:(!decide (sh=1)&& !decide (sh=2)||decide (w<1)||decide (16<w)||decide (h<1)||decide (16<h))=true:=by
   rw[<-Zc];intro q;simp only[Yx,Zf,YZ,W8,Ya]at q;exact hc zo
  rw[hn];simp only[eZ,seval,BH,c87,hb];exact wk_G (Wk.sl (.inr rfl)) (Wk.sl (.inr rfl))
 have hb:(!decide (sh=1)&& !decide (sh=2)||decide (w<1)||decide (16<w)||decide (h<1)||decide (16<h))=false:=by
  simp only[Yx,Zf,YZ,W8,Ya];omega
 obtain⟨hsh,hw1,hw2,hh1,hh2⟩:=hc;obtain⟨p1,p2⟩:=Wg hw1 hw2 hh1 hh2;have hwh:IntKind.wrap .i64 (w*h)=w*h:=An zo zo;have i8:(Bq (-1) holes&&holes.all λp=>decide (p<w*h))=false->BK sh w h holes= .tup [encG 0 0 0 [] [],.int .i64 130]:=λq=>by
  unfold BK Ai;rw[W6];intro z;rw[z.2.2.2.2.2.2.1,z.2.2.2.2.2.2.2]at q;cases q
 simp only[eZ,seval,c87,hb];refine AL (λv:VMh=>⟨[(0,true,.int .i64 sh),(1,true,.int .i64 w),(2,true,.int .i64 h),(3,true,eIs holes),(8,true,.ptr 0 0),(10,true,.int .i64 v.i)],hset hnil 0 (.box [z0,z0,z0,zs,zs]),2⟩)
  (λv=>v.i<=holes.length/\(Bq (-1) holes&&holes.all λp=>decide (p<w*h))=(Bq v.last (holes.drop v.i)&&(holes.drop v.i).all λp=>decide (p<w*h))/\(v.i=0->v.last= -1)/\∀j,v.i=j+1->holes[j]?=some v.last/\0<=v.last) (λv=>holes.length-v.i)
  ⟨0,-1⟩ rfl ⟨Wz _,rfl,λ_=>rfl,λj q=>by cases q⟩ ?_
 rintro⟨i,last⟩ ⟨hi,he,hz,hs⟩;simp only at hi he hz hs;by_cases c5:i<holes.length
 ·have hg:=W2 c5;have e:=AE (k:=i) zo;rw[Xj c5,Bq,YA]at he;generalize holes[i]=x at hg he;have hnext:last<x/\x<w*h->(Bq (-1) holes&&holes.all λp=>decide (p<w*h))=(Bq x (holes.drop (i+1))&&(holes.drop (i+1)).all λp=>decide (p<w*h)):=λq=>by
   rw[he,Xf q.1,Xf q.2];simp
  have hstop:¬(last<x/\x<w*h)->(Bq (-1) holes&&holes.all λp=>decide (p<w*h))=false:=λq=>by
   rw[he,<-Zk];intro z;simp only[W5,W8]at z;exact q ⟨z.1.1,z.2.1⟩
  cases i with
  |zero=>
   have hl1:=hz rfl;have h0l:((0:Int)<(holes.length:Int))=True:=W1 zo;have e1:IntKind.wrap .i64 ((0:Int)+1)=1:=zd
   by_cases i4:last<x/\x<w*h
   ·have hd:(decide (x<0)||decide (w*h<=x))=false:=by simp;omega
    simp only[eZ,seval,eY,h0l,hg,e1,hwh,hd];refine .mk ⟨1,x⟩ rfl ⟨c5,hnext i4,(λq=>by cases q),λj q=>?_⟩ zp;have q':1=j+1:=q;have:j=0:=zo
    subst this;exact⟨hg,zp⟩
   ·have hd:(decide (x<0)||decide (w*h<=x))=true:=by simp;omega
    rw[i8 (hstop i4)];simp only[eZ,seval,W3,eY,BH,h0l,hg,hwh,hd];exact wk_G (Wk.sl (.inr rfl)) (Wk.sl (.inr rfl))
  |succ j=>
   obtain⟨hgl,hl0⟩:=hs j rfl;have am:j<holes.length:=zo
   have ej:IntKind.wrap .i64 (((j+1:Nat):Int)-1)=(j:Int):=by rw[An zo zo];omega
   by_cases i4:last<x/\x<w*h
   ·have hd:(decide (x<0)||decide (w*h<=x))=false:=by simp;omega
    have hd2:(x<=last)=False:=W4 zo;simp only[eZ,seval,eY,lt_T c5,hg,e,hwh,hd,cS1,ej,lt_T am,hgl,hd2];refine .mk ⟨j+2,x⟩ rfl ⟨c5,hnext i4,(λq=>by cases q),λj' q=>?_⟩ zp;have q':j+2=j'+1:=q;have:j'=j+1:=zo
    subst this;exact⟨hg,zp⟩
   ·by_cases hd:(decide (x<0)||decide (w*h<=x))=true
    ·rw[i8 (hstop i4)];simp only[eZ,seval,W3,eY,BH,lt_T c5,hg,hwh,hd];exact wk_G (Wk.sl (.inr rfl)) (Wk.sl (.inr rfl))
    ·have hd:(decide (x<0)||decide (w*h<=x))=false:=by simpa using hd
     have hd':=hd;simp only[Yx,Ya]at hd';have hd2:(x<=last)=True:=W1 zo;rw[i8 (hstop i4)];simp only[eZ,seval,eY,BH,lt_T c5,hg,hwh,hd,cS1,ej,lt_T am,hgl,hd2];exact wk_G (Wk.sl (.inr rfl)) (Wk.sl (.inr rfl))
 obtain rfl:i=holes.length:=zo
 rw[Xv]at he;have he':(Bq (-1) holes&&holes.all λp=>decide (p<w*h))=true:=he;obtain⟨hr1,hr2⟩:=(W5 _ _).mp he';obtain⟨r1,r2⟩:=Eu.1 hr1;have l8:∀x∈holes,0<=x/\x<w*h:=λx hx=>⟨by have:=r1 x hx;omega,Xu (X8.1 hr2 x hx)⟩
 obtain⟨m,hm⟩:∃m:Nat,w*h=(m:Int):=⟨(w*h).toNat,zo⟩;have hmt:(w*h).toNat=m:=zo
 have hwm:IntKind.wrap .i64 (m:Int)=m:=by rw[<-hm];exact hwh
 have hHos:hosL holes m=holes:=by
  have:=Rk l8 r2;unfold Bu at this;rw[hmt]at this;exact this
 have hC:Ai sh w h holes=if posL holes m≠[]then some (posL holes m)else none:=by
  rw[<-Rh];unfold Rg;have ep:((Bu (w*h)).filter λp=>!holes.contains p)=posL holes m:=by unfold Bu posL;rw[hmt]
  rw[ep];by_cases q:posL holes m=[]
  ·rw[W6 λz=>z.2.2.2.2.2.2.2 q,W6 (λz=>z q)]
  ·rw[X0 ⟨hsh,hw1,hw2,hh1,hh2,l8,r2,q⟩,X0 q]
 simp only[eZ,seval,W0,lt_F c5,hm,AN];refine AL (λv:VMm=>⟨[(1,true,.int .i64 w),(2,true,.int .i64 h),(3,true,eIs holes),(8,true,.ptr 0 0),(11,true,.ptr 6 0),(12,true,.int .i64 v.k)],v.H,v.n⟩) (IMr sh w h holes m) (λv=>m-v.k)
  ⟨0,.nil,.nil,hset (hset hnil 0 (.box [z0,z0,z0,zs,zs])) 6 (.box [.int .i64 sh,.int .i64 w,.int .i64 h,zs,zs]),8⟩ rfl ⟨Wz _,W9 _,(AQ.nil.hset (m:=8) (Wz 8) (show 0<8 by decide)).hset (W9 8) (show 6<8 by decide),rfl,rfl,.inl rfl,.inl rfl,λi q=>(by cases q),.inr rfl,.inr rfl⟩ ?_
 rintro⟨k,t1,t2,H,n⟩ ⟨hk,hn,c7,h0,h6,i9,m4,hdj,hes1,hes2⟩;simp only at hk hn c7 h0 h6 i9 m4 hdj hes1 hes2;by_cases hlt2:k<m
 ·have e:=AE (k:=k) zo;have hps:=K8 holes k;have hhs:=PA holes k;have s8:=Rs holes k;have hhl:=U5 holes k;have y0:∀j,(n+j=6)=False:=λj=>W4 zo
  have y1:∀j,(n+j=0)=False:=λj=>W4 zo
  cases hin2:holes.contains (k:Int)with
  |true=>
   rw[hin2,X0 rfl]at hps hhs;have q1:A8 H 1 t1=True:=W1 i9.app;have q2:((hosL holes k).length<=35184372088831)=True:=W1 zo;have q3:Aj ((hosL holes k).length+1) 8=True:=W1 (AZ zo zd);have kx:hget (AP H t1) 6=some (.box [.int .i64 sh,.int .i64 w,.int .i64 h,.sl t1 ((hosL holes k).map eI),.sl t2 ((posL holes k).map eI)]):=by rw[AW i9 (.inl zo)];exact h6
   simp only[eZ,seval,W0,hwm,hm,lt_T hlt2,Tin,s2,Ad,AY,A0,Ah,W1 hl,hin2,e,h6,q1,q2,q3,fr1 c7,kx,y0,tadd];have hdn:∀i,((.own (n+4) 1:jz)= .own i 1)->(t2:jz)≠ .own i 1:=λi q z=>by
    cases q;rcases m4 with h|h|⟨id,h,-,h'⟩<;>rw[h]at z<;>cases z
    rw[fr1 c7 4]at h';cases h'
   refine .mk ⟨k+1,.own (n+4) 1,t2,hset (hset (AP H t1) (n+4) .tok) 6 (.box [.int .i64 sh,.int .i64 w,.int .i64 h,.sl (.own (n+4) 1) ((hosL holes (k+1)).map eI),.sl t2 ((posL holes (k+1)).map eI)]),n+7⟩ ?_ ⟨hlt2,zp,((AU i9 c7).hset (m:=n+7) zo zo).hset (W9 (n+7)) (show 6<n+7 by omega),?_,AB ..,.inr (.inr ⟨n+4,rfl,zo,by rw[AA _ _ _ _ zo];exact AB ..⟩),(((m4.kill i9 (λi q z=>hdj i z q)).set (.inr (.inr (K0 i9 (fr1 c7 4))))).set (.inl zo)),hdn,.inl rfl,by simp only[hps];exact hes2⟩ zp
   ·simp only[hps,hhs,X2];rfl
   ·simp only[];rw[AA _ _ _ _ zo,AA _ _ _ _ zo,AW i9 (.inl zo)];exact h0
  |false=>
   rw[hin2,W6 zd]at hps hhs;have q1:A8 H 1 t2=True:=W1 m4.app;have q2:((posL holes k).length<=35184372088831)=True:=W1 zo;have q3:Aj ((posL holes k).length+1) 8=True:=W1 (AZ zo zd);have kx:hget (AP H t2) 6=some (.box [.int .i64 sh,.int .i64 w,.int .i64 h,.sl t1 ((hosL holes k).map eI),.sl t2 ((posL holes k).map eI)]):=by rw[AW m4 (.inl zo)];exact h6
   simp only[eZ,seval,W0,hwm,hm,lt_T hlt2,Tin,s2,Ad,AY,A0,Ah,W1 hl,hin2,e,h6,q1,q2,q3,fr1 c7,kx,y0,tadd];have hdn:∀i,((t1:jz)= .own i 1)->(.own (n+4) 1:jz)≠ .own i 1:=λi q z=>by
    cases z;rcases i9 with h|h|⟨id,h,-,h'⟩<;>rw[h]at q<;>cases q
    rw[fr1 c7 4]at h';cases h'
   refine .mk ⟨k+1,t1,.own (n+4) 1,hset (hset (AP H t2) (n+4) .tok) 6 (.box [.int .i64 sh,.int .i64 w,.int .i64 h,.sl t1 ((hosL holes (k+1)).map eI),.sl (.own (n+4) 1) ((posL holes (k+1)).map eI)]),n+7⟩ ?_ ⟨hlt2,zp,((AU m4 c7).hset (m:=n+7) zo zo).hset (W9 (n+7)) (show 6<n+7 by omega),?_,AB ..,(((i9.kill m4 (λi q=>hdj i q)).set (.inr (.inr (K0 m4 (fr1 c7 4))))).set (.inl zo)),.inr (.inr ⟨n+4,rfl,zo,by rw[AA _ _ _ _ zo];exact AB ..⟩),hdn,by simp only[hhs];exact hes1,.inl rfl⟩ zp
   ·simp only[hps,hhs,X2];rfl
   ·simp only[];rw[AA _ _ _ _ zo,AA _ _ _ _ zo,AW m4 (.inl zo)];exact h0
 obtain rfl:k=m:=zo
 by_cases hp0:posL holes k=[]
 ·have hM:BK sh w h holes= .tup [encG 0 0 0 [] [],.int .i64 130]:=by unfold BK;rw[hC,W6 (λz=>z hp0)]
  have hl0:(((posL holes k).length:Int)=0)=True:=W1 (by rw[hp0];rfl);rw[hM];simp only[eZ,seval,BH,W0,hwm,hm,lt_F hlt2,h6,h0,hl0];exact wk_G (Wk.sl (.inr rfl)) (Wk.sl (.inr rfl))
 ·have hM:BK sh w h holes= .tup [encG sh w h holes (posL holes k),.int .i64 0]:=by unfold BK;rw[hC,X0 hp0]
  have hl0:(((posL holes k).length:Int)=0)=False:=W4 (λq=>hp0 (XZ.1 zo));rw[hM];simp only[eZ,seval,BH,W0,hwm,hm,lt_F hlt2,h6,h0,hl0];rw[hHos]at hes1⊢;exact wk_G (Wk.sl (hes1.imp id λq=>by rw[q];rfl)) (Wk.sl (hes2.imp id λq=>by rw[q];rfl))
def sMk:List Fs->AC->Prop×Fs:=λa H=>match a with
 |[.int .i64 sh,.int .i64 w,.int .i64 h,x]=>(dIs.ok x/\few (dIs.dec x),BK sh w h (dIs.dec x))
 |_=>(False,.tup [])
def qMk:∀args H n,(sMk args H).1->Am prog 87 args H n (sMk args H).2:=by
 intro args H n hh;unfold sMk at hh⊢;split at hh
 ·obtain⟨h1,h2⟩:=hh;refine AO.args ((p87 _ _ _ _ h2).quiet H n) ?_;rintro g vs ⟨v,r,rfl,k1,w,r',rfl,k2,u,r2,rfl,k3,z,r3,rfl,k4,k5⟩;exact⟨v,_,rfl,k1,w,_,rfl,k2,u,_,rfl,k3,z,_,rfl,dIs.wk _ h1 _ _ k4,k5⟩
 ·exact hh.elim
def Tck:Tab:=tadd 87 sMk (tadd 130 (s2 dIs dIs (λa _=>few a) λa b=>.bool (decide (a=b))) tnil)
def Tck_ok:AI prog Tck:=(AI.tnil.add (q2 p130)).add qMk
theorem U6(sh w h:Int)(x:Fs)(H:AC):Tck 87 [.int .i64 sh,.int .i64 w,.int .i64 h,x] H=(dIs.ok x/\few (dIs.dec x),BK sh w h (dIs.dec x)):=rfl
theorem Tck_s(a:List Fs)(H:AC):Tck 130 a H=s2 dIs dIs (λa _=>few a) (λa b=>.bool (decide (a=b))) a H:=rfl
def p125(g:j9)(hh:few g.holes):Pur prog 125 [B0 g] (chkV g):=by
 refine .mk ⟨Aq 0 ..,trivial⟩ trivial (c125.a (AF Tck_ok (AG ?_)));unfold chkV grOK;cases hc:Ai g.sh g.w g.h g.holes with
 |none=>
  have hv:BK g.sh g.w g.h g.holes= .tup [encG 0 0 0 [] [],.int .i64 130]:=by unfold BK;rw[hc]
  simp only[eZ,seval,W3,W7,eY,c125,U6,Ad,AY,W1 hh,hv]
 |some c=>
  have hv:BK g.sh g.w g.h g.holes= .tup [encG g.sh g.w g.h g.holes c,.int .i64 0]:=by unfold BK;rw[hc]
  have hfc:few c:=show c.length<_ by have:=(Ax hc).2.1;omega
  by_cases hcc:c=g.cells
  ·have hR:decide (some c=some g.cells)=true:=Xf (by rw[hcc]);rw[hR];simp only[eZ,seval,W3,eY,c125,U6,Tck_s,s2,Ad,AY,W1 hh,hv,W1 hfc,BA hcc]
  ·have hR:decide (some c=some g.cells)=false:=X9 (λq=>hcc (Option.some.inj q));rw[hR];simp only[eZ,seval,W3,W7,eY,c125,U6,Tck_s,s2,Ad,AY,W1 hh,hv,W1 hfc,Aw hcc]
def atV(cells:List Int)(p:Int):Fs:=if cells.contains p=true then .tup [.int .i64 (lowB cells p),.bool true]else .tup [.int .i64 0,.bool false]
def p129(g:j9)(p:Int)(hf:few g.cells)(hs:List.Pairwise (λx y=>x<y) g.cells):Pur prog 129 [B0 g,.int .i64 p] (atV g.cells p):=by
 refine .mk ⟨Aq 0 ..,trivial,trivial⟩ (by unfold atV;split<;>exact⟨trivial,trivial,trivial⟩) (c129.a (AF AI.tnil (AG ?_)));have m9:g.cells.length<1000000000:=hf;simp only[eE,eN,seval,c129];refine AL (λi:Nat=>⟨[(1,true,.int .i64 p),(2,true,.ptr 0 0),(6,true,.int .i64 i)],hset hnil 0 (.box (AD g.sh g.w g.h g.holes g.cells)),3⟩) (λi=>i<=g.cells.length/\g.cells.contains p=(g.cells.drop i).contains p) (λi=>g.cells.length-i) 0 rfl ⟨Wz _,rfl⟩ ?_;rintro i ⟨hi,hc⟩;by_cases c5:i<g.cells.length
 ·have hg:=W2 c5;have e:=AE (k:=i) zo;have hlow:=Rl hs c5;rw[Xj c5,List.contains_cons]at hc;generalize g.cells[i]=y at hg hc hlow;by_cases hy:y=p
  ·have hR:atV g.cells p= .tup [.int .i64 i,.bool true]:=by unfold atV;rw[X0 (by rw[hc,hy];simp),<-hy,hlow]
   rw[hR];simp only[eZ,seval,eY,lt_T c5,hg,BA hy];exact Wk.refl _
  ·have hy':(p==y)=false:=beq_eq_false_iff_ne.2 λq=>hy q.symm
   rw[hy',Y3]at hc;simp only[eZ,seval,eY,lt_T c5,hg,e,Aw hy];exact .mk (i+1) rfl ⟨c5,hc⟩ zo
 obtain rfl:i=g.cells.length:=zo
 rw[Xv]at hc;have hR:atV g.cells p= .tup [.int .i64 0,.bool false]:=by unfold atV;rw[W6 (by rw[hc];simp)]
 rw[hR];simp only[eZ,seval,W0,lt_F c5];exact Wk.refl _
def Trr:Tab:=tadd 125 (s1 dGd (λg=>few g.holes) chkV) (tadd 129 (s2 dGd dI (λg _=>few g.cells/\List.Pairwise (λx y=>x<y) g.cells) λg p=>atV g.cells p) Tin)
def PB:AI prog Trr:=(O9.add (q2 λg p h=>p129 g p h.1 h.2)).add (q1 p125)
theorem Trr_c(a:List Fs)(H:AC):Trr 125 a H=s1 dGd (λg=>few g.holes) chkV a H:=rfl
theorem U7(a:List Fs)(H:AC):Trr 129 a H=s2 dGd dI (λg _=>few g.cells/\List.Pairwise (λx y=>x<y) g.cells) (λg p=>atV g.cells p) a H:=rfl
theorem Trr_i(a:List Fs)(H:AC):Trr 124 a H=s2 dIs dI (λl _=>few l) (λl x=>.bool (l.contains x)) a H:=rfl
structure IRj(g:j9)(x:List Int)(H0:AC)(n0:Nat)(v:VRi):Prop where
 hj:v.j<=x.length
 hn:n0<=v.n
 fr:AQ v.H v.n
 hk:∀id,id<n0->hget v.H id=hget H0 id
 tok:tkG 1 n0 v.H v.tc
 es:v.tc.esz=1\/v.j=0
 sub:∀q∈x.take v.j,q∈g.cells
 eq:F8 g.cells [] x=F8 g.cells (x.take v.j) (x.drop v.j)
 nd:(x.take v.j).Nodup
def p90(g:j9)(lists:List (List Int))(hG:Ai g.sh g.w g.h g.holes=some g.cells)(hh:few g.holes)(hl:Br lists):Pur prog 90 [B0 g,eLl lists] (rgsV g.cells lists):=by
 refine .mk ⟨Aq 0 ..,Ak 0 _,trivial⟩ (by unfold rgsV;split<;>exact⟨Ak 0 _,trivial,trivial⟩) (c90.a (AF PB (AG ?_)));obtain⟨hr1,hr2,hr3⟩:=Ax hG;have hfc:few g.cells:=show g.cells.length<_ by omega
 have hgo:grOK g.sh g.w g.h g.holes g.cells=true:=by unfold grOK;rw[hG];simp
 have m9:lists.length<1000000000:=hl.1;by_cases h64:64<lists.length
 ·have hv:rgsV g.cells lists= .tup [eLl [],.int .i64 130]:=by unfold rgsV;rw[W6];simp;omega
  have l64:((64:Int)<(lists.length:Int))=True:=W1 zo;rw[hv];simp only[eZ,seval,W3,W0,c90,Trr_c,s1,E5,Cx,W1 hh,hgo,l64];exact Wk.tup (.cons (Wk.sl (.inr rfl)) (.cons (Wk.refl _) .nil))
 have l64:((64:Int)<(lists.length:Int))=False:=W4 zo;simp only[eZ,seval,W3,W0,c90,Trr_c,s1,E5,Cx,W1 hh,hgo,l64];have i8:lists.all (De g.cells)=false->rgsV g.cells lists= .tup [eLl [],.int .i64 130]:=λq=>by unfold rgsV;rw[q,YW,W6 zd]
 refine AL (λv:VRg=>⟨[(1,true,eLl lists),(2,true,.ptr 0 0),(6,true,.sl v.tl v.E),(7,true,.int .i64 v.i)],v.H,v.n⟩) (IRg g lists) (λv=>lists.length-v.i)
  ⟨0,[],.nil,hset hnil 0 (.box (AD g.sh g.w g.h g.holes g.cells)),3⟩ rfl ⟨Wz _,W9 _,AQ.nil.hset (m:=3) (Wz 3) (show 0<3 by decide),rfl,.inl rfl,.inr rfl,.nil,rfl⟩ ?_
 rintro⟨i,E,tl,H,n⟩ hI;have hi:=hI.hi;have hn:=hI.hn;have c7:=hI.fr;have h0:=hI.h0;have c8:=hI.tok;have d8:=hI.es;have hE:=hI.hE;have heq:=hI.eq;simp only at hi hn c7 h0 c8 d8 hE heq;by_cases c5:i<lists.length;case neg=>
  have i7:i=lists.length:=zo
  subst i7;rw[Xv]at heq;rw[X4]at hE;have hv:rgsV g.cells lists= .tup [eLl (lists.map (BP g.cells)),.int .i64 0]:=by
   unfold rgsV;rw[heq,X0];simp;omega
  rw[hv];simp only[eZ,seval,W0,lt_F c5];exact Wk.tup (.cons (Wk.slx d8 hE) (.cons (Wk.refl _) .nil))
 have hg:=W2 c5;have e:=AE (k:=i) zo;have hxf:=hl.2 _ (X5 c5);have hxe:=map_take (f:=BP g.cells) c5;rw[Xj c5,YA]at heq;generalize hx:lists[i]=x at hg hxf heq hxe;have hxl:x.length<1125899906842624:=hxf;simp only[eZ,seval,W0,lt_T c5];refine AL (λv:VRi=>⟨[(1,true,eLl lists),(2,true,.ptr 0 0),(6,true,.sl tl E),(7,true,.int .i64 i),(8,true,.sl v.tc ((BP g.cells (x.take v.j)).map eI)),(9,true,.int .i64 v.j)],v.H,v.n⟩)
  (IRj g x H n) (λv=>x.length-v.j) ⟨0,.nil,H,n⟩ rfl ⟨Wz _,W9 _,c7,λid d7=>rfl,.inl rfl,.inr rfl,λq hq=>by(simp at hq),rfl,zw⟩ ?_
 rintro⟨j,tc,H1,n1⟩ ⟨hj,l5,hf1,hk,htc,hec,hsub,hme,hnd⟩;simp only at hj l5 hf1 hk htc hec hsub hme hnd;have hj256:j<=256:=by
  have:=Hr hnd hsub;rw[Xg]at this;omega
 have l9:hget H1 0=some (.box (AD g.sh g.w g.h g.holes g.cells)):=by rw[hk 0 zo];exact h0
 by_cases hlj:j<x.length
 ·have hgj:=W2 hlj;have ej:=AE (k:=j) zo;have htx:=map_take (f:=λp=>(lowB g.cells p:Int)) hlj;have htk2:x.take (j+1)=x.take j++[x[j]]:=by rw[X7,hgj];rfl
  rw[Xj hlj,F8]at hme;have hlen:(BP g.cells (x.take j)).length=j:=by rw[Fp,Xg];omega
  have hcf:few (BP g.cells (x.take j)):=show(BP g.cells (x.take j)).length<_ by omega
  generalize hp:x[j]=p at hgj htx htk2 hme;have i5:(g.cells.contains p&& !(x.take j).contains p)=false->rgsV g.cells lists= .tup [eLl [],.int .i64 130]:=λq=>i8 (by
   rw[heq,Ev,hme,q];simp)
  cases l8:g.cells.contains p with
  |false=>
   have hat:atV g.cells p= .tup [.int .i64 0,.bool false]:=by unfold atV;rw[l8,W6 zd]
   rw[i5 (by rw[l8];rfl)];simp only[eZ,seval,W3,W7,eY,lt_T c5,hg,lt_T hlj,hgj,l9,U7,s2,E5,Cx,A0,Ah,W1 hfc,W1 hr1,hat];exact Wk.tup (.cons (Wk.sl (.inr rfl)) (.cons (Wk.refl _) .nil))
  |true=>
   have hat:atV g.cells p= .tup [.int .i64 (lowB g.cells p),.bool true]:=by unfold atV;rw[l8,X0 rfl]
   have hpm:p∈g.cells:=Xs.1 l8;have hcm:=NU hr1 hsub hpm;have htcok:dIs.ok (.sl tc ((BP g.cells (x.take j)).map eI))=True:=W1 ⟨hec.imp id λq=>by rw[q];rfl,by rw[As]⟩;have htcdec:dIs.dec (.sl tc ((BP g.cells (x.take j)).map eI))=BP g.cells (x.take j):=As _;cases hmt:(x.take j).contains p with
   |true=>
    rw[i5 (by rw[l8,hmt];rfl)];rw[hmt]at hcm;simp only[eZ,seval,W3,eY,lt_T c5,hg,lt_T hlj,hgj,l9,U7,Trr_i,s2,E5,Cx,A0,Ah,htcok,htcdec,W1 hfc,W1 hr1,W1 hcf,hat,hcm];exact Wk.tup (.cons (Wk.sl (.inr rfl)) (.cons (Wk.refl _) .nil))
   |false=>
    rw[hmt]at hcm;have q1:A8 H1 1 tc=True:=W1 htc.app;have q2:(j<=35184372088831)=True:=W1 zo;have q3:Aj (j+1) 8=True:=W1 (AZ zo zd);simp only[eZ,seval,W3,eY,lt_T c5,hg,lt_T hlj,hgj,l9,U7,Trr_i,s2,E5,Cx,A0,Ah,htcok,htcdec,W1 hfc,W1 hr1,W1 hcf,hat,hcm,ej,q1,q2,q3,hlen,fr1 hf1];have v7:BP g.cells (x.take (j+1))=BP g.cells (x.take j)++[(lowB g.cells p:Int)]:=htx;refine .mk ⟨j+1,.own (n1+3) 1,hset (AP H1 tc) (n1+3) .tok,n1+5⟩ ?_ ⟨hlj,zp,(AU htc hf1).hset (m:=n1+5) zo zo,λid d7=>?_,.inr (.inr ⟨n1+3,rfl,zo,AB ..⟩),.inl rfl,λq hq=>?_,?_,?_⟩ zp
    ·rw[v7,X2];rfl
    ·simp only[];rw[AA _ _ _ _ zo,AW htc (.inl d7)];exact hk id d7
    ·simp only[htk2]at hq;rcases XO.1 hq with q1|q1
     ·exact hsub q q1
     ·rw[XR.1 q1];exact hpm
    ·simp only[];rw[htk2,hme,l8,hmt];rfl
    ·simp only[];rw[htk2,Yj];refine⟨hnd,zw,λa ha b hb e=>?_⟩;rw[XR]at hb;subst hb;subst e;rw[Xs.2 ha]at hmt;cases hmt
 have hj':j=x.length:=zo
 subst hj';rw[Xv,X4]at hme;have hlx:(BP g.cells (x.take x.length)).length=x.length:=by rw[Fp,X4]
 by_cases hx0:x.length=0
 ·have i5:rgsV g.cells lists= .tup [eLl [],.int .i64 130]:=i8 (by rw[heq,Ev,hx0];simp);rw[i5];simp only[eZ,seval,eY,lt_T c5,hg,lt_F hlj,hlx,BA (show((x.length:Nat):Int)=0 by omega)];exact Wk.tup (.cons (Wk.sl (.inr rfl)) (.cons (Wk.refl _) .nil))
 have hEl:E.length<=64:=by
  have:=hE.len;simp only[W0,Xg]at this;omega
 have i9:tkG 1 1 H1 tl:=by
  rcases c8 with rfl|rfl|⟨id,rfl,h1,h2⟩
  ·exact .inl rfl
  ·exact .inr (.inl rfl)
  ·exact .inr (.inr ⟨id,rfl,h1,by rw[hk id (c7.lt h2)];exact h2⟩)
 have q1:A8 H1 1 tl=True:=W1 i9.app;have q2:(E.length<=35184372088831)=True:=W1 zo;have q3:Aj (E.length+1) 24=True:=W1 (AZ zo zd);simp only[eZ,seval,eY,lt_T c5,hg,lt_F hlj,hlx,Aw (show ¬((x.length:Nat):Int)=0 by omega),e,q1,q2,q3,fr1 hf1];refine .mk ⟨i+1,E++[.sl tc ((BP g.cells x).map eI)],.own (n1+3) 1,hset (AP H1 tl) (n1+3) .tok,n1+5⟩ ?_ ⟨c5,zp,(AU i9 hf1).hset (m:=n1+5) zo zo,?_,.inr (.inr ⟨n1+3,rfl,zo,AB ..⟩),.inl rfl,?_,?_⟩ zp
 ·rw[X4]
 ·simp only[];rw[AA _ _ _ _ zo,AW i9 (.inl zo)];exact l9
 ·simp only[];rw[hxe,X2];exact hE.app (.cons (Wk.sl (hec.imp id λq=>by rw[XZ.1 q];rfl)) .nil)
 ·simp only[];have i4:De g.cells x=true:=by rw[Ev,hme];simp [F8];omega
  rw[heq,i4,Yc]
def Gf{α:Type}{p:α->Bool}{l:List α}{i:Nat}(h:i<l.length):(l.drop i).all p=(p l[i]&&(l.drop (i+1)).all p):=by
 rw[Xj h,YA]
def p165(a b:List Int)(ha:few a)(hb:few b):Pur prog 165 [eIs a,eIs b] (.bool (Cm a b)):=by
 refine .mk ⟨AR 0 _,AR 0 _,trivial⟩ trivial (c165.a (AF O9 (AG ?_)));have hal:a.length<1000000000:=ha;have hbl:b.length<1000000000:=hb;simp only[eE,eN,seval,c165];refine AL (λi:Nat=>⟨[(0,true,eIs a),(1,true,eIs b),(5,true,.int .i64 i)],hnil,0⟩) (λi=>i<=a.length/\(a.all λx=>b.contains x)=((a.drop i).all λx=>b.contains x)) (λi=>a.length-i) 0 rfl ⟨Wz _,rfl⟩ ?_;rintro i ⟨hi,hc⟩;by_cases c5:i<a.length
 ·have hg:=W2 c5;have e:=AE (k:=i) zo;rw[Gf c5]at hc;generalize a[i]=x at hg hc;cases hx:b.contains x with
  |false=>
   have hR:Cm a b=false:=by unfold Cm;rw[hc,hx];simp
   rw[hR];simp only[eZ,seval,W7,eY,lt_T c5,hg,Tin,s2,Ad,AY,A0,Ah,W1 hb,hx,tadd]
  |true=>
   rw[hx,Yc]at hc;simp only[eZ,seval,W3,eY,lt_T c5,hg,e,Tin,s2,Ad,AY,A0,Ah,W1 hb,hx,tadd];exact .mk (i+1) rfl ⟨c5,hc⟩ zo
 obtain rfl:i=a.length:=zo
 rw[Xv]at hc;have hc:(a.all λx=>b.contains x)=true:=hc;simp only[eZ,seval,W0,lt_F c5];refine AL (λi:Nat=>⟨[(0,true,eIs a),(1,true,eIs b),(6,true,.int .i64 i)],hnil,0⟩) (λi=>i<=b.length/\(b.all λx=>a.contains x)=((b.drop i).all λx=>a.contains x)) (λi=>b.length-i) 0 rfl ⟨Wz _,rfl⟩ ?_;rintro i ⟨hi2,hc2⟩;by_cases hlt2:i<b.length
 ·have hg:=W2 hlt2;have e:=AE (k:=i) zo;rw[Gf hlt2]at hc2;generalize b[i]=x at hg hc2;cases hx:a.contains x with
  |false=>
   have hR:Cm a b=false:=by unfold Cm;rw[hc2,hx];simp
   rw[hR];simp only[eZ,seval,W7,eY,lt_T hlt2,hg,Tin,s2,Ad,AY,A0,Ah,W1 ha,hx,tadd]
  |true=>
   rw[hx,Yc]at hc2;simp only[eZ,seval,W3,eY,lt_T hlt2,hg,e,Tin,s2,Ad,AY,A0,Ah,W1 ha,hx,tadd];exact .mk (i+1) rfl ⟨hlt2,hc2⟩ zo
 obtain rfl:i=b.length:=zo
 rw[Xv]at hc2;have hc2:(b.all λx=>a.contains x)=true:=hc2;have hR:Cm a b=true:=by unfold Cm;rw[hc,hc2];rfl
 rw[hR];simp only[eZ,seval,W0,lt_F hlt2]
def Tzr:Tab:=tadd 90 (s2 dGd dLl (λg l=>Ai g.sh g.w g.h g.holes=some g.cells/\few g.holes/\Br l) λg l=>rgsV g.cells l) (tadd 165 (s2 dIs dIs (λa b=>few a/\few b) λa b=>.bool (Cm a b)) tnil)
def Tzr_ok:AI prog Tzr:=(AI.tnil.add (q2 λa b h=>p165 a b h.1 h.2)).add (q2 λg l h=>p90 g l h.1 h.2.1 h.2.2)
def p121(d:zk)(g:j9)(hd:qk d)(hG:Ai g.sh g.w g.h g.holes=some g.cells)(hh:few g.holes):Pur prog 121 [encD d,B0 g] (.int .i64 (C7 g.cells d.regs)):=by
 refine .mk ⟨Ab 0 d,Aq 0 ..,trivial⟩ trivial (c121.a (AF Tzr_ok (AG ?_)));have hrl:d.regs.length<1000000000:=hd.rg;simp only[eE,eN,seval,c121];refine AL (λi:Nat=>⟨[(2,true,.ptr 0 0),(3,true,.ptr 1 0),(5,true,.int .i64 i)],hset (hset hnil 0 (.box (AH d))) 1 (.box (AD g.sh g.w g.h g.holes g.cells)),3⟩) (λi=>i<=d.regs.length/\C7 g.cells d.regs=C7 g.cells (d.regs.drop i)) (λi=>d.regs.length-i)
  0 rfl ⟨Wz _,rfl⟩ ?_
 rintro i ⟨hi,heq⟩;by_cases c5:i<d.regs.length;case neg=>
  obtain rfl:i=d.regs.length:=zo
  rw[Xv]at heq;rw[heq];simp only[eZ,seval,W0,lt_F c5];rfl
 have hg:=W2 c5;have e:=AE (k:=i) zo;have hrf:MQ d.regs[i]:=hd.rgs _ (X5 c5);rw[K5 _ _ _ c5]at heq;generalize d.regs[i]=r at hg hrf heq;have hc:=W1 (⟨hG,hh,hrf⟩:Ai g.sh g.w g.h g.holes=some g.cells/\few g.holes/\Br r.ls);by_cases hb:(decide (r.ls.length<=64)&&r.ls.all (De g.cells))=true;case neg=>
  have hv:rgsV g.cells r.ls= .tup [eLl [],.int .i64 130]:=W6 hb;have hE:regE g.cells r=130:=X0 (by simpa using hb);rw[hE,W6 zd]at heq;rw[heq];simp only[eZ,seval,W7,eY,lt_T c5,hg,Tzr,s2,E5,Cx,CQ,Bm,hc,hv,tadd]
 have hv:rgsV g.cells r.ls= .tup [eLl (r.ls.map (BP g.cells)),.int .i64 0]:=X0 hb;have hregE:regE g.cells r=if Bo r.ls=true then 161 else 0:=by unfold regE;rw[hb,W6 zd]
 have m9:r.ls.length<1000000000:=hrf.1;have hfw:∀l∈r.ls,few l:=λl hl=>by
  obtain⟨q1,-,q3⟩:=Ei (X8.1 ((W5 _ _).mp hb).2 _ hl);have h1:=Hr q1 q3;have h2:=(Ax hG).2.1;show l.length<_;omega
 simp only[eZ,seval,W3,eY,lt_T c5,hg,Tzr,s2,E5,Cx,CQ,Bm,hc,hv,tadd];refine AL (λa:Nat=>⟨[(2,true,.ptr 0 0),(3,true,.ptr 1 0),(5,true,.int .i64 i),(6,true,eLl r.ls),(9,true,.int .i64 a)],hset (hset hnil 0 (.box (AH d))) 1 (.box (AD g.sh g.w g.h g.holes g.cells)),3⟩) (λa=>a<=r.ls.length/\∀x y (hx:x<r.ls.length) (hy:y<r.ls.length),x<a->y<x->Cm r.ls[x] r.ls[y]=false) (λa=>r.ls.length-a)
  0 rfl ⟨Wz _,λx y _ _ q=>absurd q (XK _)⟩ ?_
 rintro a ⟨ha,i5⟩;by_cases hla:a<r.ls.length
 ·have hga:=W2 hla;have ea:=AE (k:=a) zo;have hfa:few r.ls[a]:=hfw _ (X5 hla);simp only[eZ,seval,W0,lt_T hla];refine AL (λb:Nat=>⟨[(2,true,.ptr 0 0),(3,true,.ptr 1 0),(5,true,.int .i64 i),(6,true,eLl r.ls),(9,true,.int .i64 a),(10,true,.int .i64 b)],hset (hset hnil 0 (.box (AH d))) 1 (.box (AD g.sh g.w g.h g.holes g.cells)),3⟩) (λb=>b<=a/\∀y (hy:y<r.ls.length),y<b->Cm r.ls[a] r.ls[y]=false) (λb=>a-b)
   0 rfl ⟨Wz _,λy _ q=>absurd q (XK _)⟩ ?_
  rintro b ⟨k9,t6⟩;by_cases hlb:b<a
  ·have hbl:b<r.ls.length:=zo
   have hgb:=W2 hbl;have eb:=AE (k:=b) zo;have hfb:few r.ls[b]:=hfw _ (X5 hbl);cases hal:Cm r.ls[a] r.ls[b]with
   |true=>
    rw[hregE,X0 (Fi.2 ⟨a,b,hla,hbl,hlb,hal⟩),W6 zd]at heq;rw[heq];generalize r.ls[a]=la at hga hfa hal;generalize r.ls[b]=lb at hgb hfb hal;simp only[eZ,seval,eY,lt_T hlb,lt_T hla,lt_T hbl,hga,hgb,Tzr,s2,Ad,AY,W1 hfa,W1 hfb,hal,tadd]
   |false=>
    have hnx:∀y (hy:y<r.ls.length),y<b+1->Cm r.ls[a] r.ls[y]=false:=λy hy q=>by
     by_cases z:y=b
     ·subst z;exact hal
     ·exact t6 y hy zo
    generalize hA:r.ls[a]=la at hga hfa hal;generalize hB:r.ls[b]=lb at hgb hfb hal;simp only[eZ,seval,eY,lt_T hlb,lt_T hla,lt_T hbl,hga,hgb,Tzr,s2,Ad,AY,W1 hfa,W1 hfb,hal,eb,tadd];exact .mk (b+1) rfl ⟨hlb,λy hy q=>by rw[<-hA];exact hnx y hy q⟩ zo
  obtain rfl:b=a:=zo
  simp only[eZ,seval,lt_F hlb,ea];refine .mk (b+1) rfl ⟨hla,λx y hx hy q1 q2=>?_⟩ zo;by_cases z:x=b
  ·subst z;exact t6 y hy q2
  ·exact i5 x y hx hy zo q2
 obtain rfl:a=r.ls.length:=zo
 have hpt:Bo r.ls=false:=by
  cases q:Bo r.ls with
  |false=>rfl
  |true=>
   obtain⟨x,y,hx,hy,hxy,h2⟩:=Fi.1 q;rw[i5 x y hx hy hx hxy]at h2;cases h2
 have hE0:regE g.cells r=0:=by rw[hregE,hpt];rfl
 rw[hE0,X0 rfl]at heq;simp only[eZ,seval,W0,lt_F hla,e];exact .mk (i+1) rfl ⟨c5,heq⟩ zo
def p167(c:qw):Pur prog 167 [B7 c] (.bool (Dl c)):=by
 refine .mk ⟨EC 0 c,trivial⟩ trivial (c167.a (AF AI.tnil (AG ?_)));unfold Dl;by_cases h1:c.ty=1
 ·simp only[eZ,seval,c167,h1]
 by_cases h2:c.ty=2
 ·simp only[eZ,seval,c167,h2]
 by_cases h3:c.ty=3
 ·simp only[eZ,seval,c167,h3];rw[show(decide (1<=c.fam)&&decide (c.fam<=3)||decide (8<=c.fam))=(decide (c.fam=1)||decide (c.fam=2)||decide (c.fam=3)||decide (8<=c.fam))by
   rw[Xc];simp;omega]
 simp only[eZ,seval,c167,h1,h2,h3]
def p231(d:zk)(r:qz)(w:Int)(on:Bool):Pur prog 231 [encD d,BV r,.int .i64 w,.bool on] (.bool (C8 d.clus r w on)):=by
 refine .mk ⟨Ab 0 d,Ar 0 r,trivial,trivial,trivial⟩ trivial (c231.a (AF AI.tnil (AG ?_)));by_cases hc:r.clue<0\/(d.clus.length:Int)<=r.clue
 ·have o9:(decide (r.clue<0)||decide ((d.clus.length:Int)<=r.clue))=true:=by simpa using hc
  have hP:C8 d.clus r w on=false:=by unfold C8;rw[X0 hc]
  rw[hP];simp only[eZ,seval,W0,c231,o9]
 ·have o9:(decide (r.clue<0)||decide ((d.clus.length:Int)<=r.clue))=false:=by simp;omega
  obtain⟨j,hj⟩:∃j:Nat,r.clue=(j:Int):=⟨r.clue.toNat,zo⟩;have am:j<d.clus.length:=zo
  have hg:=W2 am;generalize d.clus[j]=c at hg;have hP:C8 d.clus r w on=(decide (c.ty=w)&&(!on||decide (c.fam=r.fam))):=by
   unfold C8;(rw[W6 hc,hj,X1,hg])<;>rfl
  rw[hP];rw[hj]at o9;cases on
  ·simp only[eZ,seval,W3,W7,eY,c231,hj,o9,lt_T am,hg]
  ·simp only[eZ,seval,W3,eY,c231,hj,o9,lt_T am,hg]
def sCl:List Fs->AC->Prop×Fs:=λa H=>match a with
 |[x,y,.int .i64 w,.bool on]=>(dD.ok x/\dRu.ok y,.bool (C8 (dD.dec x).clus (dRu.dec y) w on))
 |_=>(False,.tup [])
def qCl:∀args H n,(sCl args H).1->Am prog 231 args H n (sCl args H).2:=by
 intro args H n hh;unfold sCl at hh⊢;split at hh
 ·obtain⟨h1,h2⟩:=hh;refine AO.args ((p231 _ _ _ _).quiet H n) ?_;rintro g vs ⟨v,r,rfl,k1,w,r',rfl,k2,k3⟩;exact⟨v,_,rfl,dD.wk _ h1 _ _ k1,w,_,rfl,dRu.wk _ h2 _ _ k2,k3⟩
 ·exact hh.elim
def Tzc:Tab:=tadd 231 sCl tnil
def UK:AI prog Tzc:=AI.tnil.add qCl
theorem Tzc_e(x y:Fs)(w:Int)(on:Bool)(H:AC):Tzc 231 [x,y,.int .i64 w,.bool on] H=(dD.ok x/\dRu.ok y,.bool (C8 (dD.dec x).clus (dRu.dec y) w on)):=rfl
def p230(d:zk)(r:qz):Pur prog 230 [encD d,BV r] (.bool (EJ d.clus r)):=by
 refine .mk ⟨Ab 0 d,Ar 0 r,trivial⟩ trivial (c230.a (AF UK (AG ?_)));unfold EJ;by_cases ho:r.op<1\/3<r.op
 ·have hb:(decide (r.op<1)||decide (3<r.op))=true:=by simpa using ho
  rw[X0 ho];simp only[eZ,seval,c230,hb]
 have hb:(decide (r.op<1)||decide (3<r.op))=false:=by simp;omega
 rw[W6 ho];by_cases hn:r.byN=[]
 ·rw[X0 hn];simp only[eZ,seval,c230,hb,A3,BA hn]
 ·rw[W6 hn];simp only[eZ,seval,c230,hb,A3,Aw hn,Tzc_e,A7,Al,Bf,A6]
def sndA:q9->q9
 | .seq _ b=>b
 |c=>c
def sndN:Nat->q9->q9
 |0,c=>c
 |k+1,c=>sndN k (sndA c)
def putN:Nat->q9->q9->q9
 |0,_,R=>R
 |k+1,.seq a b,R=>.seq a (putN k b R)
 |_+1,c,_=>c
def Tru:Tab:=tadd 230 (s2 dD dRu any2 λd r=>.bool (EJ d.clus r)) Tzc
def Tru_ok:AI prog Tru:=UK.add (q2 λd r _=>p230 d r)
theorem SO(a:List Fs)(H:AC):Tru 230 a H=s2 dD dRu any2 (λd r=>.bool (EJ d.clus r)) a H:=rfl
theorem SP(x y:Fs)(w:Int)(on:Bool)(H:AC):Tru 231 [x,y,.int .i64 w,.bool on] H=(dD.ok x/\dRu.ok y,.bool (C8 (dD.dec x).clus (dRu.dec y) w on)):=rfl
def rstR(cl:List qw)(r:qz)(on set oth num by' lim:Bool):Bool:=
 if(!on&&(decide (r.on≠[])||decide (r.fam≠0)))||(!set&&(decide (0<r.ns.length)||decide (r.set≠0)))||(!oth&&(decide (0<r.os.length)||decide (r.oth≠0)))then false
 else if(on&&decide (r.on=[]))||(set&&decide (r.set=0))||(oth&&decide (r.oth=0))then false
 else if !lim&&(decide (r.op≠0)||(!num&&decide (r.n≠0))||(!by'&&(decide (r.byN≠[])||decide (r.clue≠ -1))))then false
 else if(lim&& !EJ cl r)||(num&&(decide (r.n<0)||decide (65536<r.n)))then false
 else if r.kind=5 then C8 cl r 3 true
 else if r.kind=11 then C8 cl r 1 false else true
theorem SQ:c166=putN 8 c166 (sndN 8 c166):=rfl
def rr1(d:zk)(r:qz)(on set oth num by' lim:Bool)(X:List (Nat×Bool×Fs))(hA1:(!on&&(!decide (r.on=[])|| !decide (r.fam=0))|| !set&&(decide (0<r.ns.length)|| !decide (r.set=0))|| !oth&&(decide (0<r.os.length)|| !decide (r.oth=0)))=true):evK prog Tru (sndN 8 c166) [] (C5 [.t 4] (Ret (.bool (false))))
  ⟨(2,true,.ptr 0 0)::(3,true,.ptr 1 0)::(5,true,.bool on)::(6,true,.bool set)::(7,true,.bool oth)::(8,true,.bool num)::(9,true,.bool by')::(10,true,.bool lim)::X,hset (hset hnil 0 (.box (AH d))) 1 (.box (BQ r)),3⟩:=by
 have e1:∀(l:List Bs),decide ((0:Int)<(l.length:Int))=decide (0<l.length):=λl=>by
  rw[Xc,W8,W8];omega
 simp only[eZ,seval,W0,c166,sndN,sndA,Ap,e1,hA1]
def rr2(d:zk)(r:qz)(on set oth num by' lim:Bool)(X:List (Nat×Bool×Fs))(hA1:(!on&&(!decide (r.on=[])|| !decide (r.fam=0))|| !set&&(decide (0<r.ns.length)|| !decide (r.set=0))|| !oth&&(decide (0<r.os.length)|| !decide (r.oth=0)))=false)(hA2:(on&&decide (r.on=[])||set&&decide (r.set=0)||oth&&decide (r.oth=0))=true):evK prog Tru (sndN 8 c166) [] (C5 [.t 4] (Ret (.bool (false))))
  ⟨(2,true,.ptr 0 0)::(3,true,.ptr 1 0)::(5,true,.bool on)::(6,true,.bool set)::(7,true,.bool oth)::(8,true,.bool num)::(9,true,.bool by')::(10,true,.bool lim)::X,hset (hset hnil 0 (.box (AH d))) 1 (.box (BQ r)),3⟩:=by
 have e1:∀(l:List Bs),decide ((0:Int)<(l.length:Int))=decide (0<l.length):=λl=>by
  rw[Xc,W8,W8];omega
 simp only[eZ,seval,W0,c166,sndN,sndA,Ap,A3,e1,hA1,hA2]
def rr3(d:zk)(r:qz)(on set oth num by':Bool)(X:List (Nat×Bool×Fs))(hA1:(!on&&(!decide (r.on=[])|| !decide (r.fam=0))|| !set&&(decide (0<r.ns.length)|| !decide (r.set=0))|| !oth&&(decide (0<r.os.length)|| !decide (r.oth=0)))=false)(hA2:(on&&decide (r.on=[])||set&&decide (r.set=0)||oth&&decide (r.oth=0))=false)(hA3:(!decide (r.op=0)|| !num&& !decide (r.n=0)|| !by'&&(!decide (r.byN=[])|| !decide (r.clue= -1)))=true):evK prog Tru (sndN 8 c166) [] (C5 [.t 4] (Ret (.bool (false))))
  ⟨(2,true,.ptr 0 0)::(3,true,.ptr 1 0)::(5,true,.bool on)::(6,true,.bool set)::(7,true,.bool oth)::(8,true,.bool num)::(9,true,.bool by')::(10,true,.bool false)::X,hset (hset hnil 0 (.box (AH d))) 1 (.box (BQ r)),3⟩:=by
 have e1:∀(l:List Bs),decide ((0:Int)<(l.length:Int))=decide (0<l.length):=λl=>by
  rw[Xc,W8,W8];omega
 simp only[eZ,seval,W7,W0,c166,sndN,sndA,Ap,A3,e1,hA1,hA2,hA3]
def rr4a(d:zk)(r:qz)(on set oth num by':Bool)(X:List (Nat×Bool×Fs))(hA1:(!on&&(!decide (r.on=[])|| !decide (r.fam=0))|| !set&&(decide (0<r.ns.length)|| !decide (r.set=0))|| !oth&&(decide (0<r.os.length)|| !decide (r.oth=0)))=false)(hA2:(on&&decide (r.on=[])||set&&decide (r.set=0)||oth&&decide (r.oth=0))=false)(hb:(!EJ d.clus r||num&&(decide (r.n<0)||decide (65536<r.n)))=true):evK prog Tru (sndN 8 c166) [] (C5 [.t 4] (Ret (.bool (false))))
  ⟨(2,true,.ptr 0 0)::(3,true,.ptr 1 0)::(5,true,.bool on)::(6,true,.bool set)::(7,true,.bool oth)::(8,true,.bool num)::(9,true,.bool by')::(10,true,.bool true)::X,hset (hset hnil 0 (.box (AH d))) 1 (.box (BQ r)),3⟩:=by
 have e1:∀(l:List Bs),decide ((0:Int)<(l.length:Int))=decide (0<l.length):=λl=>by
  rw[Xc,W8,W8];omega
 simp only[eZ,seval,W3,W0,c166,sndN,sndA,Ap,A3,e1,hA1,hA2,Tru,s2,A7,Al,Bf,A6,hb,tadd]
def rr4b(d:zk)(r:qz)(on set oth num by':Bool)(X:List (Nat×Bool×Fs))(hA1:(!on&&(!decide (r.on=[])|| !decide (r.fam=0))|| !set&&(decide (0<r.ns.length)|| !decide (r.set=0))|| !oth&&(decide (0<r.os.length)|| !decide (r.oth=0)))=false)(hA2:(on&&decide (r.on=[])||set&&decide (r.set=0)||oth&&decide (r.oth=0))=false)(hb:(!EJ d.clus r||num&&(decide (r.n<0)||decide (65536<r.n)))=false)(h5:r.kind=5):evK prog Tru (sndN 8 c166) [] (C5 [.t 4] (Ret (.bool (C8 d.clus r 3 true))))
  ⟨(2,true,.ptr 0 0)::(3,true,.ptr 1 0)::(5,true,.bool on)::(6,true,.bool set)::(7,true,.bool oth)::(8,true,.bool num)::(9,true,.bool by')::(10,true,.bool true)::X,hset (hset hnil 0 (.box (AH d))) 1 (.box (BQ r)),3⟩:=by
 have e1:∀(l:List Bs),decide ((0:Int)<(l.length:Int))=decide (0<l.length):=λl=>by
  rw[Xc,W8,W8];omega
 simp only[eZ,seval,W3,W0,c166,sndN,sndA,Ap,A3,e1,hA1,hA2,SO,SP,s2,A7,Al,Bf,A6,hb,BA h5]
def rr4c(d:zk)(r:qz)(on set oth num by':Bool)(X:List (Nat×Bool×Fs))(hA1:(!on&&(!decide (r.on=[])|| !decide (r.fam=0))|| !set&&(decide (0<r.ns.length)|| !decide (r.set=0))|| !oth&&(decide (0<r.os.length)|| !decide (r.oth=0)))=false)(hA2:(on&&decide (r.on=[])||set&&decide (r.set=0)||oth&&decide (r.oth=0))=false)(hb:(!EJ d.clus r||num&&(decide (r.n<0)||decide (65536<r.n)))=false)(h5:¬r.kind=5)(h11:r.kind=11):evK prog Tru (sndN 8 c166) [] (C5 [.t 4] (Ret (.bool (C8 d.clus r 1 false))))
  ⟨(2,true,.ptr 0 0)::(3,true,.ptr 1 0)::(5,true,.bool on)::(6,true,.bool set)::(7,true,.bool oth)::(8,true,.bool num)::(9,true,.bool by')::(10,true,.bool true)::X,hset (hset hnil 0 (.box (AH d))) 1 (.box (BQ r)),3⟩:=by
 have e1:∀(l:List Bs),decide ((0:Int)<(l.length:Int))=decide (0<l.length):=λl=>by
  rw[Xc,W8,W8];omega
 simp only[eZ,seval,W3,W0,c166,sndN,sndA,Ap,A3,e1,hA1,hA2,SO,SP,s2,A7,Al,Bf,A6,hb,Aw h5,W1 h11]
def rr4d(d:zk)(r:qz)(on set oth num by':Bool)(X:List (Nat×Bool×Fs))(hA1:(!on&&(!decide (r.on=[])|| !decide (r.fam=0))|| !set&&(decide (0<r.ns.length)|| !decide (r.set=0))|| !oth&&(decide (0<r.os.length)|| !decide (r.oth=0)))=false)(hA2:(on&&decide (r.on=[])||set&&decide (r.set=0)||oth&&decide (r.oth=0))=false)(hb:(!EJ d.clus r||num&&(decide (r.n<0)||decide (65536<r.n)))=false)(h5:¬r.kind=5)(h11:¬r.kind=11):evK prog Tru (sndN 8 c166) [] (C5 [.t 4] (Ret (.bool (true))))
  ⟨(2,true,.ptr 0 0)::(3,true,.ptr 1 0)::(5,true,.bool on)::(6,true,.bool set)::(7,true,.bool oth)::(8,true,.bool num)::(9,true,.bool by')::(10,true,.bool true)::X,hset (hset hnil 0 (.box (AH d))) 1 (.box (BQ r)),3⟩:=by
 have e1:∀(l:List Bs),decide ((0:Int)<(l.length:Int))=decide (0<l.length):=λl=>by
  rw[Xc,W8,W8];omega
 simp only[eZ,seval,W3,W7,W0,c166,sndN,sndA,Ap,A3,e1,hA1,hA2,Tru,s2,A7,Al,Bf,A6,hb,Aw h5,W4 h11,tadd]
def rr5a(d:zk)(r:qz)(on set oth num by':Bool)(X:List (Nat×Bool×Fs))(hA1:(!on&&(!decide (r.on=[])|| !decide (r.fam=0))|| !set&&(decide (0<r.ns.length)|| !decide (r.set=0))|| !oth&&(decide (0<r.os.length)|| !decide (r.oth=0)))=false)(hA2:(on&&decide (r.on=[])||set&&decide (r.set=0)||oth&&decide (r.oth=0))=false)(hA3:(!decide (r.op=0)|| !num&& !decide (r.n=0)|| !by'&&(!decide (r.byN=[])|| !decide (r.clue= -1)))=false)(hb:(num&&(decide (r.n<0)||decide (65536<r.n)))=true):evK prog Tru (sndN 8 c166) [] (C5 [.t 4] (Ret (.bool (false))))
  ⟨(2,true,.ptr 0 0)::(3,true,.ptr 1 0)::(5,true,.bool on)::(6,true,.bool set)::(7,true,.bool oth)::(8,true,.bool num)::(9,true,.bool by')::(10,true,.bool false)::X,hset (hset hnil 0 (.box (AH d))) 1 (.box (BQ r)),3⟩:=by
 have e1:∀(l:List Bs),decide ((0:Int)<(l.length:Int))=decide (0<l.length):=λl=>by
  rw[Xc,W8,W8];omega
 simp only[eZ,seval,W7,W0,c166,sndN,sndA,Ap,A3,e1,hA1,hA2,hA3,Tru,s2,A7,Al,Bf,A6,hb,tadd]
def rr5b(d:zk)(r:qz)(on set oth num by':Bool)(X:List (Nat×Bool×Fs))(hA1:(!on&&(!decide (r.on=[])|| !decide (r.fam=0))|| !set&&(decide (0<r.ns.length)|| !decide (r.set=0))|| !oth&&(decide (0<r.os.length)|| !decide (r.oth=0)))=false)(hA2:(on&&decide (r.on=[])||set&&decide (r.set=0)||oth&&decide (r.oth=0))=false)(hA3:(!decide (r.op=0)|| !num&& !decide (r.n=0)|| !by'&&(!decide (r.byN=[])|| !decide (r.clue= -1)))=false)(hb:(num&&(decide (r.n<0)||decide (65536<r.n)))=false)(h5:r.kind=5):evK prog Tru (sndN 8 c166) [] (C5 [.t 4] (Ret (.bool (C8 d.clus r 3 true))))
  ⟨(2,true,.ptr 0 0)::(3,true,.ptr 1 0)::(5,true,.bool on)::(6,true,.bool set)::(7,true,.bool oth)::(8,true,.bool num)::(9,true,.bool by')::(10,true,.bool false)::X,hset (hset hnil 0 (.box (AH d))) 1 (.box (BQ r)),3⟩:=by
 have e1:∀(l:List Bs),decide ((0:Int)<(l.length:Int))=decide (0<l.length):=λl=>by
  rw[Xc,W8,W8];omega
 simp only[eZ,seval,W7,W0,c166,sndN,sndA,Ap,A3,e1,hA1,hA2,hA3,SO,SP,s2,A7,Al,Bf,A6,hb,BA h5]
def rr5c(d:zk)(r:qz)(on set oth num by':Bool)(X:List (Nat×Bool×Fs))(hA1:(!on&&(!decide (r.on=[])|| !decide (r.fam=0))|| !set&&(decide (0<r.ns.length)|| !decide (r.set=0))|| !oth&&(decide (0<r.os.length)|| !decide (r.oth=0)))=false)(hA2:(on&&decide (r.on=[])||set&&decide (r.set=0)||oth&&decide (r.oth=0))=false)(hA3:(!decide (r.op=0)|| !num&& !decide (r.n=0)|| !by'&&(!decide (r.byN=[])|| !decide (r.clue= -1)))=false)(hb:(num&&(decide (r.n<0)||decide (65536<r.n)))=false)(h5:¬r.kind=5)(h11:r.kind=11):evK prog Tru (sndN 8 c166) [] (C5 [.t 4] (Ret (.bool (C8 d.clus r 1 false))))
  ⟨(2,true,.ptr 0 0)::(3,true,.ptr 1 0)::(5,true,.bool on)::(6,true,.bool set)::(7,true,.bool oth)::(8,true,.bool num)::(9,true,.bool by')::(10,true,.bool false)::X,hset (hset hnil 0 (.box (AH d))) 1 (.box (BQ r)),3⟩:=by
 have e1:∀(l:List Bs),decide ((0:Int)<(l.length:Int))=decide (0<l.length):=λl=>by
  rw[Xc,W8,W8];omega
 simp only[eZ,seval,W3,W7,W0,c166,sndN,sndA,Ap,A3,e1,hA1,hA2,hA3,SO,SP,s2,A7,Al,Bf,A6,hb,Aw h5,W1 h11]
def rr5d(d:zk)(r:qz)(on set oth num by':Bool)(X:List (Nat×Bool×Fs))(hA1:(!on&&(!decide (r.on=[])|| !decide (r.fam=0))|| !set&&(decide (0<r.ns.length)|| !decide (r.set=0))|| !oth&&(decide (0<r.os.length)|| !decide (r.oth=0)))=false)(hA2:(on&&decide (r.on=[])||set&&decide (r.set=0)||oth&&decide (r.oth=0))=false)(hA3:(!decide (r.op=0)|| !num&& !decide (r.n=0)|| !by'&&(!decide (r.byN=[])|| !decide (r.clue= -1)))=false)(hb:(num&&(decide (r.n<0)||decide (65536<r.n)))=false)(h5:¬r.kind=5)(h11:¬r.kind=11):evK prog Tru (sndN 8 c166) [] (C5 [.t 4] (Ret (.bool (true))))
  ⟨(2,true,.ptr 0 0)::(3,true,.ptr 1 0)::(5,true,.bool on)::(6,true,.bool set)::(7,true,.bool oth)::(8,true,.bool num)::(9,true,.bool by')::(10,true,.bool false)::X,hset (hset hnil 0 (.box (AH d))) 1 (.box (BQ r)),3⟩:=by
 have e1:∀(l:List Bs),decide ((0:Int)<(l.length:Int))=decide (0<l.length):=λl=>by
  rw[Xc,W8,W8];omega
 simp only[eZ,seval,W3,W7,W0,c166,sndN,sndA,Ap,A3,e1,hA1,hA2,hA3,Tru,s2,A7,Al,Bf,A6,hb,Aw h5,W4 h11,tadd]
theorem PC(d:zk)(r:qz)(on set oth num by' lim:Bool)(X:List (Nat×Bool×Fs)):evK prog Tru (sndN 8 c166) [] (C5 [.t 4] (Ret (.bool (rstR d.clus r on set oth num by' lim))))
  ⟨(2,true,.ptr 0 0)::(3,true,.ptr 1 0)::(5,true,.bool on)::(6,true,.bool set)::(7,true,.bool oth)::(8,true,.bool num)::(9,true,.bool by')::(10,true,.bool lim)::X,hset (hset hnil 0 (.box (AH d))) 1 (.box (BQ r)),3⟩:=by
 unfold rstR;simp only[ne_eq,decide_not];cases hA1:(!on&&(!decide (r.on=[])|| !decide (r.fam=0))|| !set&&(decide (0<r.ns.length)|| !decide (r.set=0))|| !oth&&(decide (0<r.os.length)|| !decide (r.oth=0)))with
 |true=>rw[X0 rfl];exact rr1 d r on set oth num by' lim X hA1
 |false=>
 rw[W6 zd];cases hA2:(on&&decide (r.on=[])||set&&decide (r.set=0)||oth&&decide (r.oth=0))with
 |true=>rw[X0 rfl];exact rr2 d r on set oth num by' lim X hA1 hA2
 |false=>
 rw[W6 zd];cases lim with
 |true=>
  rw[W3,YC,W6 zd,Yc];cases hb:(!EJ d.clus r||num&&(decide (r.n<0)||decide (65536<r.n)))with
  |true=>rw[X0 rfl];exact rr4a d r on set oth num by' X hA1 hA2 hb
  |false=>
  rw[W6 zd];by_cases h5:r.kind=5
  ·rw[X0 h5];exact rr4b d r on set oth num by' X hA1 hA2 hb h5
  rw[W6 h5];by_cases h11:r.kind=11
  ·rw[X0 h11];exact rr4c d r on set oth num by' X hA1 hA2 hb h5 h11
  rw[W6 h11];exact rr4d d r on set oth num by' X hA1 hA2 hb h5 h11
 |false=>
  rw[W7,Yc,YC,Y3];cases hA3:(!decide (r.op=0)|| !num&& !decide (r.n=0)|| !by'&&(!decide (r.byN=[])|| !decide (r.clue= -1)))with
  |true=>rw[X0 rfl];exact rr3 d r on set oth num by' X hA1 hA2 hA3
  |false=>
  rw[W6 zd];cases hb:(num&&(decide (r.n<0)||decide (65536<r.n)))with
  |true=>rw[X0 rfl];exact rr5a d r on set oth num by' X hA1 hA2 hA3 hb
  |false=>
  rw[W6 zd];by_cases h5:r.kind=5
  ·rw[X0 h5];exact rr5b d r on set oth num by' X hA1 hA2 hA3 hb h5
  rw[W6 h5];by_cases h11:r.kind=11
  ·rw[X0 h11];exact rr5c d r on set oth num by' X hA1 hA2 hA3 hb h5 h11
  rw[W6 h11];exact rr5d d r on set oth num by' X hA1 hA2 hA3 hb h5 h11
def p166(d:zk)(r:qz):Pur prog 166 [encD d,BV r] (.bool (Eh d.clus r)):=by
 refine .mk ⟨Ab 0 d,Ar 0 r,trivial⟩ trivial (c166.a (AF Tru_ok (AG ?_)));have hrest:=PC d r;rw[SQ];rw[Wc];have y9:∀on set oth num by' lim rdb clue,Cu r.kind=⟨on,set,oth,lim,num,rdb,true,clue⟩->by'=decide (clue≠0)->Ix d.clus r=rstR d.clus r on set oth num by' lim:=λon set oth num by' lim rdb clue h q=>by
  subst q;unfold Ix rstR;rw[h];rfl
 by_cases hk:r.kind<1\/13<r.kind
 ·have hR:Ix d.clus r=false:=by
   have hkn:(Cu r.kind).knw=false:=by unfold Cu;repeat rw[W6 zo]
   unfold Ix;simp only[];rw[X0 hkn]
  have n1:(r.kind=1)=False:=W4 zo;have n2:(r.kind=2)=False:=W4 zo;have n3:(r.kind=3)=False:=W4 zo;have n4:(r.kind=4)=False:=W4 zo;have n5:(r.kind=5)=False:=W4 zo;have n6:(r.kind=6)=False:=W4 zo;have n7:(r.kind=7)=False:=W4 zo;have n8:(r.kind=8)=False:=W4 zo;have n9:(r.kind=9)=False:=W4 zo;have n10:(r.kind=10)=False:=W4 zo;have n11:(r.kind=11)=False:=W4 zo;have n12:(r.kind=12)=False:=W4 zo;have n13:(r.kind=13)=False:=W4 zo;rw[hR];generalize sndN 8 c166=R;simp only[eZ,seval,c166,putN,n1,n2,n3,n4,n5,n6,n7,n8,n9,n10,n11,n12,n13]
 generalize sndN 8 c166=R at hrest⊢;have l7:r.kind=1\/r.kind=2\/r.kind=3\/r.kind=4\/r.kind=5\/r.kind=6\/r.kind=7\/r.kind=8\/r.kind=9\/r.kind=10\/r.kind=11\/r.kind=12\/r.kind=13:=zo
 rcases l7 with l7|l7|l7|l7|l7|l7|l7|l7|l7|l7|l7|l7|l7
 all_goals
  rw[y9 _ _ _ _ _ _ _ _ (by rw[l7];rfl) rfl];simp only[eZ,seval,c166,putN,l7];exact hrest _ _ _ _ _ _ _
def Tfo:Tab:=tadd 166 (s2 dD dRu any2 λd r=>.bool (Eh d.clus r)) (tadd 167 (s1 dCl any1 λc=>.bool (Dl c)) tnil)
def Tfo_ok:AI prog Tfo:=(AI.tnil.add (q1 λc _=>p167 c)).add (q2 λd r _=>p166 d r)
def p122(d:zk)(hd:qk d):Pur prog 122 [encD d] (.bool (Bd d)):=by
 refine .mk ⟨Ab 0 d,trivial⟩ trivial (c122.a (AF Tfo_ok (AG ?_)));have hsl:d.syms.length<1000000000:=hd.sy;have hrl:d.ruls.length<1000000000:=hd.ru;have m7:d.clus.length<1000000000:=hd.cl;simp only[eE,eN,seval,c122];refine AL (λi:Nat=>⟨[(1,true,.ptr 0 0),(3,true,.int .i64 i)],hset hnil 0 (.box (AH d)),2⟩) (λi=>i<=d.syms.length/\(d.syms.all λs=>decide (0<=s.v)&&decide (s.v<=99))=((d.syms.drop i).all λs=>decide (0<=s.v)&&decide (s.v<=99))) (λi=>d.syms.length-i)
  0 rfl ⟨Wz _,rfl⟩ ?_
 rintro i ⟨hi,d6⟩;by_cases c5:i<d.syms.length
 ·have hg:=W2 c5;have e:=AE (k:=i) zo;rw[Gf c5]at d6;generalize d.syms[i]=s at hg d6;by_cases hs:0<=s.v/\s.v<=99
  ·have hb:(decide (s.v<0)||decide (99<s.v))=false:=by simp;omega
   simp only[eZ,seval,eY,lt_T c5,hg,e,hb];exact .mk (i+1) rfl ⟨c5,by rw[d6,BA hs.1,BA hs.2];rfl⟩ zo
  ·have hb:(decide (s.v<0)||decide (99<s.v))=true:=by simp;omega
   have hR:Bd d=false:=by
    unfold Bd;rw[d6,show(decide (0<=s.v)&&decide (s.v<=99))=false by simp;omega];rfl
   rw[hR];simp only[eZ,seval,eY,lt_T c5,hg,hb]
 obtain rfl:i=d.syms.length:=zo
 rw[Xv]at d6;simp only[eZ,seval,W0,lt_F c5];refine AL (λi:Nat=>⟨[(1,true,.ptr 0 0),(4,true,.int .i64 i)],hset hnil 0 (.box (AH d)),2⟩) (λi=>i<=d.ruls.length/\d.ruls.all (Eh d.clus)=(d.ruls.drop i).all (Eh d.clus)) (λi=>d.ruls.length-i)
  0 rfl ⟨Wz _,rfl⟩ ?_
 rintro k ⟨hk,i4⟩;by_cases s7:k<d.ruls.length
 ·have hg:=W2 s7;have e:=AE (k:=k) zo;rw[Gf s7]at i4;generalize d.ruls[k]=r at hg i4;cases hr:Eh d.clus r with
  |false=>
   have hR:Bd d=false:=by
    unfold Bd;rw[i4,hr];simp
   rw[hR];simp only[eZ,seval,W7,eY,lt_T s7,hg,Tfo,s2,A7,Al,Bf,A6,hr,tadd]
  |true=>
   rw[hr,Yc]at i4;simp only[eZ,seval,W3,eY,lt_T s7,hg,Tfo,s2,A7,Al,Bf,A6,hr,e,tadd];exact .mk (k+1) rfl ⟨s7,i4⟩ zo
 obtain rfl:k=d.ruls.length:=zo
 rw[Xv]at i4;simp only[eZ,seval,W0,lt_F s7];refine AL (λj:Nat=>⟨[(1,true,.ptr 0 0),(5,true,.int .i64 j)],hset hnil 0 (.box (AH d)),2⟩) (λi=>i<=d.clus.length/\∀j (h:j<d.clus.length),j<i->EB d.ruls j=1/\Dl d.clus[j]=true) (λi=>d.clus.length-i)
  0 rfl ⟨Wz _,λj h q=>absurd q (XK _)⟩ ?_
 rintro j ⟨hj,hal⟩;by_cases hlj:j<d.clus.length
 ·have hg:=W2 hlj;have ej:=AE (k:=j) zo;have i8:¬(EB d.ruls j=1/\Dl d.clus[j]=true)->Bd d=false:=λq=>by
   unfold Bd;rw[d6,i4];cases q1:((List.range d.clus.length).all λi=>decide (EB d.ruls i=1))with
   |false=>rfl
   |true=>
   cases q2:d.clus.all Dl with
   |false=>rfl
   |true=>exact absurd ⟨Xu (X8.1 q1 j (XH.2 hlj)),X8.1 q2 _ (X5 hlj)⟩ q
  have hnext:EB d.ruls j=1/\Dl d.clus[j]=true->∀q (h:q<d.clus.length),q<j+1->EB d.ruls q=1/\Dl d.clus[q]=true:=λz q h hq=>by
   by_cases w:q=j
   ·subst w;exact z
   ·exact hal q h zo
  generalize hx:d.clus[j]=x at hg i8 hnext;simp only[eZ,seval,W0,lt_T hlj];refine AL (λk:Nat=>⟨[(1,true,.ptr 0 0),(5,true,.int .i64 j),(6,true,.int .i64 (cntZ (d.ruls.take k) j)),(7,true,.int .i64 k)],hset hnil 0 (.box (AH d)),2⟩) (λk=>k<=d.ruls.length) (λk=>d.ruls.length-k)
   0 rfl (Wz _) ?_
  intro k hk;by_cases s7:k<d.ruls.length
  ·have hgk:=W2 s7;have ek:=AE (k:=k) zo;have c8:d.ruls.take (k+1)=d.ruls.take k++[d.ruls[k]]:=by rw[X7,W2 s7];rfl
   have hcle:=Ut (d.ruls.take k) (j:Int);rw[Xg]at hcle;have ew:=AE (k:=cntZ (d.ruls.take k) (j:Int)) zo;generalize d.ruls[k]=r at hgk c8;have hcn:=Rr (d.ruls.take k) r (j:Int);rw[<-c8]at hcn;by_cases hrc:r.clue=j
   ·rw[X0 hrc]at hcn;simp only[eZ,seval,eY,lt_T s7,hgk,ek,W1 hrc,ew];exact .mk (k+1) (by simp only[hcn]) s7 zo
   ·replace hcn:cntZ (d.ruls.take (k+1)) (j:Int)=cntZ (d.ruls.take k) (j:Int):=by rw[hcn,W6 hrc];rfl
    simp only[eZ,seval,eY,lt_T s7,hgk,ek,W4 hrc];exact .mk (k+1) (by simp only[hcn]) s7 zo
  obtain rfl:k=d.ruls.length:=zo
  have hmc0:cntZ d.ruls (j:Int)=EB d.ruls j:=NS _ _;by_cases hmc:EB d.ruls j=1
  ·have hmb:(((EB d.ruls j:Nat):Int)=1)=True:=W1 zo;cases hc:Dl x with
   |false=>
    rw[i8 (by rw[hc];simp)];simp only[eZ,seval,W3,W7,eY,lt_F s7,X4,hmc0,hmb,lt_T hlj,hg,Tfo,s1,Hj,FQ,hc,tadd]
   |true=>
    simp only[eZ,seval,W3,eY,lt_F s7,X4,hmc0,hmb,lt_T hlj,hg,Tfo,s1,Hj,FQ,hc,ej,tadd];exact .mk (j+1) rfl ⟨hlj,λq h z=>hnext ⟨hmc,hc⟩ q h z⟩ zo
  ·have hmb:(((EB d.ruls j:Nat):Int)=1)=False:=W4 zo;rw[i8 (λq=>hmc q.1)];simp only[eZ,seval,W3,W7,eY,lt_F s7,X4,hmc0,hmb]
 obtain rfl:j=d.clus.length:=zo
 have hR:Bd d=true:=by
  have z2:d.clus.all Dl=true:=X8.2 λq hq=>by
   obtain⟨m,hm,rfl⟩:=Xq.1 hq;exact(hal m hm hm).2
  unfold Bd;rw[d6,i4,X8.2 λq hq=>Xf (hal q (XH.1 hq) (XH.1 hq)).1,z2];rfl
 rw[hR];simp only[eZ,seval,W0,lt_F hlj]
def p117:Pur prog 117 [] (eSs Bt):=by
 refine .mk trivial (BT 0 _) (c117.a (AF AI.tnil (AG ?_)));simp only[eE,eN,seval,c117];exact Wk.sl (.inl rfl)
def numV(l:List Bs)(s:Bs):Fs:=match BF l s with
 |some i=>.tup [.int .i64 i,.bool true]
 |none=>.tup [.int .i64 0,.bool false]
def Fu(n:Nat)(l:List Bs)(s:Bs):(numV l s).under n:=by unfold numV;split<;>exact⟨trivial,trivial,trivial⟩
def JA{α:Type}(f:α->Bs){l:List α}{s:Bs}{i:Nat}(hi:i<l.length)(h:f l[i]=s)(hb:∀k (hk:k<l.length),k<i->¬f l[k]=s):BF (l.map f) s=some (i:Int):=by
 unfold BF;rw[XP.2 ⟨by simpa using hi,by simpa using h,λj hj=>by simpa using hb j zo hj⟩];rfl
def Gg{α:Type}(f:α->Bs){l:List α}{s:Bs}(hb:∀k (hk:k<l.length),¬f l[k]=s):BF (l.map f) s=none:=by
 rw[Be];intro h;obtain⟨y,hy,e⟩:=XB.1 h;obtain⟨k,hk,rfl⟩:=Xq.1 hy;exact hb k hk e
def p259(d:zk)(s:Bs)(hd:qk d):Pur prog 259 [encD d,.str s] (numV (d.syms.map (·.nm)) s):=by
 refine .mk ⟨Ab 0 d,trivial,trivial⟩ (Fu 0 _ _) (c259.a (AF AI.tnil (AG ?_)));have m9:d.syms.length<1000000000:=hd.sy;simp only[eE,eN,seval,c259];refine AL (λi:Nat=>⟨[(1,true,.str s),(2,true,.ptr 0 0),(6,true,.int .i64 i)],hset hnil 0 (.box (AH d)),3⟩) (λi=>i<=d.syms.length/\∀k (hk:k<d.syms.length),k<i->¬d.syms[k].nm=s) (λi=>d.syms.length-i)
  0 rfl ⟨Wz _,λk _ q=>absurd q (XK _)⟩ ?_
 rintro i ⟨hi,hb⟩;by_cases c5:i<d.syms.length
 ·have hg:=W2 c5;have e:=AE (k:=i) zo;have hhit:=λq=>JA (λx=>x.nm) (s:=s) c5 q hb
  have hnx:¬d.syms[i].nm=s->∀k (hk:k<d.syms.length),k<i+1->¬d.syms[k].nm=s:=λq k hk h=>by
   by_cases z:k=i
   ·subst z;exact q
   ·exact hb k hk zo
  generalize d.syms[i]=x at hg hhit hnx;by_cases hx:x.nm=s
  ·have hR:numV (d.syms.map (·.nm)) s= .tup [.int .i64 i,.bool true]:=by unfold numV;rw[hhit hx]
   rw[hR];simp only[eZ,seval,eY,lt_T c5,hg,A3,BA hx];exact Wk.refl _
  ·simp only[eZ,seval,eY,lt_T c5,hg,e,A3,Aw hx];exact .mk (i+1) rfl ⟨c5,hnx hx⟩ zo
 obtain rfl:i=d.syms.length:=zo
 have hR:numV (d.syms.map (·.nm)) s= .tup [.int .i64 0,.bool false]:=by unfold numV;rw[Gg _ λk hk=>hb k hk hk]
 rw[hR];simp only[eZ,seval,W0,lt_F c5];exact Wk.refl _
def p228(d:zk)(s:Bs)(hd:qk d):Pur prog 228 [encD d,.str s] (numV (d.clus.map (·.nm)) s):=by
 refine .mk ⟨Ab 0 d,trivial,trivial⟩ (Fu 0 _ _) (c228.a (AF AI.tnil (AG ?_)));have m9:d.clus.length<1000000000:=hd.cl;simp only[eE,eN,seval,c228];refine AL (λi:Nat=>⟨[(1,true,.str s),(2,true,.ptr 0 0),(6,true,.int .i64 i)],hset hnil 0 (.box (AH d)),3⟩) (λi=>i<=d.clus.length/\∀k (hk:k<d.clus.length),k<i->¬d.clus[k].nm=s) (λi=>d.clus.length-i)
  0 rfl ⟨Wz _,λk _ q=>absurd q (XK _)⟩ ?_
 rintro i ⟨hi,hb⟩;by_cases c5:i<d.clus.length
 ·have hg:=W2 c5;have e:=AE (k:=i) zo;have hhit:=λq=>JA (λx=>x.nm) (s:=s) c5 q hb
  have hnx:¬d.clus[i].nm=s->∀k (hk:k<d.clus.length),k<i+1->¬d.clus[k].nm=s:=λq k hk h=>by
   by_cases z:k=i
   ·subst z;exact q
   ·exact hb k hk zo
  generalize d.clus[i]=x at hg hhit hnx;by_cases hx:x.nm=s
  ·have hR:numV (d.clus.map (·.nm)) s= .tup [.int .i64 i,.bool true]:=by unfold numV;rw[hhit hx]
   rw[hR];simp only[eZ,seval,eY,lt_T c5,hg,A3,BA hx];exact Wk.refl _
  ·simp only[eZ,seval,eY,lt_T c5,hg,e,A3,Aw hx];exact .mk (i+1) rfl ⟨c5,hnx hx⟩ zo
 obtain rfl:i=d.clus.length:=zo
 have hR:numV (d.clus.map (·.nm)) s= .tup [.int .i64 0,.bool false]:=by unfold numV;rw[Gg _ λk hk=>hb k hk hk]
 rw[hR];simp only[eZ,seval,W0,lt_F c5];exact Wk.refl _
def sGv:List Fs->AC->Prop×Fs:=λa _=>match a with
 |[]=>(True,eSs Bt)
 |_=>(False,.tup [])
def qGv:∀args H n,(sGv args H).1->Am prog 117 args H n (sGv args H).2:=by
 intro args H n hh;unfold sGv at hh⊢;split at hh
 ·exact p117.quiet H n
 ·exact hh.elim
def Tgv:Tab:=tadd 117 sGv tnil
def Tgv_ok:AI prog Tgv:=AI.tnil.add qGv
def p160(d:zk)(s:Bs)(hd:qk d):Pur prog 160 [encD d,.str s] (numV (Bn d) s):=by
 refine .mk ⟨Ab 0 d,trivial,trivial⟩ (Fu 0 _ _) (c160.a (AF Tgv_ok (AG ?_)));have m9:d.regs.length<1000000000:=hd.rg;have c7:=Wf d s;obtain⟨G,hG⟩:∃G:List Bs,G=Bt:=⟨_,rfl⟩;have hGl:G.length=8:=by rw[hG];rfl
 rw[<-hG]at c7;have hsg:sGv []=λ_=>(True,eSs G):=by rw[hG];rfl
 simp only[eE,eN,seval,c160,Tgv,hsg,tadd];refine AL (λi:Nat=>⟨[(1,true,.str s),(2,true,.ptr 0 0),(6,true,eSs G),(7,true,.int .i64 i)],hset hnil 0 (.box (AH d)),3⟩) (λi=>i<=G.length/\∀k (hk:k<G.length),k<i->¬G[k]=s) (λi=>G.length-i)
  0 rfl ⟨Wz _,λk _ q=>absurd q (XK _)⟩ ?_
 rintro i ⟨hi,hb⟩;by_cases c5:i<G.length
 ·have hg:=W2 c5;have e:=AE (k:=i) zo;have hhit:=λq=>JA (λx:Bs=>x) (s:=s) c5 q hb
  rw[show G.map (λx:Bs=>x)=G from List.map_id _]at hhit;have hnx:¬G[i]=s->∀k (hk:k<G.length),k<i+1->¬G[k]=s:=λq k hk h=>by
   by_cases z:k=i
   ·subst z;exact q
   ·exact hb k hk zo
  generalize G[i]=x at hg hhit hnx;by_cases hx:x=s
  ·have hR:numV (Bn d) s= .tup [.int .i64 i,.bool true]:=by unfold numV;rw[c7,hhit hx]
   rw[hR];simp only[eZ,seval,eY,lt_T c5,hg,A3,BA hx];exact Wk.refl _
  ·simp only[eZ,seval,eY,lt_T c5,hg,e,A3,Aw hx];exact .mk (i+1) rfl ⟨c5,hnx hx⟩ zo
 obtain rfl:i=G.length:=zo
 have i5:BF G s=none:=by
  have:=Gg (λx:Bs=>x) (l:=G) (s:=s) λk hk=>hb k hk hk
  rw[show G.map (λx:Bs=>x)=G from List.map_id _]at this;exact this
 rw[i5]at c7;simp only at c7;simp only[eZ,seval,W0,lt_F c5];refine AL (λi:Nat=>⟨[(1,true,.str s),(2,true,.ptr 0 0),(8,true,.int .i64 i)],hset hnil 0 (.box (AH d)),3⟩) (λi=>i<=d.regs.length/\∀k (hk:k<d.regs.length),k<i->¬d.regs[k].nm=s) (λi=>d.regs.length-i)
  0 rfl ⟨Wz _,λk _ q=>absurd q (XK _)⟩ ?_
 rintro i ⟨hi,hb⟩;by_cases hlt2:i<d.regs.length
 ·have hg:=W2 hlt2;have e:=AE (k:=i) zo;have e8:IntKind.wrap .i64 (8+(i:Int))=8+(i:Int):=An zo zo;have hhit:=λq=>JA (λx:zj=>x.nm) (s:=s) hlt2 q hb
  have hnx:¬d.regs[i].nm=s->∀k (hk:k<d.regs.length),k<i+1->¬d.regs[k].nm=s:=λq k hk h=>by
   by_cases z:k=i
   ·subst z;exact q
   ·exact hb k hk zo
  generalize d.regs[i]=x at hg hhit hnx;by_cases hx:x.nm=s
  ·have hR:numV (Bn d) s= .tup [.int .i64 (8+(i:Int)),.bool true]:=by unfold numV;rw[c7,hhit hx];rfl
   rw[hR];simp only[eZ,seval,eY,lt_T hlt2,hg,e8,A3,BA hx];exact Wk.refl _
  ·simp only[eZ,seval,eY,lt_T hlt2,hg,e,A3,Aw hx];exact .mk (i+1) rfl ⟨hlt2,hnx hx⟩ zo
 obtain rfl:i=d.regs.length:=zo
 have hR:numV (Bn d) s= .tup [.int .i64 0,.bool false]:=by unfold numV;rw[c7,Gg (λx:zj=>x.nm) λk hk=>hb k hk hk];rfl
 rw[hR];simp only[eZ,seval,W0,lt_F hlt2];exact Wk.refl _
def Jx{l:List Bs}:Af l=true↔∃(a b:Nat) (ha:a<l.length) (hb:b<l.length),b<a/\l[a]=l[b]:=by
 constructor
 ·intro h;apply Classical.byContradiction;intro q;have:Af l=false:=Bz.2 (List.nodup_iff_pairwise_ne.2 (Ye.2 λi j hi hj hij e=>q ⟨j,i,hj,hi,hij,e.symm⟩));rw[this]at h;cases h
 ·rintro⟨a,b,ha,hb,o6,e⟩;cases h:Af l with
  |true=>rfl
  |false=>exact absurd e.symm (Ye.1 (List.nodup_iff_pairwise_ne.1 (Bz.1 h)) b a hb ha o6)
def p116(l:List Bs)(hl:few l):Pur prog 116 [eSs l] (.bool (Af l)):=by
 refine .mk ⟨BT 0 _,trivial⟩ trivial (c116.a (AF AI.tnil (AG ?_)));have m9:l.length<1000000000:=hl;simp only[eE,eN,seval,c116];refine AL (λa:Nat=>⟨[(0,true,eSs l),(3,true,.int .i64 a)],hnil,0⟩) (λa=>a<=l.length/\∀x y (hx:x<l.length) (hy:y<l.length),x<a->y<x->¬l[x]=l[y]) (λa=>l.length-a)
  0 rfl ⟨Wz _,λx y _ _ q=>absurd q (XK _)⟩ ?_
 rintro a ⟨ha,i5⟩;by_cases hla:a<l.length
 ·have hga:=W2 hla;have ea:=AE (k:=a) zo;simp only[eZ,seval,W0,lt_T hla];refine AL (λb:Nat=>⟨[(0,true,eSs l),(3,true,.int .i64 a),(4,true,.int .i64 b)],hnil,0⟩) (λb=>b<=a/\∀y (hy:y<l.length),y<b->¬l[a]=l[y]) (λb=>a-b)
   0 rfl ⟨Wz _,λy _ q=>absurd q (XK _)⟩ ?_
  rintro b ⟨k9,t6⟩;by_cases hlb:b<a
  ·have hbl:b<l.length:=zo
   have hgb:=W2 hbl;have eb:=AE (k:=b) zo;by_cases hal:l[a]=l[b]
   ·have hR:Af l=true:=Jx.2 ⟨a,b,hla,hbl,hlb,hal⟩;rw[hR];generalize l[a]=la at hga hal;generalize l[b]=lb at hgb hal;simp only[eZ,seval,eY,lt_T hlb,lt_T hla,lt_T hbl,hga,hgb,A3,BA hal]
   ·have hnx:∀y (hy:y<l.length),y<b+1->¬l[a]=l[y]:=λy hy q=>by
     by_cases z:y=b
     ·subst z;exact hal
     ·exact t6 y hy zo
    generalize hA:l[a]=la at hga hal;generalize hB:l[b]=lb at hgb hal;simp only[eZ,seval,eY,lt_T hlb,lt_T hla,lt_T hbl,hga,hgb,A3,Aw hal,eb];exact .mk (b+1) rfl ⟨hlb,λy hy q=>by rw[<-hA];exact hnx y hy q⟩ zo
  obtain rfl:b=a:=zo
  simp only[eZ,seval,lt_F hlb,ea];refine .mk (b+1) rfl ⟨hla,λx y hx hy q1 q2=>?_⟩ zo;by_cases z:x=b
  ·subst z;exact t6 y hy q2
  ·exact i5 x y hx hy zo q2
 obtain rfl:a=l.length:=zo
 have hR:Af l=false:=by
  cases q:Af l with
  |false=>rfl
  |true=>
   obtain⟨x,y,hx,hy,hxy,h2⟩:=Jx.1 q;exact absurd h2 (i5 x y hx hy hx hxy)
 rw[hR];simp only[eZ,seval,W0,lt_F hla]
def setV(l ss:List Bs):Fs:=match CP l ss with
 |some n=>.tup [.int .i64 n,.bool true]
 |none=>.tup [.int .i64 0,.bool false]
def Tsy:Tab:=tadd 259 (s2 dD dS (λd _=>qk d) λd s=>numV (d.syms.map (·.nm)) s) tnil
def Tsy_ok:AI prog Tsy:=AI.tnil.add (q2 p259)
def p227(d:zk)(ss:List Bs)(hd:qk d)(r9:d.syms.length<=16)(x0:wide ss):Pur prog 227 [encD d,eSs ss] (setV (d.syms.map (·.nm)) ss):=by
 refine .mk ⟨Ab 0 d,BT 0 _,trivial⟩ (by unfold setV;split<;>exact⟨trivial,trivial,trivial⟩) (c227.a (AF Tsy_ok (AG ?_)));have hsl:ss.length<1125899906842624:=x0;unfold setV;rw[<-MX];generalize hl:d.syms.map (·.nm)=l;have m9:l.length<=16:=by rw[<-hl,W0];exact r9
 simp only[eE,eN,seval,c227];refine AL (λv:Nat×Nat=>⟨[(1,true,eSs ss),(2,true,.ptr 0 0),(6,true,.int .i64 v.2),(7,true,.int .i64 v.1)],hset hnil 0 (.box (AH d)),3⟩) (λv=>v.1<=ss.length/\v.2<65536/\EQ l 0 ss=EQ l v.2 (ss.drop v.1)) (λv=>ss.length-v.1) (0,0) rfl ⟨Wz _,zd,rfl⟩ ?_;rintro⟨i,acc⟩ ⟨hi,ae,heq⟩;simp only at hi ae heq;by_cases c5:i<ss.length
 ·have hg:=W2 c5;have e:=AE (k:=i) zo;rw[Xj c5,Gt]at heq;generalize ss[i]=s at hg heq;cases i5:BF l s with
  |none=>
   have l6:numV l s= .tup [.int .i64 0,.bool false]:=by unfold numV;rw[i5]
   rw[i5]at heq;simp only at heq;rw[heq];simp only[eZ,seval,W7,eY,lt_T c5,hg,Tsy,s2,A7,Al,Ge,EK,W1 hd,hl,l6,tadd];exact Wk.refl _
  |some k=>
   have l6:numV l s= .tup [.int .i64 k,.bool true]:=by unfold numV;rw[i5]
   rw[i5]at heq;simp only at heq;obtain⟨h0,h1⟩:=K3 i5;obtain⟨j,rfl⟩:∃j:Nat,k=j:=⟨k.toNat,zo⟩;rw[X1]at heq;simp only[eZ,seval,W3,eY,lt_T c5,hg,Tsy,s2,A7,Al,Ge,EK,W1 hd,hl,l6,O1 (show j<16 by omega),UD ae (MW (show j<16 by omega)),e,tadd];exact .mk (i+1,acc|||1<<<j) rfl ⟨c5,Nat.or_lt_two_pow (n:=16) ae (MW zo),heq⟩ zp
 obtain rfl:i=ss.length:=zo
 rw[Xv,IF]at heq;rw[heq];simp only[eZ,seval,W0,lt_F c5];exact Wk.refl _
section
structure VNm where
 i:Nat
 tk:jz
 H:AC
 n:Nat
structure INm(d:zk)(lo m:Nat)(ns:List Bs)(v:VNm):Prop where
 hi:v.i<=m
 fr:AQ v.H v.n
 hn:lo<=v.n
 h0:hget v.H 0=some (.box (AH d))
 tok:tkG 1 lo v.H v.tk
 es:v.tk.esz=1\/ns=[]
def Cq{t:jz}{l:List Bs}(ht:t.esz=1\/l=[]):dSs.ok (.sl t (l.map .str))=True:=W1 ⟨ht.imp id λq=>by rw[q];rfl,by rw[Cg]⟩
def B8{t:jz}(l:List Bs):dSs.dec (.sl t (l.map .str))=l:=Cg l
def tw:Tab:=tadd 116 (s1 dSs few λl=>.bool (Af l)) tnil
def twS:List Fs->AC->Prop×Fs:=s1 dSs few λl=>.bool (Af l)
structure VRs(α:Type) where
 i:Nat
 tk:jz
 dn:List α
 H:AC
 n:Nat
structure IRs{α β:Type}(d:zk)(e:Nat)(l:List α)(f:α->Option β)(v:VRs β):Prop where
 hi:v.i<=l.length
 dl:v.dn.length=v.i
 fr:AQ v.H v.n
 hn:3<=v.n
 h0:hget v.H 0=some (.box (AH d))
 tok:tkG e 3 v.H v.tk
 es:v.tk.esz=e\/v.dn=[]
 eq:Ae f l=(Ae f (l.drop v.i)).map λr=>v.dn++r
variable {α:Type}
def nmF(init:List Bs)(f:α->Bs)(l:List α)(i:Nat):List Bs:=init++(l.take i).map f
theorem Gh(init:List Bs)(f:α->Bs){l:List α}{i:Nat}(h:i<l.length):nmF init f l (i+1)=nmF init f l i++[f l[i]]:=by
 unfold nmF;rw[map_take h,Xt]
theorem JB(init:List Bs)(f:α->Bs)(l:List α)(i:Nat):(nmF init f l i).length<=init.length+i:=by
 unfold nmF;rw[Xb,W0,Xg];omega
theorem JC(init:List Bs)(f:α->Bs)(l:List α):nmF init f l l.length=init++l.map f:=by
 unfold nmF;rw[X4]
def DF(d:zk):Fs:=if Af (d.clus.map λx:qw=>x.nm)=true then .tup [eCls [],.int .i64 161]else match Ae (Bh d) d.clus with
 |none=>.tup [eCls [],.int .i64 160]
 |some cs=>.tup [eCls cs,.int .i64 0]
def Tcv:Tab:=tadd 116 twS (tadd 160 (s2 dD dS (λd _=>qk d) λd s=>numV (Bn d) s) tnil)
theorem Tcv_ok:AI prog Tcv:=(AI.tnil.add (q2 p160)).add (q1 p116)
theorem Tcv_t(a:List Fs)(H:AC):Tcv 116 a H=s1 dSs few (λl=>.bool (Af l)) a H:=rfl
theorem Tcv_f(a:List Fs)(H:AC):Tcv 160 a H=s2 dD dS (λd _=>qk d) (λd s=>numV (Bn d) s) a H:=rfl
theorem wk2{a b:Fs}{e:Int}(h:Wk a b):Wk (.tup [a,.int .i64 e]) (.tup [b,.int .i64 e]):=Wk.tup (.cons h (.cons (Wk.refl _) .nil))
theorem p118(d:zk)(hd:qk d):Pur prog 118 [encD d] (DF d):=by
 refine .mk ⟨Ab 0 d,trivial⟩ (by unfold DF;split;exact⟨DD 0 _,trivial,trivial⟩;split<;>exact⟨DD 0 _,trivial,trivial⟩) (c118.a (AF Tcv_ok (AG ?_)));have m7:d.clus.length<1000000000:=hd.cl;simp only[eE,eN,seval,c118];refine AL (λv:VNm=>⟨[(1,true,.ptr 0 0),(4,true,.sl v.tk ((nmF [] (λx:qw=>x.nm) d.clus v.i).map .str)),(5,true,.int .i64 v.i)],v.H,v.n⟩) (λv=>INm d 3 d.clus.length (nmF [] (λx:qw=>x.nm) d.clus v.i) v) (λv=>d.clus.length-v.i)
  ⟨0,.nil,hset hnil 0 (.box (AH d)),3⟩ rfl ⟨Wz _,AQ.nil.hset (m:=3) (Wz 3) (show 0<3 by decide),W9 _,rfl,.inl rfl,.inr rfl⟩ ?_
 rintro⟨i,tk,H,n⟩ ⟨hi,c7,hn,h0,c8,d8⟩;simp only at hi c7 hn h0 c8 d8;by_cases c5:i<d.clus.length
 ·have hg:=W2 c5;have e:=AE (k:=i) zo;have htx:=Gh [] (λx:qw=>x.nm) c5;have hnl:=JB [] (λx:qw=>x.nm) d.clus i;have u0:([]:List Bs).length<=8:=zd
  generalize d.clus[i]=x at hg htx;generalize hL:nmF [] (λx:qw=>x.nm) d.clus i=L at htx c8 d8 hnl⊢;have q1:A8 H 1 tk=True:=W1 c8.app;have q2:(L.length<=35184372088831)=True:=W1 zo;have q3:Aj (L.length+1) 16=True:=W1 (by unfold Aj;omega);simp only[eZ,seval,eY,lt_T c5,hg,e,h0,fr1 c7,q1,q2,q3];refine .mk ⟨i+1,.own (n+8) 1,hset (AP H tk) (n+8) .tok,n+10⟩ ?_ ?_ zp
  ·simp only[htx,X2];rfl
  ·refine⟨c5,(AU c8 c7).hset (m:=n+10) zo zo,zp,?_,.inr (.inr ⟨n+8,rfl,zo,AB ..⟩),.inl rfl⟩;simp only[];rw[AA _ _ _ _ zo,AW c8 (.inr ⟨_,h0⟩)];exact h0
 obtain rfl:i=d.clus.length:=zo
 have hNA:=JC [] (λx:qw=>x.nm) d.clus;have u0:([]:List Bs).length<=8:=zd
 rw[hNA]at d8;have hnf:few (d.clus.map λx:qw=>x.nm):=show(d.clus.map λx:qw=>x.nm).length<_ by first|(rw[W0];omega)|(rw[Xb,W0];omega)
 rw[Xl]at hNA d8;cases ht:Af (d.clus.map λx:qw=>x.nm)with
 |true=>
  have hR:DF d= .tup [eCls [],.int .i64 161]:=by unfold DF;rw[X0 ht]
  rw[hR];simp only[eZ,seval,W0,lt_F c5,h0,hNA,Tcv_t,s1,Cq d8,B8,W1 hnf,ht];exact wk2 (Wk.sl (.inr rfl))
 |false=>
 have hR:DF d=match Ae (Bh d) d.clus with
  |none=>.tup [eCls [],.int .i64 160]
  |some cs=>.tup [eCls cs,.int .i64 0]:=by unfold DF;rw[W6 (by rw[ht];decide)]
 rw[hR];simp only[eZ,seval,W0,lt_F c5,h0,hNA,Tcv_t,s1,Cq d8,B8,W1 hnf,ht];refine AL (λv:VRs qw=>⟨[(1,true,.ptr 0 0),(6,true,.sl v.tk (v.dn.map B7)),(7,true,.int .i64 v.i)],v.H,v.n⟩) (IRs d 6 d.clus (Bh d)) (λv=>d.clus.length-v.i)
  ⟨0,.nil,[],H,n⟩ rfl ⟨Wz _,rfl,c7,hn,h0,.inl rfl,.inr rfl,by simp only[Zw];cases Ae (Bh d) d.clus<;>rfl⟩ ?_
 rintro⟨j,tk,dn,H1,n1⟩ ⟨hj,hdl,hf1,l5,l9,i9,he1,heq⟩;simp only at hj hdl hf1 l5 l9 i9 he1 heq;by_cases hlj:j<d.clus.length
 ·have hg:=W2 hlj;have e:=AE (k:=j) zo;rw[Xj hlj,Cj]at heq;generalize d.clus[j]=c at hg heq;have y0:∀q,(n1+q=0)=False:=λq=>W4 zo
  cases i5:BF (Bn d) c.on with
  |none=>
   have l6:numV (Bn d) c.on= .tup [.int .i64 0,.bool false]:=by unfold numV;rw[i5]
   rw[show Bh d c=none by unfold Bh;rw[i5];rfl]at heq;simp only[Yg]at heq;rw[heq];simp only[eZ,seval,W7,eY,lt_T hlj,hg,l9,fr1 hf1,y0,AN,Tcv_f,s2,A7,Al,Ge,EK,W1 hd,l6];exact wk2 (Wk.sl (.inr rfl))
  |some f=>
   have l6:numV (Bn d) c.on= .tup [.int .i64 f,.bool true]:=by unfold numV;rw[i5]
   rw[show Bh d c=some {c with fam:=f}by unfold Bh;rw[i5];rfl]at heq;simp only at heq;have q1:∀ob1,A8 (hset H1 (n1+5) ob1) 6 tk=True:=λob1=>W1 (i9.set (.inr (.inr (fr1 hf1 5)))).app
   have q2:(dn.length<=35184372088831)=True:=W1 zo;have q3:Aj (dn.length+1) 64=True:=W1 (AZ zo zd);simp only[eZ,seval,W3,eY,lt_T hlj,hg,e,l9,fr1 hf1,y0,AN,Tcv_f,s2,A7,Al,Ge,EK,W1 hd,l6,q1,q2,q3];obtain⟨H2,hH2⟩:∃H2,H2=hset H1 (n1+5) (.box (B7 {c with fam:=f}).cells):=⟨_,rfl⟩;have gt:tkG 6 3 H2 tk:=by rw[hH2];exact i9.set (.inr (.inr (fr1 hf1 5)))
   have gf:AQ H2 (n1+12):=by rw[hH2];exact hf1.hset (m:=n1+12) zo zo
   have g0:hget H2 0=some (.box (AH d)):=by rw[hH2,AA _ _ _ _ zo];exact l9
   refine .mk ⟨j+1,.own (n1+10) 6,dn++[{c with fam:=f}],hset (AP H2 tk) (n1+10) .tok,n1+12⟩ ?_ ?_ zp
   ·rw[hH2];simp only[X2];rfl
   ·refine⟨hlj,by simp [hdl],(AU gt gf).hset (W9 _) (show n1+10<n1+12 by omega),zp,?_,.inr (.inr ⟨n1+10,rfl,zo,AB ..⟩),.inl rfl,?_⟩
    ·simp only[];rw[AA _ _ _ _ zo,AW gt (.inl zo)];exact g0
    ·simp only[];rw[heq];cases Ae (Bh d) (d.clus.drop (j+1))<;>simp
 obtain rfl:j=d.clus.length:=zo
 rw[Xv]at heq;have heq:Ae (Bh d) d.clus=some dn:=by rw[heq];simp [Ae]
 rw[heq];simp only[eZ,seval,W0,lt_F hlj,l9];exact wk2 (Wk.sl (he1.imp id λq=>by rw[q];rfl))
def rulV(d:zk)(r:qz):qz×Bool:=match (if r.on=[]then some 0 else BF (Bn d) r.on)with
 |none=>({r with fam:=0},false)
 |some f=>match (if r.byN=[]then some (-1)else BF (d.clus.map (·.nm)) r.byN)with
  |none=>({r with fam:=f,set:=(CP (d.syms.map (·.nm)) r.ns).getD 0,oth:=(CP (d.syms.map (·.nm)) r.os).getD 0,clue:=-1},false)
  |some c=>({r with fam:=f,set:=(CP (d.syms.map (·.nm)) r.ns).getD 0,oth:=(CP (d.syms.map (·.nm)) r.os).getD 0,clue:=c},(CP (d.syms.map (·.nm)) r.ns).isSome&&(CP (d.syms.map (·.nm)) r.os).isSome)
theorem SR(d:zk)(r:qz):BD d r=if(rulV d r).2=true then some (rulV d r).1 else none:=by
 unfold BD rulV;cases (if r.on=[]then some 0 else BF (Bn d) r.on)with
 |none=>rfl
 |some f=>
 cases (if r.byN=[]then some (-1)else BF (d.clus.map (·.nm)) r.byN)with
 |none=>cases CP (d.syms.map (·.nm)) r.ns<;>cases CP (d.syms.map (·.nm)) r.os<;>rfl
 |some c=>cases CP (d.syms.map (·.nm)) r.ns<;>cases CP (d.syms.map (·.nm)) r.os<;>rfl
abbrev SS(x:qz×Bool):Fs:=.tup [BV x.1,.bool x.2]
theorem II(l ss:List Bs):setV l ss= .tup [.int .i64 ((CP l ss).getD 0),.bool (CP l ss).isSome]:=by unfold setV;cases CP l ss<;>rfl
def Tsr:Tab:=tadd 160 (s2 dD dS (λd _=>qk d) λd s=>numV (Bn d) s) (tadd 228 (s2 dD dS (λd _=>qk d) λd s=>numV (d.clus.map (·.nm)) s) (tadd 227 (s2 dD dSs (λd ss=>qk d/\d.syms.length<=16/\wide ss) λd ss=>setV (d.syms.map (·.nm)) ss) tnil))
theorem Tsr_ok:AI prog Tsr:=((AI.tnil.add (q2 λd ss h=>p227 d ss h.1 h.2.1 h.2.2)).add (q2 p228)).add (q2 p160)
theorem p161(d:zk)(r:qz)(hd:qk d)(r9:d.syms.length<=16)(hr:Fo r):Pur prog 161 [encD d,BV r] (SS (rulV d r)):=by
 refine .mk ⟨Ab 0 d,Ar 0 r,trivial⟩ ⟨Ar 0 _,trivial,trivial⟩ (c161.a (AF Tsr_ok (AG ?_)));have m6:=W1 (⟨hd,r9,hr.1⟩:qk d/\d.syms.length<=16/\wide r.ns);have v9:=W1 (⟨hd,r9,hr.2⟩:qk d/\d.syms.length<=16/\wide r.os);unfold rulV;by_cases h1:r.on=[]
 ·rw[X0 h1];by_cases h2:r.byN=[]
  ·rw[X0 h2];simp only[eZ,seval,W3,eY,BH,c161,Ap,BA h1,BA h2,Tsr,s2,A7,Al,Fm,ED,W1 hd,W1 r9,W1 hr.1,W1 hr.2,II,tadd];exact Wk.refl _
  ·rw[W6 h2];cases hc:BF (d.clus.map (·.nm)) r.byN with
   |none=>
    have l6:numV (d.clus.map (·.nm)) r.byN= .tup [.int .i64 0,.bool false]:=by unfold numV;rw[hc]
    simp only[eZ,seval,W3,W7,eY,BH,c161,Ap,BA h1,Aw h2,Tsr,s2,A7,Al,Fm,ED,Ge,EK,W1 hd,W1 r9,W1 hr.1,W1 hr.2,II,l6,tadd];exact Wk.refl _
   |some c=>
    have l6:numV (d.clus.map (·.nm)) r.byN= .tup [.int .i64 c,.bool true]:=by unfold numV;rw[hc]
    simp only[eZ,seval,W3,W7,eY,BH,c161,Ap,BA h1,Aw h2,Tsr,s2,A7,Al,Fm,ED,Ge,EK,W1 hd,W1 r9,W1 hr.1,W1 hr.2,II,l6,tadd];exact Wk.refl _
 ·rw[W6 h1];cases hf:BF (Bn d) r.on with
  |none=>
   have hnf:numV (Bn d) r.on= .tup [.int .i64 0,.bool false]:=by unfold numV;rw[hf]
   simp only[eZ,seval,W7,eY,BH,c161,Ap,Aw h1,Tsr,s2,A7,Al,Ge,EK,W1 hd,hnf,tadd];exact Wk.refl _
  |some f=>
   have hnf:numV (Bn d) r.on= .tup [.int .i64 f,.bool true]:=by unfold numV;rw[hf]
   by_cases h2:r.byN=[]
   ·rw[X0 h2];simp only[eZ,seval,W3,W7,eY,BH,c161,Ap,Aw h1,BA h2,Tsr,s2,A7,Al,Fm,ED,Ge,EK,W1 hd,W1 r9,W1 hr.1,W1 hr.2,II,hnf,tadd];exact Wk.refl _
   ·rw[W6 h2];cases hc:BF (d.clus.map (·.nm)) r.byN with
    |none=>
     have l6:numV (d.clus.map (·.nm)) r.byN= .tup [.int .i64 0,.bool false]:=by unfold numV;rw[hc]
     simp only[eZ,seval,W3,W7,eY,BH,c161,Ap,Aw h1,Aw h2,Tsr,s2,A7,Al,Fm,ED,Ge,EK,W1 hd,W1 r9,W1 hr.1,W1 hr.2,II,hnf,l6,tadd];exact Wk.refl _
    |some c=>
     have l6:numV (d.clus.map (·.nm)) r.byN= .tup [.int .i64 c,.bool true]:=by unfold numV;rw[hc]
     simp only[eZ,seval,W3,W7,eY,BH,c161,Ap,Aw h1,Aw h2,Tsr,s2,A7,Al,Fm,ED,Ge,EK,W1 hd,W1 r9,W1 hr.1,W1 hr.2,II,hnf,l6,tadd];exact Wk.refl _
def DV(d:zk):Fs:=if Af (d.ruls.map λx:qz=>x.nm)=true then .tup [eRus [],.int .i64 161]else match Ae (BD d) d.ruls with
 |none=>.tup [eRus [],.int .i64 160]
 |some cs=>.tup [eRus cs,.int .i64 0]
def Trv:Tab:=tadd 116 twS (tadd 161 (s2 dD dRu (λd r=>qk d/\d.syms.length<=16/\Fo r) λd r=>SS (rulV d r)) tnil)
theorem Trv_ok:AI prog Trv:=(AI.tnil.add (q2 λd r h=>p161 d r h.1 h.2.1 h.2.2)).add (q1 p116)
theorem Trv_t(a:List Fs)(H:AC):Trv 116 a H=s1 dSs few (λl=>.bool (Af l)) a H:=rfl
theorem Trv_r(a:List Fs)(H:AC):Trv 161 a H=s2 dD dRu (λd r=>qk d/\d.syms.length<=16/\Fo r) (λd r=>SS (rulV d r)) a H:=rfl
theorem p119(d:zk)(hd:qk d)(r9:d.syms.length<=16):Pur prog 119 [encD d] (DV d):=by
 refine .mk ⟨Ab 0 d,trivial⟩ (by unfold DV;split;exact⟨CG 0 _,trivial,trivial⟩;split<;>exact⟨CG 0 _,trivial,trivial⟩) (c119.a (AF Trv_ok (AG ?_)));have m7:d.ruls.length<1000000000:=hd.ru;simp only[eE,eN,seval,c119];refine AL (λv:VNm=>⟨[(1,true,.ptr 0 0),(4,true,.sl v.tk ((nmF [] (λx:qz=>x.nm) d.ruls v.i).map .str)),(5,true,.int .i64 v.i)],v.H,v.n⟩) (λv=>INm d 3 d.ruls.length (nmF [] (λx:qz=>x.nm) d.ruls v.i) v) (λv=>d.ruls.length-v.i)
  ⟨0,.nil,hset hnil 0 (.box (AH d)),3⟩ rfl ⟨Wz _,AQ.nil.hset (m:=3) (Wz 3) (show 0<3 by decide),W9 _,rfl,.inl rfl,.inr rfl⟩ ?_
 rintro⟨i,tk,H,n⟩ ⟨hi,c7,hn,h0,c8,d8⟩;simp only at hi c7 hn h0 c8 d8;by_cases c5:i<d.ruls.length
 ·have hg:=W2 c5;have e:=AE (k:=i) zo;have htx:=Gh [] (λx:qz=>x.nm) c5;have hnl:=JB [] (λx:qz=>x.nm) d.ruls i;have u0:([]:List Bs).length<=8:=zd
  generalize d.ruls[i]=x at hg htx;generalize hL:nmF [] (λx:qz=>x.nm) d.ruls i=L at htx c8 d8 hnl⊢;have q1:A8 H 1 tk=True:=W1 c8.app;have q2:(L.length<=35184372088831)=True:=W1 zo;have q3:Aj (L.length+1) 16=True:=W1 (by unfold Aj;omega);simp only[eZ,seval,eY,lt_T c5,hg,e,h0,fr1 c7,q1,q2,q3];refine .mk ⟨i+1,.own (n+8) 1,hset (AP H tk) (n+8) .tok,n+10⟩ ?_ ?_ zp
  ·simp only[htx,X2];rfl
  ·refine⟨c5,(AU c8 c7).hset (m:=n+10) zo zo,zp,?_,.inr (.inr ⟨n+8,rfl,zo,AB ..⟩),.inl rfl⟩;simp only[];rw[AA _ _ _ _ zo,AW c8 (.inr ⟨_,h0⟩)];exact h0
 obtain rfl:i=d.ruls.length:=zo
 have hNA:=JC [] (λx:qz=>x.nm) d.ruls;have u0:([]:List Bs).length<=8:=zd
 rw[hNA]at d8;have hnf:few (d.ruls.map λx:qz=>x.nm):=show(d.ruls.map λx:qz=>x.nm).length<_ by first|(rw[W0];omega)|(rw[Xb,W0];omega)
 rw[Xl]at hNA d8;cases ht:Af (d.ruls.map λx:qz=>x.nm)with
 |true=>
  have hR:DV d= .tup [eRus [],.int .i64 161]:=by unfold DV;rw[X0 ht]
  rw[hR];simp only[eZ,seval,W0,lt_F c5,h0,hNA,Trv_t,s1,Cq d8,B8,W1 hnf,ht];exact wk2 (Wk.sl (.inr rfl))
 |false=>
 have hR:DV d=match Ae (BD d) d.ruls with
  |none=>.tup [eRus [],.int .i64 160]
  |some cs=>.tup [eRus cs,.int .i64 0]:=by unfold DV;rw[W6 (by rw[ht];decide)]
 rw[hR];simp only[eZ,seval,W0,lt_F c5,h0,hNA,Trv_t,s1,Cq d8,B8,W1 hnf,ht];refine AL (λv:VRs qz=>⟨[(1,true,.ptr 0 0),(6,true,.sl v.tk (v.dn.map BV)),(7,true,.int .i64 v.i)],v.H,v.n⟩) (IRs d 12 d.ruls (BD d)) (λv=>d.ruls.length-v.i)
  ⟨0,.nil,[],H,n⟩ rfl ⟨Wz _,rfl,c7,hn,h0,.inl rfl,.inr rfl,by simp only[Zw];cases Ae (BD d) d.ruls<;>rfl⟩ ?_
 rintro⟨j,tk,dn,H1,n1⟩ ⟨hj,hdl,hf1,l5,l9,i9,he1,heq⟩;simp only at hj hdl hf1 l5 l9 i9 he1 heq;by_cases hlj:j<d.ruls.length
 ·have hg:=W2 hlj;have e:=AE (k:=j) zo;have hrf:=hd.rus _ (X5 hlj);rw[Xj hlj,Cj]at heq;generalize d.ruls[j]=r at hg heq hrf;have y0:∀q,(n1+q=0)=False:=λq=>W4 zo
  rw[SR]at heq;obtain⟨r',ok,hv⟩:∃a b,rulV d r=(a,b):=⟨_,_,rfl⟩;rw[hv]at heq;have u1:unders 0 [encD d,BV r]=True:=W1 ⟨Ab 0 d,Ar 0 r,trivial⟩;have u2:∀b,Fs.under 0 (SS (r',b))=True:=λb=>W1 ⟨Ar 0 _,trivial,trivial⟩
  cases ok with
  |false=>
   simp only[Xd,Xo,Yg]at heq;rw[heq];simp only[eZ,seval,W7,eY,lt_T hlj,hg,l9,fr1 hf1,AN,Trv_r,s2,A7,Al,Bf,A6,W1 hd,W1 r9,W1 hrf,hv,u1,u2];exact wk2 (Wk.sl (.inr rfl))
  |true=>
   simp only[XG]at heq;have q1:∀ob1,A8 (hset H1 (n1+10) ob1) 12 tk=True:=λob1=>W1 (i9.set (.inr (.inr (fr1 hf1 10)))).app
   have q2:(dn.length<=35184372088831)=True:=W1 zo;have q3:Aj (dn.length+1) 152=True:=W1 (AZ zo zd);simp only[eZ,seval,W3,eY,lt_T hlj,hg,e,l9,fr1 hf1,AN,Trv_r,s2,A7,Al,Bf,A6,W1 hd,W1 r9,W1 hrf,hv,u1,u2,q1,q2,q3];obtain⟨H2,hH2⟩:∃H2,H2=hset H1 (n1+10) (.box (BQ r')):=⟨_,rfl⟩;have gt:tkG 12 3 H2 tk:=by rw[hH2];exact i9.set (.inr (.inr (fr1 hf1 10)))
   have gf:AQ H2 (n1+18):=by rw[hH2];exact hf1.hset (m:=n1+18) zo zo
   have g0:hget H2 0=some (.box (AH d)):=by rw[hH2,AA _ _ _ _ zo];exact l9
   refine .mk ⟨j+1,.own (n1+16) 12,dn++[r'],hset (AP H2 tk) (n1+16) .tok,n1+18⟩ ?_ ?_ zp
   ·rw[hH2];simp only[X2];rfl
   ·refine⟨hlj,by simp [hdl],(AU gt gf).hset (W9 _) (show n1+16<n1+18 by omega),zp,?_,.inr (.inr ⟨n1+16,rfl,zo,AB ..⟩),.inl rfl,?_⟩
    ·simp only[];rw[AA _ _ _ _ zo,AW gt (.inl zo)];exact g0
    ·simp only[];rw[heq];cases Ae (BD d) (d.ruls.drop (j+1))<;>simp
 obtain rfl:j=d.ruls.length:=zo
 rw[Xv]at heq;have heq:Ae (BD d) d.ruls=some dn:=by rw[heq];simp [Ae]
 rw[heq];simp only[eZ,seval,W0,lt_F hlj,l9];exact wk2 (Wk.sl (he1.imp id λq=>by rw[q];rfl))
end
def givX:Fs:=.sl (.exact 1) (Bt.map .str)
def pGvX:Pur prog 117 [] givX:=by
 refine .mk trivial (BT 0 Bt) (c117.a (AF AI.tnil (AG ?_)));simp only[eE,eN,seval,c117];exact Wk.refl _
def sGx:List Fs->AC->Prop×Fs:=λa _=>match a with
 |[]=>(True,givX)
 |_=>(False,.tup [])
def qGx:∀args H n,(sGx args H).1->Am prog 117 args H n (sGx args H).2:=by
 intro args H n hh;unfold sGx at hh⊢;split at hh
 ·exact pGvX.quiet H n
 ·exact hh.elim
def Tre:Tab:=tadd 116 twS (tadd 117 sGx (tadd 118 (s1 dD qk DF) (tadd 119 (s1 dD (λd=>qk d/\d.syms.length<=16) DV) tnil)))
def Tre_ok:AI prog Tre:=(((AI.tnil.add (q1 λd h=>p119 d h.1 h.2)).add (q1 p118)).add qGx).add (q1 p116)
theorem Jy(a:List Fs)(H:AC):Tre 116 a H=s1 dSs few (λl=>.bool (Af l)) a H:=rfl
theorem Tre_g(a:List Fs)(H:AC):Tre 117 a H=sGx a H:=rfl
theorem PD(a:List Fs)(H:AC):Tre 118 a H=s1 dD qk DF a H:=rfl
theorem U8(a:List Fs)(H:AC):Tre 119 a H=s1 dD (λd=>qk d/\d.syms.length<=16) DV a H:=rfl
def wk0{e:Int}:Wk (.tup [.agg Hw,.int .i64 e]) (.tup [encD dcl0,.int .i64 e]):=wk2 (wk_Dk (Wk.sl (.inr rfl)) (Wk.sl (.inr rfl)) (Wk.sl (.inr rfl)) (Wk.sl (.inr rfl)) (Wk.sl (.inr rfl)))
def p85(d:zk)(hd:qk d)(hq9:d.regs.length<999999000):Pur prog 85 [encD d] (CA d):=by
 refine .mk ⟨Ab 0 d,trivial⟩ (by unfold CA;split<;>exact⟨Ab 0 _,trivial,trivial⟩) (c85.a (AF Tre_ok (AG ?_)));have hsl:d.syms.length<1000000000:=hd.sy;have hrl:d.regs.length<1000000000:=hd.rg;have hE:∀e,resD d= .error e->CA d= .tup [encD dcl0,.int .i64 e]:=λe h=>by unfold CA;rw[h]
 have hO:∀x,resD d= .ok x->CA d= .tup [encD x,.int .i64 0]:=λx h=>by unfold CA;rw[h]
 by_cases r9:16<d.syms.length
 ·have hb:((16:Int)<(d.syms.length:Int))=True:=W1 zo;rw[hE 2 (by unfold resD;rw[X0 r9])];simp only[eZ,seval,BH,W0,c85,hb];exact wk0
 have hb:((16:Int)<(d.syms.length:Int))=False:=W4 zo;have h16':d.syms.length<=16:=zo
 simp only[eZ,seval,W0,c85,hb];refine AL (λv:VNm=>⟨[(1,true,.ptr 0 0),(2,true,.ptr 1 0),(4,true,.sl v.tk ((nmF [] (λx:j7=>x.nm) d.syms v.i).map .str)),(5,true,.int .i64 v.i)],v.H,v.n⟩) (λv=>(hget v.H 1=some (.box Hw))/\INm d 3 d.syms.length (nmF [] (λx:j7=>x.nm) d.syms v.i) v) (λv=>d.syms.length-v.i)
  ⟨0,.nil,hset (hset hnil 0 (.box (AH d))) 1 (.box Hw),3⟩ rfl ⟨rfl,Wz _,(AQ.nil.hset (m:=3) (Wz 3) (show 0<3 by decide)).hset (W9 3) (show 1<3 by decide),W9 _,rfl,.inl rfl,.inr rfl⟩ ?_
 rintro⟨i,tk,H,n⟩ ⟨h1,hi,c7,hn,h0,c8,d8⟩;simp only at h1 hi c7 hn h0 c8 d8;by_cases c5:i<d.syms.length
 ·have hg:=W2 c5;have e:=AE (k:=i) zo;have htx:=Gh [] (λx:j7=>x.nm) c5;have hnl:=JB [] (λx:j7=>x.nm) d.syms i;have u0:([]:List Bs).length<=8:=zd
  generalize d.syms[i]=x at hg htx;generalize hL:nmF [] (λx:j7=>x.nm) d.syms i=L at htx c8 d8 hnl⊢;have q1:A8 H 1 tk=True:=W1 c8.app;have q2:(L.length<=35184372088831)=True:=W1 zo;have q3:Aj (L.length+1) 16=True:=W1 (by unfold Aj;omega);simp only[eZ,seval,eY,lt_T c5,hg,e,h0,fr1 c7,q1,q2,q3];refine .mk ⟨i+1,.own (n+8) 1,hset (AP H tk) (n+8) .tok,n+10⟩ ?_ ?_ zp
  ·simp only[htx,X2];rfl
  ·refine⟨by simp only[];rw[AA _ _ _ _ zo,AW c8 (.inr ⟨_,h1⟩)];exact h1,c5,(AU c8 c7).hset (m:=n+10) zo zo,zp,?_,.inr (.inr ⟨n+8,rfl,zo,AB ..⟩),.inl rfl⟩;simp only[];rw[AA _ _ _ _ zo,AW c8 (.inr ⟨_,h0⟩)];exact h0
 obtain rfl:i=d.syms.length:=zo
 have hNA:=JC [] (λx:j7=>x.nm) d.syms;have u0:([]:List Bs).length<=8:=zd
 rw[hNA]at d8;have hnf:few (d.syms.map λx:j7=>x.nm):=show(d.syms.map λx:j7=>x.nm).length<_ by first|(rw[W0];omega)|(unfold Bn;rw[Xb,W0];omega)
 rw[Xl]at hNA d8;cases ht:Af (d.syms.map λx:j7=>x.nm)with
 |true=>
  rw[hE 161 (by unfold resD;rw[W6 r9,X0 ht])];simp only[eZ,seval,BH,W0,lt_F c5,h0,h1,hNA,Jy,s1,Cq d8,B8,W1 hnf,ht];exact wk0
 |false=>
 have hgx:sGx []=λ_=>(True,givX):=rfl
 have hg0:givX= .sl (.exact 1) ((nmF Bt (λx:zj=>x.nm) d.regs 0).map .str):=by unfold nmF;rw[Y5,Xp,Xn];rfl
 simp only[eZ,seval,W0,lt_F c5,h0,hNA,Jy,Tre_g,hgx,s1,Cq d8,B8,W1 hnf,ht];rw[hg0];clear d8 c8 hi c5 hNA u0 hnf;refine AL (λv:VNm=>⟨[(1,true,.ptr 0 0),(2,true,.ptr 1 0),(6,true,.sl v.tk ((nmF Bt (λx:zj=>x.nm) d.regs v.i).map .str)),(7,true,.int .i64 v.i)],v.H,v.n⟩) (λv=>(hget v.H 1=some (.box Hw))/\INm d 3 d.regs.length (nmF Bt (λx:zj=>x.nm) d.regs v.i) v) (λv=>d.regs.length-v.i)
  ⟨0,.exact 1,H,n⟩ rfl ⟨h1,Wz _,c7,hn,h0,.inr (.inl rfl),.inl rfl⟩ ?_
 rintro⟨i,tk,H,n⟩ ⟨h1,hi,c7,hn,h0,c8,d8⟩;simp only at h1 hi c7 hn h0 c8 d8;by_cases c5:i<d.regs.length
 ·have hg:=W2 c5;have e:=AE (k:=i) zo;have htx:=Gh Bt (λx:zj=>x.nm) c5;have hnl:=JB Bt (λx:zj=>x.nm) d.regs i;have u0:(Bt:List Bs).length<=8:=zd
  generalize d.regs[i]=x at hg htx;generalize hL:nmF Bt (λx:zj=>x.nm) d.regs i=L at htx c8 d8 hnl⊢;have q1:A8 H 1 tk=True:=W1 c8.app;have q2:(L.length<=35184372088831)=True:=W1 zo;have q3:Aj (L.length+1) 16=True:=W1 (by unfold Aj;omega);simp only[eZ,seval,eY,lt_T c5,hg,e,h0,fr1 c7,q1,q2,q3];refine .mk ⟨i+1,.own (n+8) 1,hset (AP H tk) (n+8) .tok,n+10⟩ ?_ ?_ zp
  ·simp only[htx,X2];rfl
  ·refine⟨by simp only[];rw[AA _ _ _ _ zo,AW c8 (.inr ⟨_,h1⟩)];exact h1,c5,(AU c8 c7).hset (m:=n+10) zo zo,zp,?_,.inr (.inr ⟨n+8,rfl,zo,AB ..⟩),.inl rfl⟩;simp only[];rw[AA _ _ _ _ zo,AW c8 (.inr ⟨_,h0⟩)];exact h0
 obtain rfl:i=d.regs.length:=zo
 have hNA:=JC Bt (λx:zj=>x.nm) d.regs;have u0:(Bt:List Bs).length<=8:=zd
 rw[hNA]at d8;have hnf:few (Bn d):=show(Bn d).length<_ by first|(rw[W0];omega)|(unfold Bn;rw[Xb,W0];omega)
 cases m4:Af (Bn d)with
 |true=>
  rw[hE 161 (by unfold resD;rw[W6 r9,W6 (by rw[ht];decide),X0 m4])];have hNA:nmF Bt (λx:zj=>x.nm) d.regs d.regs.length=Bn d:=hNA;have d8:tk.esz=1\/Bn d=[]:=d8;simp only[eZ,seval,BH,W0,lt_F c5,h0,h1,hNA,Jy,s1,Cq d8,B8,W1 hnf,m4];exact wk0
 |false=>
 have hNA:nmF Bt (λx:zj=>x.nm) d.regs d.regs.length=Bn d:=hNA;have d8:tk.esz=1\/Bn d=[]:=d8;have hres:resD d=if Af (d.clus.map λx:qw=>x.nm)=true then .error 161 else match Ae (Bh d) d.clus with
   |none=>.error 160
   |some cs=>if Af (d.ruls.map λx:qz=>x.nm)=true then .error 161 else match Ae (BD d) d.ruls with
    |none=>.error 160
    |some rs=>.ok {d with clus:=cs,ruls:=rs}:=by unfold resD;rw[W6 r9,W6 (by rw[ht];decide),W6 (by rw[m4];decide)];rfl
 have base:=λ(X:Fs) (hX:DF d=X)=>hX
 cases x9:Af (d.clus.map λx:qw=>x.nm)with
 |true=>
  have hc:DF d= .tup [eCls [],.int .i64 161]:=by unfold DF;rw[X0 x9]
  rw[hE 161 (by rw[hres,X0 x9])];simp only[eZ,seval,W7,eY,BH,lt_F c5,h0,h1,hNA,Jy,PD,s1,Cq d8,B8,A7,Al,W1 hd,W1 hnf,m4,hc];exact wk0
 |false=>
 rw[W6 (by rw[x9];decide)]at hres;cases t5:Ae (Bh d) d.clus with
 |none=>
  have hc:DF d= .tup [eCls [],.int .i64 160]:=by unfold DF;rw[W6 (by rw[x9];decide),t5]
  rw[hE 160 (by rw[hres,t5])];simp only[eZ,seval,W7,eY,BH,lt_F c5,h0,h1,hNA,Jy,PD,s1,Cq d8,B8,A7,Al,W1 hd,W1 hnf,m4,hc];exact wk0
 |some cs=>
 have hc:DF d= .tup [eCls cs,.int .i64 0]:=by unfold DF;rw[W6 (by rw[x9];decide),t5]
 rw[t5]at hres;simp only at hres;cases ai:Af (d.ruls.map λx:qz=>x.nm)with
 |true=>
  have hr:DV d= .tup [eRus [],.int .i64 161]:=by unfold DV;rw[X0 ai]
  rw[hE 161 (by rw[hres,X0 ai])];simp only[eZ,seval,W3,W7,eY,BH,lt_F c5,h0,h1,hNA,Jy,PD,U8,s1,Cq d8,B8,A7,Al,W1 hd,W1 h16',W1 hnf,m4,hc,hr];exact wk0
 |false=>
 rw[W6 (by rw[ai];decide)]at hres;cases hrs:Ae (BD d) d.ruls with
 |none=>
  have hr:DV d= .tup [eRus [],.int .i64 160]:=by unfold DV;rw[W6 (by rw[ai];decide),hrs]
  rw[hE 160 (by rw[hres,hrs])];simp only[eZ,seval,W3,W7,eY,BH,lt_F c5,h0,h1,hNA,Jy,PD,U8,s1,Cq d8,B8,A7,Al,W1 hd,W1 h16',W1 hnf,m4,hc,hr];exact wk0
 |some rs=>
  have hr:DV d= .tup [eRus rs,.int .i64 0]:=by unfold DV;rw[W6 (by rw[ai];decide),hrs]
  rw[hO _ (by rw[hres,hrs])];simp only[eZ,seval,W3,eY,BH,lt_F c5,h0,h1,hNA,Jy,PD,U8,s1,Cq d8,B8,A7,Al,W1 hd,W1 h16',W1 hnf,m4,hc,hr,AN];exact Wk.refl _
abbrev FewR(d:zk):Prop:=qk d/\d.regs.length<999999000
def Tcz:Tab:=tadd 85 (s1 dD FewR CA) (tadd 120 (s2 dD dD (λa _=>qk a) λa b=>.bool (decide (a=b))) (tadd 87 sMk (tadd 121 (s2 dD dGd (λd g=>qk d/\Ai g.sh g.w g.h g.holes=some g.cells/\few g.holes) λd g=>.int .i64 (C7 g.cells d.regs)) (tadd 122 (s1 dD qk λd=>.bool (Bd d)) (tadd 123 (s1 dD (λd=>few d.ruls) λd=>eIs (BX d.ruls)) tnil)))))
def Tcz_ok:AI prog Tcz:=(((((AI.tnil.add (q1 λd h=>p123 d h)).add (q1 λd h=>p122 d h)).add (q2 λd g h=>p121 d g h.1 h.2.1 h.2.2)).add qMk).add (q2 λa b h=>p120 a b h)).add (q1 λd h=>p85 d h.1 h.2)
theorem Jz(a:List Fs)(H:AC):Tcz 85 a H=s1 dD FewR CA a H:=rfl
theorem LN(a:List Fs)(H:AC):Tcz 120 a H=s2 dD dD (λa _=>qk a) (λa b=>.bool (decide (a=b))) a H:=rfl
theorem PE(sh w h:Int)(x:Fs)(H:AC):Tcz 87 [.int .i64 sh,.int .i64 w,.int .i64 h,x] H=(dIs.ok x/\few (dIs.dec x),BK sh w h (dIs.dec x)):=rfl
theorem ST(a:List Fs)(H:AC):Tcz 121 a H=s2 dD dGd (λd g=>qk d/\Ai g.sh g.w g.h g.holes=some g.cells/\few g.holes) (λd g=>.int .i64 (C7 g.cells d.regs)) a H:=rfl
theorem U9(a:List Fs)(H:AC):Tcz 122 a H=s1 dD qk (λd=>.bool (Bd d)) a H:=rfl
theorem Tcz_u(a:List Fs)(H:AC):Tcz 123 a H=s1 dD (λd=>few d.ruls) (λd=>eIs (BX d.ruls)) a H:=rfl
theorem FC{α β:Type}{f:α->Option β}:∀{l:List α} {r:List β},Ae f l=some r->r.length=l.length/\∀y∈r,∃x∈l,f x=some y
 |[],r,h=>by
  simp only[Ae,Option.some.injEq]at h;subst h;exact⟨rfl,λy hy=>by cases hy⟩
 |x::l,r,h=>by
  rw[Cj]at h;cases hx:f x with
  |none=>rw[hx]at h;cases h
  |some z=>
   rw[hx]at h;simp only at h;cases hl:Ae f l with
   |none=>rw[hl]at h;cases h
   |some s=>
    rw[hl]at h;simp only[Xz,Option.some.injEq]at h;subst h;obtain⟨h1,h2⟩:=FC hl;refine⟨by simp [h1],λy hy=>?_⟩;rcases Xr.1 hy with rfl|hy
    ·exact⟨x,zw,hx⟩
    ·obtain⟨w,hw,e⟩:=h2 y hy;exact⟨w,by simp [hw],e⟩
def PF{d:zk}{r r':qz}(h:BD d r=some r'):r'.ns=r.ns/\r'.os=r.os:=by
 unfold BD at h;split at h
 ·cases h;exact⟨rfl,rfl⟩
 ·cases h
def Fv{d x:zk}(hd:qk d)(h:resD d= .ok x):qk x:=by
 obtain⟨-,-,-,-,-,e1,e2,e3⟩:=NR h
 have key:∃cs rs,Ae (Bh d) d.clus=some cs/\Ae (BD d) d.ruls=some rs/\x.clus=cs/\x.ruls=rs:=by
  unfold resD at h
  repeat' split at h
  all_goals first
   |(cases h;done)
   |(rename_i cs t5 _ _ rs hrs
     cases h
     exact⟨_,_,t5,hrs,rfl,rfl⟩)
 obtain⟨cs,rs,h1,h2,h3,h4⟩:=key
 obtain⟨l1,-⟩:=FC h1
 obtain⟨l2,m2⟩:=FC h2
 refine⟨by rw[e1];exact hd.ho,by rw[e2];exact hd.sy,by rw[e3];exact hd.rg,by rw[e3];exact hd.rgs,?_,?_,λr hr=>?_⟩
 ·rw[h3];show cs.length<_;rw[l1];exact hd.cl
 ·rw[h4];show rs.length<_;rw[l2];exact hd.ru
 ·rw[h4]at hr
  obtain⟨r0,hr0,e⟩:=m2 r hr
  obtain⟨q1,q2⟩:=PF e
  have:=hd.rus r0 hr0
  exact⟨by rw[q1];exact this.1,by rw[q2];exact this.2⟩
def VA(d:zk):(decide ((d.syms.length:Int)=0)||decide ((16:Int)<d.syms.length)||decide ((4:Int)<d.regs.length)||decide ((4:Int)<d.clus.length)||decide ((16:Int)<d.ruls.length))= !limD d:=by
 rw[Xc];unfold limD;simp only[Xi,W8,Y9,Zf,Ya];omega
def p86(d:zk)(hd:qk d):Pur prog 86 [encD d] (.int .i64 (chkD d)):=by
 refine .mk ⟨Ab 0 d,trivial⟩ trivial (c86.a (AF Tcz_ok (AG ?_)));unfold chkD;have hlb:=VA d;cases hl:limD d with
 |false=>
  rw[hl]at hlb;rw[X0 rfl];simp only[eZ,seval,W7,W0,c86,hlb,W7]
 |true=>
 rw[hl]at hlb;rw[W6 zd];have c7:FewR d:=⟨hd,by
  unfold limD at hl;simp only[W5,W8]at hl;omega⟩
 cases hr:resD d with
 |error e=>
  have hv:CA d= .tup [encD dcl0,.int .i64 e]:=by unfold CA;rw[hr]
  have he:(e=0)=False:=W4 (ER hr);simp only[eZ,seval,W3,W7,eY,c86,hlb,W3,Jz,s1,A7,Al,W1 c7,hv,he]
 |ok x=>
 have hv:CA d= .tup [encD x,.int .i64 0]:=by unfold CA;rw[hr]
 have hfx:=Fv hd hr;simp only[];by_cases hx:x=d;case neg=>
  rw[X0 hx];simp only[eZ,seval,W3,W7,eY,c86,hlb,W3,Jz,LN,s1,s2,A7,Al,W1 c7,W1 hfx,hv,Aw hx]
 rw[W6 (λz=>z hx)];subst hx;by_cases hver:x.ver<1\/255<x.ver
 ·have hvb:(decide (x.ver<1)||decide (255<x.ver))=true:=by simpa using hver
  rw[X0 hver];simp only[eZ,seval,W3,eY,c86,hlb,W3,Jz,LN,s1,s2,A7,Al,W1 c7,W1 hd,hv,hvb]
 have hvb:(decide (x.ver<1)||decide (255<x.ver))=false:=by simp;omega
 rw[W6 hver];cases hc:Ai x.sh x.w x.h x.holes with
 |none=>
  have hm:BK x.sh x.w x.h x.holes= .tup [encG 0 0 0 [] [],.int .i64 130]:=by unfold BK;rw[hc]
  simp only[eZ,seval,W3,W7,eY,c86,hlb,W3,Jz,LN,PE,s1,s2,A7,Al,Ad,AY,W1 c7,W1 hd,W1 hd.ho,hv,hvb,hm]
 |some cells=>
 have hm:BK x.sh x.w x.h x.holes= .tup [encG x.sh x.w x.h x.holes cells,.int .i64 0]:=by unfold BK;rw[hc]
 simp only[];by_cases hre:C7 cells x.regs=0;case neg=>
  rw[X0 hre];simp only[eZ,seval,W3,W7,eY,c86,hlb,W3,Jz,LN,PE,ST,s1,s2,A7,Al,Ad,AY,E5,Cx,W1 c7,W1 hd,W1 hd.ho,hv,hvb,hm,hc,W4 hre]
 rw[W6 (λz=>z hre)];cases hf:Bd x with
 |false=>
  rw[X0 rfl];simp only[eZ,seval,W3,W7,eY,c86,hlb,W3,Jz,LN,PE,ST,U9,s1,s2,A7,Al,Ad,AY,E5,Cx,W1 c7,W1 hd,W1 hd.ho,hv,hvb,hm,hc,hre,hf]
 |true=>
 rw[W6 zd];by_cases hu:BX x.ruls=[]
 ·rw[W6 (λz=>z hu)];simp only[eZ,seval,W3,eY,c86,hlb,W3,Jz,LN,PE,ST,U9,Tcz_u,s1,s2,A7,Al,Ad,AY,E5,Cx,W1 c7,W1 hd,W1 hd.ho,W1 hd.ru,hv,hvb,hm,hc,hre,hf,hu]
 ·rw[X0 hu];have hup:((0:Int)<((BX x.ruls).length:Int))=True:=W1 (by have:=List.length_pos_iff.2 hu;omega);simp only[eZ,seval,W3,eY,c86,hlb,W3,Jz,LN,PE,ST,U9,Tcz_u,s1,s2,A7,Al,Ad,AY,E5,Cx,W1 c7,W1 hd,W1 hd.ho,W1 hd.ru,hv,hvb,hm,hc,hre,hf,hup]
abbrev eLLs(ls:List (List (List Int))):Fs:=.sl (.none 1) (ls.map eLl)
abbrev AJ(k:z8):List Fs:=AH k.d++(AD k.g.sh k.g.w k.g.h k.g.holes k.g.cells++[eLl k.nb,eLLs k.ls])
abbrev Bj(k:z8):Fs:=.agg (AJ k)
def PG:Fs->List (List (List Int))
 | .sl _ L=>L.map Ot
 |_=>[]
def decKn:Fs->z8
 | .agg [nm,v,sh,w,h,ho,sy,rg,cl,ru,gs,gw,gh,gho,gce,nb,ls]=>⟨decD (.agg [nm,v,sh,w,h,ho,sy,rg,cl,ru]),Rt (.agg [gs,gw,gh,gho,gce]),Ot nb,PG ls⟩
 |_=>⟨dcl0,⟨0,0,0,[],[]⟩,[],[]⟩
def Dm(n:Nat)(l:List (List (List Int))):(eLLs l).under n:=⟨trivial,BC (Ak n) _⟩
def Ag(n:Nat)(k:z8):(Bj k).under n:=⟨trivial,trivial,trivial,trivial,trivial,AR n _,Ew n _,DC n _,DD n _,CG n _,trivial,trivial,trivial,AR n _,AR n _,Ak n _,Dm n _,trivial⟩
def Nq(l:List (List (List Int))):PG (eLLs l)=l:=Dk Ej l
def J0(k:z8):decKn (Bj k)=k:=by
 have h1:=Jo k.d;have h2:=Hq k.g;show z8.mk (decD (encD k.d)) (Rt (B0 k.g)) (Ot (eLl k.nb)) (PG (eLLs k.ls))=k;rw[h1,h2,Ej,Nq]
def dLLs:Dc (List (List (List Int))):=dLi 1 eLl Ot
def VB(l:List (List (List Int))):dLLs.ok (eLLs l)=True:=Hl Ej (.inl rfl)
def SU(l:List (List (List Int))):dLLs.dec (eLLs l)=l:=FT Ej
def dKn:Dc z8:=dWk Bj decKn
def DW(x:z8):dKn.ok (Bj x)=True:=Hi J0 x
def CJ(x:z8):dKn.dec (Bj x)=x:=J0 x
def p105(a b:List (List Int))(hb:Br b):Pur prog 105 [eLl a,eLl b] (.bool (decide (a=b))):=by
 refine .mk ⟨Ak 0 a,Ak 0 b,trivial⟩ trivial (c105.a (AF Uv (AG ?_)));simp only[eE,eN,seval,c105,Tcl,s2f,CQ,Bm,W1 hb,tadd]
def Tke:Tab:=tadd 105 (s2 dLl dLl (λ_ b=>Br b) λa b=>.bool (decide (a=b))) tnil
def UL:AI prog Tke:=AI.tnil.add (q2 p105)
def p106(a b:List (List (List Int)))(hb:few b)(hx:∀x∈b,Br x):Pur prog 106 [eLLs a,eLLs b,.fn (.func 105) [] []] (.bool (decide (a=b))):=by
 refine .mk ⟨Dm 0 a,Dm 0 b,by simp [Fs.under,unders],trivial⟩ trivial (c106.a (AF UL (AG ?_)));by_cases hl:a.length=b.length;case neg=>
  simp only[eZ,seval,W7,W0,c106,GP hl,W7];exact(X9 λe=>hl (by rw[e])).symm
 simp only[eZ,seval,W3,W0,c106,GQ hl];refine AL (λi:Nat=>⟨[(1,true,eLLs b),(2,true,.fn (.func 105) [] []),(15,true,eLLs a),(16,true,.int .i64 a.length),(17,true,.int .i64 i)],hnil,0⟩) (λi=>i<=a.length/\∀j,j<i->a[j]?=b[j]?) (λi=>a.length-i) 0 rfl ⟨Wz _,λj hj=>zo⟩ ?_;rintro i ⟨hi,d6⟩;by_cases c5:i<a.length;case neg=>
  simp only[eZ,seval,lt_F c5];exact(Xf (Dd hl λj hj=>d6 j zo)).symm
 have hltb:i<b.length:=zo
 have hga:=W2 c5;have hgb:=W2 hltb;have e:=AE (k:=i) (by have:b.length<1000000000:=hb;omega);have hf:=hx _ (X5 hltb);by_cases hs:a[i]=b[i]
 ·simp only[eZ,seval,W3,X6,X1,X3,W0,Xa,lt_T c5,lt_T hltb,hga,hgb,e,Tke,s2,CQ,Bm,W1 hf,BA hs,tadd];refine lpN.drop (i+1) rfl rfl rfl rfl AQ.nil (λ_ _ h=>by cases h) ⟨Dm 0 b,by simp [Fs.under,unders],Dm 0 a,trivial,trivial,trivial⟩ ⟨c5,λj h=>?_⟩ zo;by_cases q:j=i
  ·subst q;rw[hga,hgb,hs]
  ·exact d6 j zo
 ·simp only[eZ,seval,W7,X6,X1,X3,W0,Xa,lt_T c5,lt_T hltb,hga,hgb,Tke,s2,CQ,Bm,W1 hf,Aw hs,tadd];exact(X9 λq=>hs (by simp [q])).symm
structure FewKn(k:z8):Prop where
 d:qk k.d
 ho:wide k.g.holes
 ce:wide k.g.cells
 nb:Br k.nb
 ls:few k.ls
 lx:∀x∈k.ls,Br x
def Tks:Tab:=tadd 103 (s2 dIs dIs (λ_ b=>wide b) λa b=>.bool (decide (a=b))) (tadd 104 (s2 dD dD (λ_ b=>qk b) λa b=>.bool (decide (a=b))) (tadd 106 (s2f 105 dLLs dLLs (λ_ b=>few b/\∀x∈b,Br x) λa b=>.bool (decide (a=b))) Tke))
def Tks_ok:AI prog Tks:=((UL.add (q2f λa b h=>p106 a b h.1 h.2)).add (q2 p104)).add (q2 p103)
theorem Tks_i(a:List Fs)(H:AC):Tks 103 a H=s2 dIs dIs (λ_ b=>wide b) (λa b=>.bool (decide (a=b))) a H:=rfl
theorem Tks_s(a:List Fs)(H:AC):Tks 104 a H=s2 dD dD (λ_ b=>qk b) (λa b=>.bool (decide (a=b))) a H:=rfl
theorem Tks_f(a:List Fs)(H:AC):Tks 106 a H=s2f 105 dLLs dLLs (λ_ b=>few b/\∀x∈b,Br x) (λa b=>.bool (decide (a=b))) a H:=rfl
theorem Tks_e(a:List Fs)(H:AC):Tks 105 a H=s2 dLl dLl (λ_ b=>Br b) (λa b=>.bool (decide (a=b))) a H:=rfl
def VC{a b:z8}:a=b↔(((((((a.g.sh=b.g.sh/\a.g.w=b.g.w)/\a.g.h=b.g.h)/\a.g.holes=b.g.holes)/\a.g.cells=b.g.cells)/\a.d=b.d)/\a.nb=b.nb)/\a.ls=b.ls):=by
 obtain⟨ad,⟨a1,a2,a3,a4,a5⟩,an,al⟩:=a;obtain⟨bd,⟨b1,b2,b3,b4,b5⟩,bn,bl⟩:=b;simp only[z8.mk.injEq,j9.mk.injEq];constructor
 ·simp_all
 ·simp_all
def p58(a b:z8)(hb:FewKn b):Pur prog 58 [Bj a,Bj b] (.bool (decide (a=b))):=by
 refine .mk ⟨Ag 0 a,Ag 0 b,trivial⟩ trivial (c58.a (AF Tks_ok (AG ?_)));have e1:dD.ok (.agg (AH a.d))=True:=A7 a.d;have e2:dD.dec (.agg (AH a.d))=a.d:=Al a.d;have e3:dD.ok (.agg (AH b.d))=True:=A7 b.d;have e4:dD.dec (.agg (AH b.d))=b.d:=Al b.d;simp only[AH]at e1 e2 e3 e4;simp only[eZ,seval,c58,AJ,AD,AH,Tks_i,Tks_s,Tks_f,Tks_e,s2,s2f,Ad,AY,CQ,Bm,VB,SU,e1,e2,e3,e4,W1 hb.d,W1 hb.ho,W1 hb.ce,W1 hb.nb,W1 hb.ls,W1 hb.lx];rw[Xc];simp only[W5,W8,VC]
def p131(a b:List Int)(ha:wide a):Pur prog 131 [eIs a,eIs b] (.bool (decide (a=b))):=by
 refine .mk ⟨AR 0 _,AR 0 _,trivial⟩ trivial (c131.a (AF AI.tnil (AG ?_)));have hal:a.length<1125899906842624:=ha;by_cases hl:a.length=b.length;case neg=>
  have hR:decide (a=b)=false:=X9 λq=>hl (by rw[q])
  have hq:((a.length:Int)=(b.length:Int))=False:=W4 zo;rw[hR];simp only[eZ,seval,W7,W0,c131,hq]
 have hq:((a.length:Int)=(b.length:Int))=True:=W1 zo;simp only[eZ,seval,W3,W0,c131,hq];refine AL (λi:Nat=>⟨[(0,true,eIs a),(1,true,eIs b),(5,true,.int .i64 i)],hnil,0⟩) (λi=>i<=a.length/\a.take i=b.take i) (λi=>a.length-i) 0 rfl ⟨Wz _,rfl⟩ ?_;rintro i ⟨hi,c8⟩;by_cases c5:i<a.length
 ·have hltb:i<b.length:=zo
  have hg:=W2 c5;have hgb:=W2 hltb;have e:=AE (k:=i) zo;have ta:a.take (i+1)=a.take i++[a[i]]:=by rw[X7,hg];rfl
  have tb:b.take (i+1)=b.take i++[b[i]]:=by rw[X7,hgb];rfl
  generalize a[i]=x at hg ta;generalize b[i]=y at hgb tb;by_cases hxy:x=y
  ·simp only[eZ,seval,W3,eY,lt_T c5,lt_T hltb,hg,hgb,e,hxy];exact .mk (i+1) rfl ⟨c5,by rw[ta,tb,c8,hxy]⟩ zo
  ·have hR:decide (a=b)=false:=X9 λq=>hxy (by rw[q]at hg;rw[hg]at hgb;exact Option.some.inj hgb)
   rw[hR];simp only[eZ,seval,W7,eY,lt_T c5,lt_T hltb,hg,hgb,Aw hxy]
 obtain rfl:i=a.length:=zo
 have hR:decide (a=b)=true:=Xf (by rw[X4,hl,X4]at c8;exact c8);rw[hR];simp only[eZ,seval,W0,lt_F c5]
def p173(a b:List Bs)(ha:wide a):Pur prog 173 [eSs a,eSs b] (.bool (decide (a=b))):=by
 refine .mk ⟨BT 0 _,BT 0 _,trivial⟩ trivial (c173.a (AF AI.tnil (AG ?_)));have hal:a.length<1125899906842624:=ha;by_cases hl:a.length=b.length;case neg=>
  have hR:decide (a=b)=false:=X9 λq=>hl (by rw[q])
  have hq:((a.length:Int)=(b.length:Int))=False:=W4 zo;rw[hR];simp only[eZ,seval,W7,W0,c173,hq]
 have hq:((a.length:Int)=(b.length:Int))=True:=W1 zo;simp only[eZ,seval,W3,W0,c173,hq];refine AL (λi:Nat=>⟨[(0,true,eSs a),(1,true,eSs b),(5,true,.int .i64 i)],hnil,0⟩) (λi=>i<=a.length/\a.take i=b.take i) (λi=>a.length-i) 0 rfl ⟨Wz _,rfl⟩ ?_;rintro i ⟨hi,c8⟩;by_cases c5:i<a.length
 ·have hltb:i<b.length:=zo
  have hg:=W2 c5;have hgb:=W2 hltb;have e:=AE (k:=i) zo;have ta:a.take (i+1)=a.take i++[a[i]]:=by rw[X7,hg];rfl
  have tb:b.take (i+1)=b.take i++[b[i]]:=by rw[X7,hgb];rfl
  generalize a[i]=x at hg ta;generalize b[i]=y at hgb tb;by_cases hxy:x=y
  ·simp only[eZ,seval,W3,eY,lt_T c5,lt_T hltb,hg,hgb,e,Ap,BA hxy];exact .mk (i+1) rfl ⟨c5,by rw[ta,tb,c8,hxy]⟩ zo
  ·have hR:decide (a=b)=false:=X9 λq=>hxy (by rw[q]at hg;rw[hg]at hgb;exact Option.some.inj hgb)
   rw[hR];simp only[eZ,seval,W7,eY,lt_T c5,lt_T hltb,hg,hgb,Ap,Aw hxy]
 obtain rfl:i=a.length:=zo
 have hR:decide (a=b)=true:=Xf (by rw[X4,hl,X4]at c8;exact c8);rw[hR];simp only[eZ,seval,W0,lt_F c5]
def T6n:Tab:=tadd 173 (s2 dSs dSs (λa _=>wide a) λa b=>.bool (decide (a=b))) tnil
def T6n_ok:AI prog T6n:=AI.tnil.add (q2 p173)
def T6i:Tab:=tadd 131 (s2 dIs dIs (λa _=>wide a) λa b=>.bool (decide (a=b))) tnil
def T6i_ok:AI prog T6i:=AI.tnil.add (q2 p131)
def T3i:Tab:=tadd 130 (s2 dIs dIs (λa _=>wide a) λa b=>.bool (decide (a=b))) tnil
def UM:AI prog T3i:=AI.tnil.add (q2 p130W)
def p133(a b:qz)(ha:Fo a):Pur prog 133 [BV a,BV b] (.bool (decide (a=b))):=by
 refine .mk ⟨Ar 0 _,Ar 0 _,trivial⟩ trivial (c133.a (AF T6n_ok (AG ?_)));obtain⟨h1,h2⟩:=ha;simp only[eZ,seval,c133,T6n,s2,Fm,ED,W1 h1,W1 h2,A3,tadd];rw[Xc,W8,MR];simp only[W5,W8];constructor
 ·intro h;simp only[h,and_self]
 ·intro h;simp only[h,and_self]
def p91(a b:List (List Int))(ha:few a)(hf:∀x∈a,wide x):Pur prog 91 [eLl a,eLl b] (.bool (decide (a=b))):=by
 refine .mk ⟨Ak 0 _,Ak 0 _,trivial⟩ trivial (c91.a (AF UM (AG ?_)));have hal:a.length<1000000000:=ha;by_cases hl:a.length=b.length;case neg=>
  have hR:decide (a=b)=false:=X9 λq=>hl (by rw[q])
  have hq:((a.length:Int)=(b.length:Int))=False:=W4 zo;rw[hR];simp only[eZ,seval,W7,W0,c91,hq]
 have hq:((a.length:Int)=(b.length:Int))=True:=W1 zo;simp only[eZ,seval,W3,W0,c91,hq];refine AL (λi:Nat=>⟨[(0,true,eLl a),(1,true,eLl b),(5,true,.int .i64 i)],hnil,0⟩) (λi=>i<=a.length/\a.take i=b.take i) (λi=>a.length-i) 0 rfl ⟨Wz _,rfl⟩ ?_;rintro i ⟨hi,c8⟩;by_cases c5:i<a.length
 ·have hltb:i<b.length:=zo
  have hg:=W2 c5;have hgb:=W2 hltb;have e:=AE (k:=i) zo;have ta:a.take (i+1)=a.take i++[a[i]]:=by rw[X7,hg];rfl
  have tb:b.take (i+1)=b.take i++[b[i]]:=by rw[X7,hgb];rfl
  have hxf:=hf _ (X5 c5);generalize a[i]=x at hg ta hxf;generalize b[i]=y at hgb tb;by_cases hxy:x=y
  ·simp only[eZ,seval,W3,eY,lt_T c5,lt_T hltb,hg,hgb,e,T3i,s2,Ad,AY,W1 hxf,BA hxy,tadd];exact .mk (i+1) rfl ⟨c5,by rw[ta,tb,c8,hxy]⟩ zo
  ·have hR:decide (a=b)=false:=X9 λq=>hxy (by rw[q]at hg;rw[hg]at hgb;exact Option.some.inj hgb)
   rw[hR];simp only[eZ,seval,W7,eY,lt_T c5,lt_T hltb,hg,hgb,T3i,s2,Ad,AY,W1 hxf,Aw hxy,tadd]
 obtain rfl:i=a.length:=zo
 have hR:decide (a=b)=true:=Xf (by rw[X4,hl,X4]at c8;exact c8);rw[hR];simp only[eZ,seval,W0,lt_F c5]
def p132(x y:zj)(hx:Br x.ls):Pur prog 132 [Fj x,Fj y] (.bool (decide (x=y))):=by
 refine .mk ⟨Cd 0 x,Cd 0 y,trivial⟩ trivial (c132.a (AF T6i_ok (AG ?_)));obtain⟨nm,a⟩:=x;obtain⟨nn,b⟩:=y;have ha:few a:=hx.1;have hf:∀x∈a,wide x:=hx.2;have hal:a.length<1000000000:=ha;by_cases hn:nm=nn;case neg=>
  have hR:decide ((⟨nm,a⟩:zj)=⟨nn,b⟩)=false:=X9 λq=>hn (by injection q)
  rw[hR];simp only[eZ,seval,W3,W7,W0,c132,Ap,Aw hn]
 subst hn;by_cases hl:a.length=b.length;case neg=>
  have hR:decide ((⟨nm,a⟩:zj)=⟨nm,b⟩)=false:=X9 λq=>hl (by injection q with _ q;rw[q])
  have hq:((a.length:Int)=(b.length:Int))=False:=W4 zo;rw[hR];simp only[eZ,seval,W3,W7,W0,c132,hq,Ap]
 have hq:((a.length:Int)=(b.length:Int))=True:=W1 zo;have hS:decide ((⟨nm,a⟩:zj)=⟨nm,b⟩)=decide (a=b):=by rw[Xc];simp [zj.mk.injEq]
 rw[hS];simp only[eZ,seval,W3,W0,c132,hq,Ap];refine AL (λi:Nat=>⟨[(2,true,.ptr 0 0),(3,true,.ptr 1 0),(5,true,.int .i64 i)],hset (hset hnil 0 (.box [.str nm,eLl a])) 1 (.box [.str nm,eLl b]),3⟩) (λi=>i<=a.length/\a.take i=b.take i) (λi=>a.length-i) 0 rfl ⟨Wz _,rfl⟩ ?_;rintro i ⟨hi,c8⟩;by_cases c5:i<a.length
 ·have hltb:i<b.length:=zo
  have hg:=W2 c5;have hgb:=W2 hltb;have e:=AE (k:=i) zo;have ta:a.take (i+1)=a.take i++[a[i]]:=by rw[X7,hg];rfl
  have tb:b.take (i+1)=b.take i++[b[i]]:=by rw[X7,hgb];rfl
  have hxf:=hf _ (X5 c5);generalize a[i]=x at hg ta hxf;generalize b[i]=y at hgb tb;by_cases hxy:x=y
  ·simp only[eZ,seval,W3,eY,lt_T c5,lt_T hltb,hg,hgb,e,T6i,s2,Ad,AY,W1 hxf,BA hxy,tadd];exact .mk (i+1) rfl ⟨c5,by rw[ta,tb,c8,hxy]⟩ zo
  ·have hR:decide (a=b)=false:=X9 λq=>hxy (by rw[q]at hg;rw[hg]at hgb;exact Option.some.inj hgb)
   rw[hR];simp only[eZ,seval,W7,eY,lt_T c5,lt_T hltb,hg,hgb,T6i,s2,Ad,AY,W1 hxf,Aw hxy,tadd]
 obtain rfl:i=a.length:=zo
 have hR:decide (a=b)=true:=Xf (by rw[X4,hl,X4]at c8;exact c8);rw[hR];simp only[eZ,seval,W0,lt_F c5]
def p93(a b:j9)(h1:wide a.holes)(h2:wide a.cells):Pur prog 93 [B0 a,B0 b] (.bool (decide (a=b))):=by
 refine .mk ⟨⟨trivial,trivial,trivial,AR 0 _,AR 0 _,trivial⟩,⟨trivial,trivial,trivial,AR 0 _,AR 0 _,trivial⟩,trivial⟩ trivial (c93.a (AF UM (AG ?_)));simp only[eZ,seval,c93,T3i,s2,Ad,AY,W1 h1,W1 h2,tadd];rw[Xc];simp only[W5,W8];constructor
 ·intro h;obtain⟨a1,a2,a3,a4,a5⟩:=a;obtain⟨b1,b2,b3,b4,b5⟩:=b;simp only at h;simp only[h]
 ·intro h;simp only[h,and_self]
def T6d:Tab:=tadd 131 (s2 dIs dIs (λa _=>wide a) λa b=>.bool (decide (a=b))) (tadd 132 (s2 dRg dRg (λa _=>Br a.ls) λa b=>.bool (decide (a=b))) (tadd 133 (s2 dRu dRu (λa _=>Fo a) λa b=>.bool (decide (a=b))) tnil))
def T6d_ok:AI prog T6d:=((AI.tnil.add (q2 p133)).add (q2 p132)).add (q2 p131)
def p92(a b:zk)(hd:qk a):Pur prog 92 [encD a,encD b] (.bool (decide (a=b))):=by
 refine .mk ⟨Ab 0 _,Ab 0 _,trivial⟩ trivial (a92 (AF T6d_ok (AG ?_)));cases h1:decide (a.nm=b.nm/\a.ver=b.ver/\a.sh=b.sh/\a.w=b.w/\a.h=b.h/\a.holes=b.holes)with
 |false=>
  have h1:=Zb h1;have hR:decide (a=b)=false:=X9 λq=>h1 (by rw[q];exact⟨rfl,rfl,rfl,rfl,rfl,rfl⟩)
  have hb:(scmp .neq a.nm b.nm|| !decide (a.ver=b.ver)|| !decide (a.sh=b.sh)|| !decide (a.w=b.w)|| !decide (a.h=b.h)|| !decide (a.holes=b.holes))=true:=by
   rw[Ap,<-Zc];intro q;simp only[Yx,YZ,W8,Yp]at q;exact h1 q
  rw[hR];simp only[eZ,seval,W3,W0,c92,T6d,s2,Ad,AY,W1 (Ci hd.ho),hb,tadd]
 |true=>
 obtain⟨a1,a2,a3,a4,a5,a6⟩:=Xu h1;have hb:(scmp .neq a.nm b.nm|| !decide (a.ver=b.ver)|| !decide (a.sh=b.sh)|| !decide (a.w=b.w)|| !decide (a.h=b.h)|| !decide (a.holes=b.holes))=false:=by
  rw[Ap];simp [a1,a2,a3,a4,a5,a6]
 clear h1;cases h2:decide (a.syms.length=b.syms.length/\a.regs.length=b.regs.length/\a.clus.length=b.clus.length/\a.ruls.length=b.ruls.length)with
 |false=>
  have h2:=Zb h2;have hR:decide (a=b)=false:=X9 λq=>h2 (by rw[q];exact⟨rfl,rfl,rfl,rfl⟩)
  have k9:(!decide ((a.syms.length:Int)=(b.syms.length:Int))|| !decide ((a.regs.length:Int)=(b.regs.length:Int))|| !decide ((a.clus.length:Int)=(b.clus.length:Int))|| !decide ((a.ruls.length:Int)=(b.ruls.length:Int)))=true:=by grind
  rw[hR];simp only[eZ,seval,W0,c92,T6d,s2,Ad,AY,W1 (Ci hd.ho),hb,k9,tadd]
 |true=>
 obtain⟨l1,l2,l3,l4⟩:=Xu h2;have k9:(!decide ((a.syms.length:Int)=(b.syms.length:Int))|| !decide ((a.regs.length:Int)=(b.regs.length:Int))|| !decide ((a.clus.length:Int)=(b.clus.length:Int))|| !decide ((a.ruls.length:Int)=(b.ruls.length:Int)))=false:=by
  simp [l1,l2,l3,l4]
 clear h2;simp only[eZ,seval,W0,c92,T6d,s2,Ad,AY,W1 (Ci hd.ho),hb,k9,tadd];refine AL (λi:Nat=>⟨[(2,true,.ptr 0 0),(3,true,.ptr 1 0),(5,true,.int .i64 i)],hset (hset hnil 0 (.box (AH a))) 1 (.box (AH b)),3⟩) (λi=>i<=a.syms.length/\a.syms.take i=b.syms.take i) (λi=>a.syms.length-i) 0 rfl ⟨Wz _,rfl⟩ ?_;rintro i ⟨hi,c8⟩;have hfl:a.syms.length<1000000000:=hd.sy;by_cases c5:i<a.syms.length
 ·have hltb:i<b.syms.length:=zo
  have hg:=W2 c5;have hgb:=W2 hltb;have e:=AE (k:=i) zo;have ta:a.syms.take (i+1)=a.syms.take i++[a.syms[i]]:=by rw[X7,hg];rfl
  have tb:b.syms.take (i+1)=b.syms.take i++[b.syms[i]]:=by rw[X7,hgb];rfl
  generalize a.syms[i]=x at hg ta;generalize b.syms[i]=y at hgb tb;by_cases hxy:x=y
  ·have hc:=I2 x y;rw[Xf hxy]at hc;simp only[eZ,seval,W3,eY,lt_T c5,lt_T hltb,hg,hgb,e,hc,cfit];exact .mk (i+1) rfl ⟨c5,by rw[ta,tb,c8,hxy]⟩ zo
  ·have hR:decide (a=b)=false:=X9 λq=>hxy (by rw[q]at hg;rw[hg]at hgb;exact Option.some.inj hgb)
   have hc:=I2 x y;rw[X9 hxy]at hc;rw[hR];simp only[eZ,seval,W7,eY,lt_T c5,lt_T hltb,hg,hgb,hc,cfit]
 obtain rfl:i=a.syms.length:=zo
 have b_syms:a.syms=b.syms:=by rw[X4,l1,X4]at c8;exact c8
 simp only[eZ,seval,W0,lt_F c5];clear hi c8 hfl c5;refine AL (λi:Nat=>⟨[(2,true,.ptr 0 0),(3,true,.ptr 1 0),(6,true,.int .i64 i)],hset (hset hnil 0 (.box (AH a))) 1 (.box (AH b)),3⟩) (λi=>i<=a.regs.length/\a.regs.take i=b.regs.take i) (λi=>a.regs.length-i) 0 rfl ⟨Wz _,rfl⟩ ?_;rintro i ⟨hi,c8⟩;have hfl:a.regs.length<1000000000:=hd.rg;by_cases c5:i<a.regs.length
 ·have hltb:i<b.regs.length:=zo
  have hg:=W2 c5;have hgb:=W2 hltb;have e:=AE (k:=i) zo;have ta:a.regs.take (i+1)=a.regs.take i++[a.regs[i]]:=by rw[X7,hg];rfl
  have tb:b.regs.take (i+1)=b.regs.take i++[b.regs[i]]:=by rw[X7,hgb];rfl
  have hxf:Br a.regs[i].ls:=hd.rgs _ (X5 c5);generalize a.regs[i]=x at hg ta hxf;generalize b.regs[i]=y at hgb tb;by_cases hxy:x=y
  ·simp only[eZ,seval,W3,eY,lt_T c5,lt_T hltb,hg,hgb,e,T6d,s2,Iz,F9,W1 hxf,BA hxy,tadd];exact .mk (i+1) rfl ⟨c5,by rw[ta,tb,c8,hxy]⟩ zo
  ·have hR:decide (a=b)=false:=X9 λq=>hxy (by rw[q]at hg;rw[hg]at hgb;exact Option.some.inj hgb)
   rw[hR];simp only[eZ,seval,W7,eY,lt_T c5,lt_T hltb,hg,hgb,T6d,s2,Iz,F9,W1 hxf,Aw hxy,tadd]
 obtain rfl:i=a.regs.length:=zo
 have b_regs:a.regs=b.regs:=by rw[X4,l2,X4]at c8;exact c8
 simp only[eZ,seval,W0,lt_F c5];clear hi c8 hfl c5;refine AL (λi:Nat=>⟨[(2,true,.ptr 0 0),(3,true,.ptr 1 0),(7,true,.int .i64 i)],hset (hset hnil 0 (.box (AH a))) 1 (.box (AH b)),3⟩) (λi=>i<=a.clus.length/\a.clus.take i=b.clus.take i) (λi=>a.clus.length-i) 0 rfl ⟨Wz _,rfl⟩ ?_;rintro i ⟨hi,c8⟩;have hfl:a.clus.length<1000000000:=hd.cl;by_cases c5:i<a.clus.length
 ·have hltb:i<b.clus.length:=zo
  have hg:=W2 c5;have hgb:=W2 hltb;have e:=AE (k:=i) zo;have ta:a.clus.take (i+1)=a.clus.take i++[a.clus[i]]:=by rw[X7,hg];rfl
  have tb:b.clus.take (i+1)=b.clus.take i++[b.clus[i]]:=by rw[X7,hgb];rfl
  generalize a.clus[i]=x at hg ta;generalize b.clus[i]=y at hgb tb;by_cases hxy:x=y
  ·have hc:=I3 x y;rw[Xf hxy]at hc;simp only[eZ,seval,W3,eY,lt_T c5,lt_T hltb,hg,hgb,e,hc,cfit];exact .mk (i+1) rfl ⟨c5,by rw[ta,tb,c8,hxy]⟩ zo
  ·have hR:decide (a=b)=false:=X9 λq=>hxy (by rw[q]at hg;rw[hg]at hgb;exact Option.some.inj hgb)
   have hc:=I3 x y;rw[X9 hxy]at hc;rw[hR];simp only[eZ,seval,W7,eY,lt_T c5,lt_T hltb,hg,hgb,hc,cfit]
 obtain rfl:i=a.clus.length:=zo
 have b_clus:a.clus=b.clus:=by rw[X4,l3,X4]at c8;exact c8
 simp only[eZ,seval,W0,lt_F c5];clear hi c8 hfl c5;refine AL (λi:Nat=>⟨[(2,true,.ptr 0 0),(3,true,.ptr 1 0),(8,true,.int .i64 i)],hset (hset hnil 0 (.box (AH a))) 1 (.box (AH b)),3⟩) (λi=>i<=a.ruls.length/\a.ruls.take i=b.ruls.take i) (λi=>a.ruls.length-i) 0 rfl ⟨Wz _,rfl⟩ ?_;rintro i ⟨hi,c8⟩;have hfl:a.ruls.length<1000000000:=hd.ru;by_cases c5:i<a.ruls.length
 ·have hltb:i<b.ruls.length:=zo
  have hg:=W2 c5;have hgb:=W2 hltb;have e:=AE (k:=i) zo;have ta:a.ruls.take (i+1)=a.ruls.take i++[a.ruls[i]]:=by rw[X7,hg];rfl
  have tb:b.ruls.take (i+1)=b.ruls.take i++[b.ruls[i]]:=by rw[X7,hgb];rfl
  have hxf:Fo a.ruls[i]:=hd.rus _ (X5 c5);generalize a.ruls[i]=x at hg ta hxf;generalize b.ruls[i]=y at hgb tb;by_cases hxy:x=y
  ·simp only[eZ,seval,W3,eY,lt_T c5,lt_T hltb,hg,hgb,e,T6d,s2,Bf,A6,W1 hxf,BA hxy,tadd];exact .mk (i+1) rfl ⟨c5,by rw[ta,tb,c8,hxy]⟩ zo
  ·have hR:decide (a=b)=false:=X9 λq=>hxy (by rw[q]at hg;rw[hg]at hgb;exact Option.some.inj hgb)
   rw[hR];simp only[eZ,seval,W7,eY,lt_T c5,lt_T hltb,hg,hgb,T6d,s2,Bf,A6,W1 hxf,Aw hxy,tadd]
 obtain rfl:i=a.ruls.length:=zo
 have b_ruls:a.ruls=b.ruls:=by rw[X4,l4,X4]at c8;exact c8
 have hR:decide (a=b)=true:=Xf (by
  cases a;cases b;simp only at a1 a2 a3 a4 a5 a6 b_syms b_regs b_clus b_ruls;subst a1 a2 a3 a4 a5 a6 b_syms b_regs b_clus b_ruls;rfl)
 rw[hR];simp only[eZ,seval,W0,lt_F c5]
def T8l:Tab:=tadd 91 (s2 dLl dLl (λa _=>Br a) λa b=>.bool (decide (a=b))) (tadd 93 (s2 dGd dGd (λa _=>wide a.holes/\wide a.cells) λa b=>.bool (decide (a=b))) (tadd 92 (s2 dD dD (λa _=>qk a) λa b=>.bool (decide (a=b))) tnil))
def T8l_ok:AI prog T8l:=((AI.tnil.add (q2 p92)).add (q2 λa b h=>p93 a b h.1 h.2)).add (q2 λa b h=>p91 a b h.1 h.2)
structure FewKr(k:z8):Prop where
 d:qk k.d
 ho:wide k.g.holes
 ce:wide k.g.cells
 nb:Br k.nb
 ls:wide k.ls
 lx:∀x∈k.ls,Br x
def p53(x y:z8)(hx:FewKr x):Pur prog 53 [Bj x,Bj y] (.bool (decide (x=y))):=by
 refine .mk ⟨Ag 0 x,Ag 0 y,trivial⟩ trivial (c53.a (AF T8l_ok (AG ?_)));have hal:x.ls.length<1125899906842624:=hx.ls;by_cases hl:x.ls.length=y.ls.length;case neg=>
  have hR:decide (x=y)=false:=X9 λq=>hl (by rw[q])
  have hq:((x.ls.length:Int)=(y.ls.length:Int))=False:=W4 zo;rw[hR];simp only[eZ,seval,W7,W0,c53,AJ,AD,AH,hq]
 have hq:((x.ls.length:Int)=(y.ls.length:Int))=True:=W1 zo;simp only[eZ,seval,W3,W0,c53,AJ,AD,AH,hq];refine AL (λi:Nat=>⟨[(2,true,.ptr 0 0),(3,true,.ptr 1 0),(5,true,.int .i64 i)],hset (hset hnil 0 (.box (AJ x))) 1 (.box (AJ y)),3⟩) (λi=>i<=x.ls.length/\x.ls.take i=y.ls.take i) (λi=>x.ls.length-i) 0 rfl ⟨Wz _,rfl⟩ ?_;rintro i ⟨hi,c8⟩;by_cases c5:i<x.ls.length
 ·have hltb:i<y.ls.length:=zo
  have hg:=W2 c5;have hgb:=W2 hltb;have e:=AE (k:=i) zo;have ta:x.ls.take (i+1)=x.ls.take i++[x.ls[i]]:=by rw[X7,hg];rfl
  have tb:y.ls.take (i+1)=y.ls.take i++[y.ls[i]]:=by rw[X7,hgb];rfl
  have hxf:=hx.lx _ (X5 c5);generalize x.ls[i]=u at hg ta hxf;generalize y.ls[i]=v at hgb tb;by_cases hxy:u=v
  ·simp only[eZ,seval,W3,eY,AJ,AD,AH,lt_T c5,lt_T hltb,hg,hgb,e,T8l,s2,CQ,Bm,W1 hxf,BA hxy,tadd];exact .mk (i+1) rfl ⟨c5,by rw[ta,tb,c8,hxy]⟩ zo
  ·have hR:decide (x=y)=false:=X9 λq=>hxy (by rw[q]at hg;rw[hg]at hgb;exact Option.some.inj hgb)
   rw[hR];simp only[eZ,seval,W7,eY,AJ,AD,AH,lt_T c5,lt_T hltb,hg,hgb,T8l,s2,CQ,Bm,W1 hxf,Aw hxy,tadd]
 obtain rfl:i=x.ls.length:=zo
 have t8:x.ls=y.ls:=by rw[X4,hl,X4]at c8;exact c8
 have e1:dD.ok (.agg (AH x.d))=True:=A7 x.d;have e2:dD.dec (.agg (AH x.d))=x.d:=Al x.d;have e3:dD.ok (.agg (AH y.d))=True:=A7 y.d;have e4:dD.dec (.agg (AH y.d))=y.d:=Al y.d;have f1:dGd.ok (.agg (AD x.g.sh x.g.w x.g.h x.g.holes x.g.cells))=True:=DQ x.g;have f2:dGd.dec (.agg (AD x.g.sh x.g.w x.g.h x.g.holes x.g.cells))=x.g:=CD x.g;have f3:dGd.ok (.agg (AD y.g.sh y.g.w y.g.h y.g.holes y.g.cells))=True:=DQ y.g;have f4:dGd.dec (.agg (AD y.g.sh y.g.w y.g.h y.g.holes y.g.cells))=y.g:=CD y.g;simp only[AH]at e1 e2 e3 e4;simp only[AD]at f1 f2 f3 f4;simp only[eZ,seval,W0,AJ,AD,AH,lt_F c5,T8l,s2,CQ,Bm,e1,e2,e3,e4,f1,f2,f3,f4,W1 hx.d,W1 hx.ho,W1 hx.ce,W1 hx.nb,tadd];rw[Xc];simp only[W5,W8];constructor
 ·rintro⟨⟨h1,h2⟩,h3⟩;obtain⟨a1,a2,a3,a4⟩:=x;obtain⟨b1,b2,b3,b4⟩:=y;simp only at h1 h2 h3 t8;subst h1 h2 h3 t8;rfl
 ·rintro rfl;exact⟨⟨rfl,rfl⟩,rfl⟩
end Go.AM
