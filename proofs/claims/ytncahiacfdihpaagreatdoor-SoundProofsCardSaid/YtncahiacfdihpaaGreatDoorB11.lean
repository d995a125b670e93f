/-
  Parts of the proof. Conditions: none.
-/
import Derived.Test.YtncahiacfdihpaaGreatDoorB10
import Derived.Test.YtncahiacfdihpaaGreatDoorB7
set_option maxRecDepth 20000
set_option linter.all false
namespace Go.AM
open Go.Lib Go.Proofs Go.Proofs.Tryz
def p162(a b:List Int)(ha:wide a):Pur prog 162 [eIs a,eIs b] (.bool (decide (a=b))):=by
 refine .mk ⟨AU 0 _,AU 0 _,trivial⟩ trivial (c162.a (AF AH.tnil (AG ?_)));have hal:a.length<1125899906842624:=ha;by_cases hl:a.length=b.length;case neg=>
  have hR:decide (a=b)=false:=Xe λq=>hl (by rw[q])
  have hq:((a.length:Int)=(b.length:Int))=False:=W9 zo;rw[hR];simp only[eZ,seval,W8,W3,c162,hq]
 have hq:((a.length:Int)=(b.length:Int))=True:=W4 zo;simp only[eZ,seval,W6,W3,c162,hq];refine AL (λi:Nat=>⟨[(0,true,eIs a),(1,true,eIs b),(5,true,.int .i64 i)],hnil,0⟩) (λi=>i<=a.length/\a.take i=b.take i) (λi=>a.length-i) 0 rfl ⟨X3 _,rfl⟩ ?_;rintro i ⟨hi,d6⟩;by_cases c6:i<a.length
 ·have hltb:i<b.length:=zo
  have hg:=W5 c6;have hgb:=W5 hltb;have e:=AE (k:=i) zo;have ta:a.take (i+1)=a.take i++[a[i]]:=by rw[Xd,hg];rfl
  have tb:b.take (i+1)=b.take i++[b[i]]:=by rw[Xd,hgb];rfl
  generalize a[i]=x at hg ta;generalize b[i]=y at hgb tb;by_cases hxy:x=y
  ·simp only[eZ,seval,W6,eY,lt_T c6,lt_T hltb,hg,hgb,e,hxy];exact .mk (i+1) rfl ⟨c6,by rw[ta,tb,d6,hxy]⟩ zo
  ·have hR:decide (a=b)=false:=Xe λq=>hxy (by rw[q]at hg;rw[hg]at hgb;exact Option.some.inj hgb)
   rw[hR];simp only[eZ,seval,W8,eY,lt_T c6,lt_T hltb,hg,hgb,Ax hxy]
 obtain rfl:i=a.length:=zo
 have hR:decide (a=b)=true:=Xi (by rw[Xb,hl,Xb]at d6;exact d6);rw[hR];simp only[eZ,seval,W3,lt_F c6]
def p229(a b:List Bs)(ha:wide a):Pur prog 229 [eSs a,eSs b] (.bool (decide (a=b))):=by
 refine .mk ⟨BS 0 _,BS 0 _,trivial⟩ trivial (c229.a (AF AH.tnil (AG ?_)));have hal:a.length<1125899906842624:=ha;by_cases hl:a.length=b.length;case neg=>
  have hR:decide (a=b)=false:=Xe λq=>hl (by rw[q])
  have hq:((a.length:Int)=(b.length:Int))=False:=W9 zo;rw[hR];simp only[eZ,seval,W8,W3,c229,hq]
 have hq:((a.length:Int)=(b.length:Int))=True:=W4 zo;simp only[eZ,seval,W6,W3,c229,hq];refine AL (λi:Nat=>⟨[(0,true,eSs a),(1,true,eSs b),(5,true,.int .i64 i)],hnil,0⟩) (λi=>i<=a.length/\a.take i=b.take i) (λi=>a.length-i) 0 rfl ⟨X3 _,rfl⟩ ?_;rintro i ⟨hi,d6⟩;by_cases c6:i<a.length
 ·have hltb:i<b.length:=zo
  have hg:=W5 c6;have hgb:=W5 hltb;have e:=AE (k:=i) zo;have ta:a.take (i+1)=a.take i++[a[i]]:=by rw[Xd,hg];rfl
  have tb:b.take (i+1)=b.take i++[b[i]]:=by rw[Xd,hgb];rfl
  generalize a[i]=x at hg ta;generalize b[i]=y at hgb tb;by_cases hxy:x=y
  ·simp only[eZ,seval,W6,eY,lt_T c6,lt_T hltb,hg,hgb,e,Ap,BB hxy];exact .mk (i+1) rfl ⟨c6,by rw[ta,tb,d6,hxy]⟩ zo
  ·have hR:decide (a=b)=false:=Xe λq=>hxy (by rw[q]at hg;rw[hg]at hgb;exact Option.some.inj hgb)
   rw[hR];simp only[eZ,seval,W8,eY,lt_T c6,lt_T hltb,hg,hgb,Ap,Ax hxy]
 obtain rfl:i=a.length:=zo
 have hR:decide (a=b)=true:=Xi (by rw[Xb,hl,Xb]at d6;exact d6);rw[hR];simp only[eZ,seval,W3,lt_F c6]
def Tsi:Tab:=tadd 162 (s2 dIs dIs (λa _=>wide a) λa b=>.bool (decide (a=b))) tnil
def Tsi_ok:AH prog Tsi:=AH.tnil.add (q2 p162)
def p163(a b:List (List Int))(ha:few a)(hf:∀x∈a,wide x):Pur prog 163 [eLl a,eLl b] (.bool (decide (a=b))):=by
 refine .mk ⟨Ak 0 _,Ak 0 _,trivial⟩ trivial (c163.a (AF Tsi_ok (AG ?_)));have hal:a.length<1000000000:=ha;by_cases hl:a.length=b.length;case neg=>
  have hR:decide (a=b)=false:=Xe λq=>hl (by rw[q])
  have hq:((a.length:Int)=(b.length:Int))=False:=W9 zo;rw[hR];simp only[eZ,seval,W8,W3,c163,hq]
 have hq:((a.length:Int)=(b.length:Int))=True:=W4 zo;simp only[eZ,seval,W6,W3,c163,hq];refine AL (λi:Nat=>⟨[(0,true,eLl a),(1,true,eLl b),(5,true,.int .i64 i)],hnil,0⟩) (λi=>i<=a.length/\a.take i=b.take i) (λi=>a.length-i) 0 rfl ⟨X3 _,rfl⟩ ?_;rintro i ⟨hi,d6⟩;by_cases c6:i<a.length
 ·have hltb:i<b.length:=zo
  have hg:=W5 c6;have hgb:=W5 hltb;have e:=AE (k:=i) zo;have ta:a.take (i+1)=a.take i++[a[i]]:=by rw[Xd,hg];rfl
  have tb:b.take (i+1)=b.take i++[b[i]]:=by rw[Xd,hgb];rfl
  have hxf:=hf _ (Xa c6);generalize a[i]=x at hg ta hxf;generalize b[i]=y at hgb tb;by_cases hxy:x=y
  ·simp only[eZ,seval,W6,eY,lt_T c6,lt_T hltb,hg,hgb,e,Tsi,s2,Af,AZ,W4 hxf,BB hxy,tadd];exact .mk (i+1) rfl ⟨c6,by rw[ta,tb,d6,hxy]⟩ zo
  ·have hR:decide (a=b)=false:=Xe λq=>hxy (by rw[q]at hg;rw[hg]at hgb;exact Option.some.inj hgb)
   rw[hR];simp only[eZ,seval,W8,eY,lt_T c6,lt_T hltb,hg,hgb,Tsi,s2,Af,AZ,W4 hxf,Ax hxy,tadd]
 obtain rfl:i=a.length:=zo
 have hR:decide (a=b)=true:=Xi (by rw[Xb,hl,Xb]at d6;exact d6);rw[hR];simp only[eZ,seval,W3,lt_F c6]
def Tsn:Tab:=tadd 229 (s2 dSs dSs (λa _=>wide a) λa b=>.bool (decide (a=b))) tnil
def Tsn_ok:AH prog Tsn:=AH.tnil.add (q2 p229)
def p164(a b:qj)(ha:Fy a):Pur prog 164 [BT a,BT b] (.bool (decide (a=b))):=by
 refine .mk ⟨As 0 _,As 0 _,trivial⟩ trivial (c164.a (AF Tsn_ok (AG ?_)));obtain⟨h1,h2⟩:=ha;simp only[eZ,seval,c164,Tsn,s2,Fx,EE,W4 h1,W4 h2,Aw,tadd];rw[Xg,X1,MY];simp only[W7,X1];constructor
 ·intro h;simp only[h,and_self]
 ·intro h;simp only[h,and_self]
def Tsd:Tab:=tadd 162 (s2 dIs dIs (λa _=>wide a) λa b=>.bool (decide (a=b))) (tadd 163 (s2 dLl dLl (λa _=>Bt a) λa b=>.bool (decide (a=b))) (tadd 164 (s2 dRu dRu (λa _=>Fy a) λa b=>.bool (decide (a=b))) tnil))
def Tsd_ok:AH prog Tsd:=((AH.tnil.add (q2 p164)).add (q2 λa b h=>p163 a b h.1 h.2)).add (q2 p162)
def UT(x y:zx):(scmp .neq x.nm y.nm|| !decide (x.ls=y.ls))= !decide (x=y):=by
 rw[Ap];cases x;cases y;rw[Xg];simp [zx.mk.injEq]
def p120(a b:zy)(hd:qk a):Pur prog 120 [encD a,encD b] (.bool (decide (a=b))):=by
 refine .mk ⟨Ab 0 _,Ab 0 _,trivial⟩ trivial (a120 (AF Tsd_ok (AG ?_)));cases h1:decide (a.nm=b.nm/\a.ver=b.ver/\a.sh=b.sh/\a.w=b.w/\a.h=b.h/\a.holes=b.holes)with
 |false=>
  have h1:=Ze h1;have hR:decide (a=b)=false:=Xe λq=>h1 (by rw[q];exact⟨rfl,rfl,rfl,rfl,rfl,rfl⟩)
  have hb:(scmp .neq a.nm b.nm|| !decide (a.ver=b.ver)|| !decide (a.sh=b.sh)|| !decide (a.w=b.w)|| !decide (a.h=b.h)|| !decide (a.holes=b.holes))=true:=by
   rw[Ap,<-Zg];intro q;simp only[Yi,YE,X1,Yv]at q;exact h1 q
  rw[hR];simp only[eZ,seval,c120,Tsd,s2,Af,AZ,W4 (Cm hd.ho),hb,tadd]
 |true=>
 obtain⟨a1,a2,a3,a4,a5,a6⟩:=Xv h1;have hb:(scmp .neq a.nm b.nm|| !decide (a.ver=b.ver)|| !decide (a.sh=b.sh)|| !decide (a.w=b.w)|| !decide (a.h=b.h)|| !decide (a.holes=b.holes))=false:=by
  rw[Ap];simp [a1,a2,a3,a4,a5,a6]
 clear h1;cases h2:decide (a.syms.length=b.syms.length/\a.regs.length=b.regs.length/\a.clus.length=b.clus.length/\a.ruls.length=b.ruls.length)with
 |false=>
  have h2:=Ze h2;have hR:decide (a=b)=false:=Xe λq=>h2 (by rw[q];exact⟨rfl,rfl,rfl,rfl⟩)
  have i9:(!decide ((a.syms.length:Int)=(b.syms.length:Int))|| !decide ((a.regs.length:Int)=(b.regs.length:Int))|| !decide ((a.clus.length:Int)=(b.clus.length:Int))|| !decide ((a.ruls.length:Int)=(b.ruls.length:Int)))=true:=by
   rw[<-Zg];intro q;simp only[Yi,YE,X1,Yv]at q;exact h2 zo
  rw[hR];simp only[eZ,seval,W3,c120,Tsd,s2,Af,AZ,W4 (Cm hd.ho),hb,i9,tadd]
 |true=>
 obtain⟨l1,l2,l3,l4⟩:=Xv h2;have i9:(!decide ((a.syms.length:Int)=(b.syms.length:Int))|| !decide ((a.regs.length:Int)=(b.regs.length:Int))|| !decide ((a.clus.length:Int)=(b.clus.length:Int))|| !decide ((a.ruls.length:Int)=(b.ruls.length:Int)))=false:=by
  simp [l1,l2,l3,l4]
 clear h2;simp only[eZ,seval,W3,c120,Tsd,s2,Af,AZ,W4 (Cm hd.ho),hb,i9,tadd];refine AL (λi:Nat=>⟨[(2,true,.ptr 0 0),(3,true,.ptr 1 0),(5,true,.int .i64 i)],hset (hset hnil 0 (.box (AI a))) 1 (.box (AI b)),3⟩) (λi=>i<=a.syms.length/\a.syms.take i=b.syms.take i) (λi=>a.syms.length-i) 0 rfl ⟨X3 _,rfl⟩ ?_;rintro i ⟨hi,d6⟩;have hfl:a.syms.length<1000000000:=hd.sy;by_cases c6:i<a.syms.length
 ·have hltb:i<b.syms.length:=zo
  have hg:=W5 c6;have hgb:=W5 hltb;have e:=AE (k:=i) zo;have ta:a.syms.take (i+1)=a.syms.take i++[a.syms[i]]:=by rw[Xd,hg];rfl
  have tb:b.syms.take (i+1)=b.syms.take i++[b.syms[i]]:=by rw[Xd,hgb];rfl
  generalize a.syms[i]=x at hg ta;generalize b.syms[i]=y at hgb tb;by_cases hxy:x=y
  ·have hc:=JE x y;rw[Xi hxy]at hc;simp only[eZ,seval,W6,eY,lt_T c6,lt_T hltb,hg,hgb,e,hc,cfit];exact .mk (i+1) rfl ⟨c6,by rw[ta,tb,d6,hxy]⟩ zo
  ·have hR:decide (a=b)=false:=Xe λq=>hxy (by rw[q]at hg;rw[hg]at hgb;exact Option.some.inj hgb)
   have hc:=JE x y;rw[Xe hxy]at hc;rw[hR];simp only[eZ,seval,W8,eY,lt_T c6,lt_T hltb,hg,hgb,hc,cfit]
 obtain rfl:i=a.syms.length:=zo
 have b_syms:a.syms=b.syms:=by rw[Xb,l1,Xb]at d6;exact d6
 simp only[eZ,seval,W3,lt_F c6];clear hi d6 hfl c6;refine AL (λi:Nat=>⟨[(2,true,.ptr 0 0),(3,true,.ptr 1 0),(6,true,.int .i64 i)],hset (hset hnil 0 (.box (AI a))) 1 (.box (AI b)),3⟩) (λi=>i<=a.regs.length/\a.regs.take i=b.regs.take i) (λi=>a.regs.length-i) 0 rfl ⟨X3 _,rfl⟩ ?_;rintro i ⟨hi,d6⟩;have hfl:a.regs.length<1000000000:=hd.rg;by_cases c6:i<a.regs.length
 ·have hltb:i<b.regs.length:=zo
  have hg:=W5 c6;have hgb:=W5 hltb;have e:=AE (k:=i) zo;have ta:a.regs.take (i+1)=a.regs.take i++[a.regs[i]]:=by rw[Xd,hg];rfl
  have tb:b.regs.take (i+1)=b.regs.take i++[b.regs[i]]:=by rw[Xd,hgb];rfl
  have hxf:Bt a.regs[i].ls:=hd.rgs _ (Xa c6);generalize a.regs[i]=x at hg ta hxf;generalize b.regs[i]=y at hgb tb;by_cases hxy:x=y
  ·have hc:=UT x y;rw[Xi hxy]at hc;simp only[eZ,seval,W6,eY,lt_T c6,lt_T hltb,hg,hgb,e,Tsd,s2,CU,Bm,W4 hxf,hc,tadd];exact .mk (i+1) rfl ⟨c6,by rw[ta,tb,d6,hxy]⟩ zo
  ·have hR:decide (a=b)=false:=Xe λq=>hxy (by rw[q]at hg;rw[hg]at hgb;exact Option.some.inj hgb)
   have hc:=UT x y;rw[Xe hxy]at hc;rw[hR];simp only[eZ,seval,W8,eY,lt_T c6,lt_T hltb,hg,hgb,Tsd,s2,CU,Bm,W4 hxf,hc,tadd]
 obtain rfl:i=a.regs.length:=zo
 have b_regs:a.regs=b.regs:=by rw[Xb,l2,Xb]at d6;exact d6
 simp only[eZ,seval,W3,lt_F c6];clear hi d6 hfl c6;refine AL (λi:Nat=>⟨[(2,true,.ptr 0 0),(3,true,.ptr 1 0),(7,true,.int .i64 i)],hset (hset hnil 0 (.box (AI a))) 1 (.box (AI b)),3⟩) (λi=>i<=a.clus.length/\a.clus.take i=b.clus.take i) (λi=>a.clus.length-i) 0 rfl ⟨X3 _,rfl⟩ ?_;rintro i ⟨hi,d6⟩;have hfl:a.clus.length<1000000000:=hd.cl;by_cases c6:i<a.clus.length
 ·have hltb:i<b.clus.length:=zo
  have hg:=W5 c6;have hgb:=W5 hltb;have e:=AE (k:=i) zo;have ta:a.clus.take (i+1)=a.clus.take i++[a.clus[i]]:=by rw[Xd,hg];rfl
  have tb:b.clus.take (i+1)=b.clus.take i++[b.clus[i]]:=by rw[Xd,hgb];rfl
  generalize a.clus[i]=x at hg ta;generalize b.clus[i]=y at hgb tb;by_cases hxy:x=y
  ·have hc:=JF x y;rw[Xi hxy]at hc;simp only[eZ,seval,W6,eY,lt_T c6,lt_T hltb,hg,hgb,e,hc,cfit];exact .mk (i+1) rfl ⟨c6,by rw[ta,tb,d6,hxy]⟩ zo
  ·have hR:decide (a=b)=false:=Xe λq=>hxy (by rw[q]at hg;rw[hg]at hgb;exact Option.some.inj hgb)
   have hc:=JF x y;rw[Xe hxy]at hc;rw[hR];simp only[eZ,seval,W8,eY,lt_T c6,lt_T hltb,hg,hgb,hc,cfit]
 obtain rfl:i=a.clus.length:=zo
 have b_clus:a.clus=b.clus:=by rw[Xb,l3,Xb]at d6;exact d6
 simp only[eZ,seval,W3,lt_F c6];clear hi d6 hfl c6;refine AL (λi:Nat=>⟨[(2,true,.ptr 0 0),(3,true,.ptr 1 0),(8,true,.int .i64 i)],hset (hset hnil 0 (.box (AI a))) 1 (.box (AI b)),3⟩) (λi=>i<=a.ruls.length/\a.ruls.take i=b.ruls.take i) (λi=>a.ruls.length-i) 0 rfl ⟨X3 _,rfl⟩ ?_;rintro i ⟨hi,d6⟩;have hfl:a.ruls.length<1000000000:=hd.ru;by_cases c6:i<a.ruls.length
 ·have hltb:i<b.ruls.length:=zo
  have hg:=W5 c6;have hgb:=W5 hltb;have e:=AE (k:=i) zo;have ta:a.ruls.take (i+1)=a.ruls.take i++[a.ruls[i]]:=by rw[Xd,hg];rfl
  have tb:b.ruls.take (i+1)=b.ruls.take i++[b.ruls[i]]:=by rw[Xd,hgb];rfl
  have hxf:Fy a.ruls[i]:=hd.rus _ (Xa c6);generalize a.ruls[i]=x at hg ta hxf;generalize b.ruls[i]=y at hgb tb;by_cases hxy:x=y
  ·simp only[eZ,seval,W6,eY,lt_T c6,lt_T hltb,hg,hgb,e,Tsd,s2,Bc,A8,W4 hxf,BB hxy,tadd];exact .mk (i+1) rfl ⟨c6,by rw[ta,tb,d6,hxy]⟩ zo
  ·have hR:decide (a=b)=false:=Xe λq=>hxy (by rw[q]at hg;rw[hg]at hgb;exact Option.some.inj hgb)
   rw[hR];simp only[eZ,seval,W8,eY,lt_T c6,lt_T hltb,hg,hgb,Tsd,s2,Bc,A8,W4 hxf,Ax hxy,tadd]
 obtain rfl:i=a.ruls.length:=zo
 have b_ruls:a.ruls=b.ruls:=by rw[Xb,l4,Xb]at d6;exact d6
 have hR:decide (a=b)=true:=Xi (by
  cases a;cases b;simp only at a1 a2 a3 a4 a5 a6 b_syms b_regs b_clus b_ruls;subst a1 a2 a3 a4 a5 a6 b_syms b_regs b_clus b_ruls;rfl)
 rw[hR];simp only[eZ,seval,W3,lt_F c6]
def p124(l:List Int)(x:Int)(hl:few l):Pur prog 124 [eIs l,.int .i64 x] (.bool (l.contains x)):=by
 refine .mk ⟨AU 0 _,trivial,trivial⟩ trivial (c124.a (AF AH.tnil (AG ?_)));have o7:l.length<1000000000:=hl;simp only[eE,eN,seval,c124];refine AL (λi:Nat=>⟨[(0,true,eIs l),(1,true,.int .i64 x),(5,true,.int .i64 i)],hnil,0⟩) (λi=>i<=l.length/\l.contains x=(l.drop i).contains x) (λi=>l.length-i) 0 rfl ⟨X3 _,rfl⟩ ?_;rintro i ⟨hi,hc⟩;by_cases c6:i<l.length
 ·have hg:=W5 c6;have e:=AE (k:=i) zo;rw[Xm c6,List.contains_cons]at hc;generalize l[i]=y at hg hc;by_cases hy:y=x
  ·have hR:l.contains x=true:=by rw[hc,hy];simp
   rw[hR];simp only[eZ,seval,eY,lt_T c6,hg,BB hy]
  ·have hy':(x==y)=false:=beq_eq_false_iff_ne.2 λq=>hy q.symm
   rw[hy',Y9]at hc;simp only[eZ,seval,eY,lt_T c6,hg,e,Ax hy];exact .mk (i+1) rfl ⟨c6,hc⟩ zo
 obtain rfl:i=l.length:=zo
 rw[Xy]at hc;rw[hc];simp only[eZ,seval,W3,lt_F c6];rfl
def Tin:Tab:=tadd 124 (s2 dIs dI (λl _=>few l) λl x=>.bool (l.contains x)) tnil
def PN:AH prog Tin:=AH.tnil.add (q2 p124)
def hosL(holes:List Int)(k:Nat):List Int:=((List.range k).map λ(i:Nat)=>(i:Int)).filter λp=>holes.contains p
def PO(holes:List Int)(k:Nat):hosL holes (k+1)=if holes.contains (k:Int)then hosL holes k++[(k:Int)]else hosL holes k:=by
 unfold hosL;rw[Ya,X7,Yy];cases h:holes.contains (k:Int)<;>simp only[Xl,Xu,XO,Zv,h,XJ,Xt,Xh,Xs]
def VE(holes:List Int)(k:Nat):(hosL holes k).length<=k:=by
 have:=XW (λp=>holes.contains p) ((List.range k).map λ(i:Nat)=>(i:Int));simpa [hosL]using this
structure VMh where
 i:Nat
 last:Int
structure VMm where
 k:Nat
 t1:jj
 t2:jj
 H:AC
 n:Nat
structure IMr(sh w h:Int)(holes:List Int)(m:Nat)(v:VMm):Prop where
 hk:v.k<=m
 hn:8<=v.n
 fr:AQ v.H v.n
 h0:hget v.H 0=some (.box [z0,z0,z0,zs,zs])
 h6:hget v.H 6=some (.box [.int .i64 sh,.int .i64 w,.int .i64 h,.sl v.t1 ((hosL holes v.k).map eI),.sl v.t2 ((posL holes v.k).map eI)])
 tok1:tkG 1 7 v.H v.t1
 tok2:tkG 1 7 v.H v.t2
 dj:∀i,v.t1= .own i 1->v.t2≠ .own i 1
 es1:v.t1.esz=1\/hosL holes v.k=[]
 es2:v.t2.esz=1\/posL holes v.k=[]
def p87(sh w h:Int)(holes:List Int)(hl:few holes):Pur prog 87 [.int .i64 sh,.int .i64 w,.int .i64 h,eIs holes] (BK sh w h holes):=by
 refine .mk ⟨trivial,trivial,trivial,AU 0 _,trivial⟩ (IA sh w h holes) (c87.a (AF PN (AG ?_)));have o7:holes.length<1000000000:=hl;by_cases hc:(sh=1\/sh=2)/\1<=w/\w<=16/\1<=h/\h<=16;case neg=>
  have hn:BK sh w h holes= .tup [encG 0 0 0 [] [],.int .i64 130]:=by
   unfold BK Ah;rw[X0 λq=>hc ⟨q.1,q.2.1,q.2.2.1,q.2.2.2.1,q.2.2.2.2.1⟩]
  have hb:(!decide (sh=1)&& !decide (sh=2)||decide (w<1)||decide (16<w)||decide (h<1)||decide (16<h))=true:=by
   rw[<-Zg];intro q;simp only[Yi,Z4,YE,X1,XU]at q;exact hc zo
  rw[hn];simp only[eZ,seval,BI,c87,hb];exact wk_G (Wk.sl (.inr rfl)) (Wk.sl (.inr rfl))
 have hb:(!decide (sh=1)&& !decide (sh=2)||decide (w<1)||decide (16<w)||decide (h<1)||decide (16<h))=false:=by
  simp only[Yi,Z4,YE,X1,XU];omega
 obtain⟨hsh,hw1,hw2,hh1,hh2⟩:=hc;obtain⟨p1,p2⟩:=Wl hw1 hw2 hh1 hh2;have hwh:IntKind.wrap .i64 (w*h)=w*h:=Aq zo zo;have i7:(Br (-1) holes&&holes.all λp=>decide (p<w*h))=false->BK sh w h holes= .tup [encG 0 0 0 [] [],.int .i64 130]:=λq=>by
  unfold BK Ah;rw[X0];intro z;rw[z.2.2.2.2.2.2.1,z.2.2.2.2.2.2.2]at q;cases q
 simp only[eZ,seval,c87,hb];refine AL (λv:VMh=>⟨[(0,true,.int .i64 sh),(1,true,.int .i64 w),(2,true,.int .i64 h),(3,true,eIs holes),(8,true,.ptr 0 0),(10,true,.int .i64 v.i)],hset hnil 0 (.box [z0,z0,z0,zs,zs]),2⟩)
  (λv=>v.i<=holes.length/\(Br (-1) holes&&holes.all λp=>decide (p<w*h))=(Br v.last (holes.drop v.i)&&(holes.drop v.i).all λp=>decide (p<w*h))/\(v.i=0->v.last= -1)/\∀j,v.i=j+1->holes[j]?=some v.last/\0<=v.last) (λv=>holes.length-v.i)
  ⟨0,-1⟩ rfl ⟨X3 _,rfl,λ_=>rfl,λj q=>by cases q⟩ ?_
 rintro⟨i,last⟩ ⟨hi,he,hz,hs⟩;simp only at hi he hz hs;by_cases c6:i<holes.length
 ·have hg:=W5 c6;have e:=AE (k:=i) zo;rw[Xm c6,Br,Z0]at he;generalize holes[i]=x at hg he;have hnext:last<x/\x<w*h->(Br (-1) holes&&holes.all λp=>decide (p<w*h))=(Br x (holes.drop (i+1))&&(holes.drop (i+1)).all λp=>decide (p<w*h)):=λq=>by
   rw[he,Xi q.1,Xi q.2];simp
  have hstop:¬(last<x/\x<w*h)->(Br (-1) holes&&holes.all λp=>decide (p<w*h))=false:=λq=>by
   rw[he,<-Bool.not_eq_true];intro z;simp only[W7,X1]at z;exact q ⟨z.1.1,z.2.1⟩
  cases i with
  |zero=>
   have hl1:=hz rfl;have h0l:((0:Int)<(holes.length:Int))=True:=W4 zo;have e1:IntKind.wrap .i64 ((0:Int)+1)=1:=zd
   by_cases e9:last<x/\x<w*h
   ·have hd:(decide (x<0)||decide (w*h<=x))=false:=by simp;omega
    simp only[eZ,seval,eY,h0l,hg,e1,hwh,hd];refine .mk ⟨1,x⟩ rfl ⟨c6,hnext e9,(λq=>by cases q),λj q=>?_⟩ zp;have q':1=j+1:=q;have:j=0:=zo
    subst this;exact⟨hg,zp⟩
   ·have hd:(decide (x<0)||decide (w*h<=x))=true:=by simp;omega
    rw[i7 (hstop e9)];simp only[eZ,seval,W6,eY,BI,h0l,hg,hwh,hd];exact wk_G (Wk.sl (.inr rfl)) (Wk.sl (.inr rfl))
  |succ j=>
   obtain⟨hgl,hl0⟩:=hs j rfl;have hjl:j<holes.length:=zo
   have ej:IntKind.wrap .i64 (((j+1:Nat):Int)-1)=(j:Int):=by rw[Aq zo zo];omega
   by_cases e9:last<x/\x<w*h
   ·have hd:(decide (x<0)||decide (w*h<=x))=false:=by simp;omega
    have hd2:(x<=last)=False:=W9 zo;simp only[eZ,seval,eY,lt_T c6,hg,e,hwh,hd,cS1,ej,lt_T hjl,hgl,hd2];refine .mk ⟨j+2,x⟩ rfl ⟨c6,hnext e9,(λq=>by cases q),λj' q=>?_⟩ zp;have q':j+2=j'+1:=q;have:j'=j+1:=zo
    subst this;exact⟨hg,zp⟩
   ·by_cases hd:(decide (x<0)||decide (w*h<=x))=true
    ·rw[i7 (hstop e9)];simp only[eZ,seval,W6,eY,BI,lt_T c6,hg,hwh,hd];exact wk_G (Wk.sl (.inr rfl)) (Wk.sl (.inr rfl))
    ·have hd:(decide (x<0)||decide (w*h<=x))=false:=by simpa using hd
     have hd':=hd;simp only[Yi,XU]at hd';have hd2:(x<=last)=True:=W4 zo;rw[i7 (hstop e9)];simp only[eZ,seval,eY,BI,lt_T c6,hg,hwh,hd,cS1,ej,lt_T hjl,hgl,hd2];exact wk_G (Wk.sl (.inr rfl)) (Wk.sl (.inr rfl))
 obtain rfl:i=holes.length:=zo
 rw[Xy]at he;have he':(Br (-1) holes&&holes.all λp=>decide (p<w*h))=true:=he;obtain⟨hr1,hr2⟩:=(W7 _ _).mp he';obtain⟨r1,r2⟩:=Ev.1 hr1;have l7:∀x∈holes,0<=x/\x<w*h:=λx hx=>⟨by have:=r1 x hx;omega,Xv (X9.1 hr2 x hx)⟩
 obtain⟨m,hm⟩:∃m:Nat,w*h=(m:Int):=⟨(w*h).toNat,zo⟩;have hmt:(w*h).toNat=m:=zo
 have hwm:IntKind.wrap .i64 (m:Int)=m:=by rw[<-hm];exact hwh
 have hHos:hosL holes m=holes:=by
  have:=Rx l7 r2;unfold Bw at this;rw[hmt]at this;exact this
 have hC:Ah sh w h holes=if posL holes m≠[]then some (posL holes m)else none:=by
  rw[<-Ru];unfold Rt;have ep:((Bw (w*h)).filter λp=>!holes.contains p)=posL holes m:=by unfold Bw posL;rw[hmt]
  rw[ep];by_cases q:posL holes m=[]
  ·rw[X0 λz=>z.2.2.2.2.2.2.2 q,X0 (λz=>z q)]
  ·rw[X6 ⟨hsh,hw1,hw2,hh1,hh2,l7,r2,q⟩,X6 q]
 simp only[eZ,seval,W3,lt_F c6,hm,AO];refine AL (λv:VMm=>⟨[(1,true,.int .i64 w),(2,true,.int .i64 h),(3,true,eIs holes),(8,true,.ptr 0 0),(11,true,.ptr 6 0),(12,true,.int .i64 v.k)],v.H,v.n⟩) (IMr sh w h holes m) (λv=>m-v.k)
  ⟨0,.nil,.nil,hset (hset hnil 0 (.box [z0,z0,z0,zs,zs])) 6 (.box [.int .i64 sh,.int .i64 w,.int .i64 h,zs,zs]),8⟩ rfl ⟨X3 _,X2 _,(AQ.nil.hset (m:=8) (X3 8) (show 0<8 by decide)).hset (X2 8) (show 6<8 by decide),rfl,rfl,.inl rfl,.inl rfl,λi q=>(by cases q),.inr rfl,.inr rfl⟩ ?_
 rintro⟨k,t1,t2,H,n⟩ ⟨hk,hn,c8,h0,h6,i8,l9,hdj,hes1,hes2⟩;simp only at hk hn c8 h0 h6 i8 l9 hdj hes1 hes2;by_cases hlt2:k<m
 ·have e:=AE (k:=k) zo;have hps:=LO holes k;have hhs:=PO holes k;have t5:=SA holes k;have hhl:=VE holes k;have y0:∀j,(n+j=6)=False:=λj=>W9 zo
  have y1:∀j,(n+j=0)=False:=λj=>W9 zo
  cases hin2:holes.contains (k:Int)with
  |true=>
   rw[hin2,X6 rfl]at hps hhs;have q1:A6 H 1 t1=True:=W4 i8.app;have q2:((hosL holes k).length<=35184372088831)=True:=W4 zo;have q3:Aj ((hosL holes k).length+1) 8=True:=W4 (AY zo zd);have kx:hget (AN H t1) 6=some (.box [.int .i64 sh,.int .i64 w,.int .i64 h,.sl t1 ((hosL holes k).map eI),.sl t2 ((posL holes k).map eI)]):=by rw[AW i8 (.inl zo)];exact h6
   simp only[eZ,seval,W3,hwm,hm,lt_T hlt2,Tin,s2,Af,AZ,A3,Ai,W4 hl,hin2,e,h6,q1,q2,q3,fr1 c8,kx,y0,tadd];have hdn:∀i,((.own (n+4) 1:jj)= .own i 1)->(t2:jj)≠ .own i 1:=λi q z=>by
    cases q;rcases l9 with h|h|⟨id,h,-,h'⟩<;>rw[h]at z<;>cases z
    rw[fr1 c8 4]at h';cases h'
   refine .mk ⟨k+1,.own (n+4) 1,t2,hset (hset (AN H t1) (n+4) .tok) 6 (.box [.int .i64 sh,.int .i64 w,.int .i64 h,.sl (.own (n+4) 1) ((hosL holes (k+1)).map eI),.sl t2 ((posL holes (k+1)).map eI)]),n+7⟩ ?_ ⟨hlt2,zp,((AT i8 c8).hset (m:=n+7) zo zo).hset (X2 (n+7)) (show 6<n+7 by omega),?_,AB ..,.inr (.inr ⟨n+4,rfl,zo,by rw[AA _ _ _ _ zo];exact AB ..⟩),(((l9.kill i8 (λi q z=>hdj i z q)).set (.inr (.inr (LH i8 (fr1 c8 4))))).set (.inl zo)),hdn,.inl rfl,by simp only[hps];exact hes2⟩ zp
   ·simp only[hps,hhs,X7];rfl
   ·simp only[];rw[AA _ _ _ _ zo,AA _ _ _ _ zo,AW i8 (.inl zo)];exact h0
  |false=>
   rw[hin2,X0 zd]at hps hhs;have q1:A6 H 1 t2=True:=W4 l9.app;have q2:((posL holes k).length<=35184372088831)=True:=W4 zo;have q3:Aj ((posL holes k).length+1) 8=True:=W4 (AY zo zd);have kx:hget (AN H t2) 6=some (.box [.int .i64 sh,.int .i64 w,.int .i64 h,.sl t1 ((hosL holes k).map eI),.sl t2 ((posL holes k).map eI)]):=by rw[AW l9 (.inl zo)];exact h6
   simp only[eZ,seval,W3,hwm,hm,lt_T hlt2,Tin,s2,Af,AZ,A3,Ai,W4 hl,hin2,e,h6,q1,q2,q3,fr1 c8,kx,y0,tadd];have hdn:∀i,((t1:jj)= .own i 1)->(.own (n+4) 1:jj)≠ .own i 1:=λi q z=>by
    cases z;rcases i8 with h|h|⟨id,h,-,h'⟩<;>rw[h]at q<;>cases q
    rw[fr1 c8 4]at h';cases h'
   refine .mk ⟨k+1,t1,.own (n+4) 1,hset (hset (AN H t2) (n+4) .tok) 6 (.box [.int .i64 sh,.int .i64 w,.int .i64 h,.sl t1 ((hosL holes (k+1)).map eI),.sl (.own (n+4) 1) ((posL holes (k+1)).map eI)]),n+7⟩ ?_ ⟨hlt2,zp,((AT l9 c8).hset (m:=n+7) zo zo).hset (X2 (n+7)) (show 6<n+7 by omega),?_,AB ..,(((i8.kill l9 (λi q=>hdj i q)).set (.inr (.inr (LH l9 (fr1 c8 4))))).set (.inl zo)),.inr (.inr ⟨n+4,rfl,zo,by rw[AA _ _ _ _ zo];exact AB ..⟩),hdn,by simp only[hhs];exact hes1,.inl rfl⟩ zp
   ·simp only[hps,hhs,X7];rfl
   ·simp only[];rw[AA _ _ _ _ zo,AA _ _ _ _ zo,AW l9 (.inl zo)];exact h0
 obtain rfl:k=m:=zo
 by_cases hp0:posL holes k=[]
 ·have hM:BK sh w h holes= .tup [encG 0 0 0 [] [],.int .i64 130]:=by unfold BK;rw[hC,X0 (λz=>z hp0)]
  have hl0:(((posL holes k).length:Int)=0)=True:=W4 (by rw[hp0];rfl);rw[hM];simp only[eZ,seval,BI,W3,hwm,hm,lt_F hlt2,h6,h0,hl0];exact wk_G (Wk.sl (.inr rfl)) (Wk.sl (.inr rfl))
 ·have hM:BK sh w h holes= .tup [encG sh w h holes (posL holes k),.int .i64 0]:=by unfold BK;rw[hC,X6 hp0]
  have hl0:(((posL holes k).length:Int)=0)=False:=W9 (λq=>hp0 (Y7.1 zo));rw[hM];simp only[eZ,seval,BI,W3,hwm,hm,lt_F hlt2,h6,h0,hl0];rw[hHos]at hes1⊢;exact wk_G (Wk.sl (hes1.imp id λq=>by rw[q];rfl)) (Wk.sl (hes2.imp id λq=>by rw[q];rfl))
def sMk:List Fs->AC->Prop×Fs:=λa H=>match a with
 |[.int .i64 sh,.int .i64 w,.int .i64 h,x]=>(dIs.ok x/\few (dIs.dec x),BK sh w h (dIs.dec x))
 |_=>(False,.tup [])
def qMk:∀args H n,(sMk args H).1->An prog 87 args H n (sMk args H).2:=by
 intro args H n hh;unfold sMk at hh⊢;split at hh
 ·obtain⟨h1,h2⟩:=hh;refine AP.args ((p87 _ _ _ _ h2).quiet H n) ?_;rintro g vs ⟨v,r,rfl,k1,w,r',rfl,k2,u,r2,rfl,k3,z,r3,rfl,k4,k5⟩;exact⟨v,_,rfl,k1,w,_,rfl,k2,u,_,rfl,k3,z,_,rfl,dIs.wk _ h1 _ _ k4,k5⟩
 ·exact hh.elim
def Tck:Tab:=tadd 87 sMk (tadd 130 (s2 dIs dIs (λa _=>few a) λa b=>.bool (decide (a=b))) tnil)
def Tck_ok:AH prog Tck:=(AH.tnil.add (q2 p130)).add qMk
theorem VG(sh w h:Int)(x:Fs)(H:AC):Tck 87 [.int .i64 sh,.int .i64 w,.int .i64 h,x] H=(dIs.ok x/\few (dIs.dec x),BK sh w h (dIs.dec x)):=rfl
theorem Tck_s(a:List Fs)(H:AC):Tck 130 a H=s2 dIs dIs (λa _=>few a) (λa b=>.bool (decide (a=b))) a H:=rfl
def p125(g:jz)(hh:few g.holes):Pur prog 125 [B5 g] (chkV g):=by
 refine .mk ⟨Ar 0 ..,trivial⟩ trivial (c125.a (AF Tck_ok (AG ?_)));unfold chkV grOK;cases hc:Ah g.sh g.w g.h g.holes with
 |none=>
  have hv:BK g.sh g.w g.h g.holes= .tup [encG 0 0 0 [] [],.int .i64 130]:=by unfold BK;rw[hc]
  simp only[eZ,seval,W6,W8,eY,c125,VG,Af,AZ,W4 hh,hv]
 |some c=>
  have hv:BK g.sh g.w g.h g.holes= .tup [encG g.sh g.w g.h g.holes c,.int .i64 0]:=by unfold BK;rw[hc]
  have hfc:few c:=show c.length<_ by have:=(Ay hc).2.1;omega
  by_cases hcc:c=g.cells
  ·have hR:decide (some c=some g.cells)=true:=Xi (by rw[hcc]);rw[hR];simp only[eZ,seval,W6,eY,c125,VG,Tck_s,s2,Af,AZ,W4 hh,hv,W4 hfc,BB hcc]
  ·have hR:decide (some c=some g.cells)=false:=Xe (λq=>hcc (Option.some.inj q));rw[hR];simp only[eZ,seval,W6,W8,eY,c125,VG,Tck_s,s2,Af,AZ,W4 hh,hv,W4 hfc,Ax hcc]
def atV(cells:List Int)(p:Int):Fs:=if cells.contains p=true then .tup [.int .i64 (lowB cells p),.bool true]else .tup [.int .i64 0,.bool false]
def p129(g:jz)(p:Int)(hf:few g.cells)(hs:List.Pairwise (λx y=>x<y) g.cells):Pur prog 129 [B5 g,.int .i64 p] (atV g.cells p):=by
 refine .mk ⟨Ar 0 ..,trivial,trivial⟩ (by unfold atV;split<;>exact⟨trivial,trivial,trivial⟩) (c129.a (AF AH.tnil (AG ?_)));have o7:g.cells.length<1000000000:=hf;simp only[eE,eN,seval,c129];refine AL (λi:Nat=>⟨[(1,true,.int .i64 p),(2,true,.ptr 0 0),(6,true,.int .i64 i)],hset hnil 0 (.box (AD g.sh g.w g.h g.holes g.cells)),3⟩) (λi=>i<=g.cells.length/\g.cells.contains p=(g.cells.drop i).contains p) (λi=>g.cells.length-i) 0 rfl ⟨X3 _,rfl⟩ ?_;rintro i ⟨hi,hc⟩;by_cases c6:i<g.cells.length
 ·have hg:=W5 c6;have e:=AE (k:=i) zo;have hlow:=Ry hs c6;rw[Xm c6,List.contains_cons]at hc;generalize g.cells[i]=y at hg hc hlow;by_cases hy:y=p
  ·have hR:atV g.cells p= .tup [.int .i64 i,.bool true]:=by unfold atV;rw[X6 (by rw[hc,hy];simp),<-hy,hlow]
   rw[hR];simp only[eZ,seval,eY,lt_T c6,hg,BB hy];exact Wk.refl _
  ·have hy':(p==y)=false:=beq_eq_false_iff_ne.2 λq=>hy q.symm
   rw[hy',Y9]at hc;simp only[eZ,seval,eY,lt_T c6,hg,e,Ax hy];exact .mk (i+1) rfl ⟨c6,hc⟩ zo
 obtain rfl:i=g.cells.length:=zo
 rw[Xy]at hc;have hR:atV g.cells p= .tup [.int .i64 0,.bool false]:=by unfold atV;rw[X0 (by rw[hc];simp)]
 rw[hR];simp only[eZ,seval,W3,lt_F c6];exact Wk.refl _
def Trr:Tab:=tadd 125 (s1 dGd (λg=>few g.holes) chkV) (tadd 129 (s2 dGd dI (λg _=>few g.cells/\List.Pairwise (λx y=>x<y) g.cells) λg p=>atV g.cells p) Tin)
def PP:AH prog Trr:=(PN.add (q2 λg p h=>p129 g p h.1 h.2)).add (q1 p125)
theorem Trr_c(a:List Fs)(H:AC):Trr 125 a H=s1 dGd (λg=>few g.holes) chkV a H:=rfl
theorem VH(a:List Fs)(H:AC):Trr 129 a H=s2 dGd dI (λg _=>few g.cells/\List.Pairwise (λx y=>x<y) g.cells) (λg p=>atV g.cells p) a H:=rfl
theorem Trr_i(a:List Fs)(H:AC):Trr 124 a H=s2 dIs dI (λl _=>few l) (λl x=>.bool (l.contains x)) a H:=rfl
structure IRj(g:jz)(x:List Int)(H0:AC)(n0:Nat)(v:VRi):Prop where
 hj:v.j<=x.length
 hn:n0<=v.n
 fr:AQ v.H v.n
 hk:∀id,id<n0->hget v.H id=hget H0 id
 tok:tkG 1 n0 v.H v.tc
 es:v.tc.esz=1\/v.j=0
 sub:∀q∈x.take v.j,q∈g.cells
 eq:GJ g.cells [] x=GJ g.cells (x.take v.j) (x.drop v.j)
 nd:(x.take v.j).Nodup
def p90(g:jz)(lists:List (List Int))(hG:Ah g.sh g.w g.h g.holes=some g.cells)(hh:few g.holes)(hl:Bt lists):Pur prog 90 [B5 g,eLl lists] (rgsV g.cells lists):=by
 refine .mk ⟨Ar 0 ..,Ak 0 _,trivial⟩ (by unfold rgsV;split<;>exact⟨Ak 0 _,trivial,trivial⟩) (c90.a (AF PP (AG ?_)));obtain⟨hr1,hr2,hr3⟩:=Ay hG;have hfc:few g.cells:=show g.cells.length<_ by omega
 have hgo:grOK g.sh g.w g.h g.holes g.cells=true:=by unfold grOK;rw[hG];simp
 have o7:lists.length<1000000000:=hl.1;by_cases h64:64<lists.length
 ·have hv:rgsV g.cells lists= .tup [eLl [],.int .i64 130]:=by unfold rgsV;rw[X0];simp;omega
  have l64:((64:Int)<(lists.length:Int))=True:=W4 zo;rw[hv];simp only[eZ,seval,W6,W3,c90,Trr_c,s1,E9,Cz,W4 hh,hgo,l64];exact Wk.tup (.cons (Wk.sl (.inr rfl)) (.cons (Wk.refl _) .nil))
 have l64:((64:Int)<(lists.length:Int))=False:=W9 zo;simp only[eZ,seval,W6,W3,c90,Trr_c,s1,E9,Cz,W4 hh,hgo,l64];have i7:lists.all (Dg g.cells)=false->rgsV g.cells lists= .tup [eLl [],.int .i64 130]:=λq=>by unfold rgsV;rw[q,YT,X0 zd]
 refine AL (λv:VRg=>⟨[(1,true,eLl lists),(2,true,.ptr 0 0),(6,true,.sl v.tl v.E),(7,true,.int .i64 v.i)],v.H,v.n⟩) (IRg g lists) (λv=>lists.length-v.i)
  ⟨0,[],.nil,hset hnil 0 (.box (AD g.sh g.w g.h g.holes g.cells)),3⟩ rfl ⟨X3 _,X2 _,AQ.nil.hset (m:=3) (X3 3) (show 0<3 by decide),rfl,.inl rfl,.inr rfl,.nil,rfl⟩ ?_
 rintro⟨i,E,tl,H,n⟩ hI;have hi:=hI.hi;have hn:=hI.hn;have c8:=hI.fr;have h0:=hI.h0;have d6:=hI.tok;have d8:=hI.es;have hE:=hI.hE;have heq:=hI.eq;simp only at hi hn c8 h0 d6 d8 hE heq;by_cases c6:i<lists.length;case neg=>
  have i6:i=lists.length:=zo
  subst i6;rw[Xy]at heq;rw[Xb]at hE;have hv:rgsV g.cells lists= .tup [eLl (lists.map (BO g.cells)),.int .i64 0]:=by
   unfold rgsV;rw[heq,X6];simp;omega
  rw[hv];simp only[eZ,seval,W3,lt_F c6];exact Wk.tup (.cons (Wk.slx d8 hE) (.cons (Wk.refl _) .nil))
 have hg:=W5 c6;have e:=AE (k:=i) zo;have hxf:=hl.2 _ (Xa c6);have hxe:=map_take (f:=BO g.cells) c6;rw[Xm c6,Z0]at heq;generalize hx:lists[i]=x at hg hxf heq hxe;have hxl:x.length<1125899906842624:=hxf;simp only[eZ,seval,W3,lt_T c6];refine AL (λv:VRi=>⟨[(1,true,eLl lists),(2,true,.ptr 0 0),(6,true,.sl tl E),(7,true,.int .i64 i),(8,true,.sl v.tc ((BO g.cells (x.take v.j)).map eI)),(9,true,.int .i64 v.j)],v.H,v.n⟩)
  (IRj g x H n) (λv=>x.length-v.j) ⟨0,.nil,H,n⟩ rfl ⟨X3 _,X2 _,c8,λid d7=>rfl,.inl rfl,.inr rfl,λq hq=>by(simp at hq),rfl,zw⟩ ?_
 rintro⟨j,tc,H1,n1⟩ ⟨hj,l6,hf1,hk,htc,hec,hsub,hme,hnd⟩;simp only at hj l6 hf1 hk htc hec hsub hme hnd;have hj256:j<=256:=by
  have:=IC hnd hsub;rw[Xp]at this;omega
 have l8:hget H1 0=some (.box (AD g.sh g.w g.h g.holes g.cells)):=by rw[hk 0 zo];exact h0
 by_cases hlj:j<x.length
 ·have hgj:=W5 hlj;have ej:=AE (k:=j) zo;have htx:=map_take (f:=λp=>(lowB g.cells p:Int)) hlj;have htk2:x.take (j+1)=x.take j++[x[j]]:=by rw[Xd,hgj];rfl
  rw[Xm hlj,GJ]at hme;have hlen:(BO g.cells (x.take j)).length=j:=by rw[Fz,Xp];omega
  have hcf:few (BO g.cells (x.take j)):=show(BO g.cells (x.take j)).length<_ by omega
  generalize hp:x[j]=p at hgj htx htk2 hme;have i4:(g.cells.contains p&& !(x.take j).contains p)=false->rgsV g.cells lists= .tup [eLl [],.int .i64 130]:=λq=>i7 (by
   rw[heq,Ew,hme,q];simp)
  cases l7:g.cells.contains p with
  |false=>
   have hat:atV g.cells p= .tup [.int .i64 0,.bool false]:=by unfold atV;rw[l7,X0 zd]
   rw[i4 (by rw[l7];rfl)];simp only[eZ,seval,W6,W8,eY,lt_T c6,hg,lt_T hlj,hgj,l8,VH,s2,E9,Cz,A3,Ai,W4 hfc,W4 hr1,hat];exact Wk.tup (.cons (Wk.sl (.inr rfl)) (.cons (Wk.refl _) .nil))
  |true=>
   have hat:atV g.cells p= .tup [.int .i64 (lowB g.cells p),.bool true]:=by unfold atV;rw[l7,X6 rfl]
   have hpm:p∈g.cells:=Xz.1 l7;have hcm:=Nk hr1 hsub hpm;have htcok:dIs.ok (.sl tc ((BO g.cells (x.take j)).map eI))=True:=W4 ⟨hec.imp id λq=>by rw[q];rfl,by rw[At]⟩;have htcdec:dIs.dec (.sl tc ((BO g.cells (x.take j)).map eI))=BO g.cells (x.take j):=At _;cases hmt:(x.take j).contains p with
   |true=>
    rw[i4 (by rw[l7,hmt];rfl)];rw[hmt]at hcm;simp only[eZ,seval,W6,eY,lt_T c6,hg,lt_T hlj,hgj,l8,VH,Trr_i,s2,E9,Cz,A3,Ai,htcok,htcdec,W4 hfc,W4 hr1,W4 hcf,hat,hcm];exact Wk.tup (.cons (Wk.sl (.inr rfl)) (.cons (Wk.refl _) .nil))
   |false=>
    rw[hmt]at hcm;have q1:A6 H1 1 tc=True:=W4 htc.app;have q2:(j<=35184372088831)=True:=W4 zo;have q3:Aj (j+1) 8=True:=W4 (AY zo zd);simp only[eZ,seval,W6,eY,lt_T c6,hg,lt_T hlj,hgj,l8,VH,Trr_i,s2,E9,Cz,A3,Ai,htcok,htcdec,W4 hfc,W4 hr1,W4 hcf,hat,hcm,ej,q1,q2,q3,hlen,fr1 hf1];have x7:BO g.cells (x.take (j+1))=BO g.cells (x.take j)++[(lowB g.cells p:Int)]:=htx;refine .mk ⟨j+1,.own (n1+3) 1,hset (AN H1 tc) (n1+3) .tok,n1+5⟩ ?_ ⟨hlj,zp,(AT htc hf1).hset (m:=n1+5) zo zo,λid d7=>?_,.inr (.inr ⟨n1+3,rfl,zo,AB ..⟩),.inl rfl,λq hq=>?_,?_,?_⟩ zp
    ·rw[x7,X7];rfl
    ·simp only[];rw[AA _ _ _ _ zo,AW htc (.inl d7)];exact hk id d7
    ·simp only[htk2]at hq;rcases XV.1 hq with q1|q1
     ·exact hsub q q1
     ·rw[Yg.1 q1];exact hpm
    ·simp only[];rw[htk2,hme,l7,hmt];rfl
    ·simp only[];rw[htk2,YO];refine⟨hnd,zw,λa ha b hb e=>?_⟩;rw[Yg]at hb;subst hb;subst e;rw[Xz.2 ha]at hmt;cases hmt
 have hj':j=x.length:=zo
 subst hj';rw[Xy,Xb]at hme;have hlx:(BO g.cells (x.take x.length)).length=x.length:=by rw[Fz,Xb]
 by_cases hx0:x.length=0
 ·have i4:rgsV g.cells lists= .tup [eLl [],.int .i64 130]:=i7 (by rw[heq,Ew,hx0];simp);rw[i4];simp only[eZ,seval,eY,lt_T c6,hg,lt_F hlj,hlx,BB (show((x.length:Nat):Int)=0 by omega)];exact Wk.tup (.cons (Wk.sl (.inr rfl)) (.cons (Wk.refl _) .nil))
 have hEl:E.length<=64:=by
  have:=hE.len;simp only[W3,Xp]at this;omega
 have i8:tkG 1 1 H1 tl:=by
  rcases d6 with rfl|rfl|⟨id,rfl,h1,h2⟩
  ·exact .inl rfl
  ·exact .inr (.inl rfl)
  ·exact .inr (.inr ⟨id,rfl,h1,by rw[hk id (c8.lt h2)];exact h2⟩)
 have q1:A6 H1 1 tl=True:=W4 i8.app;have q2:(E.length<=35184372088831)=True:=W4 zo;have q3:Aj (E.length+1) 24=True:=W4 (AY zo zd);simp only[eZ,seval,eY,lt_T c6,hg,lt_F hlj,hlx,Ax (show ¬((x.length:Nat):Int)=0 by omega),e,q1,q2,q3,fr1 hf1];refine .mk ⟨i+1,E++[.sl tc ((BO g.cells x).map eI)],.own (n1+3) 1,hset (AN H1 tl) (n1+3) .tok,n1+5⟩ ?_ ⟨c6,zp,(AT i8 hf1).hset (m:=n1+5) zo zo,?_,.inr (.inr ⟨n1+3,rfl,zo,AB ..⟩),.inl rfl,?_,?_⟩ zp
 ·rw[Xb]
 ·simp only[];rw[AA _ _ _ _ zo,AW i8 (.inl zo)];exact l8
 ·simp only[];rw[hxe,X7];exact hE.app (.cons (Wk.sl (hec.imp id λq=>by rw[Y7.1 q];rfl)) .nil)
 ·simp only[];have e9:Dg g.cells x=true:=by rw[Ew,hme];simp [GJ];omega
  rw[heq,e9,XY]
def Gt{α:Type}{p:α->Bool}{l:List α}{i:Nat}(h:i<l.length):(l.drop i).all p=(p l[i]&&(l.drop (i+1)).all p):=by
 rw[Xm h,Z0]
def p165(a b:List Int)(ha:few a)(hb:few b):Pur prog 165 [eIs a,eIs b] (.bool (Cp a b)):=by
 refine .mk ⟨AU 0 _,AU 0 _,trivial⟩ trivial (c165.a (AF PN (AG ?_)));have hal:a.length<1000000000:=ha;have hbl:b.length<1000000000:=hb;simp only[eE,eN,seval,c165];refine AL (λi:Nat=>⟨[(0,true,eIs a),(1,true,eIs b),(5,true,.int .i64 i)],hnil,0⟩) (λi=>i<=a.length/\(a.all λx=>b.contains x)=((a.drop i).all λx=>b.contains x)) (λi=>a.length-i) 0 rfl ⟨X3 _,rfl⟩ ?_;rintro i ⟨hi,hc⟩;by_cases c6:i<a.length
 ·have hg:=W5 c6;have e:=AE (k:=i) zo;rw[Gt c6]at hc;generalize a[i]=x at hg hc;cases hx:b.contains x with
  |false=>
   have hR:Cp a b=false:=by unfold Cp;rw[hc,hx];simp
   rw[hR];simp only[eZ,seval,W8,eY,lt_T c6,hg,Tin,s2,Af,AZ,A3,Ai,W4 hb,hx,tadd]
  |true=>
   rw[hx,XY]at hc;simp only[eZ,seval,W6,eY,lt_T c6,hg,e,Tin,s2,Af,AZ,A3,Ai,W4 hb,hx,tadd];exact .mk (i+1) rfl ⟨c6,hc⟩ zo
 obtain rfl:i=a.length:=zo
 rw[Xy]at hc;have hc:(a.all λx=>b.contains x)=true:=hc;simp only[eZ,seval,W3,lt_F c6];refine AL (λi:Nat=>⟨[(0,true,eIs a),(1,true,eIs b),(6,true,.int .i64 i)],hnil,0⟩) (λi=>i<=b.length/\(b.all λx=>a.contains x)=((b.drop i).all λx=>a.contains x)) (λi=>b.length-i) 0 rfl ⟨X3 _,rfl⟩ ?_;rintro i ⟨hi2,hc2⟩;by_cases hlt2:i<b.length
 ·have hg:=W5 hlt2;have e:=AE (k:=i) zo;rw[Gt hlt2]at hc2;generalize b[i]=x at hg hc2;cases hx:a.contains x with
  |false=>
   have hR:Cp a b=false:=by unfold Cp;rw[hc2,hx];simp
   rw[hR];simp only[eZ,seval,W8,eY,lt_T hlt2,hg,Tin,s2,Af,AZ,A3,Ai,W4 ha,hx,tadd]
  |true=>
   rw[hx,XY]at hc2;simp only[eZ,seval,W6,eY,lt_T hlt2,hg,e,Tin,s2,Af,AZ,A3,Ai,W4 ha,hx,tadd];exact .mk (i+1) rfl ⟨hlt2,hc2⟩ zo
 obtain rfl:i=b.length:=zo
 rw[Xy]at hc2;have hc2:(b.all λx=>a.contains x)=true:=hc2;have hR:Cp a b=true:=by unfold Cp;rw[hc,hc2];rfl
 rw[hR];simp only[eZ,seval,W3,lt_F hlt2]
def Tzr:Tab:=tadd 90 (s2 dGd dLl (λg l=>Ah g.sh g.w g.h g.holes=some g.cells/\few g.holes/\Bt l) λg l=>rgsV g.cells l) (tadd 165 (s2 dIs dIs (λa b=>few a/\few b) λa b=>.bool (Cp a b)) tnil)
def Tzr_ok:AH prog Tzr:=(AH.tnil.add (q2 λa b h=>p165 a b h.1 h.2)).add (q2 λg l h=>p90 g l h.1 h.2.1 h.2.2)
def p121(d:zy)(g:jz)(hd:qk d)(hG:Ah g.sh g.w g.h g.holes=some g.cells)(hh:few g.holes):Pur prog 121 [encD d,B5 g] (.int .i64 (C9 g.cells d.regs)):=by
 refine .mk ⟨Ab 0 d,Ar 0 ..,trivial⟩ trivial (c121.a (AF Tzr_ok (AG ?_)));have hrl:d.regs.length<1000000000:=hd.rg;simp only[eE,eN,seval,c121];refine AL (λi:Nat=>⟨[(2,true,.ptr 0 0),(3,true,.ptr 1 0),(5,true,.int .i64 i)],hset (hset hnil 0 (.box (AI d))) 1 (.box (AD g.sh g.w g.h g.holes g.cells)),3⟩) (λi=>i<=d.regs.length/\C9 g.cells d.regs=C9 g.cells (d.regs.drop i)) (λi=>d.regs.length-i)
  0 rfl ⟨X3 _,rfl⟩ ?_
 rintro i ⟨hi,heq⟩;by_cases c6:i<d.regs.length;case neg=>
  obtain rfl:i=d.regs.length:=zo
  rw[Xy]at heq;rw[heq];simp only[eZ,seval,W3,lt_F c6];rfl
 have hg:=W5 c6;have e:=AE (k:=i) zo;have hrf:MX d.regs[i]:=hd.rgs _ (Xa c6);rw[LL _ _ _ c6]at heq;generalize d.regs[i]=r at hg hrf heq;have hc:=W4 (⟨hG,hh,hrf⟩:Ah g.sh g.w g.h g.holes=some g.cells/\few g.holes/\Bt r.ls);by_cases hb:(decide (r.ls.length<=64)&&r.ls.all (Dg g.cells))=true;case neg=>
  have hv:rgsV g.cells r.ls= .tup [eLl [],.int .i64 130]:=X0 hb;have hE:regE g.cells r=130:=X6 (by simpa using hb);rw[hE,X0 zd]at heq;rw[heq];simp only[eZ,seval,W8,eY,lt_T c6,hg,Tzr,s2,E9,Cz,CU,Bm,hc,hv,tadd]
 have hv:rgsV g.cells r.ls= .tup [eLl (r.ls.map (BO g.cells)),.int .i64 0]:=X6 hb;have hregE:regE g.cells r=if Bo r.ls=true then 161 else 0:=by unfold regE;rw[hb,X0 zd]
 have o7:r.ls.length<1000000000:=hrf.1;have hfw:∀l∈r.ls,few l:=λl hl=>by
  obtain⟨q1,-,q3⟩:=Ek (X9.1 ((W7 _ _).mp hb).2 _ hl);have h1:=IC q1 q3;have h2:=(Ay hG).2.1;show l.length<_;omega
 simp only[eZ,seval,W6,eY,lt_T c6,hg,Tzr,s2,E9,Cz,CU,Bm,hc,hv,tadd];refine AL (λa:Nat=>⟨[(2,true,.ptr 0 0),(3,true,.ptr 1 0),(5,true,.int .i64 i),(6,true,eLl r.ls),(9,true,.int .i64 a)],hset (hset hnil 0 (.box (AI d))) 1 (.box (AD g.sh g.w g.h g.holes g.cells)),3⟩) (λa=>a<=r.ls.length/\∀x y (hx:x<r.ls.length) (hy:y<r.ls.length),x<a->y<x->Cp r.ls[x] r.ls[y]=false) (λa=>r.ls.length-a)
  0 rfl ⟨X3 _,λx y _ _ q=>absurd q (XN _)⟩ ?_
 rintro a ⟨ha,i4⟩;by_cases hla:a<r.ls.length
 ·have hga:=W5 hla;have ea:=AE (k:=a) zo;have hfa:few r.ls[a]:=hfw _ (Xa hla);simp only[eZ,seval,W3,lt_T hla];refine AL (λb:Nat=>⟨[(2,true,.ptr 0 0),(3,true,.ptr 1 0),(5,true,.int .i64 i),(6,true,eLl r.ls),(9,true,.int .i64 a),(10,true,.int .i64 b)],hset (hset hnil 0 (.box (AI d))) 1 (.box (AD g.sh g.w g.h g.holes g.cells)),3⟩) (λb=>b<=a/\∀y (hy:y<r.ls.length),y<b->Cp r.ls[a] r.ls[y]=false) (λb=>a-b)
   0 rfl ⟨X3 _,λy _ q=>absurd q (XN _)⟩ ?_
  rintro b ⟨i9,t6⟩;by_cases hlb:b<a
  ·have hbl:b<r.ls.length:=zo
   have hgb:=W5 hbl;have eb:=AE (k:=b) zo;have hfb:few r.ls[b]:=hfw _ (Xa hbl);cases hal:Cp r.ls[a] r.ls[b]with
   |true=>
    rw[hregE,X6 (Ft.2 ⟨a,b,hla,hbl,hlb,hal⟩),X0 zd]at heq;rw[heq];generalize r.ls[a]=la at hga hfa hal;generalize r.ls[b]=lb at hgb hfb hal;simp only[eZ,seval,eY,lt_T hlb,lt_T hla,lt_T hbl,hga,hgb,Tzr,s2,Af,AZ,W4 hfa,W4 hfb,hal,tadd]
   |false=>
    have hnx:∀y (hy:y<r.ls.length),y<b+1->Cp r.ls[a] r.ls[y]=false:=λy hy q=>by
     by_cases z:y=b
     ·subst z;exact hal
     ·exact t6 y hy zo
    generalize hA:r.ls[a]=la at hga hfa hal;generalize hB:r.ls[b]=lb at hgb hfb hal;simp only[eZ,seval,eY,lt_T hlb,lt_T hla,lt_T hbl,hga,hgb,Tzr,s2,Af,AZ,W4 hfa,W4 hfb,hal,eb,tadd];exact .mk (b+1) rfl ⟨hlb,λy hy q=>by rw[<-hA];exact hnx y hy q⟩ zo
  obtain rfl:b=a:=zo
  simp only[eZ,seval,lt_F hlb,ea];refine .mk (b+1) rfl ⟨hla,λx y hx hy q1 q2=>?_⟩ zo;by_cases z:x=b
  ·subst z;exact t6 y hy q2
  ·exact i4 x y hx hy zo q2
 obtain rfl:a=r.ls.length:=zo
 have hpt:Bo r.ls=false:=by
  cases q:Bo r.ls with
  |false=>rfl
  |true=>
   obtain⟨x,y,hx,hy,hxy,h2⟩:=Ft.1 q;rw[i4 x y hx hy hx hxy]at h2;cases h2
 have hE0:regE g.cells r=0:=by rw[hregE,hpt];rfl
 rw[hE0,X6 rfl]at heq;simp only[eZ,seval,W3,lt_F hla,e];exact .mk (i+1) rfl ⟨c6,heq⟩ zo
def p167(c:z8):Pur prog 167 [CC c] (.bool (Dm c)):=by
 refine .mk ⟨ED 0 c,trivial⟩ trivial (c167.a (AF AH.tnil (AG ?_)));unfold Dm;by_cases h1:c.ty=1
 ·simp only[eZ,seval,c167,h1]
 by_cases h2:c.ty=2
 ·simp only[eZ,seval,c167,h2]
 by_cases h3:c.ty=3
 ·simp only[eZ,seval,c167,h3];rw[show(decide (1<=c.fam)&&decide (c.fam<=3)||decide (8<=c.fam))=(decide (c.fam=1)||decide (c.fam=2)||decide (c.fam=3)||decide (8<=c.fam))by
   rw[Xg];simp;omega]
 simp only[eZ,seval,c167,h1,h2,h3]
def p231(d:zy)(r:qj)(w:Int)(on:Bool):Pur prog 231 [encD d,BT r,.int .i64 w,.bool on] (.bool (DA d.clus r w on)):=by
 refine .mk ⟨Ab 0 d,As 0 r,trivial,trivial,trivial⟩ trivial (c231.a (AF AH.tnil (AG ?_)));by_cases hc:r.clue<0\/(d.clus.length:Int)<=r.clue
 ·have o6:(decide (r.clue<0)||decide ((d.clus.length:Int)<=r.clue))=true:=by simpa using hc
  have hP:DA d.clus r w on=false:=by unfold DA;rw[X6 hc]
  rw[hP];simp only[eZ,seval,W3,c231,o6]
 ·have o6:(decide (r.clue<0)||decide ((d.clus.length:Int)<=r.clue))=false:=by simp;omega
  obtain⟨j,hj⟩:∃j:Nat,r.clue=(j:Int):=⟨r.clue.toNat,zo⟩;have hjl:j<d.clus.length:=zo
  have hg:=W5 hjl;generalize d.clus[j]=c at hg;have hP:DA d.clus r w on=(decide (c.ty=w)&&(!on||decide (c.fam=r.fam))):=by
   unfold DA;(rw[X0 hc,hj,X4,hg])<;>rfl
  rw[hP];rw[hj]at o6;cases on
  ·simp only[eZ,seval,W6,W8,eY,c231,hj,o6,lt_T hjl,hg]
  ·simp only[eZ,seval,W6,eY,c231,hj,o6,lt_T hjl,hg]
def sCl:List Fs->AC->Prop×Fs:=λa H=>match a with
 |[x,y,.int .i64 w,.bool on]=>(dD.ok x/\dRu.ok y,.bool (DA (dD.dec x).clus (dRu.dec y) w on))
 |_=>(False,.tup [])
def qCl:∀args H n,(sCl args H).1->An prog 231 args H n (sCl args H).2:=by
 intro args H n hh;unfold sCl at hh⊢;split at hh
 ·obtain⟨h1,h2⟩:=hh;refine AP.args ((p231 _ _ _ _).quiet H n) ?_;rintro g vs ⟨v,r,rfl,k1,w,r',rfl,k2,k3⟩;exact⟨v,_,rfl,dD.wk _ h1 _ _ k1,w,_,rfl,dRu.wk _ h2 _ _ k2,k3⟩
 ·exact hh.elim
def Tzc:Tab:=tadd 231 sCl tnil
def UU:AH prog Tzc:=AH.tnil.add qCl
theorem Tzc_e(x y:Fs)(w:Int)(on:Bool)(H:AC):Tzc 231 [x,y,.int .i64 w,.bool on] H=(dD.ok x/\dRu.ok y,.bool (DA (dD.dec x).clus (dRu.dec y) w on)):=rfl
def p230(d:zy)(r:qj):Pur prog 230 [encD d,BT r] (.bool (EJ d.clus r)):=by
 refine .mk ⟨Ab 0 d,As 0 r,trivial⟩ trivial (c230.a (AF UU (AG ?_)));unfold EJ;by_cases ho:r.op<1\/3<r.op
 ·have hb:(decide (r.op<1)||decide (3<r.op))=true:=by simpa using ho
  rw[X6 ho];simp only[eZ,seval,c230,hb]
 have hb:(decide (r.op<1)||decide (3<r.op))=false:=by simp;omega
 rw[X0 ho];by_cases hn:r.byN=[]
 ·rw[X6 hn];simp only[eZ,seval,c230,hb,Aw,BB hn]
 ·rw[X0 hn];simp only[eZ,seval,c230,hb,Aw,Ax hn,Tzc_e,A9,Al,Bc,A8]
def sndA:qq->qq
 | .seq _ b=>b
 |c=>c
def sndN:Nat->qq->qq
 |0,c=>c
 |k+1,c=>sndN k (sndA c)
def putN:Nat->qq->qq->qq
 |0,_,R=>R
 |k+1,.seq a b,R=>.seq a (putN k b R)
 |_+1,c,_=>c
def Tru:Tab:=tadd 230 (s2 dD dRu any2 λd r=>.bool (EJ d.clus r)) Tzc
def Tru_ok:AH prog Tru:=UU.add (q2 λd r _=>p230 d r)
theorem Sc(a:List Fs)(H:AC):Tru 230 a H=s2 dD dRu any2 (λd r=>.bool (EJ d.clus r)) a H:=rfl
theorem Sd(x y:Fs)(w:Int)(on:Bool)(H:AC):Tru 231 [x,y,.int .i64 w,.bool on] H=(dD.ok x/\dRu.ok y,.bool (DA (dD.dec x).clus (dRu.dec y) w on)):=rfl
def rstR(cl:List z8)(r:qj)(on set oth num by' lim:Bool):Bool:=
 if(!on&&(decide (r.on≠[])||decide (r.fam≠0)))||(!set&&(decide (0<r.ns.length)||decide (r.set≠0)))||(!oth&&(decide (0<r.os.length)||decide (r.oth≠0)))then false
 else if(on&&decide (r.on=[]))||(set&&decide (r.set=0))||(oth&&decide (r.oth=0))then false
 else if !lim&&(decide (r.op≠0)||(!num&&decide (r.n≠0))||(!by'&&(decide (r.byN≠[])||decide (r.clue≠ -1))))then false
 else if(lim&& !EJ cl r)||(num&&(decide (r.n<0)||decide (65536<r.n)))then false
 else if r.kind=5 then DA cl r 3 true
 else if r.kind=11 then DA cl r 1 false else true
theorem Se:c166=putN 8 c166 (sndN 8 c166):=rfl
def rr1(d:zy)(r:qj)(on set oth num by' lim:Bool)(X:List (Nat×Bool×Fs))(hA1:(!on&&(!decide (r.on=[])|| !decide (r.fam=0))|| !set&&(decide (0<r.ns.length)|| !decide (r.set=0))|| !oth&&(decide (0<r.os.length)|| !decide (r.oth=0)))=true):evK prog Tru (sndN 8 c166) [] (C7 [.t 4] (Ret (.bool (false))))
  ⟨(2,true,.ptr 0 0)::(3,true,.ptr 1 0)::(5,true,.bool on)::(6,true,.bool set)::(7,true,.bool oth)::(8,true,.bool num)::(9,true,.bool by')::(10,true,.bool lim)::X,hset (hset hnil 0 (.box (AI d))) 1 (.box (BP r)),3⟩:=by
 have e1:∀(l:List Bs),decide ((0:Int)<(l.length:Int))=decide (0<l.length):=λl=>by
  rw[Xg,X1,X1];omega
 simp only[eZ,seval,W3,c166,sndN,sndA,Ap,e1,hA1]
def rr2(d:zy)(r:qj)(on set oth num by' lim:Bool)(X:List (Nat×Bool×Fs))(hA1:(!on&&(!decide (r.on=[])|| !decide (r.fam=0))|| !set&&(decide (0<r.ns.length)|| !decide (r.set=0))|| !oth&&(decide (0<r.os.length)|| !decide (r.oth=0)))=false)(hA2:(on&&decide (r.on=[])||set&&decide (r.set=0)||oth&&decide (r.oth=0))=true):evK prog Tru (sndN 8 c166) [] (C7 [.t 4] (Ret (.bool (false))))
  ⟨(2,true,.ptr 0 0)::(3,true,.ptr 1 0)::(5,true,.bool on)::(6,true,.bool set)::(7,true,.bool oth)::(8,true,.bool num)::(9,true,.bool by')::(10,true,.bool lim)::X,hset (hset hnil 0 (.box (AI d))) 1 (.box (BP r)),3⟩:=by
 have e1:∀(l:List Bs),decide ((0:Int)<(l.length:Int))=decide (0<l.length):=λl=>by
  rw[Xg,X1,X1];omega
 simp only[eZ,seval,W3,c166,sndN,sndA,Ap,Aw,e1,hA1,hA2]
def rr3(d:zy)(r:qj)(on set oth num by':Bool)(X:List (Nat×Bool×Fs))(hA1:(!on&&(!decide (r.on=[])|| !decide (r.fam=0))|| !set&&(decide (0<r.ns.length)|| !decide (r.set=0))|| !oth&&(decide (0<r.os.length)|| !decide (r.oth=0)))=false)(hA2:(on&&decide (r.on=[])||set&&decide (r.set=0)||oth&&decide (r.oth=0))=false)(hA3:(!decide (r.op=0)|| !num&& !decide (r.n=0)|| !by'&&(!decide (r.byN=[])|| !decide (r.clue= -1)))=true):evK prog Tru (sndN 8 c166) [] (C7 [.t 4] (Ret (.bool (false))))
  ⟨(2,true,.ptr 0 0)::(3,true,.ptr 1 0)::(5,true,.bool on)::(6,true,.bool set)::(7,true,.bool oth)::(8,true,.bool num)::(9,true,.bool by')::(10,true,.bool false)::X,hset (hset hnil 0 (.box (AI d))) 1 (.box (BP r)),3⟩:=by
 have e1:∀(l:List Bs),decide ((0:Int)<(l.length:Int))=decide (0<l.length):=λl=>by
  rw[Xg,X1,X1];omega
 simp only[eZ,seval,W8,W3,c166,sndN,sndA,Ap,Aw,e1,hA1,hA2,hA3]
def rr4a(d:zy)(r:qj)(on set oth num by':Bool)(X:List (Nat×Bool×Fs))(hA1:(!on&&(!decide (r.on=[])|| !decide (r.fam=0))|| !set&&(decide (0<r.ns.length)|| !decide (r.set=0))|| !oth&&(decide (0<r.os.length)|| !decide (r.oth=0)))=false)(hA2:(on&&decide (r.on=[])||set&&decide (r.set=0)||oth&&decide (r.oth=0))=false)(hb:(!EJ d.clus r||num&&(decide (r.n<0)||decide (65536<r.n)))=true):evK prog Tru (sndN 8 c166) [] (C7 [.t 4] (Ret (.bool (false))))
  ⟨(2,true,.ptr 0 0)::(3,true,.ptr 1 0)::(5,true,.bool on)::(6,true,.bool set)::(7,true,.bool oth)::(8,true,.bool num)::(9,true,.bool by')::(10,true,.bool true)::X,hset (hset hnil 0 (.box (AI d))) 1 (.box (BP r)),3⟩:=by
 have e1:∀(l:List Bs),decide ((0:Int)<(l.length:Int))=decide (0<l.length):=λl=>by
  rw[Xg,X1,X1];omega
 simp only[eZ,seval,W6,W3,c166,sndN,sndA,Ap,Aw,e1,hA1,hA2,Tru,s2,A9,Al,Bc,A8,hb,tadd]
def rr4b(d:zy)(r:qj)(on set oth num by':Bool)(X:List (Nat×Bool×Fs))(hA1:(!on&&(!decide (r.on=[])|| !decide (r.fam=0))|| !set&&(decide (0<r.ns.length)|| !decide (r.set=0))|| !oth&&(decide (0<r.os.length)|| !decide (r.oth=0)))=false)(hA2:(on&&decide (r.on=[])||set&&decide (r.set=0)||oth&&decide (r.oth=0))=false)(hb:(!EJ d.clus r||num&&(decide (r.n<0)||decide (65536<r.n)))=false)(h5:r.kind=5):evK prog Tru (sndN 8 c166) [] (C7 [.t 4] (Ret (.bool (DA d.clus r 3 true))))
  ⟨(2,true,.ptr 0 0)::(3,true,.ptr 1 0)::(5,true,.bool on)::(6,true,.bool set)::(7,true,.bool oth)::(8,true,.bool num)::(9,true,.bool by')::(10,true,.bool true)::X,hset (hset hnil 0 (.box (AI d))) 1 (.box (BP r)),3⟩:=by
 have e1:∀(l:List Bs),decide ((0:Int)<(l.length:Int))=decide (0<l.length):=λl=>by
  rw[Xg,X1,X1];omega
 simp only[eZ,seval,W6,W3,c166,sndN,sndA,Ap,Aw,e1,hA1,hA2,Sc,Sd,s2,A9,Al,Bc,A8,hb,BB h5]
def rr4c(d:zy)(r:qj)(on set oth num by':Bool)(X:List (Nat×Bool×Fs))(hA1:(!on&&(!decide (r.on=[])|| !decide (r.fam=0))|| !set&&(decide (0<r.ns.length)|| !decide (r.set=0))|| !oth&&(decide (0<r.os.length)|| !decide (r.oth=0)))=false)(hA2:(on&&decide (r.on=[])||set&&decide (r.set=0)||oth&&decide (r.oth=0))=false)(hb:(!EJ d.clus r||num&&(decide (r.n<0)||decide (65536<r.n)))=false)(h5:¬r.kind=5)(h11:r.kind=11):evK prog Tru (sndN 8 c166) [] (C7 [.t 4] (Ret (.bool (DA d.clus r 1 false))))
  ⟨(2,true,.ptr 0 0)::(3,true,.ptr 1 0)::(5,true,.bool on)::(6,true,.bool set)::(7,true,.bool oth)::(8,true,.bool num)::(9,true,.bool by')::(10,true,.bool true)::X,hset (hset hnil 0 (.box (AI d))) 1 (.box (BP r)),3⟩:=by
 have e1:∀(l:List Bs),decide ((0:Int)<(l.length:Int))=decide (0<l.length):=λl=>by
  rw[Xg,X1,X1];omega
 simp only[eZ,seval,W6,W3,c166,sndN,sndA,Ap,Aw,e1,hA1,hA2,Sc,Sd,s2,A9,Al,Bc,A8,hb,Ax h5,W4 h11]
def rr4d(d:zy)(r:qj)(on set oth num by':Bool)(X:List (Nat×Bool×Fs))(hA1:(!on&&(!decide (r.on=[])|| !decide (r.fam=0))|| !set&&(decide (0<r.ns.length)|| !decide (r.set=0))|| !oth&&(decide (0<r.os.length)|| !decide (r.oth=0)))=false)(hA2:(on&&decide (r.on=[])||set&&decide (r.set=0)||oth&&decide (r.oth=0))=false)(hb:(!EJ d.clus r||num&&(decide (r.n<0)||decide (65536<r.n)))=false)(h5:¬r.kind=5)(h11:¬r.kind=11):evK prog Tru (sndN 8 c166) [] (C7 [.t 4] (Ret (.bool (true))))
  ⟨(2,true,.ptr 0 0)::(3,true,.ptr 1 0)::(5,true,.bool on)::(6,true,.bool set)::(7,true,.bool oth)::(8,true,.bool num)::(9,true,.bool by')::(10,true,.bool true)::X,hset (hset hnil 0 (.box (AI d))) 1 (.box (BP r)),3⟩:=by
 have e1:∀(l:List Bs),decide ((0:Int)<(l.length:Int))=decide (0<l.length):=λl=>by
  rw[Xg,X1,X1];omega
 simp only[eZ,seval,W6,W8,W3,c166,sndN,sndA,Ap,Aw,e1,hA1,hA2,Tru,s2,A9,Al,Bc,A8,hb,Ax h5,W9 h11,tadd]
def rr5a(d:zy)(r:qj)(on set oth num by':Bool)(X:List (Nat×Bool×Fs))(hA1:(!on&&(!decide (r.on=[])|| !decide (r.fam=0))|| !set&&(decide (0<r.ns.length)|| !decide (r.set=0))|| !oth&&(decide (0<r.os.length)|| !decide (r.oth=0)))=false)(hA2:(on&&decide (r.on=[])||set&&decide (r.set=0)||oth&&decide (r.oth=0))=false)(hA3:(!decide (r.op=0)|| !num&& !decide (r.n=0)|| !by'&&(!decide (r.byN=[])|| !decide (r.clue= -1)))=false)(hb:(num&&(decide (r.n<0)||decide (65536<r.n)))=true):evK prog Tru (sndN 8 c166) [] (C7 [.t 4] (Ret (.bool (false))))
  ⟨(2,true,.ptr 0 0)::(3,true,.ptr 1 0)::(5,true,.bool on)::(6,true,.bool set)::(7,true,.bool oth)::(8,true,.bool num)::(9,true,.bool by')::(10,true,.bool false)::X,hset (hset hnil 0 (.box (AI d))) 1 (.box (BP r)),3⟩:=by
 have e1:∀(l:List Bs),decide ((0:Int)<(l.length:Int))=decide (0<l.length):=λl=>by
  rw[Xg,X1,X1];omega
 simp only[eZ,seval,W8,W3,c166,sndN,sndA,Ap,Aw,e1,hA1,hA2,hA3,Tru,s2,A9,Al,Bc,A8,hb,tadd]
def rr5b(d:zy)(r:qj)(on set oth num by':Bool)(X:List (Nat×Bool×Fs))(hA1:(!on&&(!decide (r.on=[])|| !decide (r.fam=0))|| !set&&(decide (0<r.ns.length)|| !decide (r.set=0))|| !oth&&(decide (0<r.os.length)|| !decide (r.oth=0)))=false)(hA2:(on&&decide (r.on=[])||set&&decide (r.set=0)||oth&&decide (r.oth=0))=false)(hA3:(!decide (r.op=0)|| !num&& !decide (r.n=0)|| !by'&&(!decide (r.byN=[])|| !decide (r.clue= -1)))=false)(hb:(num&&(decide (r.n<0)||decide (65536<r.n)))=false)(h5:r.kind=5):evK prog Tru (sndN 8 c166) [] (C7 [.t 4] (Ret (.bool (DA d.clus r 3 true))))
  ⟨(2,true,.ptr 0 0)::(3,true,.ptr 1 0)::(5,true,.bool on)::(6,true,.bool set)::(7,true,.bool oth)::(8,true,.bool num)::(9,true,.bool by')::(10,true,.bool false)::X,hset (hset hnil 0 (.box (AI d))) 1 (.box (BP r)),3⟩:=by
 have e1:∀(l:List Bs),decide ((0:Int)<(l.length:Int))=decide (0<l.length):=λl=>by
  rw[Xg,X1,X1];omega
 simp only[eZ,seval,W8,W3,c166,sndN,sndA,Ap,Aw,e1,hA1,hA2,hA3,Sc,Sd,s2,A9,Al,Bc,A8,hb,BB h5]
def rr5c(d:zy)(r:qj)(on set oth num by':Bool)(X:List (Nat×Bool×Fs))(hA1:(!on&&(!decide (r.on=[])|| !decide (r.fam=0))|| !set&&(decide (0<r.ns.length)|| !decide (r.set=0))|| !oth&&(decide (0<r.os.length)|| !decide (r.oth=0)))=false)(hA2:(on&&decide (r.on=[])||set&&decide (r.set=0)||oth&&decide (r.oth=0))=false)(hA3:(!decide (r.op=0)|| !num&& !decide (r.n=0)|| !by'&&(!decide (r.byN=[])|| !decide (r.clue= -1)))=false)(hb:(num&&(decide (r.n<0)||decide (65536<r.n)))=false)(h5:¬r.kind=5)(h11:r.kind=11):evK prog Tru (sndN 8 c166) [] (C7 [.t 4] (Ret (.bool (DA d.clus r 1 false))))
  ⟨(2,true,.ptr 0 0)::(3,true,.ptr 1 0)::(5,true,.bool on)::(6,true,.bool set)::(7,true,.bool oth)::(8,true,.bool num)::(9,true,.bool by')::(10,true,.bool false)::X,hset (hset hnil 0 (.box (AI d))) 1 (.box (BP r)),3⟩:=by
 have e1:∀(l:List Bs),decide ((0:Int)<(l.length:Int))=decide (0<l.length):=λl=>by
  rw[Xg,X1,X1];omega
 simp only[eZ,seval,W6,W8,W3,c166,sndN,sndA,Ap,Aw,e1,hA1,hA2,hA3,Sc,Sd,s2,A9,Al,Bc,A8,hb,Ax h5,W4 h11]
def rr5d(d:zy)(r:qj)(on set oth num by':Bool)(X:List (Nat×Bool×Fs))(hA1:(!on&&(!decide (r.on=[])|| !decide (r.fam=0))|| !set&&(decide (0<r.ns.length)|| !decide (r.set=0))|| !oth&&(decide (0<r.os.length)|| !decide (r.oth=0)))=false)(hA2:(on&&decide (r.on=[])||set&&decide (r.set=0)||oth&&decide (r.oth=0))=false)(hA3:(!decide (r.op=0)|| !num&& !decide (r.n=0)|| !by'&&(!decide (r.byN=[])|| !decide (r.clue= -1)))=false)(hb:(num&&(decide (r.n<0)||decide (65536<r.n)))=false)(h5:¬r.kind=5)(h11:¬r.kind=11):evK prog Tru (sndN 8 c166) [] (C7 [.t 4] (Ret (.bool (true))))
  ⟨(2,true,.ptr 0 0)::(3,true,.ptr 1 0)::(5,true,.bool on)::(6,true,.bool set)::(7,true,.bool oth)::(8,true,.bool num)::(9,true,.bool by')::(10,true,.bool false)::X,hset (hset hnil 0 (.box (AI d))) 1 (.box (BP r)),3⟩:=by
 have e1:∀(l:List Bs),decide ((0:Int)<(l.length:Int))=decide (0<l.length):=λl=>by
  rw[Xg,X1,X1];omega
 simp only[eZ,seval,W6,W8,W3,c166,sndN,sndA,Ap,Aw,e1,hA1,hA2,hA3,Tru,s2,A9,Al,Bc,A8,hb,Ax h5,W9 h11,tadd]
theorem PQ(d:zy)(r:qj)(on set oth num by' lim:Bool)(X:List (Nat×Bool×Fs)):evK prog Tru (sndN 8 c166) [] (C7 [.t 4] (Ret (.bool (rstR d.clus r on set oth num by' lim))))
  ⟨(2,true,.ptr 0 0)::(3,true,.ptr 1 0)::(5,true,.bool on)::(6,true,.bool set)::(7,true,.bool oth)::(8,true,.bool num)::(9,true,.bool by')::(10,true,.bool lim)::X,hset (hset hnil 0 (.box (AI d))) 1 (.box (BP r)),3⟩:=by
 unfold rstR;simp only[ne_eq,decide_not];cases hA1:(!on&&(!decide (r.on=[])|| !decide (r.fam=0))|| !set&&(decide (0<r.ns.length)|| !decide (r.set=0))|| !oth&&(decide (0<r.os.length)|| !decide (r.oth=0)))with
 |true=>rw[X6 rfl];exact rr1 d r on set oth num by' lim X hA1
 |false=>
 rw[X0 zd];cases hA2:(on&&decide (r.on=[])||set&&decide (r.set=0)||oth&&decide (r.oth=0))with
 |true=>rw[X6 rfl];exact rr2 d r on set oth num by' lim X hA1 hA2
 |false=>
 rw[X0 zd];cases lim with
 |true=>
  rw[W6,Yu,X0 zd,XY];cases hb:(!EJ d.clus r||num&&(decide (r.n<0)||decide (65536<r.n)))with
  |true=>rw[X6 rfl];exact rr4a d r on set oth num by' X hA1 hA2 hb
  |false=>
  rw[X0 zd];by_cases h5:r.kind=5
  ·rw[X6 h5];exact rr4b d r on set oth num by' X hA1 hA2 hb h5
  rw[X0 h5];by_cases h11:r.kind=11
  ·rw[X6 h11];exact rr4c d r on set oth num by' X hA1 hA2 hb h5 h11
  rw[X0 h11];exact rr4d d r on set oth num by' X hA1 hA2 hb h5 h11
 |false=>
  rw[W8,XY,Yu,Y9];cases hA3:(!decide (r.op=0)|| !num&& !decide (r.n=0)|| !by'&&(!decide (r.byN=[])|| !decide (r.clue= -1)))with
  |true=>rw[X6 rfl];exact rr3 d r on set oth num by' X hA1 hA2 hA3
  |false=>
  rw[X0 zd];cases hb:(num&&(decide (r.n<0)||decide (65536<r.n)))with
  |true=>rw[X6 rfl];exact rr5a d r on set oth num by' X hA1 hA2 hA3 hb
  |false=>
  rw[X0 zd];by_cases h5:r.kind=5
  ·rw[X6 h5];exact rr5b d r on set oth num by' X hA1 hA2 hA3 hb h5
  rw[X0 h5];by_cases h11:r.kind=11
  ·rw[X6 h11];exact rr5c d r on set oth num by' X hA1 hA2 hA3 hb h5 h11
  rw[X0 h11];exact rr5d d r on set oth num by' X hA1 hA2 hA3 hb h5 h11
def p166(d:zy)(r:qj):Pur prog 166 [encD d,BT r] (.bool (Ej d.clus r)):=by
 refine .mk ⟨Ab 0 d,As 0 r,trivial⟩ trivial (c166.a (AF Tru_ok (AG ?_)));have hrest:=PQ d r;rw[Se];rw[Wg];have x8:∀on set oth num by' lim rdb clue,Cy r.kind=⟨on,set,oth,lim,num,rdb,true,clue⟩->by'=decide (clue≠0)->I9 d.clus r=rstR d.clus r on set oth num by' lim:=λon set oth num by' lim rdb clue h q=>by
  subst q;unfold I9 rstR;rw[h];rfl
 by_cases hk:r.kind<1\/13<r.kind
 ·have hR:I9 d.clus r=false:=by
   have hkn:(Cy r.kind).knw=false:=by unfold Cy;repeat rw[X0 zo]
   unfold I9;simp only[];rw[X6 hkn]
  have n1:(r.kind=1)=False:=W9 zo;have n2:(r.kind=2)=False:=W9 zo;have n3:(r.kind=3)=False:=W9 zo;have n4:(r.kind=4)=False:=W9 zo;have n5:(r.kind=5)=False:=W9 zo;have n6:(r.kind=6)=False:=W9 zo;have n7:(r.kind=7)=False:=W9 zo;have n8:(r.kind=8)=False:=W9 zo;have n9:(r.kind=9)=False:=W9 zo;have n10:(r.kind=10)=False:=W9 zo;have n11:(r.kind=11)=False:=W9 zo;have n12:(r.kind=12)=False:=W9 zo;have n13:(r.kind=13)=False:=W9 zo;rw[hR];generalize sndN 8 c166=R;simp only[eZ,seval,c166,putN,n1,n2,n3,n4,n5,n6,n7,n8,n9,n10,n11,n12,n13]
 generalize sndN 8 c166=R at hrest⊢;have l5:r.kind=1\/r.kind=2\/r.kind=3\/r.kind=4\/r.kind=5\/r.kind=6\/r.kind=7\/r.kind=8\/r.kind=9\/r.kind=10\/r.kind=11\/r.kind=12\/r.kind=13:=zo
 rcases l5 with l5|l5|l5|l5|l5|l5|l5|l5|l5|l5|l5|l5|l5
 all_goals
  rw[x8 _ _ _ _ _ _ _ _ (by rw[l5];rfl) rfl];simp only[eZ,seval,c166,putN,l5];exact hrest _ _ _ _ _ _ _
def Tfo:Tab:=tadd 166 (s2 dD dRu any2 λd r=>.bool (Ej d.clus r)) (tadd 167 (s1 dCl any1 λc=>.bool (Dm c)) tnil)
def Tfo_ok:AH prog Tfo:=(AH.tnil.add (q1 λc _=>p167 c)).add (q2 λd r _=>p166 d r)
def p122(d:zy)(hd:qk d):Pur prog 122 [encD d] (.bool (Ba d)):=by
 refine .mk ⟨Ab 0 d,trivial⟩ trivial (c122.a (AF Tfo_ok (AG ?_)));have hsl:d.syms.length<1000000000:=hd.sy;have hrl:d.ruls.length<1000000000:=hd.ru;have m8:d.clus.length<1000000000:=hd.cl;simp only[eE,eN,seval,c122];refine AL (λi:Nat=>⟨[(1,true,.ptr 0 0),(3,true,.int .i64 i)],hset hnil 0 (.box (AI d)),2⟩) (λi=>i<=d.syms.length/\(d.syms.all λs=>decide (0<=s.v)&&decide (s.v<=99))=((d.syms.drop i).all λs=>decide (0<=s.v)&&decide (s.v<=99))) (λi=>d.syms.length-i)
  0 rfl ⟨X3 _,rfl⟩ ?_
 rintro i ⟨hi,c7⟩;by_cases c6:i<d.syms.length
 ·have hg:=W5 c6;have e:=AE (k:=i) zo;rw[Gt c6]at c7;generalize d.syms[i]=s at hg c7;by_cases hs:0<=s.v/\s.v<=99
  ·have hb:(decide (s.v<0)||decide (99<s.v))=false:=by simp;omega
   simp only[eZ,seval,eY,lt_T c6,hg,e,hb];exact .mk (i+1) rfl ⟨c6,by rw[c7,BB hs.1,BB hs.2];rfl⟩ zo
  ·have hb:(decide (s.v<0)||decide (99<s.v))=true:=by simp;omega
   have hR:Ba d=false:=by
    unfold Ba;rw[c7,show(decide (0<=s.v)&&decide (s.v<=99))=false by simp;omega];rfl
   rw[hR];simp only[eZ,seval,eY,lt_T c6,hg,hb]
 obtain rfl:i=d.syms.length:=zo
 rw[Xy]at c7;simp only[eZ,seval,W3,lt_F c6];refine AL (λi:Nat=>⟨[(1,true,.ptr 0 0),(4,true,.int .i64 i)],hset hnil 0 (.box (AI d)),2⟩) (λi=>i<=d.ruls.length/\d.ruls.all (Ej d.clus)=(d.ruls.drop i).all (Ej d.clus)) (λi=>d.ruls.length-i)
  0 rfl ⟨X3 _,rfl⟩ ?_
 rintro k ⟨hk,e9⟩;by_cases s7:k<d.ruls.length
 ·have hg:=W5 s7;have e:=AE (k:=k) zo;rw[Gt s7]at e9;generalize d.ruls[k]=r at hg e9;cases hr:Ej d.clus r with
  |false=>
   have hR:Ba d=false:=by
    unfold Ba;rw[e9,hr];simp
   rw[hR];simp only[eZ,seval,W8,eY,lt_T s7,hg,Tfo,s2,A9,Al,Bc,A8,hr,tadd]
  |true=>
   rw[hr,XY]at e9;simp only[eZ,seval,W6,eY,lt_T s7,hg,Tfo,s2,A9,Al,Bc,A8,hr,e,tadd];exact .mk (k+1) rfl ⟨s7,e9⟩ zo
 obtain rfl:k=d.ruls.length:=zo
 rw[Xy]at e9;simp only[eZ,seval,W3,lt_F s7];refine AL (λj:Nat=>⟨[(1,true,.ptr 0 0),(5,true,.int .i64 j)],hset hnil 0 (.box (AI d)),2⟩) (λi=>i<=d.clus.length/\∀j (h:j<d.clus.length),j<i->EC d.ruls j=1/\Dm d.clus[j]=true) (λi=>d.clus.length-i)
  0 rfl ⟨X3 _,λj h q=>absurd q (XN _)⟩ ?_
 rintro j ⟨hj,hal⟩;by_cases hlj:j<d.clus.length
 ·have hg:=W5 hlj;have ej:=AE (k:=j) zo;have i7:¬(EC d.ruls j=1/\Dm d.clus[j]=true)->Ba d=false:=λq=>by
   unfold Ba;rw[c7,e9];cases q1:((List.range d.clus.length).all λi=>decide (EC d.ruls i=1))with
   |false=>rfl
   |true=>
   cases q2:d.clus.all Dm with
   |false=>rfl
   |true=>exact absurd ⟨Xv (X9.1 q1 j (XK.2 hlj)),X9.1 q2 _ (Xa hlj)⟩ q
  have hnext:EC d.ruls j=1/\Dm d.clus[j]=true->∀q (h:q<d.clus.length),q<j+1->EC d.ruls q=1/\Dm d.clus[q]=true:=λz q h hq=>by
   by_cases w:q=j
   ·subst w;exact z
   ·exact hal q h zo
  generalize hx:d.clus[j]=x at hg i7 hnext;simp only[eZ,seval,W3,lt_T hlj];refine AL (λk:Nat=>⟨[(1,true,.ptr 0 0),(5,true,.int .i64 j),(6,true,.int .i64 (cntZ (d.ruls.take k) j)),(7,true,.int .i64 k)],hset hnil 0 (.box (AI d)),2⟩) (λk=>k<=d.ruls.length) (λk=>d.ruls.length-k)
   0 rfl (X3 _) ?_
  intro k hk;by_cases s7:k<d.ruls.length
  ·have hgk:=W5 s7;have ek:=AE (k:=k) zo;have d6:d.ruls.take (k+1)=d.ruls.take k++[d.ruls[k]]:=by rw[Xd,W5 s7];rfl
   have hcle:=U4 (d.ruls.take k) (j:Int);rw[Xp]at hcle;have ew:=AE (k:=cntZ (d.ruls.take k) (j:Int)) zo;generalize d.ruls[k]=r at hgk d6;have hcn:=R9 (d.ruls.take k) r (j:Int);rw[<-d6]at hcn;by_cases hrc:r.clue=j
   ·rw[X6 hrc]at hcn;simp only[eZ,seval,eY,lt_T s7,hgk,ek,W4 hrc,ew];exact .mk (k+1) (by simp only[hcn]) s7 zo
   ·replace hcn:cntZ (d.ruls.take (k+1)) (j:Int)=cntZ (d.ruls.take k) (j:Int):=by rw[hcn,X0 hrc];rfl
    simp only[eZ,seval,eY,lt_T s7,hgk,ek,W9 hrc];exact .mk (k+1) (by simp only[hcn]) s7 zo
  obtain rfl:k=d.ruls.length:=zo
  have hmc0:cntZ d.ruls (j:Int)=EC d.ruls j:=Ni _ _;by_cases hmc:EC d.ruls j=1
  ·have hmb:(((EC d.ruls j:Nat):Int)=1)=True:=W4 zo;cases hc:Dm x with
   |false=>
    rw[i7 (by rw[hc];simp)];simp only[eZ,seval,W6,W8,eY,lt_F s7,Xb,hmc0,hmb,lt_T hlj,hg,Tfo,s1,Hx,Fa,hc,tadd]
   |true=>
    simp only[eZ,seval,W6,eY,lt_F s7,Xb,hmc0,hmb,lt_T hlj,hg,Tfo,s1,Hx,Fa,hc,ej,tadd];exact .mk (j+1) rfl ⟨hlj,λq h z=>hnext ⟨hmc,hc⟩ q h z⟩ zo
  ·have hmb:(((EC d.ruls j:Nat):Int)=1)=False:=W9 zo;rw[i7 (λq=>hmc q.1)];simp only[eZ,seval,W6,W8,eY,lt_F s7,Xb,hmc0,hmb]
 obtain rfl:j=d.clus.length:=zo
 have hR:Ba d=true:=by
  have z2:d.clus.all Dm=true:=X9.2 λq hq=>by
   obtain⟨m,hm,rfl⟩:=Xn.1 hq;exact(hal m hm hm).2
  unfold Ba;rw[c7,e9,X9.2 λq hq=>Xi (hal q (XK.1 hq) (XK.1 hq)).1,z2];rfl
 rw[hR];simp only[eZ,seval,W3,lt_F hlj]
def p117:Pur prog 117 [] (eSs Bv):=by
 refine .mk trivial (BS 0 _) (c117.a (AF AH.tnil (AG ?_)));simp only[eE,eN,seval,c117];exact Wk.sl (.inl rfl)
def numV(l:List Bs)(s:Bs):Fs:=match BF l s with
 |some i=>.tup [.int .i64 i,.bool true]
 |none=>.tup [.int .i64 0,.bool false]
def F6(n:Nat)(l:List Bs)(s:Bs):(numV l s).under n:=by unfold numV;split<;>exact⟨trivial,trivial,trivial⟩
def JN{α:Type}(f:α->Bs){l:List α}{s:Bs}{i:Nat}(hi:i<l.length)(h:f l[i]=s)(hb:∀k (hk:k<l.length),k<i->¬f l[k]=s):BF (l.map f) s=some (i:Int):=by
 unfold BF;rw[Yb.2 ⟨by simpa using hi,by simpa using h,λj hj=>by simpa using hb j zo hj⟩];rfl
def Gu{α:Type}(f:α->Bs){l:List α}{s:Bs}(hb:∀k (hk:k<l.length),¬f l[k]=s):BF (l.map f) s=none:=by
 rw[Bb];intro h;obtain⟨y,hy,e⟩:=XH.1 h;obtain⟨k,hk,rfl⟩:=Xn.1 hy;exact hb k hk e
def p259(d:zy)(s:Bs)(hd:qk d):Pur prog 259 [encD d,.str s] (numV (d.syms.map (·.nm)) s):=by
 refine .mk ⟨Ab 0 d,trivial,trivial⟩ (F6 0 _ _) (c259.a (AF AH.tnil (AG ?_)));have o7:d.syms.length<1000000000:=hd.sy;simp only[eE,eN,seval,c259];refine AL (λi:Nat=>⟨[(1,true,.str s),(2,true,.ptr 0 0),(6,true,.int .i64 i)],hset hnil 0 (.box (AI d)),3⟩) (λi=>i<=d.syms.length/\∀k (hk:k<d.syms.length),k<i->¬d.syms[k].nm=s) (λi=>d.syms.length-i)
  0 rfl ⟨X3 _,λk _ q=>absurd q (XN _)⟩ ?_
 rintro i ⟨hi,hb⟩;by_cases c6:i<d.syms.length
 ·have hg:=W5 c6;have e:=AE (k:=i) zo;have hhit:=λq=>JN (λx=>x.nm) (s:=s) c6 q hb
  have hnx:¬d.syms[i].nm=s->∀k (hk:k<d.syms.length),k<i+1->¬d.syms[k].nm=s:=λq k hk h=>by
   by_cases z:k=i
   ·subst z;exact q
   ·exact hb k hk zo
  generalize d.syms[i]=x at hg hhit hnx;by_cases hx:x.nm=s
  ·have hR:numV (d.syms.map (·.nm)) s= .tup [.int .i64 i,.bool true]:=by unfold numV;rw[hhit hx]
   rw[hR];simp only[eZ,seval,eY,lt_T c6,hg,Aw,BB hx];exact Wk.refl _
  ·simp only[eZ,seval,eY,lt_T c6,hg,e,Aw,Ax hx];exact .mk (i+1) rfl ⟨c6,hnx hx⟩ zo
 obtain rfl:i=d.syms.length:=zo
 have hR:numV (d.syms.map (·.nm)) s= .tup [.int .i64 0,.bool false]:=by unfold numV;rw[Gu _ λk hk=>hb k hk hk]
 rw[hR];simp only[eZ,seval,W3,lt_F c6];exact Wk.refl _
def p228(d:zy)(s:Bs)(hd:qk d):Pur prog 228 [encD d,.str s] (numV (d.clus.map (·.nm)) s):=by
 refine .mk ⟨Ab 0 d,trivial,trivial⟩ (F6 0 _ _) (c228.a (AF AH.tnil (AG ?_)));have o7:d.clus.length<1000000000:=hd.cl;simp only[eE,eN,seval,c228];refine AL (λi:Nat=>⟨[(1,true,.str s),(2,true,.ptr 0 0),(6,true,.int .i64 i)],hset hnil 0 (.box (AI d)),3⟩) (λi=>i<=d.clus.length/\∀k (hk:k<d.clus.length),k<i->¬d.clus[k].nm=s) (λi=>d.clus.length-i)
  0 rfl ⟨X3 _,λk _ q=>absurd q (XN _)⟩ ?_
 rintro i ⟨hi,hb⟩;by_cases c6:i<d.clus.length
 ·have hg:=W5 c6;have e:=AE (k:=i) zo;have hhit:=λq=>JN (λx=>x.nm) (s:=s) c6 q hb
  have hnx:¬d.clus[i].nm=s->∀k (hk:k<d.clus.length),k<i+1->¬d.clus[k].nm=s:=λq k hk h=>by
   by_cases z:k=i
   ·subst z;exact q
   ·exact hb k hk zo
  generalize d.clus[i]=x at hg hhit hnx;by_cases hx:x.nm=s
  ·have hR:numV (d.clus.map (·.nm)) s= .tup [.int .i64 i,.bool true]:=by unfold numV;rw[hhit hx]
   rw[hR];simp only[eZ,seval,eY,lt_T c6,hg,Aw,BB hx];exact Wk.refl _
  ·simp only[eZ,seval,eY,lt_T c6,hg,e,Aw,Ax hx];exact .mk (i+1) rfl ⟨c6,hnx hx⟩ zo
 obtain rfl:i=d.clus.length:=zo
 have hR:numV (d.clus.map (·.nm)) s= .tup [.int .i64 0,.bool false]:=by unfold numV;rw[Gu _ λk hk=>hb k hk hk]
 rw[hR];simp only[eZ,seval,W3,lt_F c6];exact Wk.refl _
def sGv:List Fs->AC->Prop×Fs:=λa _=>match a with
 |[]=>(True,eSs Bv)
 |_=>(False,.tup [])
def qGv:∀args H n,(sGv args H).1->An prog 117 args H n (sGv args H).2:=by
 intro args H n hh;unfold sGv at hh⊢;split at hh
 ·exact p117.quiet H n
 ·exact hh.elim
def Tgv:Tab:=tadd 117 sGv tnil
def Tgv_ok:AH prog Tgv:=AH.tnil.add qGv
def p160(d:zy)(s:Bs)(hd:qk d):Pur prog 160 [encD d,.str s] (numV (Bn d) s):=by
 refine .mk ⟨Ab 0 d,trivial,trivial⟩ (F6 0 _ _) (c160.a (AF Tgv_ok (AG ?_)));have o7:d.regs.length<1000000000:=hd.rg;have c8:=Wj d s;obtain⟨G,hG⟩:∃G:List Bs,G=Bv:=⟨_,rfl⟩;have hGl:G.length=8:=by rw[hG];rfl
 rw[<-hG]at c8;have hsg:sGv []=λ_=>(True,eSs G):=by rw[hG];rfl
 simp only[eE,eN,seval,c160,Tgv,hsg,tadd];refine AL (λi:Nat=>⟨[(1,true,.str s),(2,true,.ptr 0 0),(6,true,eSs G),(7,true,.int .i64 i)],hset hnil 0 (.box (AI d)),3⟩) (λi=>i<=G.length/\∀k (hk:k<G.length),k<i->¬G[k]=s) (λi=>G.length-i)
  0 rfl ⟨X3 _,λk _ q=>absurd q (XN _)⟩ ?_
 rintro i ⟨hi,hb⟩;by_cases c6:i<G.length
 ·have hg:=W5 c6;have e:=AE (k:=i) zo;have hhit:=λq=>JN (λx:Bs=>x) (s:=s) c6 q hb
  rw[show G.map (λx:Bs=>x)=G from List.map_id _]at hhit;have hnx:¬G[i]=s->∀k (hk:k<G.length),k<i+1->¬G[k]=s:=λq k hk h=>by
   by_cases z:k=i
   ·subst z;exact q
   ·exact hb k hk zo
  generalize G[i]=x at hg hhit hnx;by_cases hx:x=s
  ·have hR:numV (Bn d) s= .tup [.int .i64 i,.bool true]:=by unfold numV;rw[c8,hhit hx]
   rw[hR];simp only[eZ,seval,eY,lt_T c6,hg,Aw,BB hx];exact Wk.refl _
  ·simp only[eZ,seval,eY,lt_T c6,hg,e,Aw,Ax hx];exact .mk (i+1) rfl ⟨c6,hnx hx⟩ zo
 obtain rfl:i=G.length:=zo
 have i4:BF G s=none:=by
  have:=Gu (λx:Bs=>x) (l:=G) (s:=s) λk hk=>hb k hk hk
  rw[show G.map (λx:Bs=>x)=G from List.map_id _]at this;exact this
 rw[i4]at c8;simp only at c8;simp only[eZ,seval,W3,lt_F c6];refine AL (λi:Nat=>⟨[(1,true,.str s),(2,true,.ptr 0 0),(8,true,.int .i64 i)],hset hnil 0 (.box (AI d)),3⟩) (λi=>i<=d.regs.length/\∀k (hk:k<d.regs.length),k<i->¬d.regs[k].nm=s) (λi=>d.regs.length-i)
  0 rfl ⟨X3 _,λk _ q=>absurd q (XN _)⟩ ?_
 rintro i ⟨hi,hb⟩;by_cases hlt2:i<d.regs.length
 ·have hg:=W5 hlt2;have e:=AE (k:=i) zo;have e8:IntKind.wrap .i64 (8+(i:Int))=8+(i:Int):=Aq zo zo;have hhit:=λq=>JN (λx:zx=>x.nm) (s:=s) hlt2 q hb
  have hnx:¬d.regs[i].nm=s->∀k (hk:k<d.regs.length),k<i+1->¬d.regs[k].nm=s:=λq k hk h=>by
   by_cases z:k=i
   ·subst z;exact q
   ·exact hb k hk zo
  generalize d.regs[i]=x at hg hhit hnx;by_cases hx:x.nm=s
  ·have hR:numV (Bn d) s= .tup [.int .i64 (8+(i:Int)),.bool true]:=by unfold numV;rw[c8,hhit hx];rfl
   rw[hR];simp only[eZ,seval,eY,lt_T hlt2,hg,e8,Aw,BB hx];exact Wk.refl _
  ·simp only[eZ,seval,eY,lt_T hlt2,hg,e,Aw,Ax hx];exact .mk (i+1) rfl ⟨hlt2,hnx hx⟩ zo
 obtain rfl:i=d.regs.length:=zo
 have hR:numV (Bn d) s= .tup [.int .i64 0,.bool false]:=by unfold numV;rw[c8,Gu (λx:zx=>x.nm) λk hk=>hb k hk hk];rfl
 rw[hR];simp only[eZ,seval,W3,lt_F hlt2];exact Wk.refl _
def J8{l:List Bs}:Ae l=true↔∃(a b:Nat) (ha:a<l.length) (hb:b<l.length),b<a/\l[a]=l[b]:=by
 constructor
 ·intro h;apply Classical.byContradiction;intro q;have:Ae l=false:=B4.2 (List.nodup_iff_pairwise_ne.2 (Yh.2 λi j hi hj hij e=>q ⟨j,i,hj,hi,hij,e.symm⟩));rw[this]at h;cases h
 ·rintro⟨a,b,ha,hb,s6,e⟩;cases h:Ae l with
  |true=>rfl
  |false=>exact absurd e.symm (Yh.1 (List.nodup_iff_pairwise_ne.1 (B4.1 h)) b a hb ha s6)
def p116(l:List Bs)(hl:few l):Pur prog 116 [eSs l] (.bool (Ae l)):=by
 refine .mk ⟨BS 0 _,trivial⟩ trivial (c116.a (AF AH.tnil (AG ?_)));have o7:l.length<1000000000:=hl;simp only[eE,eN,seval,c116];refine AL (λa:Nat=>⟨[(0,true,eSs l),(3,true,.int .i64 a)],hnil,0⟩) (λa=>a<=l.length/\∀x y (hx:x<l.length) (hy:y<l.length),x<a->y<x->¬l[x]=l[y]) (λa=>l.length-a)
  0 rfl ⟨X3 _,λx y _ _ q=>absurd q (XN _)⟩ ?_
 rintro a ⟨ha,i4⟩;by_cases hla:a<l.length
 ·have hga:=W5 hla;have ea:=AE (k:=a) zo;simp only[eZ,seval,W3,lt_T hla];refine AL (λb:Nat=>⟨[(0,true,eSs l),(3,true,.int .i64 a),(4,true,.int .i64 b)],hnil,0⟩) (λb=>b<=a/\∀y (hy:y<l.length),y<b->¬l[a]=l[y]) (λb=>a-b)
   0 rfl ⟨X3 _,λy _ q=>absurd q (XN _)⟩ ?_
  rintro b ⟨i9,t6⟩;by_cases hlb:b<a
  ·have hbl:b<l.length:=zo
   have hgb:=W5 hbl;have eb:=AE (k:=b) zo;by_cases hal:l[a]=l[b]
   ·have hR:Ae l=true:=J8.2 ⟨a,b,hla,hbl,hlb,hal⟩;rw[hR];generalize l[a]=la at hga hal;generalize l[b]=lb at hgb hal;simp only[eZ,seval,eY,lt_T hlb,lt_T hla,lt_T hbl,hga,hgb,Aw,BB hal]
   ·have hnx:∀y (hy:y<l.length),y<b+1->¬l[a]=l[y]:=λy hy q=>by
     by_cases z:y=b
     ·subst z;exact hal
     ·exact t6 y hy zo
    generalize hA:l[a]=la at hga hal;generalize hB:l[b]=lb at hgb hal;simp only[eZ,seval,eY,lt_T hlb,lt_T hla,lt_T hbl,hga,hgb,Aw,Ax hal,eb];exact .mk (b+1) rfl ⟨hlb,λy hy q=>by rw[<-hA];exact hnx y hy q⟩ zo
  obtain rfl:b=a:=zo
  simp only[eZ,seval,lt_F hlb,ea];refine .mk (b+1) rfl ⟨hla,λx y hx hy q1 q2=>?_⟩ zo;by_cases z:x=b
  ·subst z;exact t6 y hy q2
  ·exact i4 x y hx hy zo q2
 obtain rfl:a=l.length:=zo
 have hR:Ae l=false:=by
  cases q:Ae l with
  |false=>rfl
  |true=>
   obtain⟨x,y,hx,hy,hxy,h2⟩:=J8.1 q;exact absurd h2 (i4 x y hx hy hx hxy)
 rw[hR];simp only[eZ,seval,W3,lt_F hla]
def setV(l ss:List Bs):Fs:=match CS l ss with
 |some n=>.tup [.int .i64 n,.bool true]
 |none=>.tup [.int .i64 0,.bool false]
def Tsy:Tab:=tadd 259 (s2 dD dS (λd _=>qk d) λd s=>numV (d.syms.map (·.nm)) s) tnil
def Tsy_ok:AH prog Tsy:=AH.tnil.add (q2 p259)
def p227(d:zy)(ss:List Bs)(hd:qk d)(o8:d.syms.length<=16)(v9:wide ss):Pur prog 227 [encD d,eSs ss] (setV (d.syms.map (·.nm)) ss):=by
 refine .mk ⟨Ab 0 d,BS 0 _,trivial⟩ (by unfold setV;split<;>exact⟨trivial,trivial,trivial⟩) (c227.a (AF Tsy_ok (AG ?_)));have hsl:ss.length<1125899906842624:=v9;unfold setV;rw[<-Mi];generalize hl:d.syms.map (·.nm)=l;have o7:l.length<=16:=by rw[<-hl,W3];exact o8
 simp only[eE,eN,seval,c227];refine AL (λv:Nat×Nat=>⟨[(1,true,eSs ss),(2,true,.ptr 0 0),(6,true,.int .i64 v.2),(7,true,.int .i64 v.1)],hset hnil 0 (.box (AI d)),3⟩) (λv=>v.1<=ss.length/\v.2<65536/\EQ l 0 ss=EQ l v.2 (ss.drop v.1)) (λv=>ss.length-v.1) (0,0) rfl ⟨X3 _,zd,rfl⟩ ?_;rintro⟨i,acc⟩ ⟨hi,y9,heq⟩;simp only at hi y9 heq;by_cases c6:i<ss.length
 ·have hg:=W5 c6;have e:=AE (k:=i) zo;rw[Xm c6,G5]at heq;generalize ss[i]=s at hg heq;cases i4:BF l s with
  |none=>
   have k9:numV l s= .tup [.int .i64 0,.bool false]:=by unfold numV;rw[i4]
   rw[i4]at heq;simp only at heq;rw[heq];simp only[eZ,seval,W8,eY,lt_T c6,hg,Tsy,s2,A9,Al,Gs,EK,W4 hd,hl,k9,tadd];exact Wk.refl _
  |some k=>
   have k9:numV l s= .tup [.int .i64 k,.bool true]:=by unfold numV;rw[i4]
   rw[i4]at heq;simp only at heq;obtain⟨h0,h1⟩:=LJ i4;obtain⟨j,rfl⟩:∃j:Nat,k=j:=⟨k.toNat,zo⟩;rw[X4]at heq;simp only[eZ,seval,W6,eY,lt_T c6,hg,Tsy,s2,A9,Al,Gs,EK,W4 hd,hl,k9,PE (show j<16 by omega),UN y9 (Mh (show j<16 by omega)),e,tadd];exact .mk (i+1,acc|||1<<<j) rfl ⟨c6,Nat.or_lt_two_pow (n:=16) y9 (Mh zo),heq⟩ zp
 obtain rfl:i=ss.length:=zo
 rw[Xy,IT]at heq;rw[heq];simp only[eZ,seval,W3,lt_F c6];exact Wk.refl _
section
structure VNm where
 i:Nat
 tk:jj
 H:AC
 n:Nat
structure INm(d:zy)(lo m:Nat)(ns:List Bs)(v:VNm):Prop where
 hi:v.i<=m
 fr:AQ v.H v.n
 hn:lo<=v.n
 h0:hget v.H 0=some (.box (AI d))
 tok:tkG 1 lo v.H v.tk
 es:v.tk.esz=1\/ns=[]
def Cu{t:jj}{l:List Bs}(ht:t.esz=1\/l=[]):dSs.ok (.sl t (l.map .str))=True:=W4 ⟨ht.imp id λq=>by rw[q];rfl,by rw[Bu]⟩
def CD{t:jj}(l:List Bs):dSs.dec (.sl t (l.map .str))=l:=Bu l
def tw:Tab:=tadd 116 (s1 dSs few λl=>.bool (Ae l)) tnil
def twS:List Fs->AC->Prop×Fs:=s1 dSs few λl=>.bool (Ae l)
structure VRs(α:Type) where
 i:Nat
 tk:jj
 dn:List α
 H:AC
 n:Nat
structure IRs{α β:Type}(d:zy)(e:Nat)(l:List α)(f:α->Option β)(v:VRs β):Prop where
 hi:v.i<=l.length
 dl:v.dn.length=v.i
 fr:AQ v.H v.n
 hn:3<=v.n
 h0:hget v.H 0=some (.box (AI d))
 tok:tkG e 3 v.H v.tk
 es:v.tk.esz=e\/v.dn=[]
 eq:Ad f l=(Ad f (l.drop v.i)).map λr=>v.dn++r
variable {α:Type}
def nmF(init:List Bs)(f:α->Bs)(l:List α)(i:Nat):List Bs:=init++(l.take i).map f
theorem Gv(init:List Bs)(f:α->Bs){l:List α}{i:Nat}(h:i<l.length):nmF init f l (i+1)=nmF init f l i++[f l[i]]:=by
 unfold nmF;rw[map_take h,Xx]
theorem JO(init:List Bs)(f:α->Bs)(l:List α)(i:Nat):(nmF init f l i).length<=init.length+i:=by
 unfold nmF;rw[Xf,W3,Xp];omega
theorem JP(init:List Bs)(f:α->Bs)(l:List α):nmF init f l l.length=init++l.map f:=by
 unfold nmF;rw[Xb]
def DI(d:zy):Fs:=if Ae (d.clus.map λx:z8=>x.nm)=true then .tup [eCls [],.int .i64 161]else match Ad (Bh d) d.clus with
 |none=>.tup [eCls [],.int .i64 160]
 |some cs=>.tup [eCls cs,.int .i64 0]
def Tcv:Tab:=tadd 116 twS (tadd 160 (s2 dD dS (λd _=>qk d) λd s=>numV (Bn d) s) tnil)
theorem Tcv_ok:AH prog Tcv:=(AH.tnil.add (q2 p160)).add (q1 p116)
theorem Tcv_t(a:List Fs)(H:AC):Tcv 116 a H=s1 dSs few (λl=>.bool (Ae l)) a H:=rfl
theorem Tcv_f(a:List Fs)(H:AC):Tcv 160 a H=s2 dD dS (λd _=>qk d) (λd s=>numV (Bn d) s) a H:=rfl
theorem wk2{a b:Fs}{e:Int}(h:Wk a b):Wk (.tup [a,.int .i64 e]) (.tup [b,.int .i64 e]):=Wk.tup (.cons h (.cons (Wk.refl _) .nil))
theorem p118(d:zy)(hd:qk d):Pur prog 118 [encD d] (DI d):=by
 refine .mk ⟨Ab 0 d,trivial⟩ (by unfold DI;split;exact⟨DG 0 _,trivial,trivial⟩;split<;>exact⟨DG 0 _,trivial,trivial⟩) (c118.a (AF Tcv_ok (AG ?_)));have m8:d.clus.length<1000000000:=hd.cl;simp only[eE,eN,seval,c118];refine AL (λv:VNm=>⟨[(1,true,.ptr 0 0),(4,true,.sl v.tk ((nmF [] (λx:z8=>x.nm) d.clus v.i).map .str)),(5,true,.int .i64 v.i)],v.H,v.n⟩) (λv=>INm d 3 d.clus.length (nmF [] (λx:z8=>x.nm) d.clus v.i) v) (λv=>d.clus.length-v.i)
  ⟨0,.nil,hset hnil 0 (.box (AI d)),3⟩ rfl ⟨X3 _,AQ.nil.hset (m:=3) (X3 3) (show 0<3 by decide),X2 _,rfl,.inl rfl,.inr rfl⟩ ?_
 rintro⟨i,tk,H,n⟩ ⟨hi,c8,hn,h0,d6,d8⟩;simp only at hi c8 hn h0 d6 d8;by_cases c6:i<d.clus.length
 ·have hg:=W5 c6;have e:=AE (k:=i) zo;have htx:=Gv [] (λx:z8=>x.nm) c6;have hnl:=JO [] (λx:z8=>x.nm) d.clus i;have t8:([]:List Bs).length<=8:=zd
  generalize d.clus[i]=x at hg htx;generalize hL:nmF [] (λx:z8=>x.nm) d.clus i=L at htx d6 d8 hnl⊢;have q1:A6 H 1 tk=True:=W4 d6.app;have q2:(L.length<=35184372088831)=True:=W4 zo;have q3:Aj (L.length+1) 16=True:=W4 (by unfold Aj;omega);simp only[eZ,seval,eY,lt_T c6,hg,e,h0,fr1 c8,q1,q2,q3];refine .mk ⟨i+1,.own (n+8) 1,hset (AN H tk) (n+8) .tok,n+10⟩ ?_ ?_ zp
  ·simp only[htx,X7];rfl
  ·refine⟨c6,(AT d6 c8).hset (m:=n+10) zo zo,zp,?_,.inr (.inr ⟨n+8,rfl,zo,AB ..⟩),.inl rfl⟩;simp only[];rw[AA _ _ _ _ zo,AW d6 (.inr ⟨_,h0⟩)];exact h0
 obtain rfl:i=d.clus.length:=zo
 have hNA:=JP [] (λx:z8=>x.nm) d.clus;have t8:([]:List Bs).length<=8:=zd
 rw[hNA]at d8;have hnf:few (d.clus.map λx:z8=>x.nm):=show(d.clus.map λx:z8=>x.nm).length<_ by first|(rw[W3];omega)|(rw[Xf,W3];omega)
 rw[Xq]at hNA d8;cases ht:Ae (d.clus.map λx:z8=>x.nm)with
 |true=>
  have hR:DI d= .tup [eCls [],.int .i64 161]:=by unfold DI;rw[X6 ht]
  rw[hR];simp only[eZ,seval,W3,lt_F c6,h0,hNA,Tcv_t,s1,Cu d8,CD,W4 hnf,ht];exact wk2 (Wk.sl (.inr rfl))
 |false=>
 have hR:DI d=match Ad (Bh d) d.clus with
  |none=>.tup [eCls [],.int .i64 160]
  |some cs=>.tup [eCls cs,.int .i64 0]:=by unfold DI;rw[X0 (by rw[ht];decide)]
 rw[hR];simp only[eZ,seval,W3,lt_F c6,h0,hNA,Tcv_t,s1,Cu d8,CD,W4 hnf,ht];refine AL (λv:VRs z8=>⟨[(1,true,.ptr 0 0),(6,true,.sl v.tk (v.dn.map CC)),(7,true,.int .i64 v.i)],v.H,v.n⟩) (IRs d 6 d.clus (Bh d)) (λv=>d.clus.length-v.i)
  ⟨0,.nil,[],H,n⟩ rfl ⟨X3 _,rfl,c8,hn,h0,.inl rfl,.inr rfl,by simp only[ZA];cases Ad (Bh d) d.clus<;>rfl⟩ ?_
 rintro⟨j,tk,dn,H1,n1⟩ ⟨hj,hdl,hf1,l6,l8,i8,he1,heq⟩;simp only at hj hdl hf1 l6 l8 i8 he1 heq;by_cases hlj:j<d.clus.length
 ·have hg:=W5 hlj;have e:=AE (k:=j) zo;rw[Xm hlj,Cn]at heq;generalize d.clus[j]=c at hg heq;have y0:∀q,(n1+q=0)=False:=λq=>W9 zo
  cases i4:BF (Bn d) c.on with
  |none=>
   have k9:numV (Bn d) c.on= .tup [.int .i64 0,.bool false]:=by unfold numV;rw[i4]
   rw[show Bh d c=none by unfold Bh;rw[i4];rfl]at heq;simp only[Yk]at heq;rw[heq];simp only[eZ,seval,W8,eY,lt_T hlj,hg,l8,fr1 hf1,y0,AO,Tcv_f,s2,A9,Al,Gs,EK,W4 hd,k9];exact wk2 (Wk.sl (.inr rfl))
  |some f=>
   have k9:numV (Bn d) c.on= .tup [.int .i64 f,.bool true]:=by unfold numV;rw[i4]
   rw[show Bh d c=some {c with fam:=f}by unfold Bh;rw[i4];rfl]at heq;simp only at heq;have q1:∀ob1,A6 (hset H1 (n1+5) ob1) 6 tk=True:=λob1=>W4 (i8.set (.inr (.inr (fr1 hf1 5)))).app
   have q2:(dn.length<=35184372088831)=True:=W4 zo;have q3:Aj (dn.length+1) 64=True:=W4 (AY zo zd);simp only[eZ,seval,W6,eY,lt_T hlj,hg,e,l8,fr1 hf1,y0,AO,Tcv_f,s2,A9,Al,Gs,EK,W4 hd,k9,q1,q2,q3];obtain⟨H2,hH2⟩:∃H2,H2=hset H1 (n1+5) (.box (CC {c with fam:=f}).cells):=⟨_,rfl⟩;have gt:tkG 6 3 H2 tk:=by rw[hH2];exact i8.set (.inr (.inr (fr1 hf1 5)))
   have gf:AQ H2 (n1+12):=by rw[hH2];exact hf1.hset (m:=n1+12) zo zo
   have g0:hget H2 0=some (.box (AI d)):=by rw[hH2,AA _ _ _ _ zo];exact l8
   refine .mk ⟨j+1,.own (n1+10) 6,dn++[{c with fam:=f}],hset (AN H2 tk) (n1+10) .tok,n1+12⟩ ?_ ?_ zp
   ·rw[hH2];simp only[X7];rfl
   ·refine⟨hlj,by simp [hdl],(AT gt gf).hset (X2 _) (show n1+10<n1+12 by omega),zp,?_,.inr (.inr ⟨n1+10,rfl,zo,AB ..⟩),.inl rfl,?_⟩
    ·simp only[];rw[AA _ _ _ _ zo,AW gt (.inl zo)];exact g0
    ·simp only[];rw[heq];cases Ad (Bh d) (d.clus.drop (j+1))<;>simp
 obtain rfl:j=d.clus.length:=zo
 rw[Xy]at heq;have heq:Ad (Bh d) d.clus=some dn:=by rw[heq];simp [Ad]
 rw[heq];simp only[eZ,seval,W3,lt_F hlj,l8];exact wk2 (Wk.sl (he1.imp id λq=>by rw[q];rfl))
def rulV(d:zy)(r:qj):qj×Bool:=match (if r.on=[]then some 0 else BF (Bn d) r.on)with
 |none=>({r with fam:=0},false)
 |some f=>match (if r.byN=[]then some (-1)else BF (d.clus.map (·.nm)) r.byN)with
  |none=>({r with fam:=f,set:=(CS (d.syms.map (·.nm)) r.ns).getD 0,oth:=(CS (d.syms.map (·.nm)) r.os).getD 0,clue:=-1},false)
  |some c=>({r with fam:=f,set:=(CS (d.syms.map (·.nm)) r.ns).getD 0,oth:=(CS (d.syms.map (·.nm)) r.os).getD 0,clue:=c},(CS (d.syms.map (·.nm)) r.ns).isSome&&(CS (d.syms.map (·.nm)) r.os).isSome)
theorem Sf(d:zy)(r:qj):BE d r=if(rulV d r).2=true then some (rulV d r).1 else none:=by
 unfold BE rulV;cases (if r.on=[]then some 0 else BF (Bn d) r.on)with
 |none=>rfl
 |some f=>
 cases (if r.byN=[]then some (-1)else BF (d.clus.map (·.nm)) r.byN)with
 |none=>cases CS (d.syms.map (·.nm)) r.ns<;>cases CS (d.syms.map (·.nm)) r.os<;>rfl
 |some c=>cases CS (d.syms.map (·.nm)) r.ns<;>cases CS (d.syms.map (·.nm)) r.os<;>rfl
abbrev Sg(x:qj×Bool):Fs:=.tup [BT x.1,.bool x.2]
theorem IX(l ss:List Bs):setV l ss= .tup [.int .i64 ((CS l ss).getD 0),.bool (CS l ss).isSome]:=by unfold setV;cases CS l ss<;>rfl
def Tsr:Tab:=tadd 160 (s2 dD dS (λd _=>qk d) λd s=>numV (Bn d) s) (tadd 228 (s2 dD dS (λd _=>qk d) λd s=>numV (d.clus.map (·.nm)) s) (tadd 227 (s2 dD dSs (λd ss=>qk d/\d.syms.length<=16/\wide ss) λd ss=>setV (d.syms.map (·.nm)) ss) tnil))
theorem Tsr_ok:AH prog Tsr:=((AH.tnil.add (q2 λd ss h=>p227 d ss h.1 h.2.1 h.2.2)).add (q2 p228)).add (q2 p160)
theorem p161(d:zy)(r:qj)(hd:qk d)(o8:d.syms.length<=16)(hr:Fy r):Pur prog 161 [encD d,BT r] (Sg (rulV d r)):=by
 refine .mk ⟨Ab 0 d,As 0 r,trivial⟩ ⟨As 0 _,trivial,trivial⟩ (c161.a (AF Tsr_ok (AG ?_)));have m5:=W4 (⟨hd,o8,hr.1⟩:qk d/\d.syms.length<=16/\wide r.ns);have v7:=W4 (⟨hd,o8,hr.2⟩:qk d/\d.syms.length<=16/\wide r.os);unfold rulV;by_cases h1:r.on=[]
 ·rw[X6 h1];by_cases h2:r.byN=[]
  ·rw[X6 h2];simp only[eZ,seval,W6,eY,BI,c161,Ap,BB h1,BB h2,Tsr,s2,A9,Al,Fx,EE,W4 hd,W4 o8,W4 hr.1,W4 hr.2,IX,tadd];exact Wk.refl _
  ·rw[X0 h2];cases hc:BF (d.clus.map (·.nm)) r.byN with
   |none=>
    have k9:numV (d.clus.map (·.nm)) r.byN= .tup [.int .i64 0,.bool false]:=by unfold numV;rw[hc]
    simp only[eZ,seval,W6,W8,eY,BI,c161,Ap,BB h1,Ax h2,Tsr,s2,A9,Al,Fx,EE,Gs,EK,W4 hd,W4 o8,W4 hr.1,W4 hr.2,IX,k9,tadd];exact Wk.refl _
   |some c=>
    have k9:numV (d.clus.map (·.nm)) r.byN= .tup [.int .i64 c,.bool true]:=by unfold numV;rw[hc]
    simp only[eZ,seval,W6,W8,eY,BI,c161,Ap,BB h1,Ax h2,Tsr,s2,A9,Al,Fx,EE,Gs,EK,W4 hd,W4 o8,W4 hr.1,W4 hr.2,IX,k9,tadd];exact Wk.refl _
 ·rw[X0 h1];cases hf:BF (Bn d) r.on with
  |none=>
   have hnf:numV (Bn d) r.on= .tup [.int .i64 0,.bool false]:=by unfold numV;rw[hf]
   simp only[eZ,seval,W8,eY,BI,c161,Ap,Ax h1,Tsr,s2,A9,Al,Gs,EK,W4 hd,hnf,tadd];exact Wk.refl _
  |some f=>
   have hnf:numV (Bn d) r.on= .tup [.int .i64 f,.bool true]:=by unfold numV;rw[hf]
   by_cases h2:r.byN=[]
   ·rw[X6 h2];simp only[eZ,seval,W6,W8,eY,BI,c161,Ap,Ax h1,BB h2,Tsr,s2,A9,Al,Fx,EE,Gs,EK,W4 hd,W4 o8,W4 hr.1,W4 hr.2,IX,hnf,tadd];exact Wk.refl _
   ·rw[X0 h2];cases hc:BF (d.clus.map (·.nm)) r.byN with
    |none=>
     have k9:numV (d.clus.map (·.nm)) r.byN= .tup [.int .i64 0,.bool false]:=by unfold numV;rw[hc]
     simp only[eZ,seval,W6,W8,eY,BI,c161,Ap,Ax h1,Ax h2,Tsr,s2,A9,Al,Fx,EE,Gs,EK,W4 hd,W4 o8,W4 hr.1,W4 hr.2,IX,hnf,k9,tadd];exact Wk.refl _
    |some c=>
     have k9:numV (d.clus.map (·.nm)) r.byN= .tup [.int .i64 c,.bool true]:=by unfold numV;rw[hc]
     simp only[eZ,seval,W6,W8,eY,BI,c161,Ap,Ax h1,Ax h2,Tsr,s2,A9,Al,Fx,EE,Gs,EK,W4 hd,W4 o8,W4 hr.1,W4 hr.2,IX,hnf,k9,tadd];exact Wk.refl _
def DX(d:zy):Fs:=if Ae (d.ruls.map λx:qj=>x.nm)=true then .tup [eRus [],.int .i64 161]else match Ad (BE d) d.ruls with
 |none=>.tup [eRus [],.int .i64 160]
 |some cs=>.tup [eRus cs,.int .i64 0]
def Trv:Tab:=tadd 116 twS (tadd 161 (s2 dD dRu (λd r=>qk d/\d.syms.length<=16/\Fy r) λd r=>Sg (rulV d r)) tnil)
theorem Trv_ok:AH prog Trv:=(AH.tnil.add (q2 λd r h=>p161 d r h.1 h.2.1 h.2.2)).add (q1 p116)
theorem Trv_t(a:List Fs)(H:AC):Trv 116 a H=s1 dSs few (λl=>.bool (Ae l)) a H:=rfl
theorem Trv_r(a:List Fs)(H:AC):Trv 161 a H=s2 dD dRu (λd r=>qk d/\d.syms.length<=16/\Fy r) (λd r=>Sg (rulV d r)) a H:=rfl
theorem p119(d:zy)(hd:qk d)(o8:d.syms.length<=16):Pur prog 119 [encD d] (DX d):=by
 refine .mk ⟨Ab 0 d,trivial⟩ (by unfold DX;split;exact⟨CM 0 _,trivial,trivial⟩;split<;>exact⟨CM 0 _,trivial,trivial⟩) (c119.a (AF Trv_ok (AG ?_)));have m8:d.ruls.length<1000000000:=hd.ru;simp only[eE,eN,seval,c119];refine AL (λv:VNm=>⟨[(1,true,.ptr 0 0),(4,true,.sl v.tk ((nmF [] (λx:qj=>x.nm) d.ruls v.i).map .str)),(5,true,.int .i64 v.i)],v.H,v.n⟩) (λv=>INm d 3 d.ruls.length (nmF [] (λx:qj=>x.nm) d.ruls v.i) v) (λv=>d.ruls.length-v.i)
  ⟨0,.nil,hset hnil 0 (.box (AI d)),3⟩ rfl ⟨X3 _,AQ.nil.hset (m:=3) (X3 3) (show 0<3 by decide),X2 _,rfl,.inl rfl,.inr rfl⟩ ?_
 rintro⟨i,tk,H,n⟩ ⟨hi,c8,hn,h0,d6,d8⟩;simp only at hi c8 hn h0 d6 d8;by_cases c6:i<d.ruls.length
 ·have hg:=W5 c6;have e:=AE (k:=i) zo;have htx:=Gv [] (λx:qj=>x.nm) c6;have hnl:=JO [] (λx:qj=>x.nm) d.ruls i;have t8:([]:List Bs).length<=8:=zd
  generalize d.ruls[i]=x at hg htx;generalize hL:nmF [] (λx:qj=>x.nm) d.ruls i=L at htx d6 d8 hnl⊢;have q1:A6 H 1 tk=True:=W4 d6.app;have q2:(L.length<=35184372088831)=True:=W4 zo;have q3:Aj (L.length+1) 16=True:=W4 (by unfold Aj;omega);simp only[eZ,seval,eY,lt_T c6,hg,e,h0,fr1 c8,q1,q2,q3];refine .mk ⟨i+1,.own (n+8) 1,hset (AN H tk) (n+8) .tok,n+10⟩ ?_ ?_ zp
  ·simp only[htx,X7];rfl
  ·refine⟨c6,(AT d6 c8).hset (m:=n+10) zo zo,zp,?_,.inr (.inr ⟨n+8,rfl,zo,AB ..⟩),.inl rfl⟩;simp only[];rw[AA _ _ _ _ zo,AW d6 (.inr ⟨_,h0⟩)];exact h0
 obtain rfl:i=d.ruls.length:=zo
 have hNA:=JP [] (λx:qj=>x.nm) d.ruls;have t8:([]:List Bs).length<=8:=zd
 rw[hNA]at d8;have hnf:few (d.ruls.map λx:qj=>x.nm):=show(d.ruls.map λx:qj=>x.nm).length<_ by first|(rw[W3];omega)|(rw[Xf,W3];omega)
 rw[Xq]at hNA d8;cases ht:Ae (d.ruls.map λx:qj=>x.nm)with
 |true=>
  have hR:DX d= .tup [eRus [],.int .i64 161]:=by unfold DX;rw[X6 ht]
  rw[hR];simp only[eZ,seval,W3,lt_F c6,h0,hNA,Trv_t,s1,Cu d8,CD,W4 hnf,ht];exact wk2 (Wk.sl (.inr rfl))
 |false=>
 have hR:DX d=match Ad (BE d) d.ruls with
  |none=>.tup [eRus [],.int .i64 160]
  |some cs=>.tup [eRus cs,.int .i64 0]:=by unfold DX;rw[X0 (by rw[ht];decide)]
 rw[hR];simp only[eZ,seval,W3,lt_F c6,h0,hNA,Trv_t,s1,Cu d8,CD,W4 hnf,ht];refine AL (λv:VRs qj=>⟨[(1,true,.ptr 0 0),(6,true,.sl v.tk (v.dn.map BT)),(7,true,.int .i64 v.i)],v.H,v.n⟩) (IRs d 12 d.ruls (BE d)) (λv=>d.ruls.length-v.i)
  ⟨0,.nil,[],H,n⟩ rfl ⟨X3 _,rfl,c8,hn,h0,.inl rfl,.inr rfl,by simp only[ZA];cases Ad (BE d) d.ruls<;>rfl⟩ ?_
 rintro⟨j,tk,dn,H1,n1⟩ ⟨hj,hdl,hf1,l6,l8,i8,he1,heq⟩;simp only at hj hdl hf1 l6 l8 i8 he1 heq;by_cases hlj:j<d.ruls.length
 ·have hg:=W5 hlj;have e:=AE (k:=j) zo;have hrf:=hd.rus _ (Xa hlj);rw[Xm hlj,Cn]at heq;generalize d.ruls[j]=r at hg heq hrf;have y0:∀q,(n1+q=0)=False:=λq=>W9 zo
  rw[Sf]at heq;obtain⟨r',ok,hv⟩:∃a b,rulV d r=(a,b):=⟨_,_,rfl⟩;rw[hv]at heq;have u1:unders 0 [encD d,BT r]=True:=W4 ⟨Ab 0 d,As 0 r,trivial⟩;have u2:∀b,Fs.under 0 (Sg (r',b))=True:=λb=>W4 ⟨As 0 _,trivial,trivial⟩
  cases ok with
  |false=>
   simp only[Xh,Xt,Yk]at heq;rw[heq];simp only[eZ,seval,W8,eY,lt_T hlj,hg,l8,fr1 hf1,AO,Trv_r,s2,A9,Al,Bc,A8,W4 hd,W4 o8,W4 hrf,hv,u1,u2];exact wk2 (Wk.sl (.inr rfl))
  |true=>
   simp only[XJ]at heq;have q1:∀ob1,A6 (hset H1 (n1+10) ob1) 12 tk=True:=λob1=>W4 (i8.set (.inr (.inr (fr1 hf1 10)))).app
   have q2:(dn.length<=35184372088831)=True:=W4 zo;have q3:Aj (dn.length+1) 152=True:=W4 (AY zo zd);simp only[eZ,seval,W6,eY,lt_T hlj,hg,e,l8,fr1 hf1,AO,Trv_r,s2,A9,Al,Bc,A8,W4 hd,W4 o8,W4 hrf,hv,u1,u2,q1,q2,q3];obtain⟨H2,hH2⟩:∃H2,H2=hset H1 (n1+10) (.box (BP r')):=⟨_,rfl⟩;have gt:tkG 12 3 H2 tk:=by rw[hH2];exact i8.set (.inr (.inr (fr1 hf1 10)))
   have gf:AQ H2 (n1+18):=by rw[hH2];exact hf1.hset (m:=n1+18) zo zo
   have g0:hget H2 0=some (.box (AI d)):=by rw[hH2,AA _ _ _ _ zo];exact l8
   refine .mk ⟨j+1,.own (n1+16) 12,dn++[r'],hset (AN H2 tk) (n1+16) .tok,n1+18⟩ ?_ ?_ zp
   ·rw[hH2];simp only[X7];rfl
   ·refine⟨hlj,by simp [hdl],(AT gt gf).hset (X2 _) (show n1+16<n1+18 by omega),zp,?_,.inr (.inr ⟨n1+16,rfl,zo,AB ..⟩),.inl rfl,?_⟩
    ·simp only[];rw[AA _ _ _ _ zo,AW gt (.inl zo)];exact g0
    ·simp only[];rw[heq];cases Ad (BE d) (d.ruls.drop (j+1))<;>simp
 obtain rfl:j=d.ruls.length:=zo
 rw[Xy]at heq;have heq:Ad (BE d) d.ruls=some dn:=by rw[heq];simp [Ad]
 rw[heq];simp only[eZ,seval,W3,lt_F hlj,l8];exact wk2 (Wk.sl (he1.imp id λq=>by rw[q];rfl))
end
def givX:Fs:=.sl (.exact 1) (Bv.map .str)
def pGvX:Pur prog 117 [] givX:=by
 refine .mk trivial (BS 0 Bv) (c117.a (AF AH.tnil (AG ?_)));simp only[eE,eN,seval,c117];exact Wk.refl _
def sGx:List Fs->AC->Prop×Fs:=λa _=>match a with
 |[]=>(True,givX)
 |_=>(False,.tup [])
def qGx:∀args H n,(sGx args H).1->An prog 117 args H n (sGx args H).2:=by
 intro args H n hh;unfold sGx at hh⊢;split at hh
 ·exact pGvX.quiet H n
 ·exact hh.elim
def Tre:Tab:=tadd 116 twS (tadd 117 sGx (tadd 118 (s1 dD qk DI) (tadd 119 (s1 dD (λd=>qk d/\d.syms.length<=16) DX) tnil)))
def Tre_ok:AH prog Tre:=(((AH.tnil.add (q1 λd h=>p119 d h.1 h.2)).add (q1 p118)).add qGx).add (q1 p116)
theorem J9(a:List Fs)(H:AC):Tre 116 a H=s1 dSs few (λl=>.bool (Ae l)) a H:=rfl
theorem Tre_g(a:List Fs)(H:AC):Tre 117 a H=sGx a H:=rfl
theorem PR(a:List Fs)(H:AC):Tre 118 a H=s1 dD qk DI a H:=rfl
theorem VI(a:List Fs)(H:AC):Tre 119 a H=s1 dD (λd=>qk d/\d.syms.length<=16) DX a H:=rfl
def wk0{e:Int}:Wk (.tup [.agg IH,.int .i64 e]) (.tup [encD dcl0,.int .i64 e]):=wk2 (wk_Dk (Wk.sl (.inr rfl)) (Wk.sl (.inr rfl)) (Wk.sl (.inr rfl)) (Wk.sl (.inr rfl)) (Wk.sl (.inr rfl)))
def p85(d:zy)(hd:qk d)(hq9:d.regs.length<999999000):Pur prog 85 [encD d] (CF d):=by
 refine .mk ⟨Ab 0 d,trivial⟩ (by unfold CF;split<;>exact⟨Ab 0 _,trivial,trivial⟩) (c85.a (AF Tre_ok (AG ?_)));have hsl:d.syms.length<1000000000:=hd.sy;have hrl:d.regs.length<1000000000:=hd.rg;have hE:∀e,resD d= .error e->CF d= .tup [encD dcl0,.int .i64 e]:=λe h=>by unfold CF;rw[h]
 have hO:∀x,resD d= .ok x->CF d= .tup [encD x,.int .i64 0]:=λx h=>by unfold CF;rw[h]
 by_cases o8:16<d.syms.length
 ·have hb:((16:Int)<(d.syms.length:Int))=True:=W4 zo;rw[hE 2 (by unfold resD;rw[X6 o8])];simp only[eZ,seval,BI,W3,c85,hb];exact wk0
 have hb:((16:Int)<(d.syms.length:Int))=False:=W9 zo;have h16':d.syms.length<=16:=zo
 simp only[eZ,seval,W3,c85,hb];refine AL (λv:VNm=>⟨[(1,true,.ptr 0 0),(2,true,.ptr 1 0),(4,true,.sl v.tk ((nmF [] (λx:j8=>x.nm) d.syms v.i).map .str)),(5,true,.int .i64 v.i)],v.H,v.n⟩) (λv=>(hget v.H 1=some (.box IH))/\INm d 3 d.syms.length (nmF [] (λx:j8=>x.nm) d.syms v.i) v) (λv=>d.syms.length-v.i)
  ⟨0,.nil,hset (hset hnil 0 (.box (AI d))) 1 (.box IH),3⟩ rfl ⟨rfl,X3 _,(AQ.nil.hset (m:=3) (X3 3) (show 0<3 by decide)).hset (X2 3) (show 1<3 by decide),X2 _,rfl,.inl rfl,.inr rfl⟩ ?_
 rintro⟨i,tk,H,n⟩ ⟨h1,hi,c8,hn,h0,d6,d8⟩;simp only at h1 hi c8 hn h0 d6 d8;by_cases c6:i<d.syms.length
 ·have hg:=W5 c6;have e:=AE (k:=i) zo;have htx:=Gv [] (λx:j8=>x.nm) c6;have hnl:=JO [] (λx:j8=>x.nm) d.syms i;have t8:([]:List Bs).length<=8:=zd
  generalize d.syms[i]=x at hg htx;generalize hL:nmF [] (λx:j8=>x.nm) d.syms i=L at htx d6 d8 hnl⊢;have q1:A6 H 1 tk=True:=W4 d6.app;have q2:(L.length<=35184372088831)=True:=W4 zo;have q3:Aj (L.length+1) 16=True:=W4 (by unfold Aj;omega);simp only[eZ,seval,eY,lt_T c6,hg,e,h0,fr1 c8,q1,q2,q3];refine .mk ⟨i+1,.own (n+8) 1,hset (AN H tk) (n+8) .tok,n+10⟩ ?_ ?_ zp
  ·simp only[htx,X7];rfl
  ·refine⟨by simp only[];rw[AA _ _ _ _ zo,AW d6 (.inr ⟨_,h1⟩)];exact h1,c6,(AT d6 c8).hset (m:=n+10) zo zo,zp,?_,.inr (.inr ⟨n+8,rfl,zo,AB ..⟩),.inl rfl⟩;simp only[];rw[AA _ _ _ _ zo,AW d6 (.inr ⟨_,h0⟩)];exact h0
 obtain rfl:i=d.syms.length:=zo
 have hNA:=JP [] (λx:j8=>x.nm) d.syms;have t8:([]:List Bs).length<=8:=zd
 rw[hNA]at d8;have hnf:few (d.syms.map λx:j8=>x.nm):=show(d.syms.map λx:j8=>x.nm).length<_ by first|(rw[W3];omega)|(unfold Bn;rw[Xf,W3];omega)
 rw[Xq]at hNA d8;cases ht:Ae (d.syms.map λx:j8=>x.nm)with
 |true=>
  rw[hE 161 (by unfold resD;rw[X0 o8,X6 ht])];simp only[eZ,seval,BI,W3,lt_F c6,h0,h1,hNA,J9,s1,Cu d8,CD,W4 hnf,ht];exact wk0
 |false=>
 have hgx:sGx []=λ_=>(True,givX):=rfl
 have hg0:givX= .sl (.exact 1) ((nmF Bv (λx:zx=>x.nm) d.regs 0).map .str):=by unfold nmF;rw[Yl,Xu,Xs];rfl
 simp only[eZ,seval,W3,lt_F c6,h0,hNA,J9,Tre_g,hgx,s1,Cu d8,CD,W4 hnf,ht];rw[hg0];clear d8 d6 hi c6 hNA t8 hnf;refine AL (λv:VNm=>⟨[(1,true,.ptr 0 0),(2,true,.ptr 1 0),(6,true,.sl v.tk ((nmF Bv (λx:zx=>x.nm) d.regs v.i).map .str)),(7,true,.int .i64 v.i)],v.H,v.n⟩) (λv=>(hget v.H 1=some (.box IH))/\INm d 3 d.regs.length (nmF Bv (λx:zx=>x.nm) d.regs v.i) v) (λv=>d.regs.length-v.i)
  ⟨0,.exact 1,H,n⟩ rfl ⟨h1,X3 _,c8,hn,h0,.inr (.inl rfl),.inl rfl⟩ ?_
 rintro⟨i,tk,H,n⟩ ⟨h1,hi,c8,hn,h0,d6,d8⟩;simp only at h1 hi c8 hn h0 d6 d8;by_cases c6:i<d.regs.length
 ·have hg:=W5 c6;have e:=AE (k:=i) zo;have htx:=Gv Bv (λx:zx=>x.nm) c6;have hnl:=JO Bv (λx:zx=>x.nm) d.regs i;have t8:(Bv:List Bs).length<=8:=zd
  generalize d.regs[i]=x at hg htx;generalize hL:nmF Bv (λx:zx=>x.nm) d.regs i=L at htx d6 d8 hnl⊢;have q1:A6 H 1 tk=True:=W4 d6.app;have q2:(L.length<=35184372088831)=True:=W4 zo;have q3:Aj (L.length+1) 16=True:=W4 (by unfold Aj;omega);simp only[eZ,seval,eY,lt_T c6,hg,e,h0,fr1 c8,q1,q2,q3];refine .mk ⟨i+1,.own (n+8) 1,hset (AN H tk) (n+8) .tok,n+10⟩ ?_ ?_ zp
  ·simp only[htx,X7];rfl
  ·refine⟨by simp only[];rw[AA _ _ _ _ zo,AW d6 (.inr ⟨_,h1⟩)];exact h1,c6,(AT d6 c8).hset (m:=n+10) zo zo,zp,?_,.inr (.inr ⟨n+8,rfl,zo,AB ..⟩),.inl rfl⟩;simp only[];rw[AA _ _ _ _ zo,AW d6 (.inr ⟨_,h0⟩)];exact h0
 obtain rfl:i=d.regs.length:=zo
 have hNA:=JP Bv (λx:zx=>x.nm) d.regs;have t8:(Bv:List Bs).length<=8:=zd
 rw[hNA]at d8;have hnf:few (Bn d):=show(Bn d).length<_ by first|(rw[W3];omega)|(unfold Bn;rw[Xf,W3];omega)
 cases l9:Ae (Bn d)with
 |true=>
  rw[hE 161 (by unfold resD;rw[X0 o8,X0 (by rw[ht];decide),X6 l9])];have hNA:nmF Bv (λx:zx=>x.nm) d.regs d.regs.length=Bn d:=hNA;have d8:tk.esz=1\/Bn d=[]:=d8;simp only[eZ,seval,BI,W3,lt_F c6,h0,h1,hNA,J9,s1,Cu d8,CD,W4 hnf,l9];exact wk0
 |false=>
 have hNA:nmF Bv (λx:zx=>x.nm) d.regs d.regs.length=Bn d:=hNA;have d8:tk.esz=1\/Bn d=[]:=d8;have hres:resD d=if Ae (d.clus.map λx:z8=>x.nm)=true then .error 161 else match Ad (Bh d) d.clus with
   |none=>.error 160
   |some cs=>if Ae (d.ruls.map λx:qj=>x.nm)=true then .error 161 else match Ad (BE d) d.ruls with
    |none=>.error 160
    |some rs=>.ok {d with clus:=cs,ruls:=rs}:=by unfold resD;rw[X0 o8,X0 (by rw[ht];decide),X0 (by rw[l9];decide)];rfl
 have base:=λ(X:Fs) (hX:DI d=X)=>hX
 cases x6:Ae (d.clus.map λx:z8=>x.nm)with
 |true=>
  have hc:DI d= .tup [eCls [],.int .i64 161]:=by unfold DI;rw[X6 x6]
  rw[hE 161 (by rw[hres,X6 x6])];simp only[eZ,seval,W8,eY,BI,lt_F c6,h0,h1,hNA,J9,PR,s1,Cu d8,CD,A9,Al,W4 hd,W4 hnf,l9,hc];exact wk0
 |false=>
 rw[X0 (by rw[x6];decide)]at hres;cases s9:Ad (Bh d) d.clus with
 |none=>
  have hc:DI d= .tup [eCls [],.int .i64 160]:=by unfold DI;rw[X0 (by rw[x6];decide),s9]
  rw[hE 160 (by rw[hres,s9])];simp only[eZ,seval,W8,eY,BI,lt_F c6,h0,h1,hNA,J9,PR,s1,Cu d8,CD,A9,Al,W4 hd,W4 hnf,l9,hc];exact wk0
 |some cs=>
 have hc:DI d= .tup [eCls cs,.int .i64 0]:=by unfold DI;rw[X0 (by rw[x6];decide),s9]
 rw[s9]at hres;simp only at hres;cases ae:Ae (d.ruls.map λx:qj=>x.nm)with
 |true=>
  have hr:DX d= .tup [eRus [],.int .i64 161]:=by unfold DX;rw[X6 ae]
  rw[hE 161 (by rw[hres,X6 ae])];simp only[eZ,seval,W6,W8,eY,BI,lt_F c6,h0,h1,hNA,J9,PR,VI,s1,Cu d8,CD,A9,Al,W4 hd,W4 h16',W4 hnf,l9,hc,hr];exact wk0
 |false=>
 rw[X0 (by rw[ae];decide)]at hres;cases hrs:Ad (BE d) d.ruls with
 |none=>
  have hr:DX d= .tup [eRus [],.int .i64 160]:=by unfold DX;rw[X0 (by rw[ae];decide),hrs]
  rw[hE 160 (by rw[hres,hrs])];simp only[eZ,seval,W6,W8,eY,BI,lt_F c6,h0,h1,hNA,J9,PR,VI,s1,Cu d8,CD,A9,Al,W4 hd,W4 h16',W4 hnf,l9,hc,hr];exact wk0
 |some rs=>
  have hr:DX d= .tup [eRus rs,.int .i64 0]:=by unfold DX;rw[X0 (by rw[ae];decide),hrs]
  rw[hO _ (by rw[hres,hrs])];simp only[eZ,seval,W6,eY,BI,lt_F c6,h0,h1,hNA,J9,PR,VI,s1,Cu d8,CD,A9,Al,W4 hd,W4 h16',W4 hnf,l9,hc,hr,AO];exact Wk.refl _
abbrev FewR(d:zy):Prop:=qk d/\d.regs.length<999999000
def Tcz:Tab:=tadd 85 (s1 dD FewR CF) (tadd 120 (s2 dD dD (λa _=>qk a) λa b=>.bool (decide (a=b))) (tadd 87 sMk (tadd 121 (s2 dD dGd (λd g=>qk d/\Ah g.sh g.w g.h g.holes=some g.cells/\few g.holes) λd g=>.int .i64 (C9 g.cells d.regs)) (tadd 122 (s1 dD qk λd=>.bool (Ba d)) (tadd 123 (s1 dD (λd=>few d.ruls) λd=>eIs (BV d.ruls)) tnil)))))
def Tcz_ok:AH prog Tcz:=(((((AH.tnil.add (q1 λd h=>p123 d h)).add (q1 λd h=>p122 d h)).add (q2 λd g h=>p121 d g h.1 h.2.1 h.2.2)).add qMk).add (q2 λa b h=>p120 a b h)).add (q1 λd h=>p85 d h.1 h.2)
theorem KA(a:List Fs)(H:AC):Tcz 85 a H=s1 dD FewR CF a H:=rfl
theorem Lc(a:List Fs)(H:AC):Tcz 120 a H=s2 dD dD (λa _=>qk a) (λa b=>.bool (decide (a=b))) a H:=rfl
theorem PS(sh w h:Int)(x:Fs)(H:AC):Tcz 87 [.int .i64 sh,.int .i64 w,.int .i64 h,x] H=(dIs.ok x/\few (dIs.dec x),BK sh w h (dIs.dec x)):=rfl
theorem Si(a:List Fs)(H:AC):Tcz 121 a H=s2 dD dGd (λd g=>qk d/\Ah g.sh g.w g.h g.holes=some g.cells/\few g.holes) (λd g=>.int .i64 (C9 g.cells d.regs)) a H:=rfl
theorem VJ(a:List Fs)(H:AC):Tcz 122 a H=s1 dD qk (λd=>.bool (Ba d)) a H:=rfl
theorem Tcz_u(a:List Fs)(H:AC):Tcz 123 a H=s1 dD (λd=>few d.ruls) (λd=>eIs (BV d.ruls)) a H:=rfl
theorem FI{α β:Type}{f:α->Option β}:∀{l:List α} {r:List β},Ad f l=some r->r.length=l.length/\∀y∈r,∃x∈l,f x=some y
 |[],r,h=>by
  simp only[Ad,Option.some.injEq]at h;subst h;exact⟨rfl,λy hy=>by cases hy⟩
 |x::l,r,h=>by
  rw[Cn]at h;cases hx:f x with
  |none=>rw[hx]at h;cases h
  |some z=>
   rw[hx]at h;simp only at h;cases hl:Ad f l with
   |none=>rw[hl]at h;cases h
   |some s=>
    rw[hl]at h;simp only[XD,Option.some.injEq]at h;subst h;obtain⟨h1,h2⟩:=FI hl;refine⟨by simp [h1],λy hy=>?_⟩;rcases Xw.1 hy with rfl|hy
    ·exact⟨x,zw,hx⟩
    ·obtain⟨w,hw,e⟩:=h2 y hy;exact⟨w,by simp [hw],e⟩
def PT{d:zy}{r r':qj}(h:BE d r=some r'):r'.ns=r.ns/\r'.os=r.os:=by
 unfold BE at h;split at h
 ·cases h;exact⟨rfl,rfl⟩
 ·cases h
def F7{d x:zy}(hd:qk d)(h:resD d= .ok x):qk x:=by
 obtain⟨-,-,-,-,-,e1,e2,e3⟩:=Nh h
 have key:∃cs rs,Ad (Bh d) d.clus=some cs/\Ad (BE d) d.ruls=some rs/\x.clus=cs/\x.ruls=rs:=by
  unfold resD at h
  repeat' split at h
  all_goals first
   |(cases h;done)
   |(rename_i cs s9 _ _ rs hrs
     cases h
     exact⟨_,_,s9,hrs,rfl,rfl⟩)
 obtain⟨cs,rs,h1,h2,h3,h4⟩:=key
 obtain⟨l1,-⟩:=FI h1
 obtain⟨l2,m2⟩:=FI h2
 refine⟨by rw[e1];exact hd.ho,by rw[e2];exact hd.sy,by rw[e3];exact hd.rg,by rw[e3];exact hd.rgs,?_,?_,λr hr=>?_⟩
 ·rw[h3];show cs.length<_;rw[l1];exact hd.cl
 ·rw[h4];show rs.length<_;rw[l2];exact hd.ru
 ·rw[h4]at hr
  obtain⟨r0,hr0,e⟩:=m2 r hr
  obtain⟨q1,q2⟩:=PT e
  have:=hd.rus r0 hr0
  exact⟨by rw[q1];exact this.1,by rw[q2];exact this.2⟩
def VK(d:zy):(decide ((d.syms.length:Int)=0)||decide ((16:Int)<d.syms.length)||decide ((4:Int)<d.regs.length)||decide ((4:Int)<d.clus.length)||decide ((16:Int)<d.ruls.length))= !limD d:=by
 rw[Xg];unfold limD;simp only[Xk,X1,Y1,Z4,XU];omega
def p86(d:zy)(hd:qk d):Pur prog 86 [encD d] (.int .i64 (chkD d)):=by
 refine .mk ⟨Ab 0 d,trivial⟩ trivial (c86.a (AF Tcz_ok (AG ?_)));unfold chkD;have hlb:=VK d;cases hl:limD d with
 |false=>
  rw[hl]at hlb;rw[X6 rfl];simp only[eZ,seval,W8,W3,c86,hlb,W8]
 |true=>
 rw[hl]at hlb;rw[X0 zd];have c8:FewR d:=⟨hd,by
  unfold limD at hl;simp only[W7,X1]at hl;omega⟩
 cases hr:resD d with
 |error e=>
  have hv:CF d= .tup [encD dcl0,.int .i64 e]:=by unfold CF;rw[hr]
  have he:(e=0)=False:=W9 (ER hr);simp only[eZ,seval,W6,W8,eY,c86,hlb,W6,KA,s1,A9,Al,W4 c8,hv,he]
 |ok x=>
 have hv:CF d= .tup [encD x,.int .i64 0]:=by unfold CF;rw[hr]
 have hfx:=F7 hd hr;simp only[];by_cases hx:x=d;case neg=>
  rw[X6 hx];simp only[eZ,seval,W6,W8,eY,c86,hlb,W6,KA,Lc,s1,s2,A9,Al,W4 c8,W4 hfx,hv,Ax hx]
 rw[X0 (λz=>z hx)];subst hx;by_cases hver:x.ver<1\/255<x.ver
 ·have hvb:(decide (x.ver<1)||decide (255<x.ver))=true:=by simpa using hver
  rw[X6 hver];simp only[eZ,seval,W6,eY,c86,hlb,W6,KA,Lc,s1,s2,A9,Al,W4 c8,W4 hd,hv,hvb]
 have hvb:(decide (x.ver<1)||decide (255<x.ver))=false:=by simp;omega
 rw[X0 hver];cases hc:Ah x.sh x.w x.h x.holes with
 |none=>
  have hm:BK x.sh x.w x.h x.holes= .tup [encG 0 0 0 [] [],.int .i64 130]:=by unfold BK;rw[hc]
  simp only[eZ,seval,W6,W8,eY,c86,hlb,W6,KA,Lc,PS,s1,s2,A9,Al,Af,AZ,W4 c8,W4 hd,W4 hd.ho,hv,hvb,hm]
 |some cells=>
 have hm:BK x.sh x.w x.h x.holes= .tup [encG x.sh x.w x.h x.holes cells,.int .i64 0]:=by unfold BK;rw[hc]
 simp only[];by_cases hre:C9 cells x.regs=0;case neg=>
  rw[X6 hre];simp only[eZ,seval,W6,W8,eY,c86,hlb,W6,KA,Lc,PS,Si,s1,s2,A9,Al,Af,AZ,E9,Cz,W4 c8,W4 hd,W4 hd.ho,hv,hvb,hm,hc,W9 hre]
 rw[X0 (λz=>z hre)];cases hf:Ba x with
 |false=>
  rw[X6 rfl];simp only[eZ,seval,W6,W8,eY,c86,hlb,W6,KA,Lc,PS,Si,VJ,s1,s2,A9,Al,Af,AZ,E9,Cz,W4 c8,W4 hd,W4 hd.ho,hv,hvb,hm,hc,hre,hf]
 |true=>
 rw[X0 zd];by_cases hu:BV x.ruls=[]
 ·rw[X0 (λz=>z hu)];simp only[eZ,seval,W6,eY,c86,hlb,W6,KA,Lc,PS,Si,VJ,Tcz_u,s1,s2,A9,Al,Af,AZ,E9,Cz,W4 c8,W4 hd,W4 hd.ho,W4 hd.ru,hv,hvb,hm,hc,hre,hf,hu]
 ·rw[X6 hu];have hup:((0:Int)<((BV x.ruls).length:Int))=True:=W4 (by have:=List.length_pos_iff.2 hu;omega);simp only[eZ,seval,W6,eY,c86,hlb,W6,KA,Lc,PS,Si,VJ,Tcz_u,s1,s2,A9,Al,Af,AZ,E9,Cz,W4 c8,W4 hd,W4 hd.ho,W4 hd.ru,hv,hvb,hm,hc,hre,hf,hup]
abbrev eLLs(ls:List (List (List Int))):Fs:=.sl (.none 1) (ls.map eLl)
abbrev AJ(k:zz):List Fs:=AI k.d++(AD k.g.sh k.g.w k.g.h k.g.holes k.g.cells++[eLl k.nb,eLLs k.ls])
abbrev Bj(k:zz):Fs:=.agg (AJ k)
def PU:Fs->List (List (List Int))
 | .sl _ L=>L.map O4
 |_=>[]
def decKn:Fs->zz
 | .agg [nm,v,sh,w,h,ho,sy,rg,cl,ru,gs,gw,gh,gho,gce,nb,ls]=>⟨decD (.agg [nm,v,sh,w,h,ho,sy,rg,cl,ru]),SB (.agg [gs,gw,gh,gho,gce]),O4 nb,PU ls⟩
 |_=>⟨dcl0,⟨0,0,0,[],[]⟩,[],[]⟩
def Dn(n:Nat)(l:List (List (List Int))):(eLLs l).under n:=⟨trivial,BD (Ak n) _⟩
def Ag(n:Nat)(k:zz):(Bj k).under n:=⟨trivial,trivial,trivial,trivial,trivial,AU n _,Ex n _,DF n _,DG n _,CM n _,trivial,trivial,trivial,AU n _,AU n _,Ak n _,Dn n _,trivial⟩
def N6(l:List (List (List Int))):PU (eLLs l)=l:=Cx El l
def KB(k:zz):decKn (Bj k)=k:=by
 have h1:=Jx k.d;have h2:=IB k.g;show zz.mk (decD (encD k.d)) (SB (B5 k.g)) (O4 (eLl k.nb)) (PU (eLLs k.ls))=k;rw[h1,h2,El,N6]
def dLLs:Dc (List (List (List Int))):=dLi 1 eLl O4
def VL(l:List (List (List Int))):dLLs.ok (eLLs l)=True:=Hy El (.inl rfl)
def Sj(l:List (List (List Int))):dLLs.dec (eLLs l)=l:=Fb El
def dKn:Dc zz:=dWk Bj decKn
def DJ(x:zz):dKn.ok (Bj x)=True:=Ge KB x
def CG(x:zz):dKn.dec (Bj x)=x:=KB x
def p105(a b:List (List Int))(hb:Bt b):Pur prog 105 [eLl a,eLl b] (.bool (decide (a=b))):=by
 refine .mk ⟨Ak 0 a,Ak 0 b,trivial⟩ trivial (c105.a (AF U6 (AG ?_)));simp only[eE,eN,seval,c105,Tcl,s2f,CU,Bm,W4 hb,tadd]
def Tke:Tab:=tadd 105 (s2 dLl dLl (λ_ b=>Bt b) λa b=>.bool (decide (a=b))) tnil
def UV:AH prog Tke:=AH.tnil.add (q2 p105)
def p106(a b:List (List (List Int)))(hb:few b)(hx:∀x∈b,Bt x):Pur prog 106 [eLLs a,eLLs b,.fn (.func 105) [] []] (.bool (decide (a=b))):=by
 refine .mk ⟨Dn 0 a,Dn 0 b,by simp [Fs.under,unders],trivial⟩ trivial (c106.a (AF UV (AG ?_)));by_cases hl:a.length=b.length;case neg=>
  simp only[eZ,seval,W8,W3,c106,Gc hl,W8];exact(Xe λe=>hl (by rw[e])).symm
 simp only[eZ,seval,W6,W3,c106,Gd hl];refine AL (λi:Nat=>⟨[(1,true,eLLs b),(2,true,.fn (.func 105) [] []),(15,true,eLLs a),(16,true,.int .i64 a.length),(17,true,.int .i64 i)],hnil,0⟩) (λi=>i<=a.length/\∀j,j<i->a[j]?=b[j]?) (λi=>a.length-i) 0 rfl ⟨X3 _,λj hj=>zo⟩ ?_;rintro i ⟨hi,c7⟩;by_cases c6:i<a.length;case neg=>
  simp only[eZ,seval,lt_F c6];exact(Xi (Df hl λj hj=>c7 j zo)).symm
 have hltb:i<b.length:=zo
 have hga:=W5 c6;have hgb:=W5 hltb;have e:=AE (k:=i) (by have:b.length<1000000000:=hb;omega);have hf:=hx _ (Xa hltb);by_cases hs:a[i]=b[i]
 ·simp only[eZ,seval,W6,X8,X4,X5,W3,Xc,lt_T c6,lt_T hltb,hga,hgb,e,Tke,s2,CU,Bm,W4 hf,BB hs,tadd];refine lpN.drop (i+1) rfl rfl rfl rfl AQ.nil (λ_ _ h=>by cases h) ⟨Dn 0 b,by simp [Fs.under,unders],Dn 0 a,trivial,trivial,trivial⟩ ⟨c6,λj h=>?_⟩ zo;by_cases q:j=i
  ·subst q;rw[hga,hgb,hs]
  ·exact c7 j zo
 ·simp only[eZ,seval,W8,X8,X4,X5,W3,Xc,lt_T c6,lt_T hltb,hga,hgb,Tke,s2,CU,Bm,W4 hf,Ax hs,tadd];exact(Xe λq=>hs (by simp [q])).symm
structure FewKn(k:zz):Prop where
 d:qk k.d
 ho:wide k.g.holes
 ce:wide k.g.cells
 nb:Bt k.nb
 ls:few k.ls
 lx:∀x∈k.ls,Bt x
def Tks:Tab:=tadd 103 (s2 dIs dIs (λ_ b=>wide b) λa b=>.bool (decide (a=b))) (tadd 104 (s2 dD dD (λ_ b=>qk b) λa b=>.bool (decide (a=b))) (tadd 106 (s2f 105 dLLs dLLs (λ_ b=>few b/\∀x∈b,Bt x) λa b=>.bool (decide (a=b))) Tke))
def Tks_ok:AH prog Tks:=((UV.add (q2f λa b h=>p106 a b h.1 h.2)).add (q2 p104)).add (q2 p103)
theorem Tks_i(a:List Fs)(H:AC):Tks 103 a H=s2 dIs dIs (λ_ b=>wide b) (λa b=>.bool (decide (a=b))) a H:=rfl
theorem Tks_s(a:List Fs)(H:AC):Tks 104 a H=s2 dD dD (λ_ b=>qk b) (λa b=>.bool (decide (a=b))) a H:=rfl
theorem Tks_f(a:List Fs)(H:AC):Tks 106 a H=s2f 105 dLLs dLLs (λ_ b=>few b/\∀x∈b,Bt x) (λa b=>.bool (decide (a=b))) a H:=rfl
theorem Tks_e(a:List Fs)(H:AC):Tks 105 a H=s2 dLl dLl (λ_ b=>Bt b) (λa b=>.bool (decide (a=b))) a H:=rfl
def VN{a b:zz}:a=b↔(((((((a.g.sh=b.g.sh/\a.g.w=b.g.w)/\a.g.h=b.g.h)/\a.g.holes=b.g.holes)/\a.g.cells=b.g.cells)/\a.d=b.d)/\a.nb=b.nb)/\a.ls=b.ls):=by
 obtain⟨ad,⟨a1,a2,a3,a4,a5⟩,an,al⟩:=a;obtain⟨bd,⟨b1,b2,b3,b4,b5⟩,bn,bl⟩:=b;simp only[zz.mk.injEq,jz.mk.injEq];constructor
 ·simp_all
 ·simp_all
def p58(a b:zz)(hb:FewKn b):Pur prog 58 [Bj a,Bj b] (.bool (decide (a=b))):=by
 refine .mk ⟨Ag 0 a,Ag 0 b,trivial⟩ trivial (c58.a (AF Tks_ok (AG ?_)));have e1:dD.ok (.agg (AI a.d))=True:=A9 a.d;have e2:dD.dec (.agg (AI a.d))=a.d:=Al a.d;have e3:dD.ok (.agg (AI b.d))=True:=A9 b.d;have e4:dD.dec (.agg (AI b.d))=b.d:=Al b.d;simp only[AI]at e1 e2 e3 e4;simp only[eZ,seval,c58,AJ,AD,AI,Tks_i,Tks_s,Tks_f,Tks_e,s2,s2f,Af,AZ,CU,Bm,VL,Sj,e1,e2,e3,e4,W4 hb.d,W4 hb.ho,W4 hb.ce,W4 hb.nb,W4 hb.ls,W4 hb.lx];rw[Xg];simp only[W7,X1,VN]
def p131(a b:List Int)(ha:wide a):Pur prog 131 [eIs a,eIs b] (.bool (decide (a=b))):=by
 refine .mk ⟨AU 0 _,AU 0 _,trivial⟩ trivial (c131.a (AF AH.tnil (AG ?_)));have hal:a.length<1125899906842624:=ha;by_cases hl:a.length=b.length;case neg=>
  have hR:decide (a=b)=false:=Xe λq=>hl (by rw[q])
  have hq:((a.length:Int)=(b.length:Int))=False:=W9 zo;rw[hR];simp only[eZ,seval,W8,W3,c131,hq]
 have hq:((a.length:Int)=(b.length:Int))=True:=W4 zo;simp only[eZ,seval,W6,W3,c131,hq];refine AL (λi:Nat=>⟨[(0,true,eIs a),(1,true,eIs b),(5,true,.int .i64 i)],hnil,0⟩) (λi=>i<=a.length/\a.take i=b.take i) (λi=>a.length-i) 0 rfl ⟨X3 _,rfl⟩ ?_;rintro i ⟨hi,d6⟩;by_cases c6:i<a.length
 ·have hltb:i<b.length:=zo
  have hg:=W5 c6;have hgb:=W5 hltb;have e:=AE (k:=i) zo;have ta:a.take (i+1)=a.take i++[a[i]]:=by rw[Xd,hg];rfl
  have tb:b.take (i+1)=b.take i++[b[i]]:=by rw[Xd,hgb];rfl
  generalize a[i]=x at hg ta;generalize b[i]=y at hgb tb;by_cases hxy:x=y
  ·simp only[eZ,seval,W6,eY,lt_T c6,lt_T hltb,hg,hgb,e,hxy];exact .mk (i+1) rfl ⟨c6,by rw[ta,tb,d6,hxy]⟩ zo
  ·have hR:decide (a=b)=false:=Xe λq=>hxy (by rw[q]at hg;rw[hg]at hgb;exact Option.some.inj hgb)
   rw[hR];simp only[eZ,seval,W8,eY,lt_T c6,lt_T hltb,hg,hgb,Ax hxy]
 obtain rfl:i=a.length:=zo
 have hR:decide (a=b)=true:=Xi (by rw[Xb,hl,Xb]at d6;exact d6);rw[hR];simp only[eZ,seval,W3,lt_F c6]
def p173(a b:List Bs)(ha:wide a):Pur prog 173 [eSs a,eSs b] (.bool (decide (a=b))):=by
 refine .mk ⟨BS 0 _,BS 0 _,trivial⟩ trivial (c173.a (AF AH.tnil (AG ?_)));have hal:a.length<1125899906842624:=ha;by_cases hl:a.length=b.length;case neg=>
  have hR:decide (a=b)=false:=Xe λq=>hl (by rw[q])
  have hq:((a.length:Int)=(b.length:Int))=False:=W9 zo;rw[hR];simp only[eZ,seval,W8,W3,c173,hq]
 have hq:((a.length:Int)=(b.length:Int))=True:=W4 zo;simp only[eZ,seval,W6,W3,c173,hq];refine AL (λi:Nat=>⟨[(0,true,eSs a),(1,true,eSs b),(5,true,.int .i64 i)],hnil,0⟩) (λi=>i<=a.length/\a.take i=b.take i) (λi=>a.length-i) 0 rfl ⟨X3 _,rfl⟩ ?_;rintro i ⟨hi,d6⟩;by_cases c6:i<a.length
 ·have hltb:i<b.length:=zo
  have hg:=W5 c6;have hgb:=W5 hltb;have e:=AE (k:=i) zo;have ta:a.take (i+1)=a.take i++[a[i]]:=by rw[Xd,hg];rfl
  have tb:b.take (i+1)=b.take i++[b[i]]:=by rw[Xd,hgb];rfl
  generalize a[i]=x at hg ta;generalize b[i]=y at hgb tb;by_cases hxy:x=y
  ·simp only[eZ,seval,W6,eY,lt_T c6,lt_T hltb,hg,hgb,e,Ap,BB hxy];exact .mk (i+1) rfl ⟨c6,by rw[ta,tb,d6,hxy]⟩ zo
  ·have hR:decide (a=b)=false:=Xe λq=>hxy (by rw[q]at hg;rw[hg]at hgb;exact Option.some.inj hgb)
   rw[hR];simp only[eZ,seval,W8,eY,lt_T c6,lt_T hltb,hg,hgb,Ap,Ax hxy]
 obtain rfl:i=a.length:=zo
 have hR:decide (a=b)=true:=Xi (by rw[Xb,hl,Xb]at d6;exact d6);rw[hR];simp only[eZ,seval,W3,lt_F c6]
def T6n:Tab:=tadd 173 (s2 dSs dSs (λa _=>wide a) λa b=>.bool (decide (a=b))) tnil
def T6n_ok:AH prog T6n:=AH.tnil.add (q2 p173)
def T6i:Tab:=tadd 131 (s2 dIs dIs (λa _=>wide a) λa b=>.bool (decide (a=b))) tnil
def T6i_ok:AH prog T6i:=AH.tnil.add (q2 p131)
def T3i:Tab:=tadd 130 (s2 dIs dIs (λa _=>wide a) λa b=>.bool (decide (a=b))) tnil
def UW:AH prog T3i:=AH.tnil.add (q2 p130W)
def p133(a b:qj)(ha:Fy a):Pur prog 133 [BT a,BT b] (.bool (decide (a=b))):=by
 refine .mk ⟨As 0 _,As 0 _,trivial⟩ trivial (c133.a (AF T6n_ok (AG ?_)));obtain⟨h1,h2⟩:=ha;simp only[eZ,seval,c133,T6n,s2,Fx,EE,W4 h1,W4 h2,Aw,tadd];rw[Xg,X1,MY];simp only[W7,X1];constructor
 ·intro h;simp only[h,and_self]
 ·intro h;simp only[h,and_self]
def p91(a b:List (List Int))(ha:few a)(hf:∀x∈a,wide x):Pur prog 91 [eLl a,eLl b] (.bool (decide (a=b))):=by
 refine .mk ⟨Ak 0 _,Ak 0 _,trivial⟩ trivial (c91.a (AF UW (AG ?_)));have hal:a.length<1000000000:=ha;by_cases hl:a.length=b.length;case neg=>
  have hR:decide (a=b)=false:=Xe λq=>hl (by rw[q])
  have hq:((a.length:Int)=(b.length:Int))=False:=W9 zo;rw[hR];simp only[eZ,seval,W8,W3,c91,hq]
 have hq:((a.length:Int)=(b.length:Int))=True:=W4 zo;simp only[eZ,seval,W6,W3,c91,hq];refine AL (λi:Nat=>⟨[(0,true,eLl a),(1,true,eLl b),(5,true,.int .i64 i)],hnil,0⟩) (λi=>i<=a.length/\a.take i=b.take i) (λi=>a.length-i) 0 rfl ⟨X3 _,rfl⟩ ?_;rintro i ⟨hi,d6⟩;by_cases c6:i<a.length
 ·have hltb:i<b.length:=zo
  have hg:=W5 c6;have hgb:=W5 hltb;have e:=AE (k:=i) zo;have ta:a.take (i+1)=a.take i++[a[i]]:=by rw[Xd,hg];rfl
  have tb:b.take (i+1)=b.take i++[b[i]]:=by rw[Xd,hgb];rfl
  have hxf:=hf _ (Xa c6);generalize a[i]=x at hg ta hxf;generalize b[i]=y at hgb tb;by_cases hxy:x=y
  ·simp only[eZ,seval,W6,eY,lt_T c6,lt_T hltb,hg,hgb,e,T3i,s2,Af,AZ,W4 hxf,BB hxy,tadd];exact .mk (i+1) rfl ⟨c6,by rw[ta,tb,d6,hxy]⟩ zo
  ·have hR:decide (a=b)=false:=Xe λq=>hxy (by rw[q]at hg;rw[hg]at hgb;exact Option.some.inj hgb)
   rw[hR];simp only[eZ,seval,W8,eY,lt_T c6,lt_T hltb,hg,hgb,T3i,s2,Af,AZ,W4 hxf,Ax hxy,tadd]
 obtain rfl:i=a.length:=zo
 have hR:decide (a=b)=true:=Xi (by rw[Xb,hl,Xb]at d6;exact d6);rw[hR];simp only[eZ,seval,W3,lt_F c6]
def p132(x y:zx)(hx:Bt x.ls):Pur prog 132 [Fu x,Fu y] (.bool (decide (x=y))):=by
 refine .mk ⟨Cf 0 x,Cf 0 y,trivial⟩ trivial (c132.a (AF T6i_ok (AG ?_)));obtain⟨nm,a⟩:=x;obtain⟨nn,b⟩:=y;have ha:few a:=hx.1;have hf:∀x∈a,wide x:=hx.2;have hal:a.length<1000000000:=ha;by_cases hn:nm=nn;case neg=>
  have hR:decide ((⟨nm,a⟩:zx)=⟨nn,b⟩)=false:=Xe λq=>hn (by injection q)
  rw[hR];simp only[eZ,seval,W6,W8,W3,c132,Ap,Ax hn]
 subst hn;by_cases hl:a.length=b.length;case neg=>
  have hR:decide ((⟨nm,a⟩:zx)=⟨nm,b⟩)=false:=Xe λq=>hl (by injection q with _ q;rw[q])
  have hq:((a.length:Int)=(b.length:Int))=False:=W9 zo;rw[hR];simp only[eZ,seval,W6,W8,W3,c132,hq,Ap]
 have hq:((a.length:Int)=(b.length:Int))=True:=W4 zo;have hS:decide ((⟨nm,a⟩:zx)=⟨nm,b⟩)=decide (a=b):=by rw[Xg];simp [zx.mk.injEq]
 rw[hS];simp only[eZ,seval,W6,W3,c132,hq,Ap];refine AL (λi:Nat=>⟨[(2,true,.ptr 0 0),(3,true,.ptr 1 0),(5,true,.int .i64 i)],hset (hset hnil 0 (.box [.str nm,eLl a])) 1 (.box [.str nm,eLl b]),3⟩) (λi=>i<=a.length/\a.take i=b.take i) (λi=>a.length-i) 0 rfl ⟨X3 _,rfl⟩ ?_;rintro i ⟨hi,d6⟩;by_cases c6:i<a.length
 ·have hltb:i<b.length:=zo
  have hg:=W5 c6;have hgb:=W5 hltb;have e:=AE (k:=i) zo;have ta:a.take (i+1)=a.take i++[a[i]]:=by rw[Xd,hg];rfl
  have tb:b.take (i+1)=b.take i++[b[i]]:=by rw[Xd,hgb];rfl
  have hxf:=hf _ (Xa c6);generalize a[i]=x at hg ta hxf;generalize b[i]=y at hgb tb;by_cases hxy:x=y
  ·simp only[eZ,seval,W6,eY,lt_T c6,lt_T hltb,hg,hgb,e,T6i,s2,Af,AZ,W4 hxf,BB hxy,tadd];exact .mk (i+1) rfl ⟨c6,by rw[ta,tb,d6,hxy]⟩ zo
  ·have hR:decide (a=b)=false:=Xe λq=>hxy (by rw[q]at hg;rw[hg]at hgb;exact Option.some.inj hgb)
   rw[hR];simp only[eZ,seval,W8,eY,lt_T c6,lt_T hltb,hg,hgb,T6i,s2,Af,AZ,W4 hxf,Ax hxy,tadd]
 obtain rfl:i=a.length:=zo
 have hR:decide (a=b)=true:=Xi (by rw[Xb,hl,Xb]at d6;exact d6);rw[hR];simp only[eZ,seval,W3,lt_F c6]
def p93(a b:jz)(h1:wide a.holes)(h2:wide a.cells):Pur prog 93 [B5 a,B5 b] (.bool (decide (a=b))):=by
 refine .mk ⟨⟨trivial,trivial,trivial,AU 0 _,AU 0 _,trivial⟩,⟨trivial,trivial,trivial,AU 0 _,AU 0 _,trivial⟩,trivial⟩ trivial (c93.a (AF UW (AG ?_)));simp only[eZ,seval,c93,T3i,s2,Af,AZ,W4 h1,W4 h2,tadd];rw[Xg];simp only[W7,X1];constructor
 ·intro h;obtain⟨a1,a2,a3,a4,a5⟩:=a;obtain⟨b1,b2,b3,b4,b5⟩:=b;simp only at h;simp only[h]
 ·intro h;simp only[h,and_self]
def T6d:Tab:=tadd 131 (s2 dIs dIs (λa _=>wide a) λa b=>.bool (decide (a=b))) (tadd 132 (s2 dRg dRg (λa _=>Bt a.ls) λa b=>.bool (decide (a=b))) (tadd 133 (s2 dRu dRu (λa _=>Fy a) λa b=>.bool (decide (a=b))) tnil))
def T6d_ok:AH prog T6d:=((AH.tnil.add (q2 p133)).add (q2 p132)).add (q2 p131)
def p92(a b:zy)(hd:qk a):Pur prog 92 [encD a,encD b] (.bool (decide (a=b))):=by
 refine .mk ⟨Ab 0 _,Ab 0 _,trivial⟩ trivial (a92 (AF T6d_ok (AG ?_)));cases h1:decide (a.nm=b.nm/\a.ver=b.ver/\a.sh=b.sh/\a.w=b.w/\a.h=b.h/\a.holes=b.holes)with
 |false=>
  have h1:=Ze h1;have hR:decide (a=b)=false:=Xe λq=>h1 (by rw[q];exact⟨rfl,rfl,rfl,rfl,rfl,rfl⟩)
  have hb:(scmp .neq a.nm b.nm|| !decide (a.ver=b.ver)|| !decide (a.sh=b.sh)|| !decide (a.w=b.w)|| !decide (a.h=b.h)|| !decide (a.holes=b.holes))=true:=by
   rw[Ap,<-Zg];intro q;simp only[Yi,YE,X1,Yv]at q;exact h1 q
  rw[hR];simp only[eZ,seval,W6,W3,c92,T6d,s2,Af,AZ,W4 (Cm hd.ho),hb,tadd]
 |true=>
 obtain⟨a1,a2,a3,a4,a5,a6⟩:=Xv h1;have hb:(scmp .neq a.nm b.nm|| !decide (a.ver=b.ver)|| !decide (a.sh=b.sh)|| !decide (a.w=b.w)|| !decide (a.h=b.h)|| !decide (a.holes=b.holes))=false:=by
  rw[Ap];simp [a1,a2,a3,a4,a5,a6]
 clear h1;cases h2:decide (a.syms.length=b.syms.length/\a.regs.length=b.regs.length/\a.clus.length=b.clus.length/\a.ruls.length=b.ruls.length)with
 |false=>
  have h2:=Ze h2;have hR:decide (a=b)=false:=Xe λq=>h2 (by rw[q];exact⟨rfl,rfl,rfl,rfl⟩)
  have i9:(!decide ((a.syms.length:Int)=(b.syms.length:Int))|| !decide ((a.regs.length:Int)=(b.regs.length:Int))|| !decide ((a.clus.length:Int)=(b.clus.length:Int))|| !decide ((a.ruls.length:Int)=(b.ruls.length:Int)))=true:=by grind
  rw[hR];simp only[eZ,seval,W3,c92,T6d,s2,Af,AZ,W4 (Cm hd.ho),hb,i9,tadd]
 |true=>
 obtain⟨l1,l2,l3,l4⟩:=Xv h2;have i9:(!decide ((a.syms.length:Int)=(b.syms.length:Int))|| !decide ((a.regs.length:Int)=(b.regs.length:Int))|| !decide ((a.clus.length:Int)=(b.clus.length:Int))|| !decide ((a.ruls.length:Int)=(b.ruls.length:Int)))=false:=by
  simp [l1,l2,l3,l4]
 clear h2;simp only[eZ,seval,W3,c92,T6d,s2,Af,AZ,W4 (Cm hd.ho),hb,i9,tadd];refine AL (λi:Nat=>⟨[(2,true,.ptr 0 0),(3,true,.ptr 1 0),(5,true,.int .i64 i)],hset (hset hnil 0 (.box (AI a))) 1 (.box (AI b)),3⟩) (λi=>i<=a.syms.length/\a.syms.take i=b.syms.take i) (λi=>a.syms.length-i) 0 rfl ⟨X3 _,rfl⟩ ?_;rintro i ⟨hi,d6⟩;have hfl:a.syms.length<1000000000:=hd.sy;by_cases c6:i<a.syms.length
 ·have hltb:i<b.syms.length:=zo
  have hg:=W5 c6;have hgb:=W5 hltb;have e:=AE (k:=i) zo;have ta:a.syms.take (i+1)=a.syms.take i++[a.syms[i]]:=by rw[Xd,hg];rfl
  have tb:b.syms.take (i+1)=b.syms.take i++[b.syms[i]]:=by rw[Xd,hgb];rfl
  generalize a.syms[i]=x at hg ta;generalize b.syms[i]=y at hgb tb;by_cases hxy:x=y
  ·have hc:=JE x y;rw[Xi hxy]at hc;simp only[eZ,seval,W6,eY,lt_T c6,lt_T hltb,hg,hgb,e,hc,cfit];exact .mk (i+1) rfl ⟨c6,by rw[ta,tb,d6,hxy]⟩ zo
  ·have hR:decide (a=b)=false:=Xe λq=>hxy (by rw[q]at hg;rw[hg]at hgb;exact Option.some.inj hgb)
   have hc:=JE x y;rw[Xe hxy]at hc;rw[hR];simp only[eZ,seval,W8,eY,lt_T c6,lt_T hltb,hg,hgb,hc,cfit]
 obtain rfl:i=a.syms.length:=zo
 have b_syms:a.syms=b.syms:=by rw[Xb,l1,Xb]at d6;exact d6
 simp only[eZ,seval,W3,lt_F c6];clear hi d6 hfl c6;refine AL (λi:Nat=>⟨[(2,true,.ptr 0 0),(3,true,.ptr 1 0),(6,true,.int .i64 i)],hset (hset hnil 0 (.box (AI a))) 1 (.box (AI b)),3⟩) (λi=>i<=a.regs.length/\a.regs.take i=b.regs.take i) (λi=>a.regs.length-i) 0 rfl ⟨X3 _,rfl⟩ ?_;rintro i ⟨hi,d6⟩;have hfl:a.regs.length<1000000000:=hd.rg;by_cases c6:i<a.regs.length
 ·have hltb:i<b.regs.length:=zo
  have hg:=W5 c6;have hgb:=W5 hltb;have e:=AE (k:=i) zo;have ta:a.regs.take (i+1)=a.regs.take i++[a.regs[i]]:=by rw[Xd,hg];rfl
  have tb:b.regs.take (i+1)=b.regs.take i++[b.regs[i]]:=by rw[Xd,hgb];rfl
  have hxf:Bt a.regs[i].ls:=hd.rgs _ (Xa c6);generalize a.regs[i]=x at hg ta hxf;generalize b.regs[i]=y at hgb tb;by_cases hxy:x=y
  ·simp only[eZ,seval,W6,eY,lt_T c6,lt_T hltb,hg,hgb,e,T6d,s2,JB,GK,W4 hxf,BB hxy,tadd];exact .mk (i+1) rfl ⟨c6,by rw[ta,tb,d6,hxy]⟩ zo
  ·have hR:decide (a=b)=false:=Xe λq=>hxy (by rw[q]at hg;rw[hg]at hgb;exact Option.some.inj hgb)
   rw[hR];simp only[eZ,seval,W8,eY,lt_T c6,lt_T hltb,hg,hgb,T6d,s2,JB,GK,W4 hxf,Ax hxy,tadd]
 obtain rfl:i=a.regs.length:=zo
 have b_regs:a.regs=b.regs:=by rw[Xb,l2,Xb]at d6;exact d6
 simp only[eZ,seval,W3,lt_F c6];clear hi d6 hfl c6;refine AL (λi:Nat=>⟨[(2,true,.ptr 0 0),(3,true,.ptr 1 0),(7,true,.int .i64 i)],hset (hset hnil 0 (.box (AI a))) 1 (.box (AI b)),3⟩) (λi=>i<=a.clus.length/\a.clus.take i=b.clus.take i) (λi=>a.clus.length-i) 0 rfl ⟨X3 _,rfl⟩ ?_;rintro i ⟨hi,d6⟩;have hfl:a.clus.length<1000000000:=hd.cl;by_cases c6:i<a.clus.length
 ·have hltb:i<b.clus.length:=zo
  have hg:=W5 c6;have hgb:=W5 hltb;have e:=AE (k:=i) zo;have ta:a.clus.take (i+1)=a.clus.take i++[a.clus[i]]:=by rw[Xd,hg];rfl
  have tb:b.clus.take (i+1)=b.clus.take i++[b.clus[i]]:=by rw[Xd,hgb];rfl
  generalize a.clus[i]=x at hg ta;generalize b.clus[i]=y at hgb tb;by_cases hxy:x=y
  ·have hc:=JF x y;rw[Xi hxy]at hc;simp only[eZ,seval,W6,eY,lt_T c6,lt_T hltb,hg,hgb,e,hc,cfit];exact .mk (i+1) rfl ⟨c6,by rw[ta,tb,d6,hxy]⟩ zo
  ·have hR:decide (a=b)=false:=Xe λq=>hxy (by rw[q]at hg;rw[hg]at hgb;exact Option.some.inj hgb)
   have hc:=JF x y;rw[Xe hxy]at hc;rw[hR];simp only[eZ,seval,W8,eY,lt_T c6,lt_T hltb,hg,hgb,hc,cfit]
 obtain rfl:i=a.clus.length:=zo
 have b_clus:a.clus=b.clus:=by rw[Xb,l3,Xb]at d6;exact d6
 simp only[eZ,seval,W3,lt_F c6];clear hi d6 hfl c6;refine AL (λi:Nat=>⟨[(2,true,.ptr 0 0),(3,true,.ptr 1 0),(8,true,.int .i64 i)],hset (hset hnil 0 (.box (AI a))) 1 (.box (AI b)),3⟩) (λi=>i<=a.ruls.length/\a.ruls.take i=b.ruls.take i) (λi=>a.ruls.length-i) 0 rfl ⟨X3 _,rfl⟩ ?_;rintro i ⟨hi,d6⟩;have hfl:a.ruls.length<1000000000:=hd.ru;by_cases c6:i<a.ruls.length
 ·have hltb:i<b.ruls.length:=zo
  have hg:=W5 c6;have hgb:=W5 hltb;have e:=AE (k:=i) zo;have ta:a.ruls.take (i+1)=a.ruls.take i++[a.ruls[i]]:=by rw[Xd,hg];rfl
  have tb:b.ruls.take (i+1)=b.ruls.take i++[b.ruls[i]]:=by rw[Xd,hgb];rfl
  have hxf:Fy a.ruls[i]:=hd.rus _ (Xa c6);generalize a.ruls[i]=x at hg ta hxf;generalize b.ruls[i]=y at hgb tb;by_cases hxy:x=y
  ·simp only[eZ,seval,W6,eY,lt_T c6,lt_T hltb,hg,hgb,e,T6d,s2,Bc,A8,W4 hxf,BB hxy,tadd];exact .mk (i+1) rfl ⟨c6,by rw[ta,tb,d6,hxy]⟩ zo
  ·have hR:decide (a=b)=false:=Xe λq=>hxy (by rw[q]at hg;rw[hg]at hgb;exact Option.some.inj hgb)
   rw[hR];simp only[eZ,seval,W8,eY,lt_T c6,lt_T hltb,hg,hgb,T6d,s2,Bc,A8,W4 hxf,Ax hxy,tadd]
 obtain rfl:i=a.ruls.length:=zo
 have b_ruls:a.ruls=b.ruls:=by rw[Xb,l4,Xb]at d6;exact d6
 have hR:decide (a=b)=true:=Xi (by
  cases a;cases b;simp only at a1 a2 a3 a4 a5 a6 b_syms b_regs b_clus b_ruls;subst a1 a2 a3 a4 a5 a6 b_syms b_regs b_clus b_ruls;rfl)
 rw[hR];simp only[eZ,seval,W3,lt_F c6]
def T8l:Tab:=tadd 91 (s2 dLl dLl (λa _=>Bt a) λa b=>.bool (decide (a=b))) (tadd 93 (s2 dGd dGd (λa _=>wide a.holes/\wide a.cells) λa b=>.bool (decide (a=b))) (tadd 92 (s2 dD dD (λa _=>qk a) λa b=>.bool (decide (a=b))) tnil))
def T8l_ok:AH prog T8l:=((AH.tnil.add (q2 p92)).add (q2 λa b h=>p93 a b h.1 h.2)).add (q2 λa b h=>p91 a b h.1 h.2)
structure FewKr(k:zz):Prop where
 d:qk k.d
 ho:wide k.g.holes
 ce:wide k.g.cells
 nb:Bt k.nb
 ls:wide k.ls
 lx:∀x∈k.ls,Bt x
def p53(x y:zz)(hx:FewKr x):Pur prog 53 [Bj x,Bj y] (.bool (decide (x=y))):=by
 refine .mk ⟨Ag 0 x,Ag 0 y,trivial⟩ trivial (c53.a (AF T8l_ok (AG ?_)));have hal:x.ls.length<1125899906842624:=hx.ls;by_cases hl:x.ls.length=y.ls.length;case neg=>
  have hR:decide (x=y)=false:=Xe λq=>hl (by rw[q])
  have hq:((x.ls.length:Int)=(y.ls.length:Int))=False:=W9 zo;rw[hR];simp only[eZ,seval,W8,W3,c53,AJ,AD,AI,hq]
 have hq:((x.ls.length:Int)=(y.ls.length:Int))=True:=W4 zo;simp only[eZ,seval,W6,W3,c53,AJ,AD,AI,hq];refine AL (λi:Nat=>⟨[(2,true,.ptr 0 0),(3,true,.ptr 1 0),(5,true,.int .i64 i)],hset (hset hnil 0 (.box (AJ x))) 1 (.box (AJ y)),3⟩) (λi=>i<=x.ls.length/\x.ls.take i=y.ls.take i) (λi=>x.ls.length-i) 0 rfl ⟨X3 _,rfl⟩ ?_;rintro i ⟨hi,d6⟩;by_cases c6:i<x.ls.length
 ·have hltb:i<y.ls.length:=zo
  have hg:=W5 c6;have hgb:=W5 hltb;have e:=AE (k:=i) zo;have ta:x.ls.take (i+1)=x.ls.take i++[x.ls[i]]:=by rw[Xd,hg];rfl
  have tb:y.ls.take (i+1)=y.ls.take i++[y.ls[i]]:=by rw[Xd,hgb];rfl
  have hxf:=hx.lx _ (Xa c6);generalize x.ls[i]=u at hg ta hxf;generalize y.ls[i]=v at hgb tb;by_cases hxy:u=v
  ·simp only[eZ,seval,W6,eY,AJ,AD,AI,lt_T c6,lt_T hltb,hg,hgb,e,T8l,s2,CU,Bm,W4 hxf,BB hxy,tadd];exact .mk (i+1) rfl ⟨c6,by rw[ta,tb,d6,hxy]⟩ zo
  ·have hR:decide (x=y)=false:=Xe λq=>hxy (by rw[q]at hg;rw[hg]at hgb;exact Option.some.inj hgb)
   rw[hR];simp only[eZ,seval,W8,eY,AJ,AD,AI,lt_T c6,lt_T hltb,hg,hgb,T8l,s2,CU,Bm,W4 hxf,Ax hxy,tadd]
 obtain rfl:i=x.ls.length:=zo
 have t9:x.ls=y.ls:=by rw[Xb,hl,Xb]at d6;exact d6
 have e1:dD.ok (.agg (AI x.d))=True:=A9 x.d;have e2:dD.dec (.agg (AI x.d))=x.d:=Al x.d;have e3:dD.ok (.agg (AI y.d))=True:=A9 y.d;have e4:dD.dec (.agg (AI y.d))=y.d:=Al y.d;have f1:dGd.ok (.agg (AD x.g.sh x.g.w x.g.h x.g.holes x.g.cells))=True:=DT x.g;have f2:dGd.dec (.agg (AD x.g.sh x.g.w x.g.h x.g.holes x.g.cells))=x.g:=CI x.g;have f3:dGd.ok (.agg (AD y.g.sh y.g.w y.g.h y.g.holes y.g.cells))=True:=DT y.g;have f4:dGd.dec (.agg (AD y.g.sh y.g.w y.g.h y.g.holes y.g.cells))=y.g:=CI y.g;simp only[AI]at e1 e2 e3 e4;simp only[AD]at f1 f2 f3 f4;simp only[eZ,seval,W3,AJ,AD,AI,lt_F c6,T8l,s2,CU,Bm,e1,e2,e3,e4,f1,f2,f3,f4,W4 hx.d,W4 hx.ho,W4 hx.ce,W4 hx.nb,tadd];rw[Xg];simp only[W7,X1];constructor
 ·rintro⟨⟨h1,h2⟩,h3⟩;obtain⟨a1,a2,a3,a4⟩:=x;obtain⟨b1,b2,b3,b4⟩:=y;simp only at h1 h2 h3 t9;subst h1 h2 h3 t9;rfl
 ·rintro rfl;exact⟨⟨rfl,rfl⟩,rfl⟩
end Go.AM
