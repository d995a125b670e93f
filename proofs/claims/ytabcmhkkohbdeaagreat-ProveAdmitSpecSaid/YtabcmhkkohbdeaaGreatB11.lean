/-
  Parts of the proof. Conditions: none.
-/
import Derived.Test.YtabcmhkkohbdeaaGreatB10
import Derived.Test.YtabcmhkkohbdeaaGreatB7
set_option maxRecDepth 20000
set_option linter.all false
namespace Go.AM
open Go.Lib Go.Proofs Go.Proofs.Tryz
def p173(a b:List Int)(ha:wide a):Aw prog 173 [Am a,Am b] (.bool (decide (a=b))):=by
 refine .mk ⟨AZ 0 _,AZ 0 _,zt⟩ zt (gH.a (AI AH.tnil (AJ ?_)));have wm:a.length<1125899906842624:=ha;by_cases hl:a.length=b.length;case neg=>
  have hR:decide (a=b)=false:=sa λq=>hl (by rw[q])
  have hq:((a.length:Int)=(b.length:Int))=False:=ri zo;rw[hR];simp only[eZ,seval,rf,r9,gH,hq]
 have hq:((a.length:Int)=(b.length:Int))=True:=ra zo;simp only[eZ,seval,re,r9,gH,hq];refine AO (λi:Nat=>⟨[(0,true,Am a),(1,true,Am b),(5,true,.int .i64 i)],Ai,0⟩) (λi=>i<=a.length/\a.take i=b.take i) (λi=>a.length-i) 0 rfl ⟨rm _,rfl⟩ ?_;rintro i ⟨hi,l5⟩;by_cases c9:i<a.length
 ·have hltb:i<b.length:=zo
  have hg:=rc c9;have hgb:=rc hltb;have e:=AK (k:=i) zo;have ta:a.take (i+1)=a.take i++[a[i]]:=by rw[sf,hg];rfl
  have tb:b.take (i+1)=b.take i++[b[i]]:=by rw[sf,hgb];rfl
  generalize a[i]=x at hg ta;generalize b[i]=y at hgb tb;by_cases hxy:x=y
  ·simp only[eZ,seval,re,eY,AN c9,AN hltb,hg,hgb,e,hxy];exact .mk (i+1) rfl ⟨c9,by rw[ta,tb,l5,hxy]⟩ zo
  ·have hR:decide (a=b)=false:=sa λq=>hxy (by rw[q]at hg;rw[hg]at hgb;exact Option.some.inj hgb)
   rw[hR];simp only[eZ,seval,rf,eY,AN c9,AN hltb,hg,hgb,A3 hxy]
 obtain rfl:i=a.length:=zo
 have hR:decide (a=b)=true:=sk (by rw[se,hl,se]at l5;exact l5);rw[hR];simp only[eZ,seval,r9,Ad c9]
def p234(a b:List Bs)(ha:wide a):Aw prog 234 [FH a,FH b] (.bool (decide (a=b))):=by
 refine .mk ⟨CN 0 _,CN 0 _,zt⟩ zt (gJ.a (AI AH.tnil (AJ ?_)));have wm:a.length<1125899906842624:=ha;by_cases hl:a.length=b.length;case neg=>
  have hR:decide (a=b)=false:=sa λq=>hl (by rw[q])
  have hq:((a.length:Int)=(b.length:Int))=False:=ri zo;rw[hR];simp only[eZ,seval,rf,r9,gJ,hq]
 have hq:((a.length:Int)=(b.length:Int))=True:=ra zo;simp only[eZ,seval,re,r9,gJ,hq];refine AO (λi:Nat=>⟨[(0,true,FH a),(1,true,FH b),(5,true,.int .i64 i)],Ai,0⟩) (λi=>i<=a.length/\a.take i=b.take i) (λi=>a.length-i) 0 rfl ⟨rm _,rfl⟩ ?_;rintro i ⟨hi,l5⟩;by_cases c9:i<a.length
 ·have hltb:i<b.length:=zo
  have hg:=rc c9;have hgb:=rc hltb;have e:=AK (k:=i) zo;have ta:a.take (i+1)=a.take i++[a[i]]:=by rw[sf,hg];rfl
  have tb:b.take (i+1)=b.take i++[b[i]]:=by rw[sf,hgb];rfl
  generalize a[i]=x at hg ta;generalize b[i]=y at hgb tb;by_cases hxy:x=y
  ·simp only[eZ,seval,re,eY,AN c9,AN hltb,hg,hgb,e,A0,BS hxy];exact .mk (i+1) rfl ⟨c9,by rw[ta,tb,l5,hxy]⟩ zo
  ·have hR:decide (a=b)=false:=sa λq=>hxy (by rw[q]at hg;rw[hg]at hgb;exact Option.some.inj hgb)
   rw[hR];simp only[eZ,seval,rf,eY,AN c9,AN hltb,hg,hgb,A0,A3 hxy]
 obtain rfl:i=a.length:=zo
 have hR:decide (a=b)=true:=sk (by rw[se,hl,se]at l5;exact l5);rw[hR];simp only[eZ,seval,r9,Ad c9]
def Tsi:Bc:=AG 173 (s2 BA BA (λa _=>wide a) λa b=>.bool (decide (a=b))) tnil
def kO:AH prog Tsi:=AH.tnil.add (q2 p173)
def p174(a b:List (List Int))(ha:An a)(hf:∀x∈a,wide x):Aw prog 174 [Bv a,Bv b] (.bool (decide (a=b))):=by
 refine .mk ⟨BC 0 _,BC 0 _,zt⟩ zt (gI.a (AI kO (AJ ?_)));have wm:a.length<1000000000:=ha;by_cases hl:a.length=b.length;case neg=>
  have hR:decide (a=b)=false:=sa λq=>hl (by rw[q])
  have hq:((a.length:Int)=(b.length:Int))=False:=ri zo;rw[hR];simp only[eZ,seval,rf,r9,gI,hq]
 have hq:((a.length:Int)=(b.length:Int))=True:=ra zo;simp only[eZ,seval,re,r9,gI,hq];refine AO (λi:Nat=>⟨[(0,true,Bv a),(1,true,Bv b),(5,true,.int .i64 i)],Ai,0⟩) (λi=>i<=a.length/\a.take i=b.take i) (λi=>a.length-i) 0 rfl ⟨rm _,rfl⟩ ?_;rintro i ⟨hi,l5⟩;by_cases c9:i<a.length
 ·have hltb:i<b.length:=zo
  have hg:=rc c9;have hgb:=rc hltb;have e:=AK (k:=i) zo;have ta:a.take (i+1)=a.take i++[a[i]]:=by rw[sf,hg];rfl
  have tb:b.take (i+1)=b.take i++[b[i]]:=by rw[sf,hgb];rfl
  have hxf:=hf _ (rY c9);generalize a[i]=x at hg ta hxf;generalize b[i]=y at hgb tb;by_cases hxy:x=y
  ·simp only[eZ,seval,re,eY,AN c9,AN hltb,hg,hgb,e,Tsi,s2,Ak,Ag,ra hxf,BS hxy,AG];exact .mk (i+1) rfl ⟨c9,by rw[ta,tb,l5,hxy]⟩ zo
  ·have hR:decide (a=b)=false:=sa λq=>hxy (by rw[q]at hg;rw[hg]at hgb;exact Option.some.inj hgb)
   rw[hR];simp only[eZ,seval,rf,eY,AN c9,AN hltb,hg,hgb,Tsi,s2,Ak,Ag,ra hxf,A3 hxy,AG]
 obtain rfl:i=a.length:=zo
 have hR:decide (a=b)=true:=sk (by rw[se,hl,se]at l5;exact l5);rw[hR];simp only[eZ,seval,r9,Ad c9]
def Tsn:Bc:=AG 234 (s2 I1 I1 (λa _=>wide a) λa b=>.bool (decide (a=b))) tnil
def kP:AH prog Tsn:=AH.tnil.add (q2 p234)
def p175(a b:zj)(ha:Ge a):Aw prog 175 [Br a,Br b] (.bool (decide (a=b))):=by
 refine .mk ⟨BN 0 _,BN 0 _,zt⟩ zt (pg.a (AI kP (AJ ?_)));obtain⟨h1,h2⟩:=ha;simp only[eZ,seval,pg,Tsn,s2,HV,Ft,ra h1,ra h2,BB,AG];rw[su,rn,RF];simp only[rl,rn];constructor
 ·intro h;simp only[h,and_self]
 ·intro h;simp only[h,and_self]
def iZ:Bc:=AG 173 (s2 BA BA (λa _=>wide a) λa b=>.bool (decide (a=b))) (AG 174 (s2 N0 N0 (λa _=>B6 a) λa b=>.bool (decide (a=b))) (AG 175 (s2 Mk Mk (λa _=>Ge a) λa b=>.bool (decide (a=b))) tnil))
def kQ:AH prog iZ:=((AH.tnil.add (q2 p175)).add (q2 λa b h=>p174 a b h.1 h.2)).add (q2 p173)
def YP(x y:xj):(scmp .neq x.nm y.nm|| !decide (x.ls=y.ls))= !decide (x=y):=by
 rw[A0];cases x;cases y;rw[su];simp [xj.mk.injEq]
def p120(a b:xk)(hd:zk a):Aw prog 120 [B5 a,B5 b] (.bool (decide (a=b))):=by
 refine .mk ⟨As 0 _,As 0 _,zt⟩ zt (a120 (AI kQ (AJ ?_)));cases h1:decide (a.nm=b.nm/\a.ver=b.ver/\a.sh=b.sh/\a.w=b.w/\a.h=b.h/\a.holes=b.holes)with
 |false=>
  have h1:=vf h1;have hR:decide (a=b)=false:=sa λq=>h1 (by rw[q];exact⟨rfl,rfl,rfl,rfl,rfl,rfl⟩)
  have hb:(scmp .neq a.nm b.nm|| !decide (a.ver=b.ver)|| !decide (a.sh=b.sh)|| !decide (a.w=b.w)|| !decide (a.h=b.h)|| !decide (a.holes=b.holes))=true:=by
   rw[A0,<-vi];intro q;simp only[tv,uG,rn,ud]at q;exact h1 q
  rw[hR];simp only[eZ,seval,gK,iZ,s2,Ak,Ag,ra (Dz hd.ho),hb,AG]
 |true=>
 obtain⟨a1,a2,a3,a4,a5,a6⟩:=t5 h1;have hb:(scmp .neq a.nm b.nm|| !decide (a.ver=b.ver)|| !decide (a.sh=b.sh)|| !decide (a.w=b.w)|| !decide (a.h=b.h)|| !decide (a.holes=b.holes))=false:=by
  rw[A0];simp [a1,a2,a3,a4,a5,a6]
 clear h1;cases h2:decide (a.syms.length=b.syms.length/\a.regs.length=b.regs.length/\a.clus.length=b.clus.length/\a.ruls.length=b.ruls.length)with
 |false=>
  have h2:=vf h2;have hR:decide (a=b)=false:=sa λq=>h2 (by rw[q];exact⟨rfl,rfl,rfl,rfl⟩)
  have z9:(!decide ((a.syms.length:Int)=(b.syms.length:Int))|| !decide ((a.regs.length:Int)=(b.regs.length:Int))|| !decide ((a.clus.length:Int)=(b.clus.length:Int))|| !decide ((a.ruls.length:Int)=(b.ruls.length:Int)))=true:=by
   rw[<-vi];intro q;simp only[tv,uG,rn,ud]at q;exact h2 zo
  rw[hR];simp only[eZ,seval,r9,gK,iZ,s2,Ak,Ag,ra (Dz hd.ho),hb,z9,AG]
 |true=>
 obtain⟨l1,l2,l3,l4⟩:=t5 h2;have z9:(!decide ((a.syms.length:Int)=(b.syms.length:Int))|| !decide ((a.regs.length:Int)=(b.regs.length:Int))|| !decide ((a.clus.length:Int)=(b.clus.length:Int))|| !decide ((a.ruls.length:Int)=(b.ruls.length:Int)))=false:=by
  simp [l1,l2,l3,l4]
 clear h2;simp only[eZ,seval,r9,gK,iZ,s2,Ak,Ag,ra (Dz hd.ho),hb,z9,AG];refine AO (λi:Nat=>⟨[(2,true,.ptr 0 0),(3,true,.ptr 1 0),(5,true,.int .i64 i)],hset (hset Ai 0 (.box (AL a))) 1 (.box (AL b)),3⟩) (λi=>i<=a.syms.length/\a.syms.take i=b.syms.take i) (λi=>a.syms.length-i) 0 rfl ⟨rm _,rfl⟩ ?_;rintro i ⟨hi,l5⟩;have hfl:a.syms.length<1000000000:=hd.sy;by_cases c9:i<a.syms.length
 ·have hltb:i<b.syms.length:=zo
  have hg:=rc c9;have hgb:=rc hltb;have e:=AK (k:=i) zo;have ta:a.syms.take (i+1)=a.syms.take i++[a.syms[i]]:=by rw[sf,hg];rfl
  have tb:b.syms.take (i+1)=b.syms.take i++[b.syms[i]]:=by rw[sf,hgb];rfl
  generalize a.syms[i]=x at hg ta;generalize b.syms[i]=y at hgb tb;by_cases hxy:x=y
  ·have hc:=LU x y;rw[sk hxy]at hc;simp only[eZ,seval,re,eY,AN c9,AN hltb,hg,hgb,e,hc,EB];exact .mk (i+1) rfl ⟨c9,by rw[ta,tb,l5,hxy]⟩ zo
  ·have hR:decide (a=b)=false:=sa λq=>hxy (by rw[q]at hg;rw[hg]at hgb;exact Option.some.inj hgb)
   have hc:=LU x y;rw[sa hxy]at hc;rw[hR];simp only[eZ,seval,rf,eY,AN c9,AN hltb,hg,hgb,hc,EB]
 obtain rfl:i=a.syms.length:=zo
 have b_syms:a.syms=b.syms:=by rw[se,l1,se]at l5;exact l5
 simp only[eZ,seval,r9,Ad c9];clear hi l5 hfl c9;refine AO (λi:Nat=>⟨[(2,true,.ptr 0 0),(3,true,.ptr 1 0),(6,true,.int .i64 i)],hset (hset Ai 0 (.box (AL a))) 1 (.box (AL b)),3⟩) (λi=>i<=a.regs.length/\a.regs.take i=b.regs.take i) (λi=>a.regs.length-i) 0 rfl ⟨rm _,rfl⟩ ?_;rintro i ⟨hi,l5⟩;have hfl:a.regs.length<1000000000:=hd.rg;by_cases c9:i<a.regs.length
 ·have hltb:i<b.regs.length:=zo
  have hg:=rc c9;have hgb:=rc hltb;have e:=AK (k:=i) zo;have ta:a.regs.take (i+1)=a.regs.take i++[a.regs[i]]:=by rw[sf,hg];rfl
  have tb:b.regs.take (i+1)=b.regs.take i++[b.regs[i]]:=by rw[sf,hgb];rfl
  have hxf:B6 a.regs[i].ls:=hd.rgs _ (rY c9);generalize a.regs[i]=x at hg ta hxf;generalize b.regs[i]=y at hgb tb;by_cases hxy:x=y
  ·have hc:=YP x y;rw[sk hxy]at hc;simp only[eZ,seval,re,eY,AN c9,AN hltb,hg,hgb,e,iZ,s2,Dj,Cz,ra hxf,hc,AG];exact .mk (i+1) rfl ⟨c9,by rw[ta,tb,l5,hxy]⟩ zo
  ·have hR:decide (a=b)=false:=sa λq=>hxy (by rw[q]at hg;rw[hg]at hgb;exact Option.some.inj hgb)
   have hc:=YP x y;rw[sa hxy]at hc;rw[hR];simp only[eZ,seval,rf,eY,AN c9,AN hltb,hg,hgb,iZ,s2,Dj,Cz,ra hxf,hc,AG]
 obtain rfl:i=a.regs.length:=zo
 have b_regs:a.regs=b.regs:=by rw[se,l2,se]at l5;exact l5
 simp only[eZ,seval,r9,Ad c9];clear hi l5 hfl c9;refine AO (λi:Nat=>⟨[(2,true,.ptr 0 0),(3,true,.ptr 1 0),(7,true,.int .i64 i)],hset (hset Ai 0 (.box (AL a))) 1 (.box (AL b)),3⟩) (λi=>i<=a.clus.length/\a.clus.take i=b.clus.take i) (λi=>a.clus.length-i) 0 rfl ⟨rm _,rfl⟩ ?_;rintro i ⟨hi,l5⟩;have hfl:a.clus.length<1000000000:=hd.cl;by_cases c9:i<a.clus.length
 ·have hltb:i<b.clus.length:=zo
  have hg:=rc c9;have hgb:=rc hltb;have e:=AK (k:=i) zo;have ta:a.clus.take (i+1)=a.clus.take i++[a.clus[i]]:=by rw[sf,hg];rfl
  have tb:b.clus.take (i+1)=b.clus.take i++[b.clus[i]]:=by rw[sf,hgb];rfl
  generalize a.clus[i]=x at hg ta;generalize b.clus[i]=y at hgb tb;by_cases hxy:x=y
  ·have hc:=LW x y;rw[sk hxy]at hc;simp only[eZ,seval,re,eY,AN c9,AN hltb,hg,hgb,e,hc,EB];exact .mk (i+1) rfl ⟨c9,by rw[ta,tb,l5,hxy]⟩ zo
  ·have hR:decide (a=b)=false:=sa λq=>hxy (by rw[q]at hg;rw[hg]at hgb;exact Option.some.inj hgb)
   have hc:=LW x y;rw[sa hxy]at hc;rw[hR];simp only[eZ,seval,rf,eY,AN c9,AN hltb,hg,hgb,hc,EB]
 obtain rfl:i=a.clus.length:=zo
 have b_clus:a.clus=b.clus:=by rw[se,l3,se]at l5;exact l5
 simp only[eZ,seval,r9,Ad c9];clear hi l5 hfl c9;refine AO (λi:Nat=>⟨[(2,true,.ptr 0 0),(3,true,.ptr 1 0),(8,true,.int .i64 i)],hset (hset Ai 0 (.box (AL a))) 1 (.box (AL b)),3⟩) (λi=>i<=a.ruls.length/\a.ruls.take i=b.ruls.take i) (λi=>a.ruls.length-i) 0 rfl ⟨rm _,rfl⟩ ?_;rintro i ⟨hi,l5⟩;have hfl:a.ruls.length<1000000000:=hd.ru;by_cases c9:i<a.ruls.length
 ·have hltb:i<b.ruls.length:=zo
  have hg:=rc c9;have hgb:=rc hltb;have e:=AK (k:=i) zo;have ta:a.ruls.take (i+1)=a.ruls.take i++[a.ruls[i]]:=by rw[sf,hg];rfl
  have tb:b.ruls.take (i+1)=b.ruls.take i++[b.ruls[i]]:=by rw[sf,hgb];rfl
  have hxf:Ge a.ruls[i]:=hd.rus _ (rY c9);generalize a.ruls[i]=x at hg ta hxf;generalize b.ruls[i]=y at hgb tb;by_cases hxy:x=y
  ·simp only[eZ,seval,re,eY,AN c9,AN hltb,hg,hgb,e,iZ,s2,CA,Bg,ra hxf,BS hxy,AG];exact .mk (i+1) rfl ⟨c9,by rw[ta,tb,l5,hxy]⟩ zo
  ·have hR:decide (a=b)=false:=sa λq=>hxy (by rw[q]at hg;rw[hg]at hgb;exact Option.some.inj hgb)
   rw[hR];simp only[eZ,seval,rf,eY,AN c9,AN hltb,hg,hgb,iZ,s2,CA,Bg,ra hxf,A3 hxy,AG]
 obtain rfl:i=a.ruls.length:=zo
 have b_ruls:a.ruls=b.ruls:=by rw[se,l4,se]at l5;exact l5
 have hR:decide (a=b)=true:=sk (by
  cases a;cases b;simp only at a1 a2 a3 a4 a5 a6 b_syms b_regs b_clus b_ruls;subst a1 a2 a3 a4 a5 a6 b_syms b_regs b_clus b_ruls;rfl)
 rw[hR];simp only[eZ,seval,r9,Ad c9]
def p124(l:List Int)(x:Int)(hl:An l):Aw prog 124 [Am l,.int .i64 x] (.bool (l.contains x)):=by
 refine .mk ⟨AZ 0 _,zt,zt⟩ zt (pW.a (AI AH.tnil (AJ ?_)));have am:l.length<1000000000:=hl;simp only[eE,eN,seval,pW];refine AO (λi:Nat=>⟨[(0,true,Am l),(1,true,.int .i64 x),(5,true,.int .i64 i)],Ai,0⟩) (λi=>i<=l.length/\l.contains x=(l.drop i).contains x) (λi=>l.length-i) 0 rfl ⟨rm _,rfl⟩ ?_;rintro i ⟨hi,hc⟩;by_cases c9:i<l.length
 ·have hg:=rc c9;have e:=AK (k:=i) zo;rw[sn c9,List.contains_cons]at hc;generalize l[i]=y at hg hc;by_cases hy:y=x
  ·have hR:l.contains x=true:=by rw[hc,hy];simp
   rw[hR];simp only[eZ,seval,eY,AN c9,hg,BS hy]
  ·have hy':(x==y)=false:=beq_eq_false_iff_ne.2 λq=>hy q.symm
   rw[hy',tH]at hc;simp only[eZ,seval,eY,AN c9,hg,e,A3 hy];exact .mk (i+1) rfl ⟨c9,hc⟩ zo
 obtain rfl:i=l.length:=zo
 rw[sK]at hc;rw[hc];simp only[eZ,seval,r9,Ad c9];rfl
def ib:Bc:=AG 124 (s2 BA dI (λl _=>An l) λl x=>.bool (l.contains x)) tnil
def TP:AH prog ib:=AH.tnil.add (q2 p124)
def JI(holes:List Int)(k:Nat):List Int:=((List.range k).map λ(i:Nat)=>(i:Int)).filter λp=>holes.contains p
def WT(holes:List Int)(k:Nat):JI holes (k+1)=if holes.contains (k:Int)then JI holes k++[(k:Int)]else JI holes k:=by
 unfold JI;rw[tJ,rz,tD];cases h:holes.contains (k:Int)<;>simp only[sw,sI,tI,uA,h,t8,sG,sr,sE]
def cu(holes:List Int)(k:Nat):(JI holes k).length<=k:=by
 have:=tg (λp=>holes.contains p) ((List.range k).map λ(i:Nat)=>(i:Int));simpa [JI]using this
structure VMh where
 i:Nat
 last:Int
structure VMm where
 k:Nat
 t1:w8
 t2:w8
 H:AB
 n:Nat
structure IMr(sh w h:Int)(holes:List Int)(m:Nat)(v:VMm):Prop where
 hk:v.k<=m
 hn:8<=v.n
 fr:AP v.H v.n
 h0:AD v.H 0=some (.box [z0,z0,z0,zs,zs])
 h6:AD v.H 6=some (.box [.int .i64 sh,.int .i64 w,.int .i64 h,.sl v.t1 ((JI holes v.k).map eI),.sl v.t2 ((D4 holes v.k).map eI)])
 tok1:DA 1 7 v.H v.t1
 tok2:DA 1 7 v.H v.t2
 dj:∀i,v.t1= .own i 1->v.t2≠ .own i 1
 es1:v.t1.esz=1\/JI holes v.k=[]
 es2:v.t2.esz=1\/D4 holes v.k=[]
def p78(sh w h:Int)(holes:List Int)(hl:An holes):Aw prog 78 [.int .i64 sh,.int .i64 w,.int .i64 h,Am holes] (Be sh w h holes):=by
 refine .mk ⟨zt,zt,zt,AZ 0 _,zt⟩ (MF sh w h holes) (c78.a (AI TP (AJ ?_)));have am:holes.length<1000000000:=hl;by_cases hc:(sh=1\/sh=2)/\1<=w/\w<=16/\1<=h/\h<=16;case neg=>
  have hn:Be sh w h holes= .tup [Ek 0 0 0 [] [],.int .i64 130]:=by
   unfold Be Av;rw[rj λq=>hc ⟨q.1,q.2.1,q.2.2.1,q.2.2.2.1,q.2.2.2.2.1⟩]
  have hb:(!decide (sh=1)&& !decide (sh=2)||decide (w<1)||decide (16<w)||decide (h<1)||decide (16<h))=true:=by
   rw[<-vi];intro q;simp only[tv,vk,uG,rn,sR]at q;exact hc zo
  rw[hn];simp only[eZ,seval,BG,c78,hb];exact RG (Wk.sl (.inr rfl)) (Wk.sl (.inr rfl))
 have hb:(!decide (sh=1)&& !decide (sh=2)||decide (w<1)||decide (16<w)||decide (h<1)||decide (16<h))=false:=by
  simp only[tv,vk,uG,rn,sR];omega
 obtain⟨hsh,hw1,hw2,hh1,hh2⟩:=hc;obtain⟨p1,p2⟩:=bc hw1 hw2 hh1 hh2;have hwh:IntKind.wrap .i64 (w*h)=w*h:=A6 zo zo;have v9:(Cq (-1) holes&&holes.all λp=>decide (p<w*h))=false->Be sh w h holes= .tup [Ek 0 0 0 [] [],.int .i64 130]:=λq=>by
  unfold Be Av;rw[rj];intro z;rw[z.2.2.2.2.2.2.1,z.2.2.2.2.2.2.2]at q;cases q
 simp only[eZ,seval,c78,hb];refine AO (λv:VMh=>⟨[(0,true,.int .i64 sh),(1,true,.int .i64 w),(2,true,.int .i64 h),(3,true,Am holes),(8,true,.ptr 0 0),(10,true,.int .i64 v.i)],hset Ai 0 (.box [z0,z0,z0,zs,zs]),2⟩)
  (λv=>v.i<=holes.length/\(Cq (-1) holes&&holes.all λp=>decide (p<w*h))=(Cq v.last (holes.drop v.i)&&(holes.drop v.i).all λp=>decide (p<w*h))/\(v.i=0->v.last= -1)/\∀j,v.i=j+1->holes[j]?=some v.last/\0<=v.last) (λv=>holes.length-v.i)
  ⟨0,-1⟩ rfl ⟨rm _,rfl,λ_=>rfl,λj q=>by cases q⟩ ?_
 rintro⟨i,last⟩ ⟨hi,he,hz,hs⟩;simp only at hi he hz hs;by_cases c9:i<holes.length
 ·have hg:=rc c9;have e:=AK (k:=i) zo;rw[sn c9,Cq,uq]at he;generalize holes[i]=x at hg he;have xe:last<x/\x<w*h->(Cq (-1) holes&&holes.all λp=>decide (p<w*h))=(Cq x (holes.drop (i+1))&&(holes.drop (i+1)).all λp=>decide (p<w*h)):=λq=>by
   rw[he,sk q.1,sk q.2];simp
  have hstop:¬(last<x/\x<w*h)->(Cq (-1) holes&&holes.all λp=>decide (p<w*h))=false:=λq=>by
   rw[he,<-Bool.not_eq_true];intro z;simp only[rl,rn]at z;exact q ⟨z.1.1,z.2.1⟩
  cases i with
  |zero=>
   have hl1:=hz rfl;have h0l:((0:Int)<(holes.length:Int))=True:=ra zo;have e1:IntKind.wrap .i64 ((0:Int)+1)=1:=zd
   by_cases s7:last<x/\x<w*h
   ·have hd:(decide (x<0)||decide (w*h<=x))=false:=by simp;omega
    simp only[eZ,seval,eY,h0l,hg,e1,hwh,hd];refine .mk ⟨1,x⟩ rfl ⟨c9,xe s7,(λq=>by cases q),λj q=>?_⟩ zp;have q':1=j+1:=q;have:j=0:=zo
    subst this;exact⟨hg,zp⟩
   ·have hd:(decide (x<0)||decide (w*h<=x))=true:=by simp;omega
    rw[v9 (hstop s7)];simp only[eZ,seval,re,eY,BG,h0l,hg,hwh,hd];exact RG (Wk.sl (.inr rfl)) (Wk.sl (.inr rfl))
  |succ j=>
   obtain⟨hgl,hl0⟩:=hs j rfl;have yd:j<holes.length:=zo
   have ej:IntKind.wrap .i64 (((j+1:Nat):Int)-1)=(j:Int):=by rw[A6 zo zo];omega
   by_cases s7:last<x/\x<w*h
   ·have hd:(decide (x<0)||decide (w*h<=x))=false:=by simp;omega
    have hd2:(x<=last)=False:=ri zo;simp only[eZ,seval,eY,AN c9,hg,e,hwh,hd,gX,ej,AN yd,hgl,hd2];refine .mk ⟨j+2,x⟩ rfl ⟨c9,xe s7,(λq=>by cases q),λj' q=>?_⟩ zp;have q':j+2=j'+1:=q;have:j'=j+1:=zo
    subst this;exact⟨hg,zp⟩
   ·by_cases hd:(decide (x<0)||decide (w*h<=x))=true
    ·rw[v9 (hstop s7)];simp only[eZ,seval,re,eY,BG,AN c9,hg,hwh,hd];exact RG (Wk.sl (.inr rfl)) (Wk.sl (.inr rfl))
    ·have hd:(decide (x<0)||decide (w*h<=x))=false:=by simpa using hd
     have hd':=hd;simp only[tv,sR]at hd';have hd2:(x<=last)=True:=ra zo;rw[v9 (hstop s7)];simp only[eZ,seval,eY,BG,AN c9,hg,hwh,hd,gX,ej,AN yd,hgl,hd2];exact RG (Wk.sl (.inr rfl)) (Wk.sl (.inr rfl))
 obtain rfl:i=holes.length:=zo
 rw[sK]at he;have he':(Cq (-1) holes&&holes.all λp=>decide (p<w*h))=true:=he;obtain⟨hr1,hr2⟩:=(rl _ _).mp he';obtain⟨r1,r2⟩:=HN.1 hr1;have wd:∀x∈holes,0<=x/\x<w*h:=λx hx=>⟨by have:=r1 x hx;omega,t5 (sg.1 hr2 x hx)⟩
 obtain⟨m,hm⟩:∃m:Nat,w*h=(m:Int):=⟨(w*h).toNat,zo⟩;have hmt:(w*h).toNat=m:=zo
 have hwm:IntKind.wrap .i64 (m:Int)=m:=by rw[<-hm];exact hwh
 have hHos:JI holes m=holes:=by
  have:=Xs wd r2;unfold CX at this;rw[hmt]at this;exact this
 have hC:Av sh w h holes=if D4 holes m≠[]then some (D4 holes m)else none:=by
  rw[<-Xq];unfold Ul;have ep:((CX (w*h)).filter λp=>!holes.contains p)=D4 holes m:=by unfold CX D4;rw[hmt]
  rw[ep];by_cases q:D4 holes m=[]
  ·rw[rj λz=>z.2.2.2.2.2.2.2 q,rj (λz=>z q)]
  ·rw[rt ⟨hsh,hw1,hw2,hh1,hh2,wd,r2,q⟩,rt q]
 simp only[eZ,seval,r9,Ad c9,hm,AQ];refine AO (λv:VMm=>⟨[(1,true,.int .i64 w),(2,true,.int .i64 h),(3,true,Am holes),(8,true,.ptr 0 0),(11,true,.ptr 6 0),(12,true,.int .i64 v.k)],v.H,v.n⟩) (IMr sh w h holes m) (λv=>m-v.k)
  ⟨0,.nil,.nil,hset (hset Ai 0 (.box [z0,z0,z0,zs,zs])) 6 (.box [.int .i64 sh,.int .i64 w,.int .i64 h,zs,zs]),8⟩ rfl ⟨rm _,rq _,(AP.nil.hset (m:=8) (rm 8) (show 0<8 by decide)).hset (rq 8) (show 6<8 by decide),rfl,rfl,.inl rfl,.inl rfl,λi q=>(by cases q),.inr rfl,.inr rfl⟩ ?_
 rintro⟨k,t1,t2,H,n⟩ ⟨hk,hn,l7,h0,h6,y9,wi,hdj,hes1,hes2⟩;simp only at hk hn l7 h0 h6 y9 wi hdj hes1 hes2;by_cases hlt2:k<m
 ·have e:=AK (k:=k) zo;have hps:=P5 holes k;have hhs:=WT holes k;have wu:=WL holes k;have hhl:=cu holes k;have y0:∀j,(n+j=6)=False:=λj=>ri zo
  have y1:∀j,(n+j=0)=False:=λj=>ri zo
  cases hin2:holes.contains (k:Int)with
  |true=>
   rw[hin2,rt rfl]at hps hhs;have q1:BH H 1 t1=True:=ra y9.app;have q2:((JI holes k).length<=35184372088831)=True:=ra zo;have q3:Al ((JI holes k).length+1) 8=True:=ra (Ac zo zd);have kx:AD (AU H t1) 6=some (.box [.int .i64 sh,.int .i64 w,.int .i64 h,.sl t1 ((JI holes k).map eI),.sl t2 ((D4 holes k).map eI)]):=by rw[Af y9 (.inl zo)];exact h6
   simp only[eZ,seval,r9,hwm,hm,AN hlt2,ib,s2,Ak,Ag,BD,Au,ra hl,hin2,e,h6,q1,q2,q3,Bq l7,kx,y0,AG];have hdn:∀i,((.own (n+4) 1:w8)= .own i 1)->(t2:w8)≠ .own i 1:=λi q z=>by
    cases q;rcases wi with h|h|⟨id,h,-,h'⟩<;>rw[h]at z<;>cases z
    rw[Bq l7 4]at h';cases h'
   refine .mk ⟨k+1,.own (n+4) 1,t2,hset (hset (AU H t1) (n+4) .tok) 6 (.box [.int .i64 sh,.int .i64 w,.int .i64 h,.sl (.own (n+4) 1) ((JI holes (k+1)).map eI),.sl t2 ((D4 holes (k+1)).map eI)]),n+7⟩ ?_ ⟨hlt2,zp,((Ab y9 l7).hset (m:=n+7) zo zo).hset (rq (n+7)) (show 6<n+7 by omega),?_,AC ..,.inr (.inr ⟨n+4,rfl,zo,by rw[AA _ _ _ _ zo];exact AC ..⟩),(((wi.kill y9 (λi q z=>hdj i z q)).set (.inr (.inr (Py y9 (Bq l7 4))))).set (.inl zo)),hdn,.inl rfl,by simp only[hps];exact hes2⟩ zp
   ·simp only[hps,hhs,rz];rfl
   ·simp only[];rw[AA _ _ _ _ zo,AA _ _ _ _ zo,Af y9 (.inl zo)];exact h0
  |false=>
   rw[hin2,rj zd]at hps hhs;have q1:BH H 1 t2=True:=ra wi.app;have q2:((D4 holes k).length<=35184372088831)=True:=ra zo;have q3:Al ((D4 holes k).length+1) 8=True:=ra (Ac zo zd);have kx:AD (AU H t2) 6=some (.box [.int .i64 sh,.int .i64 w,.int .i64 h,.sl t1 ((JI holes k).map eI),.sl t2 ((D4 holes k).map eI)]):=by rw[Af wi (.inl zo)];exact h6
   simp only[eZ,seval,r9,hwm,hm,AN hlt2,ib,s2,Ak,Ag,BD,Au,ra hl,hin2,e,h6,q1,q2,q3,Bq l7,kx,y0,AG];have hdn:∀i,((t1:w8)= .own i 1)->(.own (n+4) 1:w8)≠ .own i 1:=λi q z=>by
    cases z;rcases y9 with h|h|⟨id,h,-,h'⟩<;>rw[h]at q<;>cases q
    rw[Bq l7 4]at h';cases h'
   refine .mk ⟨k+1,t1,.own (n+4) 1,hset (hset (AU H t2) (n+4) .tok) 6 (.box [.int .i64 sh,.int .i64 w,.int .i64 h,.sl t1 ((JI holes (k+1)).map eI),.sl (.own (n+4) 1) ((D4 holes (k+1)).map eI)]),n+7⟩ ?_ ⟨hlt2,zp,((Ab wi l7).hset (m:=n+7) zo zo).hset (rq (n+7)) (show 6<n+7 by omega),?_,AC ..,(((y9.kill wi (λi q=>hdj i q)).set (.inr (.inr (Py wi (Bq l7 4))))).set (.inl zo)),.inr (.inr ⟨n+4,rfl,zo,by rw[AA _ _ _ _ zo];exact AC ..⟩),hdn,by simp only[hhs];exact hes1,.inl rfl⟩ zp
   ·simp only[hps,hhs,rz];rfl
   ·simp only[];rw[AA _ _ _ _ zo,AA _ _ _ _ zo,Af wi (.inl zo)];exact h0
 obtain rfl:k=m:=zo
 by_cases hp0:D4 holes k=[]
 ·have hM:Be sh w h holes= .tup [Ek 0 0 0 [] [],.int .i64 130]:=by unfold Be;rw[hC,rj (λz=>z hp0)]
  have hl0:(((D4 holes k).length:Int)=0)=True:=ra (by rw[hp0];rfl);rw[hM];simp only[eZ,seval,BG,r9,hwm,hm,Ad hlt2,h6,h0,hl0];exact RG (Wk.sl (.inr rfl)) (Wk.sl (.inr rfl))
 ·have hM:Be sh w h holes= .tup [Ek sh w h holes (D4 holes k),.int .i64 0]:=by unfold Be;rw[hC,rt hp0]
  have hl0:(((D4 holes k).length:Int)=0)=False:=ri (λq=>hp0 (tF.1 zo));rw[hM];simp only[eZ,seval,BG,r9,hwm,hm,Ad hlt2,h6,h0,hl0];rw[hHos]at hes1⊢;exact RG (Wk.sl (hes1.imp id λq=>by rw[q];rfl)) (Wk.sl (hes2.imp id λq=>by rw[q];rfl))
def cQ:List Fs->AB->Prop×Fs:=λa H=>match a with
 |[.int .i64 sh,.int .i64 w,.int .i64 h,x]=>(BA.ok x/\An (BA.dec x),Be sh w h (BA.dec x))
 |_=>(False,.tup [])
def qMk:∀args H n,(cQ args H).1->Ao prog 78 args H n (cQ args H).2:=by
 intro args H n hh;unfold cQ at hh⊢;split at hh
 ·obtain⟨h1,h2⟩:=hh;refine AV.args ((p78 _ _ _ _ h2).quiet H n) ?_;rintro g vs ⟨v,r,rfl,k1,w,r',rfl,k2,u,r2,rfl,k3,z,r3,rfl,k4,k5⟩;exact⟨v,_,rfl,k1,w,_,rfl,k2,u,_,rfl,k3,z,_,rfl,BA.wk _ h1 _ _ k4,k5⟩
 ·exact hh.elim
def Tck:Bc:=AG 78 cQ (AG 167 (s2 BA BA (λa _=>An a) λa b=>.bool (decide (a=b))) tnil)
def kR:AH prog Tck:=(AH.tnil.add (q2 p167)).add qMk
theorem YQ(sh w h:Int)(x:Fs)(H:AB):Tck 78 [.int .i64 sh,.int .i64 w,.int .i64 h,x] H=(BA.ok x/\An (BA.dec x),Be sh w h (BA.dec x)):=rfl
theorem ic(a:List Fs)(H:AB):Tck 167 a H=s2 BA BA (λa _=>An a) (λa b=>.bool (decide (a=b))) a H:=rfl
def p125(g:v7)(hh:An g.holes):Aw prog 125 [CK g] (Jf g):=by
 refine .mk ⟨BL 0 ..,zt⟩ zt (bD.a (AI kR (AJ ?_)));unfold Jf GO;cases hc:Av g.sh g.w g.h g.holes with
 |none=>
  have hv:Be g.sh g.w g.h g.holes= .tup [Ek 0 0 0 [] [],.int .i64 130]:=by unfold Be;rw[hc]
  simp only[eZ,seval,re,rf,eY,bD,YQ,Ak,Ag,ra hh,hv]
 |some c=>
  have hv:Be g.sh g.w g.h g.holes= .tup [Ek g.sh g.w g.h g.holes c,.int .i64 0]:=by unfold Be;rw[hc]
  have hfc:An c:=show c.length<_ by have:=(BX hc).2.1;omega
  by_cases hcc:c=g.cells
  ·have hR:decide (some c=some g.cells)=true:=sk (by rw[hcc]);rw[hR];simp only[eZ,seval,re,eY,bD,YQ,ic,s2,Ak,Ag,ra hh,hv,ra hfc,BS hcc]
  ·have hR:decide (some c=some g.cells)=false:=sa (λq=>hcc (Option.some.inj q));rw[hR];simp only[eZ,seval,re,rf,eY,bD,YQ,ic,s2,Ak,Ag,ra hh,hv,ra hfc,A3 hcc]
def X2(cells:List Int)(p:Int):Fs:=if cells.contains p=true then .tup [.int .i64 (Fa cells p),.bool true]else .tup [.int .i64 0,.bool false]
def p129(g:v7)(p:Int)(hf:An g.cells)(hs:List.Pairwise (λx y=>x<y) g.cells):Aw prog 129 [CK g,.int .i64 p] (X2 g.cells p):=by
 refine .mk ⟨BL 0 ..,zt,zt⟩ (by unfold X2;split<;>exact⟨zt,zt,zt⟩) (pX.a (AI AH.tnil (AJ ?_)));have am:g.cells.length<1000000000:=hf;simp only[eE,eN,seval,pX];refine AO (λi:Nat=>⟨[(1,true,.int .i64 p),(2,true,.ptr 0 0),(6,true,.int .i64 i)],hset Ai 0 (.box (AE g.sh g.w g.h g.holes g.cells)),3⟩) (λi=>i<=g.cells.length/\g.cells.contains p=(g.cells.drop i).contains p) (λi=>g.cells.length-i) 0 rfl ⟨rm _,rfl⟩ ?_;rintro i ⟨hi,hc⟩;by_cases c9:i<g.cells.length
 ·have hg:=rc c9;have e:=AK (k:=i) zo;have hlow:=Un hs c9;rw[sn c9,List.contains_cons]at hc;generalize g.cells[i]=y at hg hc hlow;by_cases hy:y=p
  ·have hR:X2 g.cells p= .tup [.int .i64 i,.bool true]:=by unfold X2;rw[rt (by rw[hc,hy];simp),<-hy,hlow]
   rw[hR];simp only[eZ,seval,eY,AN c9,hg,BS hy];exact Wk.refl _
  ·have hy':(p==y)=false:=beq_eq_false_iff_ne.2 λq=>hy q.symm
   rw[hy',tH]at hc;simp only[eZ,seval,eY,AN c9,hg,e,A3 hy];exact .mk (i+1) rfl ⟨c9,hc⟩ zo
 obtain rfl:i=g.cells.length:=zo
 rw[sK]at hc;have hR:X2 g.cells p= .tup [.int .i64 0,.bool false]:=by unfold X2;rw[rj (by rw[hc];simp)]
 rw[hR];simp only[eZ,seval,r9,Ad c9];exact Wk.refl _
def rJ:Bc:=AG 125 (s1 DY (λg=>An g.holes) Jf) (AG 129 (s2 DY dI (λg _=>An g.cells/\List.Pairwise (λx y=>x<y) g.cells) λg p=>X2 g.cells p) ib)
def TQ:AH prog rJ:=(TP.add (q2 λg p h=>p129 g p h.1 h.2)).add (q1 p125)
theorem ig(a:List Fs)(H:AB):rJ 125 a H=s1 DY (λg=>An g.holes) Jf a H:=rfl
theorem YR(a:List Fs)(H:AB):rJ 129 a H=s2 DY dI (λg _=>An g.cells/\List.Pairwise (λx y=>x<y) g.cells) (λg p=>X2 g.cells p) a H:=rfl
theorem ij(a:List Fs)(H:AB):rJ 124 a H=s2 BA dI (λl _=>An l) (λl x=>.bool (l.contains x)) a H:=rfl
structure IRj(g:v7)(x:List Int)(H0:AB)(n0:Nat)(v:VRi):Prop where
 hj:v.j<=x.length
 hn:n0<=v.n
 fr:AP v.H v.n
 hk:∀id,id<n0->AD v.H id=AD H0 id
 tok:DA 1 n0 v.H v.tc
 es:v.tc.esz=1\/v.j=0
 sub:∀q∈x.take v.j,q∈g.cells
 eq:G6 g.cells [] x=G6 g.cells (x.take v.j) (x.drop v.j)
 nd:(x.take v.j).Nodup
def p81(g:v7)(lists:List (List Int))(hG:Av g.sh g.w g.h g.holes=some g.cells)(hh:An g.holes)(hl:B6 lists):Aw prog 81 [CK g,Bv lists] (EI g.cells lists):=by
 refine .mk ⟨BL 0 ..,BC 0 _,zt⟩ (by unfold EI;split<;>exact⟨BC 0 _,zt,zt⟩) (c81.a (AI TQ (AJ ?_)));obtain⟨hr1,hr2,hr3⟩:=BX hG;have hfc:An g.cells:=show g.cells.length<_ by omega
 have hgo:GO g.sh g.w g.h g.holes g.cells=true:=by unfold GO;rw[hG];simp
 have am:lists.length<1000000000:=hl.1;by_cases h64:64<lists.length
 ·have hv:EI g.cells lists= .tup [Bv [],.int .i64 130]:=by unfold EI;rw[rj];simp;omega
  have l64:((64:Int)<(lists.length:Int))=True:=ra zo;rw[hv];simp only[eZ,seval,re,r9,c81,ig,s1,Fl,Ds,ra hh,hgo,l64];exact Wk.tup (.cons (Wk.sl (.inr rfl)) (.cons (Wk.refl _) .nil))
 have l64:((64:Int)<(lists.length:Int))=False:=ri zo;simp only[eZ,seval,re,r9,c81,ig,s1,Fl,Ds,ra hh,hgo,l64];have v9:lists.all (Eh g.cells)=false->EI g.cells lists= .tup [Bv [],.int .i64 130]:=λq=>by unfold EI;rw[q,uP,rj zd]
 refine AO (λv:VRg=>⟨[(1,true,Bv lists),(2,true,.ptr 0 0),(6,true,.sl v.tl v.E),(7,true,.int .i64 v.i)],v.H,v.n⟩) (IRg g lists) (λv=>lists.length-v.i)
  ⟨0,[],.nil,hset Ai 0 (.box (AE g.sh g.w g.h g.holes g.cells)),3⟩ rfl ⟨rm _,rq _,AP.nil.hset (m:=3) (rm 3) (show 0<3 by decide),rfl,.inl rfl,.inr rfl,.nil,rfl⟩ ?_
 rintro⟨i,E,tl,H,n⟩ hI;have hi:=hI.hi;have hn:=hI.hn;have l7:=hI.fr;have h0:=hI.h0;have l5:=hI.tok;have s5:=hI.es;have hE:=hI.hE;have heq:=hI.eq;simp only at hi hn l7 h0 l5 s5 hE heq;by_cases c9:i<lists.length;case neg=>
  have w9:i=lists.length:=zo
  subst w9;rw[sK]at heq;rw[se]at hE;have hv:EI g.cells lists= .tup [Bv (lists.map (Bk g.cells)),.int .i64 0]:=by
   unfold EI;rw[heq,rt];simp;omega
  rw[hv];simp only[eZ,seval,r9,Ad c9];exact Wk.tup (.cons (Wk.slx s5 hE) (.cons (Wk.refl _) .nil))
 have hg:=rc c9;have e:=AK (k:=i) zo;have hxf:=hl.2 _ (rY c9);have hxe:=map_take (f:=Bk g.cells) c9;rw[sn c9,uq]at heq;generalize hx:lists[i]=x at hg hxf heq hxe;have hxl:x.length<1125899906842624:=hxf;simp only[eZ,seval,r9,AN c9];refine AO (λv:VRi=>⟨[(1,true,Bv lists),(2,true,.ptr 0 0),(6,true,.sl tl E),(7,true,.int .i64 i),(8,true,.sl v.tc ((Bk g.cells (x.take v.j)).map eI)),(9,true,.int .i64 v.j)],v.H,v.n⟩)
  (IRj g x H n) (λv=>x.length-v.j) ⟨0,.nil,H,n⟩ rfl ⟨rm _,rq _,l7,λid p9=>rfl,.inl rfl,.inr rfl,λq hq=>by(simp at hq),rfl,zw⟩ ?_
 rintro⟨j,tc,H1,n1⟩ ⟨hj,me,hf1,hk,htc,hec,hsub,hme,hnd⟩;simp only at hj me hf1 hk htc hec hsub hme hnd;have hj256:j<=256:=by
  have:=KZ hnd hsub;rw[sD]at this;omega
 have wc:AD H1 0=some (.box (AE g.sh g.w g.h g.holes g.cells)):=by rw[hk 0 zo];exact h0
 by_cases l9:j<x.length
 ·have hgj:=rc l9;have ej:=AK (k:=j) zo;have htx:=map_take (f:=λp=>(Fa g.cells p:Int)) l9;have htk2:x.take (j+1)=x.take j++[x[j]]:=by rw[sf,hgj];rfl
  rw[sn l9,G6]at hme;have hlen:(Bk g.cells (x.take j)).length=j:=by rw[Iv,sD];omega
  have hcf:An (Bk g.cells (x.take j)):=show(Bk g.cells (x.take j)).length<_ by omega
  generalize hp:x[j]=p at hgj htx htk2 hme;have s8:(g.cells.contains p&& !(x.take j).contains p)=false->EI g.cells lists= .tup [Bv [],.int .i64 130]:=λq=>v9 (by
   rw[heq,G7,hme,q];simp)
  cases wd:g.cells.contains p with
  |false=>
   have hat:X2 g.cells p= .tup [.int .i64 0,.bool false]:=by unfold X2;rw[wd,rj zd]
   rw[s8 (by rw[wd];rfl)];simp only[eZ,seval,re,rf,eY,AN c9,hg,AN l9,hgj,wc,YR,s2,Fl,Ds,BD,Au,ra hfc,ra hr1,hat];exact Wk.tup (.cons (Wk.sl (.inr rfl)) (.cons (Wk.refl _) .nil))
  |true=>
   have hat:X2 g.cells p= .tup [.int .i64 (Fa g.cells p),.bool true]:=by unfold X2;rw[wd,rt rfl]
   have hpm:p∈g.cells:=sN.1 wd;have hcm:=TC hr1 hsub hpm;have htcok:BA.ok (.sl tc ((Bk g.cells (x.take j)).map eI))=True:=ra ⟨hec.imp id λq=>by rw[q];rfl,by rw[Ax]⟩;have htcdec:BA.dec (.sl tc ((Bk g.cells (x.take j)).map eI))=Bk g.cells (x.take j):=Ax _;cases hmt:(x.take j).contains p with
   |true=>
    rw[s8 (by rw[wd,hmt];rfl)];rw[hmt]at hcm;simp only[eZ,seval,re,eY,AN c9,hg,AN l9,hgj,wc,YR,ij,s2,Fl,Ds,BD,Au,htcok,htcdec,ra hfc,ra hr1,ra hcf,hat,hcm];exact Wk.tup (.cons (Wk.sl (.inr rfl)) (.cons (Wk.refl _) .nil))
   |false=>
    rw[hmt]at hcm;have q1:BH H1 1 tc=True:=ra htc.app;have q2:(j<=35184372088831)=True:=ra zo;have q3:Al (j+1) 8=True:=ra (Ac zo zd);simp only[eZ,seval,re,eY,AN c9,hg,AN l9,hgj,wc,YR,ij,s2,Fl,Ds,BD,Au,htcok,htcdec,ra hfc,ra hr1,ra hcf,hat,hcm,ej,q1,q2,q3,hlen,Bq hf1];have wg:Bk g.cells (x.take (j+1))=Bk g.cells (x.take j)++[(Fa g.cells p:Int)]:=htx;refine .mk ⟨j+1,.own (n1+3) 1,hset (AU H1 tc) (n1+3) .tok,n1+5⟩ ?_ ⟨l9,zp,(Ab htc hf1).hset (m:=n1+5) zo zo,λid p9=>?_,.inr (.inr ⟨n1+3,rfl,zo,AC ..⟩),.inl rfl,λq hq=>?_,?_,?_⟩ zp
    ·rw[wg,rz];rfl
    ·simp only[];rw[AA _ _ _ _ zo,Af htc (.inl p9)];exact hk id p9
    ·simp only[htk2]at hq;rcases ti.1 hq with q1|q1
     ·exact hsub q q1
     ·rw[sZ.1 q1];exact hpm
    ·simp only[];rw[htk2,hme,wd,hmt];rfl
    ·simp only[];rw[htk2,ug];refine⟨hnd,zw,λa ha b hb e=>?_⟩;rw[sZ]at hb;subst hb;subst e;rw[sN.2 ha]at hmt;cases hmt
 have hj':j=x.length:=zo
 subst hj';rw[sK,se]at hme;have hlx:(Bk g.cells (x.take x.length)).length=x.length:=by rw[Iv,se]
 by_cases hx0:x.length=0
 ·have s8:EI g.cells lists= .tup [Bv [],.int .i64 130]:=v9 (by rw[heq,G7,hx0];simp);rw[s8];simp only[eZ,seval,eY,AN c9,hg,Ad l9,hlx,BS (show((x.length:Nat):Int)=0 by omega)];exact Wk.tup (.cons (Wk.sl (.inr rfl)) (.cons (Wk.refl _) .nil))
 have hEl:E.length<=64:=by
  have:=hE.len;simp only[r9,sD]at this;omega
 have y9:DA 1 1 H1 tl:=by
  rcases l5 with rfl|rfl|⟨id,rfl,h1,h2⟩
  ·exact .inl rfl
  ·exact .inr (.inl rfl)
  ·exact .inr (.inr ⟨id,rfl,h1,by rw[hk id (l7.lt h2)];exact h2⟩)
 have q1:BH H1 1 tl=True:=ra y9.app;have q2:(E.length<=35184372088831)=True:=ra zo;have q3:Al (E.length+1) 24=True:=ra (Ac zo zd);simp only[eZ,seval,eY,AN c9,hg,Ad l9,hlx,A3 (show ¬((x.length:Nat):Int)=0 by omega),e,q1,q2,q3,Bq hf1];refine .mk ⟨i+1,E++[.sl tc ((Bk g.cells x).map eI)],.own (n1+3) 1,hset (AU H1 tl) (n1+3) .tok,n1+5⟩ ?_ ⟨c9,zp,(Ab y9 hf1).hset (m:=n1+5) zo zo,?_,.inr (.inr ⟨n1+3,rfl,zo,AC ..⟩),.inl rfl,?_,?_⟩ zp
 ·rw[se]
 ·simp only[];rw[AA _ _ _ _ zo,Af y9 (.inl zo)];exact wc
 ·simp only[];rw[hxe,rz];exact hE.app (.cons (Wk.sl (hec.imp id λq=>by rw[tF.1 q];rfl)) .nil)
 ·simp only[];have s7:Eh g.cells x=true:=by rw[G7,hme];simp [G6];omega
  rw[heq,s7,sS]
def Ij{α:Type}{p:α->Bool}{l:List α}{i:Nat}(h:i<l.length):(l.drop i).all p=(p l[i]&&(l.drop (i+1)).all p):=by
 rw[sn h,uq]
def p176(a b:List Int)(ha:An a)(hb:An b):Aw prog 176 [Am a,Am b] (.bool (Dh a b)):=by
 refine .mk ⟨AZ 0 _,AZ 0 _,zt⟩ zt (pY.a (AI TP (AJ ?_)));have wm:a.length<1000000000:=ha;have hbl:b.length<1000000000:=hb;simp only[eE,eN,seval,pY];refine AO (λi:Nat=>⟨[(0,true,Am a),(1,true,Am b),(5,true,.int .i64 i)],Ai,0⟩) (λi=>i<=a.length/\(a.all λx=>b.contains x)=((a.drop i).all λx=>b.contains x)) (λi=>a.length-i) 0 rfl ⟨rm _,rfl⟩ ?_;rintro i ⟨hi,hc⟩;by_cases c9:i<a.length
 ·have hg:=rc c9;have e:=AK (k:=i) zo;rw[Ij c9]at hc;generalize a[i]=x at hg hc;cases hx:b.contains x with
  |false=>
   have hR:Dh a b=false:=by unfold Dh;rw[hc,hx];simp
   rw[hR];simp only[eZ,seval,rf,eY,AN c9,hg,ib,s2,Ak,Ag,BD,Au,ra hb,hx,AG]
  |true=>
   rw[hx,sS]at hc;simp only[eZ,seval,re,eY,AN c9,hg,e,ib,s2,Ak,Ag,BD,Au,ra hb,hx,AG];exact .mk (i+1) rfl ⟨c9,hc⟩ zo
 obtain rfl:i=a.length:=zo
 rw[sK]at hc;have hc:(a.all λx=>b.contains x)=true:=hc;simp only[eZ,seval,r9,Ad c9];refine AO (λi:Nat=>⟨[(0,true,Am a),(1,true,Am b),(6,true,.int .i64 i)],Ai,0⟩) (λi=>i<=b.length/\(b.all λx=>a.contains x)=((b.drop i).all λx=>a.contains x)) (λi=>b.length-i) 0 rfl ⟨rm _,rfl⟩ ?_;rintro i ⟨hi2,hc2⟩;by_cases hlt2:i<b.length
 ·have hg:=rc hlt2;have e:=AK (k:=i) zo;rw[Ij hlt2]at hc2;generalize b[i]=x at hg hc2;cases hx:a.contains x with
  |false=>
   have hR:Dh a b=false:=by unfold Dh;rw[hc2,hx];simp
   rw[hR];simp only[eZ,seval,rf,eY,AN hlt2,hg,ib,s2,Ak,Ag,BD,Au,ra ha,hx,AG]
  |true=>
   rw[hx,sS]at hc2;simp only[eZ,seval,re,eY,AN hlt2,hg,e,ib,s2,Ak,Ag,BD,Au,ra ha,hx,AG];exact .mk (i+1) rfl ⟨hlt2,hc2⟩ zo
 obtain rfl:i=b.length:=zo
 rw[sK]at hc2;have hc2:(b.all λx=>a.contains x)=true:=hc2;have hR:Dh a b=true:=by unfold Dh;rw[hc,hc2];rfl
 rw[hR];simp only[eZ,seval,r9,Ad hlt2]
def Tzr:Bc:=AG 81 (s2 DY N0 (λg l=>Av g.sh g.w g.h g.holes=some g.cells/\An g.holes/\B6 l) λg l=>EI g.cells l) (AG 176 (s2 BA BA (λa b=>An a/\An b) λa b=>.bool (Dh a b)) tnil)
def kS:AH prog Tzr:=(AH.tnil.add (q2 λa b h=>p176 a b h.1 h.2)).add (q2 λg l h=>p81 g l h.1 h.2.1 h.2.2)
def p121(d:xk)(g:v7)(hd:zk d)(hG:Av g.sh g.w g.h g.holes=some g.cells)(hh:An g.holes):Aw prog 121 [B5 d,CK g] (.int .i64 (DV g.cells d.regs)):=by
 refine .mk ⟨As 0 d,BL 0 ..,zt⟩ zt (pZ.a (AI kS (AJ ?_)));have hrl:d.regs.length<1000000000:=hd.rg;simp only[eE,eN,seval,pZ];refine AO (λi:Nat=>⟨[(2,true,.ptr 0 0),(3,true,.ptr 1 0),(5,true,.int .i64 i)],hset (hset Ai 0 (.box (AL d))) 1 (.box (AE g.sh g.w g.h g.holes g.cells)),3⟩) (λi=>i<=d.regs.length/\DV g.cells d.regs=DV g.cells (d.regs.drop i)) (λi=>d.regs.length-i)
  0 rfl ⟨rm _,rfl⟩ ?_
 rintro i ⟨hi,heq⟩;by_cases c9:i<d.regs.length;case neg=>
  obtain rfl:i=d.regs.length:=zo
  rw[sK]at heq;rw[heq];simp only[eZ,seval,r9,Ad c9];rfl
 have hg:=rc c9;have e:=AK (k:=i) zo;have hrf:N5 d.regs[i]:=hd.rgs _ (rY c9);rw[P2 _ _ _ c9]at heq;generalize d.regs[i]=r at hg hrf heq;have hc:=ra (⟨hG,hh,hrf⟩:Av g.sh g.w g.h g.holes=some g.cells/\An g.holes/\B6 r.ls);by_cases hb:(decide (r.ls.length<=64)&&r.ls.all (Eh g.cells))=true;case neg=>
  have hv:EI g.cells r.ls= .tup [Bv [],.int .i64 130]:=rj hb;have hE:LM g.cells r=130:=rt (by simpa using hb);rw[hE,rj zd]at heq;rw[heq];simp only[eZ,seval,rf,eY,AN c9,hg,Tzr,s2,Fl,Ds,Dj,Cz,hc,hv,AG]
 have hv:EI g.cells r.ls= .tup [Bv (r.ls.map (Bk g.cells)),.int .i64 0]:=rt hb;have hregE:LM g.cells r=if Cv r.ls=true then 161 else 0:=by unfold LM;rw[hb,rj zd]
 have am:r.ls.length<1000000000:=hrf.1;have hfw:∀l∈r.ls,An l:=λl hl=>by
  obtain⟨q1,-,q3⟩:=HO (sg.1 ((rl _ _).mp hb).2 _ hl);have h1:=KZ q1 q3;have h2:=(BX hG).2.1;show l.length<_;omega
 simp only[eZ,seval,re,eY,AN c9,hg,Tzr,s2,Fl,Ds,Dj,Cz,hc,hv,AG];refine AO (λa:Nat=>⟨[(2,true,.ptr 0 0),(3,true,.ptr 1 0),(5,true,.int .i64 i),(6,true,Bv r.ls),(9,true,.int .i64 a)],hset (hset Ai 0 (.box (AL d))) 1 (.box (AE g.sh g.w g.h g.holes g.cells)),3⟩) (λa=>a<=r.ls.length/\∀x y (hx:x<r.ls.length) (hy:y<r.ls.length),x<a->y<x->Dh r.ls[x] r.ls[y]=false) (λa=>r.ls.length-a)
  0 rfl ⟨rm _,λx y _ _ q=>absurd q (td _)⟩ ?_
 rintro a ⟨ha,s8⟩;by_cases hla:a<r.ls.length
 ·have hga:=rc hla;have ea:=AK (k:=a) zo;have hfa:An r.ls[a]:=hfw _ (rY hla);simp only[eZ,seval,r9,AN hla];refine AO (λb:Nat=>⟨[(2,true,.ptr 0 0),(3,true,.ptr 1 0),(5,true,.int .i64 i),(6,true,Bv r.ls),(9,true,.int .i64 a),(10,true,.int .i64 b)],hset (hset Ai 0 (.box (AL d))) 1 (.box (AE g.sh g.w g.h g.holes g.cells)),3⟩) (λb=>b<=a/\∀y (hy:y<r.ls.length),y<b->Dh r.ls[a] r.ls[y]=false) (λb=>a-b)
   0 rfl ⟨rm _,λy _ q=>absurd q (td _)⟩ ?_
  rintro b ⟨z9,xb⟩;by_cases hlb:b<a
  ·have hbl:b<r.ls.length:=zo
   have hgb:=rc hbl;have eb:=AK (k:=b) zo;have hfb:An r.ls[b]:=hfw _ (rY hbl);cases wm:Dh r.ls[a] r.ls[b]with
   |true=>
    rw[hregE,rt (IV.2 ⟨a,b,hla,hbl,hlb,wm⟩),rj zd]at heq;rw[heq];generalize r.ls[a]=la at hga hfa wm;generalize r.ls[b]=lb at hgb hfb wm;simp only[eZ,seval,eY,AN hlb,AN hla,AN hbl,hga,hgb,Tzr,s2,Ak,Ag,ra hfa,ra hfb,wm,AG]
   |false=>
    have hnx:∀y (hy:y<r.ls.length),y<b+1->Dh r.ls[a] r.ls[y]=false:=λy hy q=>by
     by_cases z:y=b
     ·subst z;exact wm
     ·exact xb y hy zo
    generalize hA:r.ls[a]=la at hga hfa wm;generalize hB:r.ls[b]=lb at hgb hfb wm;simp only[eZ,seval,eY,AN hlb,AN hla,AN hbl,hga,hgb,Tzr,s2,Ak,Ag,ra hfa,ra hfb,wm,eb,AG];exact .mk (b+1) rfl ⟨hlb,λy hy q=>by rw[<-hA];exact hnx y hy q⟩ zo
  obtain rfl:b=a:=zo
  simp only[eZ,seval,Ad hlb,ea];refine .mk (b+1) rfl ⟨hla,λx y hx hy q1 q2=>?_⟩ zo;by_cases z:x=b
  ·subst z;exact xb y hy q2
  ·exact s8 x y hx hy zo q2
 obtain rfl:a=r.ls.length:=zo
 have hpt:Cv r.ls=false:=by
  cases q:Cv r.ls with
  |false=>rfl
  |true=>
   obtain⟨x,y,hx,hy,hxy,h2⟩:=IV.1 q;rw[s8 x y hx hy hx hxy]at h2;cases h2
 have hE0:LM g.cells r=0:=by rw[hregE,hpt];rfl
 rw[hE0,rt rfl]at heq;simp only[eZ,seval,r9,Ad hla,e];exact .mk (i+1) rfl ⟨c9,heq⟩ zo
def p178(c:x8):Aw prog 178 [Cc c] (.bool (D0 c)):=by
 refine .mk ⟨Gd 0 c,zt⟩ zt (Xk.a (AI AH.tnil (AJ ?_)));unfold D0;by_cases h1:c.ty=1
 ·simp only[eZ,seval,Xk,h1]
 by_cases h2:c.ty=2
 ·simp only[eZ,seval,Xk,h2]
 by_cases h3:c.ty=3
 ·simp only[eZ,seval,Xk,h3];rw[show(decide (1<=c.fam)&&decide (c.fam<=3)||decide (8<=c.fam))=(decide (c.fam=1)||decide (c.fam=2)||decide (c.fam=3)||decide (8<=c.fam))by
   rw[su];simp;omega]
 simp only[eZ,seval,Xk,h1,h2,h3]
def p236(d:xk)(r:zj)(w:Int)(on:Bool):Aw prog 236 [B5 d,Br r,.int .i64 w,.bool on] (.bool (DW d.clus r w on)):=by
 refine .mk ⟨As 0 d,BN 0 r,zt,zt,zt⟩ zt (bE.a (AI AH.tnil (AJ ?_)));by_cases hc:r.clue<0\/(d.clus.length:Int)<=r.clue
 ·have wq:(decide (r.clue<0)||decide ((d.clus.length:Int)<=r.clue))=true:=by simpa using hc
  have hP:DW d.clus r w on=false:=by unfold DW;rw[rt hc]
  rw[hP];simp only[eZ,seval,r9,bE,wq]
 ·have wq:(decide (r.clue<0)||decide ((d.clus.length:Int)<=r.clue))=false:=by simp;omega
  obtain⟨j,hj⟩:∃j:Nat,r.clue=(j:Int):=⟨r.clue.toNat,zo⟩;have yd:j<d.clus.length:=zo
  have hg:=rc yd;generalize d.clus[j]=c at hg;have hP:DW d.clus r w on=(decide (c.ty=w)&&(!on||decide (c.fam=r.fam))):=by
   unfold DW;(rw[rj hc,hj,rr,hg])<;>rfl
  rw[hP];rw[hj]at wq;cases on
  ·simp only[eZ,seval,re,rf,eY,bE,hj,wq,AN yd,hg]
  ·simp only[eZ,seval,re,eY,bE,hj,wq,AN yd,hg]
def sCl:List Fs->AB->Prop×Fs:=λa H=>match a with
 |[x,y,.int .i64 w,.bool on]=>(dD.ok x/\Mk.ok y,.bool (DW (dD.dec x).clus (Mk.dec y) w on))
 |_=>(False,.tup [])
def qCl:∀args H n,(sCl args H).1->Ao prog 236 args H n (sCl args H).2:=by
 intro args H n hh;unfold sCl at hh⊢;split at hh
 ·obtain⟨h1,h2⟩:=hh;refine AV.args ((p236 _ _ _ _).quiet H n) ?_;rintro g vs ⟨v,r,rfl,k1,w,r',rfl,k2,k3⟩;exact⟨v,_,rfl,dD.wk _ h1 _ _ k1,w,_,rfl,Mk.wk _ h2 _ _ k2,k3⟩
 ·exact hh.elim
def Tzc:Bc:=AG 236 sCl tnil
def YS:AH prog Tzc:=AH.tnil.add qCl
theorem Tzc_e(x y:Fs)(w:Int)(on:Bool)(H:AB):Tzc 236 [x,y,.int .i64 w,.bool on] H=(dD.ok x/\Mk.ok y,.bool (DW (dD.dec x).clus (Mk.dec y) w on)):=rfl
def p235(d:xk)(r:zj):Aw prog 235 [B5 d,Br r] (.bool (FZ d.clus r)):=by
 refine .mk ⟨As 0 d,BN 0 r,zt⟩ zt (bF.a (AI YS (AJ ?_)));unfold FZ;by_cases ho:r.op<1\/3<r.op
 ·have hb:(decide (r.op<1)||decide (3<r.op))=true:=by simpa using ho
  rw[rt ho];simp only[eZ,seval,bF,hb]
 have hb:(decide (r.op<1)||decide (3<r.op))=false:=by simp;omega
 rw[rj ho];by_cases hn:r.byN=[]
 ·rw[rt hn];simp only[eZ,seval,bF,hb,BB,BS hn]
 ·rw[rj hn];simp only[eZ,seval,bF,hb,BB,A3 hn,Tzc_e,BR,Az,CA,Bg]
def MK:z8->z8
 | .seq _ b=>b
 |c=>c
def Er:Nat->z8->z8
 |0,c=>c
 |k+1,c=>Er k (MK c)
def cw:Nat->z8->z8->z8
 |0,_,R=>R
 |k+1,.seq a b,R=>.seq a (cw k b R)
 |_+1,c,_=>c
def QC:Bc:=AG 235 (s2 dD Mk bV λd r=>.bool (FZ d.clus r)) Tzc
def kT:AH prog QC:=YS.add (q2 λd r _=>p235 d r)
theorem U3(a:List Fs)(H:AB):QC 235 a H=s2 dD Mk bV (λd r=>.bool (FZ d.clus r)) a H:=rfl
theorem U4(x y:Fs)(w:Int)(on:Bool)(H:AB):QC 236 [x,y,.int .i64 w,.bool on] H=(dD.ok x/\Mk.ok y,.bool (DW (dD.dec x).clus (Mk.dec y) w on)):=rfl
def cz(cl:List x8)(r:zj)(on set oth num by' lim:Bool):Bool:=
 if(!on&&(decide (r.on≠[])||decide (r.fam≠0)))||(!set&&(decide (0<r.ns.length)||decide (r.set≠0)))||(!oth&&(decide (0<r.os.length)||decide (r.oth≠0)))then false
 else if(on&&decide (r.on=[]))||(set&&decide (r.set=0))||(oth&&decide (r.oth=0))then false
 else if !lim&&(decide (r.op≠0)||(!num&&decide (r.n≠0))||(!by'&&(decide (r.byN≠[])||decide (r.clue≠ -1))))then false
 else if(lim&& !FZ cl r)||(num&&(decide (r.n<0)||decide (65536<r.n)))then false
 else if r.kind=5 then DW cl r 3 true
 else if r.kind=11 then DW cl r 1 false else true
theorem YT:Dx=cw 8 Dx (Er 8 Dx):=rfl
def rr1(d:xk)(r:zj)(on set oth num by' lim:Bool)(X:List (Nat×Bool×Fs))(hA1:(!on&&(!decide (r.on=[])|| !decide (r.fam=0))|| !set&&(decide (0<r.ns.length)|| !decide (r.set=0))|| !oth&&(decide (0<r.os.length)|| !decide (r.oth=0)))=true):Gm prog QC (Er 8 Dx) [] (Dp [.t 4] (Sz (.bool (false))))
  ⟨(2,true,.ptr 0 0)::(3,true,.ptr 1 0)::(5,true,.bool on)::(6,true,.bool set)::(7,true,.bool oth)::(8,true,.bool num)::(9,true,.bool by')::(10,true,.bool lim)::X,hset (hset Ai 0 (.box (AL d))) 1 (.box (B1 r)),3⟩:=by
 have e1:∀(l:List Bs),decide ((0:Int)<(l.length:Int))=decide (0<l.length):=λl=>by
  rw[su,rn,rn];omega
 simp only[eZ,seval,r9,Dx,Er,MK,A0,e1,hA1]
def rr2(d:xk)(r:zj)(on set oth num by' lim:Bool)(X:List (Nat×Bool×Fs))(hA1:(!on&&(!decide (r.on=[])|| !decide (r.fam=0))|| !set&&(decide (0<r.ns.length)|| !decide (r.set=0))|| !oth&&(decide (0<r.os.length)|| !decide (r.oth=0)))=false)(hA2:(on&&decide (r.on=[])||set&&decide (r.set=0)||oth&&decide (r.oth=0))=true):Gm prog QC (Er 8 Dx) [] (Dp [.t 4] (Sz (.bool (false))))
  ⟨(2,true,.ptr 0 0)::(3,true,.ptr 1 0)::(5,true,.bool on)::(6,true,.bool set)::(7,true,.bool oth)::(8,true,.bool num)::(9,true,.bool by')::(10,true,.bool lim)::X,hset (hset Ai 0 (.box (AL d))) 1 (.box (B1 r)),3⟩:=by
 have e1:∀(l:List Bs),decide ((0:Int)<(l.length:Int))=decide (0<l.length):=λl=>by
  rw[su,rn,rn];omega
 simp only[eZ,seval,r9,Dx,Er,MK,A0,BB,e1,hA1,hA2]
def rr3(d:xk)(r:zj)(on set oth num by':Bool)(X:List (Nat×Bool×Fs))(hA1:(!on&&(!decide (r.on=[])|| !decide (r.fam=0))|| !set&&(decide (0<r.ns.length)|| !decide (r.set=0))|| !oth&&(decide (0<r.os.length)|| !decide (r.oth=0)))=false)(hA2:(on&&decide (r.on=[])||set&&decide (r.set=0)||oth&&decide (r.oth=0))=false)(hA3:(!decide (r.op=0)|| !num&& !decide (r.n=0)|| !by'&&(!decide (r.byN=[])|| !decide (r.clue= -1)))=true):Gm prog QC (Er 8 Dx) [] (Dp [.t 4] (Sz (.bool (false))))
  ⟨(2,true,.ptr 0 0)::(3,true,.ptr 1 0)::(5,true,.bool on)::(6,true,.bool set)::(7,true,.bool oth)::(8,true,.bool num)::(9,true,.bool by')::(10,true,.bool false)::X,hset (hset Ai 0 (.box (AL d))) 1 (.box (B1 r)),3⟩:=by
 have e1:∀(l:List Bs),decide ((0:Int)<(l.length:Int))=decide (0<l.length):=λl=>by
  rw[su,rn,rn];omega
 simp only[eZ,seval,rf,r9,Dx,Er,MK,A0,BB,e1,hA1,hA2,hA3]
def rr4a(d:xk)(r:zj)(on set oth num by':Bool)(X:List (Nat×Bool×Fs))(hA1:(!on&&(!decide (r.on=[])|| !decide (r.fam=0))|| !set&&(decide (0<r.ns.length)|| !decide (r.set=0))|| !oth&&(decide (0<r.os.length)|| !decide (r.oth=0)))=false)(hA2:(on&&decide (r.on=[])||set&&decide (r.set=0)||oth&&decide (r.oth=0))=false)(hb:(!FZ d.clus r||num&&(decide (r.n<0)||decide (65536<r.n)))=true):Gm prog QC (Er 8 Dx) [] (Dp [.t 4] (Sz (.bool (false))))
  ⟨(2,true,.ptr 0 0)::(3,true,.ptr 1 0)::(5,true,.bool on)::(6,true,.bool set)::(7,true,.bool oth)::(8,true,.bool num)::(9,true,.bool by')::(10,true,.bool true)::X,hset (hset Ai 0 (.box (AL d))) 1 (.box (B1 r)),3⟩:=by
 have e1:∀(l:List Bs),decide ((0:Int)<(l.length:Int))=decide (0<l.length):=λl=>by
  rw[su,rn,rn];omega
 simp only[eZ,seval,re,r9,Dx,Er,MK,A0,BB,e1,hA1,hA2,QC,s2,BR,Az,CA,Bg,hb,AG]
def rr4b(d:xk)(r:zj)(on set oth num by':Bool)(X:List (Nat×Bool×Fs))(hA1:(!on&&(!decide (r.on=[])|| !decide (r.fam=0))|| !set&&(decide (0<r.ns.length)|| !decide (r.set=0))|| !oth&&(decide (0<r.os.length)|| !decide (r.oth=0)))=false)(hA2:(on&&decide (r.on=[])||set&&decide (r.set=0)||oth&&decide (r.oth=0))=false)(hb:(!FZ d.clus r||num&&(decide (r.n<0)||decide (65536<r.n)))=false)(h5:r.kind=5):Gm prog QC (Er 8 Dx) [] (Dp [.t 4] (Sz (.bool (DW d.clus r 3 true))))
  ⟨(2,true,.ptr 0 0)::(3,true,.ptr 1 0)::(5,true,.bool on)::(6,true,.bool set)::(7,true,.bool oth)::(8,true,.bool num)::(9,true,.bool by')::(10,true,.bool true)::X,hset (hset Ai 0 (.box (AL d))) 1 (.box (B1 r)),3⟩:=by
 have e1:∀(l:List Bs),decide ((0:Int)<(l.length:Int))=decide (0<l.length):=λl=>by
  rw[su,rn,rn];omega
 simp only[eZ,seval,re,r9,Dx,Er,MK,A0,BB,e1,hA1,hA2,U3,U4,s2,BR,Az,CA,Bg,hb,BS h5]
def rr4c(d:xk)(r:zj)(on set oth num by':Bool)(X:List (Nat×Bool×Fs))(hA1:(!on&&(!decide (r.on=[])|| !decide (r.fam=0))|| !set&&(decide (0<r.ns.length)|| !decide (r.set=0))|| !oth&&(decide (0<r.os.length)|| !decide (r.oth=0)))=false)(hA2:(on&&decide (r.on=[])||set&&decide (r.set=0)||oth&&decide (r.oth=0))=false)(hb:(!FZ d.clus r||num&&(decide (r.n<0)||decide (65536<r.n)))=false)(h5:¬r.kind=5)(h11:r.kind=11):Gm prog QC (Er 8 Dx) [] (Dp [.t 4] (Sz (.bool (DW d.clus r 1 false))))
  ⟨(2,true,.ptr 0 0)::(3,true,.ptr 1 0)::(5,true,.bool on)::(6,true,.bool set)::(7,true,.bool oth)::(8,true,.bool num)::(9,true,.bool by')::(10,true,.bool true)::X,hset (hset Ai 0 (.box (AL d))) 1 (.box (B1 r)),3⟩:=by
 have e1:∀(l:List Bs),decide ((0:Int)<(l.length:Int))=decide (0<l.length):=λl=>by
  rw[su,rn,rn];omega
 simp only[eZ,seval,re,r9,Dx,Er,MK,A0,BB,e1,hA1,hA2,U3,U4,s2,BR,Az,CA,Bg,hb,A3 h5,ra h11]
def rr4d(d:xk)(r:zj)(on set oth num by':Bool)(X:List (Nat×Bool×Fs))(hA1:(!on&&(!decide (r.on=[])|| !decide (r.fam=0))|| !set&&(decide (0<r.ns.length)|| !decide (r.set=0))|| !oth&&(decide (0<r.os.length)|| !decide (r.oth=0)))=false)(hA2:(on&&decide (r.on=[])||set&&decide (r.set=0)||oth&&decide (r.oth=0))=false)(hb:(!FZ d.clus r||num&&(decide (r.n<0)||decide (65536<r.n)))=false)(h5:¬r.kind=5)(h11:¬r.kind=11):Gm prog QC (Er 8 Dx) [] (Dp [.t 4] (Sz (.bool (true))))
  ⟨(2,true,.ptr 0 0)::(3,true,.ptr 1 0)::(5,true,.bool on)::(6,true,.bool set)::(7,true,.bool oth)::(8,true,.bool num)::(9,true,.bool by')::(10,true,.bool true)::X,hset (hset Ai 0 (.box (AL d))) 1 (.box (B1 r)),3⟩:=by
 have e1:∀(l:List Bs),decide ((0:Int)<(l.length:Int))=decide (0<l.length):=λl=>by
  rw[su,rn,rn];omega
 simp only[eZ,seval,re,rf,r9,Dx,Er,MK,A0,BB,e1,hA1,hA2,QC,s2,BR,Az,CA,Bg,hb,A3 h5,ri h11,AG]
def rr5a(d:xk)(r:zj)(on set oth num by':Bool)(X:List (Nat×Bool×Fs))(hA1:(!on&&(!decide (r.on=[])|| !decide (r.fam=0))|| !set&&(decide (0<r.ns.length)|| !decide (r.set=0))|| !oth&&(decide (0<r.os.length)|| !decide (r.oth=0)))=false)(hA2:(on&&decide (r.on=[])||set&&decide (r.set=0)||oth&&decide (r.oth=0))=false)(hA3:(!decide (r.op=0)|| !num&& !decide (r.n=0)|| !by'&&(!decide (r.byN=[])|| !decide (r.clue= -1)))=false)(hb:(num&&(decide (r.n<0)||decide (65536<r.n)))=true):Gm prog QC (Er 8 Dx) [] (Dp [.t 4] (Sz (.bool (false))))
  ⟨(2,true,.ptr 0 0)::(3,true,.ptr 1 0)::(5,true,.bool on)::(6,true,.bool set)::(7,true,.bool oth)::(8,true,.bool num)::(9,true,.bool by')::(10,true,.bool false)::X,hset (hset Ai 0 (.box (AL d))) 1 (.box (B1 r)),3⟩:=by
 have e1:∀(l:List Bs),decide ((0:Int)<(l.length:Int))=decide (0<l.length):=λl=>by
  rw[su,rn,rn];omega
 simp only[eZ,seval,rf,r9,Dx,Er,MK,A0,BB,e1,hA1,hA2,hA3,QC,s2,BR,Az,CA,Bg,hb,AG]
def rr5b(d:xk)(r:zj)(on set oth num by':Bool)(X:List (Nat×Bool×Fs))(hA1:(!on&&(!decide (r.on=[])|| !decide (r.fam=0))|| !set&&(decide (0<r.ns.length)|| !decide (r.set=0))|| !oth&&(decide (0<r.os.length)|| !decide (r.oth=0)))=false)(hA2:(on&&decide (r.on=[])||set&&decide (r.set=0)||oth&&decide (r.oth=0))=false)(hA3:(!decide (r.op=0)|| !num&& !decide (r.n=0)|| !by'&&(!decide (r.byN=[])|| !decide (r.clue= -1)))=false)(hb:(num&&(decide (r.n<0)||decide (65536<r.n)))=false)(h5:r.kind=5):Gm prog QC (Er 8 Dx) [] (Dp [.t 4] (Sz (.bool (DW d.clus r 3 true))))
  ⟨(2,true,.ptr 0 0)::(3,true,.ptr 1 0)::(5,true,.bool on)::(6,true,.bool set)::(7,true,.bool oth)::(8,true,.bool num)::(9,true,.bool by')::(10,true,.bool false)::X,hset (hset Ai 0 (.box (AL d))) 1 (.box (B1 r)),3⟩:=by
 have e1:∀(l:List Bs),decide ((0:Int)<(l.length:Int))=decide (0<l.length):=λl=>by
  rw[su,rn,rn];omega
 simp only[eZ,seval,rf,r9,Dx,Er,MK,A0,BB,e1,hA1,hA2,hA3,U3,U4,s2,BR,Az,CA,Bg,hb,BS h5]
def rr5c(d:xk)(r:zj)(on set oth num by':Bool)(X:List (Nat×Bool×Fs))(hA1:(!on&&(!decide (r.on=[])|| !decide (r.fam=0))|| !set&&(decide (0<r.ns.length)|| !decide (r.set=0))|| !oth&&(decide (0<r.os.length)|| !decide (r.oth=0)))=false)(hA2:(on&&decide (r.on=[])||set&&decide (r.set=0)||oth&&decide (r.oth=0))=false)(hA3:(!decide (r.op=0)|| !num&& !decide (r.n=0)|| !by'&&(!decide (r.byN=[])|| !decide (r.clue= -1)))=false)(hb:(num&&(decide (r.n<0)||decide (65536<r.n)))=false)(h5:¬r.kind=5)(h11:r.kind=11):Gm prog QC (Er 8 Dx) [] (Dp [.t 4] (Sz (.bool (DW d.clus r 1 false))))
  ⟨(2,true,.ptr 0 0)::(3,true,.ptr 1 0)::(5,true,.bool on)::(6,true,.bool set)::(7,true,.bool oth)::(8,true,.bool num)::(9,true,.bool by')::(10,true,.bool false)::X,hset (hset Ai 0 (.box (AL d))) 1 (.box (B1 r)),3⟩:=by
 have e1:∀(l:List Bs),decide ((0:Int)<(l.length:Int))=decide (0<l.length):=λl=>by
  rw[su,rn,rn];omega
 simp only[eZ,seval,re,rf,r9,Dx,Er,MK,A0,BB,e1,hA1,hA2,hA3,U3,U4,s2,BR,Az,CA,Bg,hb,A3 h5,ra h11]
def rr5d(d:xk)(r:zj)(on set oth num by':Bool)(X:List (Nat×Bool×Fs))(hA1:(!on&&(!decide (r.on=[])|| !decide (r.fam=0))|| !set&&(decide (0<r.ns.length)|| !decide (r.set=0))|| !oth&&(decide (0<r.os.length)|| !decide (r.oth=0)))=false)(hA2:(on&&decide (r.on=[])||set&&decide (r.set=0)||oth&&decide (r.oth=0))=false)(hA3:(!decide (r.op=0)|| !num&& !decide (r.n=0)|| !by'&&(!decide (r.byN=[])|| !decide (r.clue= -1)))=false)(hb:(num&&(decide (r.n<0)||decide (65536<r.n)))=false)(h5:¬r.kind=5)(h11:¬r.kind=11):Gm prog QC (Er 8 Dx) [] (Dp [.t 4] (Sz (.bool (true))))
  ⟨(2,true,.ptr 0 0)::(3,true,.ptr 1 0)::(5,true,.bool on)::(6,true,.bool set)::(7,true,.bool oth)::(8,true,.bool num)::(9,true,.bool by')::(10,true,.bool false)::X,hset (hset Ai 0 (.box (AL d))) 1 (.box (B1 r)),3⟩:=by
 have e1:∀(l:List Bs),decide ((0:Int)<(l.length:Int))=decide (0<l.length):=λl=>by
  rw[su,rn,rn];omega
 simp only[eZ,seval,re,rf,r9,Dx,Er,MK,A0,BB,e1,hA1,hA2,hA3,QC,s2,BR,Az,CA,Bg,hb,A3 h5,ri h11,AG]
theorem WU(d:xk)(r:zj)(on set oth num by' lim:Bool)(X:List (Nat×Bool×Fs)):Gm prog QC (Er 8 Dx) [] (Dp [.t 4] (Sz (.bool (cz d.clus r on set oth num by' lim))))
  ⟨(2,true,.ptr 0 0)::(3,true,.ptr 1 0)::(5,true,.bool on)::(6,true,.bool set)::(7,true,.bool oth)::(8,true,.bool num)::(9,true,.bool by')::(10,true,.bool lim)::X,hset (hset Ai 0 (.box (AL d))) 1 (.box (B1 r)),3⟩:=by
 unfold cz;simp only[ne_eq,decide_not];cases hA1:(!on&&(!decide (r.on=[])|| !decide (r.fam=0))|| !set&&(decide (0<r.ns.length)|| !decide (r.set=0))|| !oth&&(decide (0<r.os.length)|| !decide (r.oth=0)))with
 |true=>rw[rt rfl];exact rr1 d r on set oth num by' lim X hA1
 |false=>
 rw[rj zd];cases hA2:(on&&decide (r.on=[])||set&&decide (r.set=0)||oth&&decide (r.oth=0))with
 |true=>rw[rt rfl];exact rr2 d r on set oth num by' lim X hA1 hA2
 |false=>
 rw[rj zd];cases lim with
 |true=>
  rw[re,sV,rj zd,sS];cases hb:(!FZ d.clus r||num&&(decide (r.n<0)||decide (65536<r.n)))with
  |true=>rw[rt rfl];exact rr4a d r on set oth num by' X hA1 hA2 hb
  |false=>
  rw[rj zd];by_cases h5:r.kind=5
  ·rw[rt h5];exact rr4b d r on set oth num by' X hA1 hA2 hb h5
  rw[rj h5];by_cases h11:r.kind=11
  ·rw[rt h11];exact rr4c d r on set oth num by' X hA1 hA2 hb h5 h11
  rw[rj h11];exact rr4d d r on set oth num by' X hA1 hA2 hb h5 h11
 |false=>
  rw[rf,sS,sV,tH];cases hA3:(!decide (r.op=0)|| !num&& !decide (r.n=0)|| !by'&&(!decide (r.byN=[])|| !decide (r.clue= -1)))with
  |true=>rw[rt rfl];exact rr3 d r on set oth num by' X hA1 hA2 hA3
  |false=>
  rw[rj zd];cases hb:(num&&(decide (r.n<0)||decide (65536<r.n)))with
  |true=>rw[rt rfl];exact rr5a d r on set oth num by' X hA1 hA2 hA3 hb
  |false=>
  rw[rj zd];by_cases h5:r.kind=5
  ·rw[rt h5];exact rr5b d r on set oth num by' X hA1 hA2 hA3 hb h5
  rw[rj h5];by_cases h11:r.kind=11
  ·rw[rt h11];exact rr5c d r on set oth num by' X hA1 hA2 hA3 hb h5 h11
  rw[rj h11];exact rr5d d r on set oth num by' X hA1 hA2 hA3 hb h5 h11
def p177(d:xk)(r:zj):Aw prog 177 [B5 d,Br r] (.bool (FT d.clus r)):=by
 refine .mk ⟨As 0 d,BN 0 r,zt⟩ zt (Dx.a (AI kT (AJ ?_)));have hrest:=WU d r;rw[YT];rw[gb];have hrr:∀on set oth num by' lim rdb clue,DQ r.kind=⟨on,set,oth,lim,num,rdb,true,clue⟩->by'=decide (clue≠0)->LN d.clus r=cz d.clus r on set oth num by' lim:=λon set oth num by' lim rdb clue h q=>by
  subst q;unfold LN cz;rw[h];rfl
 by_cases hk:r.kind<1\/13<r.kind
 ·have hR:LN d.clus r=false:=by
   have hkn:(DQ r.kind).knw=false:=by unfold DQ;repeat rw[rj zo]
   unfold LN;simp only[];rw[rt hkn]
  have n1:(r.kind=1)=False:=ri zo;have n2:(r.kind=2)=False:=ri zo;have n3:(r.kind=3)=False:=ri zo;have n4:(r.kind=4)=False:=ri zo;have n5:(r.kind=5)=False:=ri zo;have n6:(r.kind=6)=False:=ri zo;have n7:(r.kind=7)=False:=ri zo;have n8:(r.kind=8)=False:=ri zo;have n9:(r.kind=9)=False:=ri zo;have n10:(r.kind=10)=False:=ri zo;have n11:(r.kind=11)=False:=ri zo;have n12:(r.kind=12)=False:=ri zo;have n13:(r.kind=13)=False:=ri zo;rw[hR];generalize Er 8 Dx=R;simp only[eZ,seval,Dx,cw,n1,n2,n3,n4,n5,n6,n7,n8,n9,n10,n11,n12,n13]
 generalize Er 8 Dx=R at hrest⊢;have my:r.kind=1\/r.kind=2\/r.kind=3\/r.kind=4\/r.kind=5\/r.kind=6\/r.kind=7\/r.kind=8\/r.kind=9\/r.kind=10\/r.kind=11\/r.kind=12\/r.kind=13:=zo
 rcases my with my|my|my|my|my|my|my|my|my|my|my|my|my
 all_goals
  rw[hrr _ _ _ _ _ _ _ _ (by rw[my];rfl) rfl];simp only[eZ,seval,Dx,cw,my];exact hrest _ _ _ _ _ _ _
def Tfo:Bc:=AG 177 (s2 dD Mk bV λd r=>.bool (FT d.clus r)) (AG 178 (s1 dCl KR λc=>.bool (D0 c)) tnil)
def kU:AH prog Tfo:=(AH.tnil.add (q1 λc _=>p178 c)).add (q2 λd r _=>p177 d r)
def p122(d:xk)(hd:zk d):Aw prog 122 [B5 d] (.bool (B9 d)):=by
 refine .mk ⟨As 0 d,zt⟩ zt (pb.a (AI kU (AJ ?_)));have ye:d.syms.length<1000000000:=hd.sy;have hrl:d.ruls.length<1000000000:=hd.ru;have wo:d.clus.length<1000000000:=hd.cl;simp only[eE,eN,seval,pb];refine AO (λi:Nat=>⟨[(1,true,.ptr 0 0),(3,true,.int .i64 i)],hset Ai 0 (.box (AL d)),2⟩) (λi=>i<=d.syms.length/\(d.syms.all λs=>decide (0<=s.v)&&decide (s.v<=99))=((d.syms.drop i).all λs=>decide (0<=s.v)&&decide (s.v<=99))) (λi=>d.syms.length-i)
  0 rfl ⟨rm _,rfl⟩ ?_
 rintro i ⟨hi,e9⟩;by_cases c9:i<d.syms.length
 ·have hg:=rc c9;have e:=AK (k:=i) zo;rw[Ij c9]at e9;generalize d.syms[i]=s at hg e9;by_cases hs:0<=s.v/\s.v<=99
  ·have hb:(decide (s.v<0)||decide (99<s.v))=false:=by simp;omega
   simp only[eZ,seval,eY,AN c9,hg,e,hb];exact .mk (i+1) rfl ⟨c9,by rw[e9,BS hs.1,BS hs.2];rfl⟩ zo
  ·have hb:(decide (s.v<0)||decide (99<s.v))=true:=by simp;omega
   have hR:B9 d=false:=by
    unfold B9;rw[e9,show(decide (0<=s.v)&&decide (s.v<=99))=false by simp;omega];rfl
   rw[hR];simp only[eZ,seval,eY,AN c9,hg,hb]
 obtain rfl:i=d.syms.length:=zo
 rw[sK]at e9;simp only[eZ,seval,r9,Ad c9];refine AO (λi:Nat=>⟨[(1,true,.ptr 0 0),(4,true,.int .i64 i)],hset Ai 0 (.box (AL d)),2⟩) (λi=>i<=d.ruls.length/\d.ruls.all (FT d.clus)=(d.ruls.drop i).all (FT d.clus)) (λi=>d.ruls.length-i)
  0 rfl ⟨rm _,rfl⟩ ?_
 rintro k ⟨hk,s7⟩;by_cases wx:k<d.ruls.length
 ·have hg:=rc wx;have e:=AK (k:=k) zo;rw[Ij wx]at s7;generalize d.ruls[k]=r at hg s7;cases hr:FT d.clus r with
  |false=>
   have hR:B9 d=false:=by
    unfold B9;rw[s7,hr];simp
   rw[hR];simp only[eZ,seval,rf,eY,AN wx,hg,Tfo,s2,BR,Az,CA,Bg,hr,AG]
  |true=>
   rw[hr,sS]at s7;simp only[eZ,seval,re,eY,AN wx,hg,Tfo,s2,BR,Az,CA,Bg,hr,e,AG];exact .mk (k+1) rfl ⟨wx,s7⟩ zo
 obtain rfl:k=d.ruls.length:=zo
 rw[sK]at s7;simp only[eZ,seval,r9,Ad wx];refine AO (λj:Nat=>⟨[(1,true,.ptr 0 0),(5,true,.int .i64 j)],hset Ai 0 (.box (AL d)),2⟩) (λi=>i<=d.clus.length/\∀j (h:j<d.clus.length),j<i->Ei d.ruls j=1/\D0 d.clus[j]=true) (λi=>d.clus.length-i)
  0 rfl ⟨rm _,λj h q=>absurd q (td _)⟩ ?_
 rintro j ⟨hj,wm⟩;by_cases l9:j<d.clus.length
 ·have hg:=rc l9;have ej:=AK (k:=j) zo;have v9:¬(Ei d.ruls j=1/\D0 d.clus[j]=true)->B9 d=false:=λq=>by
   unfold B9;rw[e9,s7];cases q1:((List.range d.clus.length).all λi=>decide (Ei d.ruls i=1))with
   |false=>rfl
   |true=>
   cases q2:d.clus.all D0 with
   |false=>rfl
   |true=>exact absurd ⟨t5 (sg.1 q1 j (t9.2 l9)),sg.1 q2 _ (rY l9)⟩ q
  have xe:Ei d.ruls j=1/\D0 d.clus[j]=true->∀q (h:q<d.clus.length),q<j+1->Ei d.ruls q=1/\D0 d.clus[q]=true:=λz q h hq=>by
   by_cases w:q=j
   ·subst w;exact z
   ·exact wm q h zo
  generalize hx:d.clus[j]=x at hg v9 xe;simp only[eZ,seval,r9,AN l9];refine AO (λk:Nat=>⟨[(1,true,.ptr 0 0),(5,true,.int .i64 j),(6,true,.int .i64 (Je (d.ruls.take k) j)),(7,true,.int .i64 k)],hset Ai 0 (.box (AL d)),2⟩) (λk=>k<=d.ruls.length) (λk=>d.ruls.length-k)
   0 rfl (rm _) ?_
  intro k hk;by_cases wx:k<d.ruls.length
  ·have hgk:=rc wx;have ek:=AK (k:=k) zo;have l5:d.ruls.take (k+1)=d.ruls.take k++[d.ruls[k]]:=by rw[sf,rc wx];rfl
   have hcle:=bq (d.ruls.take k) (j:Int);rw[sD]at hcle;have ew:=AK (k:=Je (d.ruls.take k) (j:Int)) zo;generalize d.ruls[k]=r at hgk l5;have hcn:=WK (d.ruls.take k) r (j:Int);rw[<-l5]at hcn;by_cases hrc:r.clue=j
   ·rw[rt hrc]at hcn;simp only[eZ,seval,eY,AN wx,hgk,ek,ra hrc,ew];exact .mk (k+1) (by simp only[hcn]) wx zo
   ·replace hcn:Je (d.ruls.take (k+1)) (j:Int)=Je (d.ruls.take k) (j:Int):=by rw[hcn,rj hrc];rfl
    simp only[eZ,seval,eY,AN wx,hgk,ek,ri hrc];exact .mk (k+1) (by simp only[hcn]) wx zo
  obtain rfl:k=d.ruls.length:=zo
  have hmc0:Je d.ruls (j:Int)=Ei d.ruls j:=TA _ _;by_cases hmc:Ei d.ruls j=1
  ·have hmb:(((Ei d.ruls j:Nat):Int)=1)=True:=ra zo;cases hc:D0 x with
   |false=>
    rw[v9 (by rw[hc];simp)];simp only[eZ,seval,re,rf,eY,Ad wx,se,hmc0,hmb,AN l9,hg,Tfo,s1,Jc,HT,hc,AG]
   |true=>
    simp only[eZ,seval,re,eY,Ad wx,se,hmc0,hmb,AN l9,hg,Tfo,s1,Jc,HT,hc,ej,AG];exact .mk (j+1) rfl ⟨l9,λq h z=>xe ⟨hmc,hc⟩ q h z⟩ zo
  ·have hmb:(((Ei d.ruls j:Nat):Int)=1)=False:=ri zo;rw[v9 (λq=>hmc q.1)];simp only[eZ,seval,re,rf,eY,Ad wx,se,hmc0,hmb]
 obtain rfl:j=d.clus.length:=zo
 have hR:B9 d=true:=by
  have z2:d.clus.all D0=true:=sg.2 λq hq=>by
   obtain⟨m,hm,rfl⟩:=sH.1 hq;exact(wm m hm hm).2
  unfold B9;rw[e9,s7,sg.2 λq hq=>sk (wm q (t9.1 hq) (t9.1 hq)).1,z2];rfl
 rw[hR];simp only[eZ,seval,r9,Ad l9]
def p117:Aw prog 117 [] (FH CW):=by
 refine .mk zt (CN 0 _) (bH.a (AI AH.tnil (AJ ?_)));simp only[eE,eN,seval,bH];exact Wk.sl (.inl rfl)
def Cw(l:List Bs)(s:Bs):Fs:=match BY l s with
 |some i=>.tup [.int .i64 i,.bool true]
 |none=>.tup [.int .i64 0,.bool false]
def JJ(n:Nat)(l:List Bs)(s:Bs):(Cw l s).under n:=by unfold Cw;split<;>exact⟨zt,zt,zt⟩
def MU{α:Type}(f:α->Bs){l:List α}{s:Bs}{i:Nat}(hi:i<l.length)(h:f l[i]=s)(hb:∀k (hk:k<l.length),k<i->¬f l[k]=s):BY (l.map f) s=some (i:Int):=by
 unfold BY;rw[sM.2 ⟨by simpa using hi,by simpa using h,λj hj=>by simpa using hb j zo hj⟩];rfl
def Jm{α:Type}(f:α->Bs){l:List α}{s:Bs}(hb:∀k (hk:k<l.length),¬f l[k]=s):BY (l.map f) s=none:=by
 rw[Cn];intro h;obtain⟨y,hy,e⟩:=t7.1 h;obtain⟨k,hk,rfl⟩:=sH.1 hy;exact hb k hk e
def p255(d:xk)(s:Bs)(hd:zk d):Aw prog 255 [B5 d,.str s] (Cw (d.syms.map (·.nm)) s):=by
 refine .mk ⟨As 0 d,zt,zt⟩ (JJ 0 _ _) (pi.a (AI AH.tnil (AJ ?_)));have am:d.syms.length<1000000000:=hd.sy;simp only[eE,eN,seval,pi];refine AO (λi:Nat=>⟨[(1,true,.str s),(2,true,.ptr 0 0),(6,true,.int .i64 i)],hset Ai 0 (.box (AL d)),3⟩) (λi=>i<=d.syms.length/\∀k (hk:k<d.syms.length),k<i->¬d.syms[k].nm=s) (λi=>d.syms.length-i)
  0 rfl ⟨rm _,λk _ q=>absurd q (td _)⟩ ?_
 rintro i ⟨hi,hb⟩;by_cases c9:i<d.syms.length
 ·have hg:=rc c9;have e:=AK (k:=i) zo;have hhit:=λq=>MU (λx=>x.nm) (s:=s) c9 q hb
  have hnx:¬d.syms[i].nm=s->∀k (hk:k<d.syms.length),k<i+1->¬d.syms[k].nm=s:=λq k hk h=>by
   by_cases z:k=i
   ·subst z;exact q
   ·exact hb k hk zo
  generalize d.syms[i]=x at hg hhit hnx;by_cases hx:x.nm=s
  ·have hR:Cw (d.syms.map (·.nm)) s= .tup [.int .i64 i,.bool true]:=by unfold Cw;rw[hhit hx]
   rw[hR];simp only[eZ,seval,eY,AN c9,hg,BB,BS hx];exact Wk.refl _
  ·simp only[eZ,seval,eY,AN c9,hg,e,BB,A3 hx];exact .mk (i+1) rfl ⟨c9,hnx hx⟩ zo
 obtain rfl:i=d.syms.length:=zo
 have hR:Cw (d.syms.map (·.nm)) s= .tup [.int .i64 0,.bool false]:=by unfold Cw;rw[Jm _ λk hk=>hb k hk hk]
 rw[hR];simp only[eZ,seval,r9,Ad c9];exact Wk.refl _
def p233(d:xk)(s:Bs)(hd:zk d):Aw prog 233 [B5 d,.str s] (Cw (d.clus.map (·.nm)) s):=by
 refine .mk ⟨As 0 d,zt,zt⟩ (JJ 0 _ _) (pj.a (AI AH.tnil (AJ ?_)));have am:d.clus.length<1000000000:=hd.cl;simp only[eE,eN,seval,pj];refine AO (λi:Nat=>⟨[(1,true,.str s),(2,true,.ptr 0 0),(6,true,.int .i64 i)],hset Ai 0 (.box (AL d)),3⟩) (λi=>i<=d.clus.length/\∀k (hk:k<d.clus.length),k<i->¬d.clus[k].nm=s) (λi=>d.clus.length-i)
  0 rfl ⟨rm _,λk _ q=>absurd q (td _)⟩ ?_
 rintro i ⟨hi,hb⟩;by_cases c9:i<d.clus.length
 ·have hg:=rc c9;have e:=AK (k:=i) zo;have hhit:=λq=>MU (λx=>x.nm) (s:=s) c9 q hb
  have hnx:¬d.clus[i].nm=s->∀k (hk:k<d.clus.length),k<i+1->¬d.clus[k].nm=s:=λq k hk h=>by
   by_cases z:k=i
   ·subst z;exact q
   ·exact hb k hk zo
  generalize d.clus[i]=x at hg hhit hnx;by_cases hx:x.nm=s
  ·have hR:Cw (d.clus.map (·.nm)) s= .tup [.int .i64 i,.bool true]:=by unfold Cw;rw[hhit hx]
   rw[hR];simp only[eZ,seval,eY,AN c9,hg,BB,BS hx];exact Wk.refl _
  ·simp only[eZ,seval,eY,AN c9,hg,e,BB,A3 hx];exact .mk (i+1) rfl ⟨c9,hnx hx⟩ zo
 obtain rfl:i=d.clus.length:=zo
 have hR:Cw (d.clus.map (·.nm)) s= .tup [.int .i64 0,.bool false]:=by unfold Cw;rw[Jm _ λk hk=>hb k hk hk]
 rw[hR];simp only[eZ,seval,r9,Ad c9];exact Wk.refl _
def sGv:List Fs->AB->Prop×Fs:=λa _=>match a with
 |[]=>(True,FH CW)
 |_=>(False,.tup [])
def qGv:∀args H n,(sGv args H).1->Ao prog 117 args H n (sGv args H).2:=by
 intro args H n hh;unfold sGv at hh⊢;split at hh
 ·exact p117.quiet H n
 ·exact hh.elim
def Tgv:Bc:=AG 117 sGv tnil
def kV:AH prog Tgv:=AH.tnil.add qGv
def p171(d:xk)(s:Bs)(hd:zk d):Aw prog 171 [B5 d,.str s] (Cw (By d) s):=by
 refine .mk ⟨As 0 d,zt,zt⟩ (JJ 0 _ _) (ph.a (AI kV (AJ ?_)));have am:d.regs.length<1000000000:=hd.rg;have l7:=gn d s;obtain⟨G,hG⟩:∃G:List Bs,G=CW:=⟨_,rfl⟩;have hGl:G.length=8:=by rw[hG];rfl
 rw[<-hG]at l7;have hsg:sGv []=λ_=>(True,FH G):=by rw[hG];rfl
 simp only[eE,eN,seval,ph,Tgv,hsg,AG];refine AO (λi:Nat=>⟨[(1,true,.str s),(2,true,.ptr 0 0),(6,true,FH G),(7,true,.int .i64 i)],hset Ai 0 (.box (AL d)),3⟩) (λi=>i<=G.length/\∀k (hk:k<G.length),k<i->¬G[k]=s) (λi=>G.length-i)
  0 rfl ⟨rm _,λk _ q=>absurd q (td _)⟩ ?_
 rintro i ⟨hi,hb⟩;by_cases c9:i<G.length
 ·have hg:=rc c9;have e:=AK (k:=i) zo;have hhit:=λq=>MU (λx:Bs=>x) (s:=s) c9 q hb
  rw[show G.map (λx:Bs=>x)=G from vg _]at hhit;have hnx:¬G[i]=s->∀k (hk:k<G.length),k<i+1->¬G[k]=s:=λq k hk h=>by
   by_cases z:k=i
   ·subst z;exact q
   ·exact hb k hk zo
  generalize G[i]=x at hg hhit hnx;by_cases hx:x=s
  ·have hR:Cw (By d) s= .tup [.int .i64 i,.bool true]:=by unfold Cw;rw[l7,hhit hx]
   rw[hR];simp only[eZ,seval,eY,AN c9,hg,BB,BS hx];exact Wk.refl _
  ·simp only[eZ,seval,eY,AN c9,hg,e,BB,A3 hx];exact .mk (i+1) rfl ⟨c9,hnx hx⟩ zo
 obtain rfl:i=G.length:=zo
 have s8:BY G s=none:=by
  have:=Jm (λx:Bs=>x) (l:=G) (s:=s) λk hk=>hb k hk hk
  rw[show G.map (λx:Bs=>x)=G from vg _]at this;exact this
 rw[s8]at l7;simp only at l7;simp only[eZ,seval,r9,Ad c9];refine AO (λi:Nat=>⟨[(1,true,.str s),(2,true,.ptr 0 0),(8,true,.int .i64 i)],hset Ai 0 (.box (AL d)),3⟩) (λi=>i<=d.regs.length/\∀k (hk:k<d.regs.length),k<i->¬d.regs[k].nm=s) (λi=>d.regs.length-i)
  0 rfl ⟨rm _,λk _ q=>absurd q (td _)⟩ ?_
 rintro i ⟨hi,hb⟩;by_cases hlt2:i<d.regs.length
 ·have hg:=rc hlt2;have e:=AK (k:=i) zo;have e8:IntKind.wrap .i64 (8+(i:Int))=8+(i:Int):=A6 zo zo;have hhit:=λq=>MU (λx:xj=>x.nm) (s:=s) hlt2 q hb
  have hnx:¬d.regs[i].nm=s->∀k (hk:k<d.regs.length),k<i+1->¬d.regs[k].nm=s:=λq k hk h=>by
   by_cases z:k=i
   ·subst z;exact q
   ·exact hb k hk zo
  generalize d.regs[i]=x at hg hhit hnx;by_cases hx:x.nm=s
  ·have hR:Cw (By d) s= .tup [.int .i64 (8+(i:Int)),.bool true]:=by unfold Cw;rw[l7,hhit hx];rfl
   rw[hR];simp only[eZ,seval,eY,AN hlt2,hg,e8,BB,BS hx];exact Wk.refl _
  ·simp only[eZ,seval,eY,AN hlt2,hg,e,BB,A3 hx];exact .mk (i+1) rfl ⟨hlt2,hnx hx⟩ zo
 obtain rfl:i=d.regs.length:=zo
 have hR:Cw (By d) s= .tup [.int .i64 0,.bool false]:=by unfold Cw;rw[l7,Jm (λx:xj=>x.nm) λk hk=>hb k hk hk];rfl
 rw[hR];simp only[eZ,seval,r9,Ad hlt2];exact Wk.refl _
def Ot{l:List Bs}:Ap l=true↔∃(a b:Nat) (ha:a<l.length) (hb:b<l.length),b<a/\l[a]=l[b]:=by
 constructor
 ·intro h;apply Classical.byContradiction;intro q;have:Ap l=false:=DB.2 (List.nodup_iff_pairwise_ne.2 (tU.2 λi j hi hj hij e=>q ⟨j,i,hj,hi,hij,e.symm⟩));rw[this]at h;cases h
 ·rintro⟨a,b,ha,hb,wv,e⟩;cases h:Ap l with
  |true=>rfl
  |false=>exact absurd e.symm (tU.1 (List.nodup_iff_pairwise_ne.1 (DB.1 h)) b a hb ha wv)
def kW(l:List Bs)(hl:An l):Aw prog 116 [FH l] (.bool (Ap l)):=by
 refine .mk ⟨CN 0 _,zt⟩ zt (pk.a (AI AH.tnil (AJ ?_)));have am:l.length<1000000000:=hl;simp only[eE,eN,seval,pk];refine AO (λa:Nat=>⟨[(0,true,FH l),(3,true,.int .i64 a)],Ai,0⟩) (λa=>a<=l.length/\∀x y (hx:x<l.length) (hy:y<l.length),x<a->y<x->¬l[x]=l[y]) (λa=>l.length-a)
  0 rfl ⟨rm _,λx y _ _ q=>absurd q (td _)⟩ ?_
 rintro a ⟨ha,s8⟩;by_cases hla:a<l.length
 ·have hga:=rc hla;have ea:=AK (k:=a) zo;simp only[eZ,seval,r9,AN hla];refine AO (λb:Nat=>⟨[(0,true,FH l),(3,true,.int .i64 a),(4,true,.int .i64 b)],Ai,0⟩) (λb=>b<=a/\∀y (hy:y<l.length),y<b->¬l[a]=l[y]) (λb=>a-b)
   0 rfl ⟨rm _,λy _ q=>absurd q (td _)⟩ ?_
  rintro b ⟨z9,xb⟩;by_cases hlb:b<a
  ·have hbl:b<l.length:=zo
   have hgb:=rc hbl;have eb:=AK (k:=b) zo;by_cases wm:l[a]=l[b]
   ·have hR:Ap l=true:=Ot.2 ⟨a,b,hla,hbl,hlb,wm⟩;rw[hR];generalize l[a]=la at hga wm;generalize l[b]=lb at hgb wm;simp only[eZ,seval,eY,AN hlb,AN hla,AN hbl,hga,hgb,BB,BS wm]
   ·have hnx:∀y (hy:y<l.length),y<b+1->¬l[a]=l[y]:=λy hy q=>by
     by_cases z:y=b
     ·subst z;exact wm
     ·exact xb y hy zo
    generalize hA:l[a]=la at hga wm;generalize hB:l[b]=lb at hgb wm;simp only[eZ,seval,eY,AN hlb,AN hla,AN hbl,hga,hgb,BB,A3 wm,eb];exact .mk (b+1) rfl ⟨hlb,λy hy q=>by rw[<-hA];exact hnx y hy q⟩ zo
  obtain rfl:b=a:=zo
  simp only[eZ,seval,Ad hlb,ea];refine .mk (b+1) rfl ⟨hla,λx y hx hy q1 q2=>?_⟩ zo;by_cases z:x=b
  ·subst z;exact xb y hy q2
  ·exact s8 x y hx hy zo q2
 obtain rfl:a=l.length:=zo
 have hR:Ap l=false:=by
  cases q:Ap l with
  |false=>rfl
  |true=>
   obtain⟨x,y,hx,hy,hxy,h2⟩:=Ot.1 q;exact absurd h2 (s8 x y hx hy hx hxy)
 rw[hR];simp only[eZ,seval,r9,Ad hla]
def WV(l ss:List Bs):Fs:=match Cy l ss with
 |some n=>.tup [.int .i64 n,.bool true]
 |none=>.tup [.int .i64 0,.bool false]
def Tsy:Bc:=AG 255 (s2 dD dS (λd _=>zk d) λd s=>Cw (d.syms.map (·.nm)) s) tnil
def kX:AH prog Tsy:=AH.tnil.add (q2 p255)
def p232(d:xk)(ss:List Bs)(hd:zk d)(wh:d.syms.length<=16)(xn:wide ss):Aw prog 232 [B5 d,FH ss] (WV (d.syms.map (·.nm)) ss):=by
 refine .mk ⟨As 0 d,CN 0 _,zt⟩ (by unfold WV;split<;>exact⟨zt,zt,zt⟩) (pm.a (AI kX (AJ ?_)));have ye:ss.length<1125899906842624:=xn;unfold WV;rw[<-RP];generalize hl:d.syms.map (·.nm)=l;have am:l.length<=16:=by rw[<-hl,r9];exact wh
 simp only[eE,eN,seval,pm];refine AO (λv:Nat×Nat=>⟨[(1,true,FH ss),(2,true,.ptr 0 0),(6,true,.int .i64 v.2),(7,true,.int .i64 v.1)],hset Ai 0 (.box (AL d)),3⟩) (λv=>v.1<=ss.length/\v.2<65536/\Fy l 0 ss=Fy l v.2 (ss.drop v.1)) (λv=>ss.length-v.1) (0,0) rfl ⟨rm _,zd,rfl⟩ ?_;rintro⟨i,acc⟩ ⟨hi,yg,heq⟩;simp only at hi yg heq;by_cases c9:i<ss.length
 ·have hg:=rc c9;have e:=AK (k:=i) zo;rw[sn c9,Lc]at heq;generalize ss[i]=s at hg heq;cases s8:BY l s with
  |none=>
   have to:Cw l s= .tup [.int .i64 0,.bool false]:=by unfold Cw;rw[s8]
   rw[s8]at heq;simp only at heq;rw[heq];simp only[eZ,seval,rf,eY,AN c9,hg,Tsy,s2,BR,Az,Ho,Fb,ra hd,hl,to,AG];exact Wk.refl _
  |some k=>
   have to:Cw l s= .tup [.int .i64 k,.bool true]:=by unfold Cw;rw[s8]
   rw[s8]at heq;simp only at heq;obtain⟨h0,h1⟩:=P0 s8;obtain⟨j,rfl⟩:∃j:Nat,k=j:=⟨k.toNat,zo⟩;rw[rr]at heq;simp only[eZ,seval,re,eY,AN c9,hg,Tsy,s2,BR,Az,Ho,Fb,ra hd,hl,to,Ux (show j<16 by omega),YC yg (P8 (show j<16 by omega)),e,AG];exact .mk (i+1,acc|||1<<<j) rfl ⟨c9,Nat.or_lt_two_pow (n:=16) yg (P8 zo),heq⟩ zp
 obtain rfl:i=ss.length:=zo
 rw[sK,Mn]at heq;rw[heq];simp only[eZ,seval,r9,Ad c9];exact Wk.refl _
section
structure VNm where
 i:Nat
 tk:w8
 H:AB
 n:Nat
structure INm(d:xk)(lo m:Nat)(ns:List Bs)(v:VNm):Prop where
 hi:v.i<=m
 fr:AP v.H v.n
 hn:lo<=v.n
 h0:AD v.H 0=some (.box (AL d))
 tok:DA 1 lo v.H v.tk
 es:v.tk.esz=1\/ns=[]
def D7{t:w8}{l:List Bs}(ht:t.esz=1\/l=[]):I1.ok (.sl t (l.map .str))=True:=ra ⟨ht.imp id λq=>by rw[q];rfl,by rw[Cm]⟩
def DJ{t:w8}(l:List Bs):I1.dec (.sl t (l.map .str))=l:=Cm l
def tw:Bc:=AG 116 (s1 I1 An λl=>.bool (Ap l)) tnil
def twS:List Fs->AB->Prop×Fs:=s1 I1 An λl=>.bool (Ap l)
structure VRs(α:Type) where
 i:Nat
 tk:w8
 dn:List α
 H:AB
 n:Nat
structure IRs{α β:Type}(d:xk)(e:Nat)(l:List α)(f:α->Option β)(v:VRs β):Prop where
 hi:v.i<=l.length
 dl:v.dn.length=v.i
 fr:AP v.H v.n
 hn:3<=v.n
 h0:AD v.H 0=some (.box (AL d))
 tok:DA e 3 v.H v.tk
 es:v.tk.esz=e\/v.dn=[]
 eq:Aq f l=(Aq f (l.drop v.i)).map λr=>v.dn++r
variable {α:Type}
def Mt(init:List Bs)(f:α->Bs)(l:List α)(i:Nat):List Bs:=init++(l.take i).map f
theorem Jn(init:List Bs)(f:α->Bs){l:List α}{i:Nat}(h:i<l.length):Mt init f l (i+1)=Mt init f l i++[f l[i]]:=by
 unfold Mt;rw[map_take h,sJ]
theorem MV(init:List Bs)(f:α->Bs)(l:List α)(i:Nat):(Mt init f l i).length<=init.length+i:=by
 unfold Mt;rw[sm,r9,sD];omega
theorem MW(init:List Bs)(f:α->Bs)(l:List α):Mt init f l l.length=init++l.map f:=by
 unfold Mt;rw[se]
def D8(d:xk):Fs:=if Ap (d.clus.map λx:x8=>x.nm)=true then .tup [E6 [],.int .i64 161]else match Aq (CI d) d.clus with
 |none=>.tup [E6 [],.int .i64 160]
 |some cs=>.tup [E6 cs,.int .i64 0]
def Tcv:Bc:=AG 116 twS (AG 171 (s2 dD dS (λd _=>zk d) λd s=>Cw (By d) s) tnil)
theorem kY:AH prog Tcv:=(AH.tnil.add (q2 p171)).add (q1 kW)
theorem ik(a:List Fs)(H:AB):Tcv 116 a H=s1 I1 An (λl=>.bool (Ap l)) a H:=rfl
theorem ip(a:List Fs)(H:AB):Tcv 171 a H=s2 dD dS (λd _=>zk d) (λd s=>Cw (By d) s) a H:=rfl
theorem kZ{a b:Fs}{e:Int}(h:Wk a b):Wk (.tup [a,.int .i64 e]) (.tup [b,.int .i64 e]):=Wk.tup (.cons h (.cons (Wk.refl _) .nil))
theorem p118(d:xk)(hd:zk d):Aw prog 118 [B5 d] (D8 d):=by
 refine .mk ⟨As 0 d,zt⟩ (by unfold D8;split;exact⟨E8 0 _,zt,zt⟩;split<;>exact⟨E8 0 _,zt,zt⟩) (pn.a (AI kY (AJ ?_)));have wo:d.clus.length<1000000000:=hd.cl;simp only[eE,eN,seval,pn];refine AO (λv:VNm=>⟨[(1,true,.ptr 0 0),(4,true,.sl v.tk ((Mt [] (λx:x8=>x.nm) d.clus v.i).map .str)),(5,true,.int .i64 v.i)],v.H,v.n⟩) (λv=>INm d 3 d.clus.length (Mt [] (λx:x8=>x.nm) d.clus v.i) v) (λv=>d.clus.length-v.i)
  ⟨0,.nil,hset Ai 0 (.box (AL d)),3⟩ rfl ⟨rm _,AP.nil.hset (m:=3) (rm 3) (show 0<3 by decide),rq _,rfl,.inl rfl,.inr rfl⟩ ?_
 rintro⟨i,tk,H,n⟩ ⟨hi,l7,hn,h0,l5,s5⟩;simp only at hi l7 hn h0 l5 s5;by_cases c9:i<d.clus.length
 ·have hg:=rc c9;have e:=AK (k:=i) zo;have htx:=Jn [] (λx:x8=>x.nm) c9;have hnl:=MV [] (λx:x8=>x.nm) d.clus i;have xo:([]:List Bs).length<=8:=zd
  generalize d.clus[i]=x at hg htx;generalize hL:Mt [] (λx:x8=>x.nm) d.clus i=L at htx l5 s5 hnl⊢;have q1:BH H 1 tk=True:=ra l5.app;have q2:(L.length<=35184372088831)=True:=ra zo;have q3:Al (L.length+1) 16=True:=ra (by unfold Al;omega);simp only[eZ,seval,eY,AN c9,hg,e,h0,Bq l7,q1,q2,q3];refine .mk ⟨i+1,.own (n+8) 1,hset (AU H tk) (n+8) .tok,n+10⟩ ?_ ?_ zp
  ·simp only[htx,rz];rfl
  ·refine⟨c9,(Ab l5 l7).hset (m:=n+10) zo zo,zp,?_,.inr (.inr ⟨n+8,rfl,zo,AC ..⟩),.inl rfl⟩;simp only[];rw[AA _ _ _ _ zo,Af l5 (.inr ⟨_,h0⟩)];exact h0
 obtain rfl:i=d.clus.length:=zo
 have hNA:=MW [] (λx:x8=>x.nm) d.clus;have xo:([]:List Bs).length<=8:=zd
 rw[hNA]at s5;have hnf:An (d.clus.map λx:x8=>x.nm):=show(d.clus.map λx:x8=>x.nm).length<_ by first|(rw[r9];omega)|(rw[sm,r9];omega)
 rw[sj]at hNA s5;cases ht:Ap (d.clus.map λx:x8=>x.nm)with
 |true=>
  have hR:D8 d= .tup [E6 [],.int .i64 161]:=by unfold D8;rw[rt ht]
  rw[hR];simp only[eZ,seval,r9,Ad c9,h0,hNA,ik,s1,D7 s5,DJ,ra hnf,ht];exact kZ (Wk.sl (.inr rfl))
 |false=>
 have hR:D8 d=match Aq (CI d) d.clus with
  |none=>.tup [E6 [],.int .i64 160]
  |some cs=>.tup [E6 cs,.int .i64 0]:=by unfold D8;rw[rj (by rw[ht];decide)]
 rw[hR];simp only[eZ,seval,r9,Ad c9,h0,hNA,ik,s1,D7 s5,DJ,ra hnf,ht];refine AO (λv:VRs x8=>⟨[(1,true,.ptr 0 0),(6,true,.sl v.tk (v.dn.map Cc)),(7,true,.int .i64 v.i)],v.H,v.n⟩) (IRs d 6 d.clus (CI d)) (λv=>d.clus.length-v.i)
  ⟨0,.nil,[],H,n⟩ rfl ⟨rm _,rfl,l7,hn,h0,.inl rfl,.inr rfl,by simp only[vG];cases Aq (CI d) d.clus<;>rfl⟩ ?_
 rintro⟨j,tk,dn,H1,n1⟩ ⟨hj,hdl,hf1,me,wc,y9,he1,heq⟩;simp only at hj hdl hf1 me wc y9 he1 heq;by_cases l9:j<d.clus.length
 ·have hg:=rc l9;have e:=AK (k:=j) zo;rw[sn l9,EX]at heq;generalize d.clus[j]=c at hg heq;have y0:∀q,(n1+q=0)=False:=λq=>ri zo
  cases s8:BY (By d) c.on with
  |none=>
   have to:Cw (By d) c.on= .tup [.int .i64 0,.bool false]:=by unfold Cw;rw[s8]
   rw[show CI d c=none by unfold CI;rw[s8];rfl]at heq;simp only[tR]at heq;rw[heq];simp only[eZ,seval,rf,eY,AN l9,hg,wc,Bq hf1,y0,AQ,ip,s2,BR,Az,Ho,Fb,ra hd,to];exact kZ (Wk.sl (.inr rfl))
  |some f=>
   have to:Cw (By d) c.on= .tup [.int .i64 f,.bool true]:=by unfold Cw;rw[s8]
   rw[show CI d c=some {c with fam:=f}by unfold CI;rw[s8];rfl]at heq;simp only at heq;have q1:∀ob1,BH (hset H1 (n1+5) ob1) 6 tk=True:=λob1=>ra (y9.set (.inr (.inr (Bq hf1 5)))).app
   have q2:(dn.length<=35184372088831)=True:=ra zo;have q3:Al (dn.length+1) 64=True:=ra (Ac zo zd);simp only[eZ,seval,re,eY,AN l9,hg,e,wc,Bq hf1,y0,AQ,ip,s2,BR,Az,Ho,Fb,ra hd,to,q1,q2,q3];obtain⟨H2,hH2⟩:∃H2,H2=hset H1 (n1+5) (.box (Cc {c with fam:=f}).cells):=⟨_,rfl⟩;have gt:DA 6 3 H2 tk:=by rw[hH2];exact y9.set (.inr (.inr (Bq hf1 5)))
   have gf:AP H2 (n1+12):=by rw[hH2];exact hf1.hset (m:=n1+12) zo zo
   have g0:AD H2 0=some (.box (AL d)):=by rw[hH2,AA _ _ _ _ zo];exact wc
   refine .mk ⟨j+1,.own (n1+10) 6,dn++[{c with fam:=f}],hset (AU H2 tk) (n1+10) .tok,n1+12⟩ ?_ ?_ zp
   ·rw[hH2];simp only[rz];rfl
   ·refine⟨l9,by simp [hdl],(Ab gt gf).hset (rq _) (show n1+10<n1+12 by omega),zp,?_,.inr (.inr ⟨n1+10,rfl,zo,AC ..⟩),.inl rfl,?_⟩
    ·simp only[];rw[AA _ _ _ _ zo,Af gt (.inl zo)];exact g0
    ·simp only[];rw[heq];cases Aq (CI d) (d.clus.drop (j+1))<;>simp
 obtain rfl:j=d.clus.length:=zo
 rw[sK]at heq;have heq:Aq (CI d) d.clus=some dn:=by rw[heq];simp [Aq]
 rw[heq];simp only[eZ,seval,r9,Ad l9,wc];exact kZ (Wk.sl (he1.imp id λq=>by rw[q];rfl))
def Ra(d:xk)(r:zj):zj×Bool:=match (if r.on=[]then some 0 else BY (By d) r.on)with
 |none=>({r with fam:=0},false)
 |some f=>match (if r.byN=[]then some (-1)else BY (d.clus.map (·.nm)) r.byN)with
  |none=>({r with fam:=f,set:=(Cy (d.syms.map (·.nm)) r.ns).getD 0,oth:=(Cy (d.syms.map (·.nm)) r.os).getD 0,clue:=-1},false)
  |some c=>({r with fam:=f,set:=(Cy (d.syms.map (·.nm)) r.ns).getD 0,oth:=(Cy (d.syms.map (·.nm)) r.os).getD 0,clue:=c},(Cy (d.syms.map (·.nm)) r.ns).isSome&&(Cy (d.syms.map (·.nm)) r.os).isSome)
theorem YU(d:xk)(r:zj):Bf d r=if(Ra d r).2=true then some (Ra d r).1 else none:=by
 unfold Bf Ra;cases (if r.on=[]then some 0 else BY (By d) r.on)with
 |none=>rfl
 |some f=>
 cases (if r.byN=[]then some (-1)else BY (d.clus.map (·.nm)) r.byN)with
 |none=>cases Cy (d.syms.map (·.nm)) r.ns<;>cases Cy (d.syms.map (·.nm)) r.os<;>rfl
 |some c=>cases Cy (d.syms.map (·.nm)) r.ns<;>cases Cy (d.syms.map (·.nm)) r.os<;>rfl
abbrev U5(x:zj×Bool):Fs:=.tup [Br x.1,.bool x.2]
theorem Km(l ss:List Bs):WV l ss= .tup [.int .i64 ((Cy l ss).getD 0),.bool (Cy l ss).isSome]:=by unfold WV;cases Cy l ss<;>rfl
def iq:Bc:=AG 171 (s2 dD dS (λd _=>zk d) λd s=>Cw (By d) s) (AG 233 (s2 dD dS (λd _=>zk d) λd s=>Cw (d.clus.map (·.nm)) s) (AG 232 (s2 dD I1 (λd ss=>zk d/\d.syms.length<=16/\wide ss) λd ss=>WV (d.syms.map (·.nm)) ss) tnil))
theorem ke:AH prog iq:=((AH.tnil.add (q2 λd ss h=>p232 d ss h.1 h.2.1 h.2.2)).add (q2 p233)).add (q2 p171)
theorem p172(d:xk)(r:zj)(hd:zk d)(wh:d.syms.length<=16)(hr:Ge r):Aw prog 172 [B5 d,Br r] (U5 (Ra d r)):=by
 refine .mk ⟨As 0 d,BN 0 r,zt⟩ ⟨BN 0 _,zt,zt⟩ (Qu.a (AI ke (AJ ?_)));have wn:=ra (⟨hd,wh,hr.1⟩:zk d/\d.syms.length<=16/\wide r.ns);have xi:=ra (⟨hd,wh,hr.2⟩:zk d/\d.syms.length<=16/\wide r.os);unfold Ra;by_cases h1:r.on=[]
 ·rw[rt h1];by_cases h2:r.byN=[]
  ·rw[rt h2];simp only[eZ,seval,re,eY,BG,Qu,A0,BS h1,BS h2,iq,s2,BR,Az,HV,Ft,ra hd,ra wh,ra hr.1,ra hr.2,Km,AG];exact Wk.refl _
  ·rw[rj h2];cases hc:BY (d.clus.map (·.nm)) r.byN with
   |none=>
    have to:Cw (d.clus.map (·.nm)) r.byN= .tup [.int .i64 0,.bool false]:=by unfold Cw;rw[hc]
    simp only[eZ,seval,re,rf,eY,BG,Qu,A0,BS h1,A3 h2,iq,s2,BR,Az,HV,Ft,Ho,Fb,ra hd,ra wh,ra hr.1,ra hr.2,Km,to,AG];exact Wk.refl _
   |some c=>
    have to:Cw (d.clus.map (·.nm)) r.byN= .tup [.int .i64 c,.bool true]:=by unfold Cw;rw[hc]
    simp only[eZ,seval,re,rf,eY,BG,Qu,A0,BS h1,A3 h2,iq,s2,BR,Az,HV,Ft,Ho,Fb,ra hd,ra wh,ra hr.1,ra hr.2,Km,to,AG];exact Wk.refl _
 ·rw[rj h1];cases hf:BY (By d) r.on with
  |none=>
   have hnf:Cw (By d) r.on= .tup [.int .i64 0,.bool false]:=by unfold Cw;rw[hf]
   simp only[eZ,seval,rf,eY,BG,Qu,A0,A3 h1,iq,s2,BR,Az,Ho,Fb,ra hd,hnf,AG];exact Wk.refl _
  |some f=>
   have hnf:Cw (By d) r.on= .tup [.int .i64 f,.bool true]:=by unfold Cw;rw[hf]
   by_cases h2:r.byN=[]
   ·rw[rt h2];simp only[eZ,seval,re,rf,eY,BG,Qu,A0,A3 h1,BS h2,iq,s2,BR,Az,HV,Ft,Ho,Fb,ra hd,ra wh,ra hr.1,ra hr.2,Km,hnf,AG];exact Wk.refl _
   ·rw[rj h2];cases hc:BY (d.clus.map (·.nm)) r.byN with
    |none=>
     have to:Cw (d.clus.map (·.nm)) r.byN= .tup [.int .i64 0,.bool false]:=by unfold Cw;rw[hc]
     simp only[eZ,seval,re,rf,eY,BG,Qu,A0,A3 h1,A3 h2,iq,s2,BR,Az,HV,Ft,Ho,Fb,ra hd,ra wh,ra hr.1,ra hr.2,Km,hnf,to,AG];exact Wk.refl _
    |some c=>
     have to:Cw (d.clus.map (·.nm)) r.byN= .tup [.int .i64 c,.bool true]:=by unfold Cw;rw[hc]
     simp only[eZ,seval,re,rf,eY,BG,Qu,A0,A3 h1,A3 h2,iq,s2,BR,Az,HV,Ft,Ho,Fb,ra hd,ra wh,ra hr.1,ra hr.2,Km,hnf,to,AG];exact Wk.refl _
def EZ(d:xk):Fs:=if Ap (d.ruls.map λx:zj=>x.nm)=true then .tup [Dr [],.int .i64 161]else match Aq (Bf d) d.ruls with
 |none=>.tup [Dr [],.int .i64 160]
 |some cs=>.tup [Dr cs,.int .i64 0]
def Trv:Bc:=AG 116 twS (AG 172 (s2 dD Mk (λd r=>zk d/\d.syms.length<=16/\Ge r) λd r=>U5 (Ra d r)) tnil)
theorem kg:AH prog Trv:=(AH.tnil.add (q2 λd r h=>p172 d r h.1 h.2.1 h.2.2)).add (q1 kW)
theorem ir(a:List Fs)(H:AB):Trv 116 a H=s1 I1 An (λl=>.bool (Ap l)) a H:=rfl
theorem iu(a:List Fs)(H:AB):Trv 172 a H=s2 dD Mk (λd r=>zk d/\d.syms.length<=16/\Ge r) (λd r=>U5 (Ra d r)) a H:=rfl
theorem p119(d:xk)(hd:zk d)(wh:d.syms.length<=16):Aw prog 119 [B5 d] (EZ d):=by
 refine .mk ⟨As 0 d,zt⟩ (by unfold EZ;split;exact⟨Di 0 _,zt,zt⟩;split<;>exact⟨Di 0 _,zt,zt⟩) (po.a (AI kg (AJ ?_)));have wo:d.ruls.length<1000000000:=hd.ru;simp only[eE,eN,seval,po];refine AO (λv:VNm=>⟨[(1,true,.ptr 0 0),(4,true,.sl v.tk ((Mt [] (λx:zj=>x.nm) d.ruls v.i).map .str)),(5,true,.int .i64 v.i)],v.H,v.n⟩) (λv=>INm d 3 d.ruls.length (Mt [] (λx:zj=>x.nm) d.ruls v.i) v) (λv=>d.ruls.length-v.i)
  ⟨0,.nil,hset Ai 0 (.box (AL d)),3⟩ rfl ⟨rm _,AP.nil.hset (m:=3) (rm 3) (show 0<3 by decide),rq _,rfl,.inl rfl,.inr rfl⟩ ?_
 rintro⟨i,tk,H,n⟩ ⟨hi,l7,hn,h0,l5,s5⟩;simp only at hi l7 hn h0 l5 s5;by_cases c9:i<d.ruls.length
 ·have hg:=rc c9;have e:=AK (k:=i) zo;have htx:=Jn [] (λx:zj=>x.nm) c9;have hnl:=MV [] (λx:zj=>x.nm) d.ruls i;have xo:([]:List Bs).length<=8:=zd
  generalize d.ruls[i]=x at hg htx;generalize hL:Mt [] (λx:zj=>x.nm) d.ruls i=L at htx l5 s5 hnl⊢;have q1:BH H 1 tk=True:=ra l5.app;have q2:(L.length<=35184372088831)=True:=ra zo;have q3:Al (L.length+1) 16=True:=ra (by unfold Al;omega);simp only[eZ,seval,eY,AN c9,hg,e,h0,Bq l7,q1,q2,q3];refine .mk ⟨i+1,.own (n+8) 1,hset (AU H tk) (n+8) .tok,n+10⟩ ?_ ?_ zp
  ·simp only[htx,rz];rfl
  ·refine⟨c9,(Ab l5 l7).hset (m:=n+10) zo zo,zp,?_,.inr (.inr ⟨n+8,rfl,zo,AC ..⟩),.inl rfl⟩;simp only[];rw[AA _ _ _ _ zo,Af l5 (.inr ⟨_,h0⟩)];exact h0
 obtain rfl:i=d.ruls.length:=zo
 have hNA:=MW [] (λx:zj=>x.nm) d.ruls;have xo:([]:List Bs).length<=8:=zd
 rw[hNA]at s5;have hnf:An (d.ruls.map λx:zj=>x.nm):=show(d.ruls.map λx:zj=>x.nm).length<_ by first|(rw[r9];omega)|(rw[sm,r9];omega)
 rw[sj]at hNA s5;cases ht:Ap (d.ruls.map λx:zj=>x.nm)with
 |true=>
  have hR:EZ d= .tup [Dr [],.int .i64 161]:=by unfold EZ;rw[rt ht]
  rw[hR];simp only[eZ,seval,r9,Ad c9,h0,hNA,ir,s1,D7 s5,DJ,ra hnf,ht];exact kZ (Wk.sl (.inr rfl))
 |false=>
 have hR:EZ d=match Aq (Bf d) d.ruls with
  |none=>.tup [Dr [],.int .i64 160]
  |some cs=>.tup [Dr cs,.int .i64 0]:=by unfold EZ;rw[rj (by rw[ht];decide)]
 rw[hR];simp only[eZ,seval,r9,Ad c9,h0,hNA,ir,s1,D7 s5,DJ,ra hnf,ht];refine AO (λv:VRs zj=>⟨[(1,true,.ptr 0 0),(6,true,.sl v.tk (v.dn.map Br)),(7,true,.int .i64 v.i)],v.H,v.n⟩) (IRs d 12 d.ruls (Bf d)) (λv=>d.ruls.length-v.i)
  ⟨0,.nil,[],H,n⟩ rfl ⟨rm _,rfl,l7,hn,h0,.inl rfl,.inr rfl,by simp only[vG];cases Aq (Bf d) d.ruls<;>rfl⟩ ?_
 rintro⟨j,tk,dn,H1,n1⟩ ⟨hj,hdl,hf1,me,wc,y9,he1,heq⟩;simp only at hj hdl hf1 me wc y9 he1 heq;by_cases l9:j<d.ruls.length
 ·have hg:=rc l9;have e:=AK (k:=j) zo;have hrf:=hd.rus _ (rY l9);rw[sn l9,EX]at heq;generalize d.ruls[j]=r at hg heq hrf;have y0:∀q,(n1+q=0)=False:=λq=>ri zo
  rw[YU]at heq;obtain⟨r',ok,hv⟩:∃a b,Ra d r=(a,b):=⟨_,_,rfl⟩;rw[hv]at heq;have u1:unders 0 [B5 d,Br r]=True:=ra ⟨As 0 d,BN 0 r,zt⟩;have u2:∀b,Fs.under 0 (U5 (r',b))=True:=λb=>ra ⟨BN 0 _,zt,zt⟩
  cases ok with
  |false=>
   simp only[sr,sG,tR]at heq;rw[heq];simp only[eZ,seval,rf,eY,AN l9,hg,wc,Bq hf1,AQ,iu,s2,BR,Az,CA,Bg,ra hd,ra wh,ra hrf,hv,u1,u2];exact kZ (Wk.sl (.inr rfl))
  |true=>
   simp only[t8]at heq;have q1:∀ob1,BH (hset H1 (n1+10) ob1) 12 tk=True:=λob1=>ra (y9.set (.inr (.inr (Bq hf1 10)))).app
   have q2:(dn.length<=35184372088831)=True:=ra zo;have q3:Al (dn.length+1) 152=True:=ra (Ac zo zd);simp only[eZ,seval,re,eY,AN l9,hg,e,wc,Bq hf1,AQ,iu,s2,BR,Az,CA,Bg,ra hd,ra wh,ra hrf,hv,u1,u2,q1,q2,q3];obtain⟨H2,hH2⟩:∃H2,H2=hset H1 (n1+10) (.box (B1 r')):=⟨_,rfl⟩;have gt:DA 12 3 H2 tk:=by rw[hH2];exact y9.set (.inr (.inr (Bq hf1 10)))
   have gf:AP H2 (n1+18):=by rw[hH2];exact hf1.hset (m:=n1+18) zo zo
   have g0:AD H2 0=some (.box (AL d)):=by rw[hH2,AA _ _ _ _ zo];exact wc
   refine .mk ⟨j+1,.own (n1+16) 12,dn++[r'],hset (AU H2 tk) (n1+16) .tok,n1+18⟩ ?_ ?_ zp
   ·rw[hH2];simp only[rz];rfl
   ·refine⟨l9,by simp [hdl],(Ab gt gf).hset (rq _) (show n1+16<n1+18 by omega),zp,?_,.inr (.inr ⟨n1+16,rfl,zo,AC ..⟩),.inl rfl,?_⟩
    ·simp only[];rw[AA _ _ _ _ zo,Af gt (.inl zo)];exact g0
    ·simp only[];rw[heq];cases Aq (Bf d) (d.ruls.drop (j+1))<;>simp
 obtain rfl:j=d.ruls.length:=zo
 rw[sK]at heq;have heq:Aq (Bf d) d.ruls=some dn:=by rw[heq];simp [Aq]
 rw[heq];simp only[eZ,seval,r9,Ad l9,wc];exact kZ (Wk.sl (he1.imp id λq=>by rw[q];rfl))
end
def dA:Fs:=.sl (.exact 1) (CW.map .str)
def pGvX:Aw prog 117 [] dA:=by
 refine .mk zt (CN 0 CW) (bH.a (AI AH.tnil (AJ ?_)));simp only[eE,eN,seval,bH];exact Wk.refl _
def rK:List Fs->AB->Prop×Fs:=λa _=>match a with
 |[]=>(True,dA)
 |_=>(False,.tup [])
def qGx:∀args H n,(rK args H).1->Ao prog 117 args H n (rK args H).2:=by
 intro args H n hh;unfold rK at hh⊢;split at hh
 ·exact pGvX.quiet H n
 ·exact hh.elim
def Tre:Bc:=AG 116 twS (AG 117 rK (AG 118 (s1 dD zk D8) (AG 119 (s1 dD (λd=>zk d/\d.syms.length<=16) EZ) tnil)))
def kh:AH prog Tre:=(((AH.tnil.add (q1 λd h=>p119 d h.1 h.2)).add (q1 p118)).add qGx).add (q1 kW)
theorem Le(a:List Fs)(H:AB):Tre 116 a H=s1 I1 An (λl=>.bool (Ap l)) a H:=rfl
theorem Tre_g(a:List Fs)(H:AB):Tre 117 a H=rK a H:=rfl
theorem Rb(a:List Fs)(H:AB):Tre 118 a H=s1 dD zk D8 a H:=rfl
theorem YV(a:List Fs)(H:AB):Tre 119 a H=s1 dD (λd=>zk d/\d.syms.length<=16) EZ a H:=rfl
def ki{e:Int}:Wk (.tup [.agg I4,.int .i64 e]) (.tup [B5 KW,.int .i64 e]):=kZ (wk_Dk (Wk.sl (.inr rfl)) (Wk.sl (.inr rfl)) (Wk.sl (.inr rfl)) (Wk.sl (.inr rfl)) (Wk.sl (.inr rfl)))
def p76(d:xk)(hd:zk d)(hq9:d.regs.length<999999000):Aw prog 76 [B5 d] (Cf d):=by
 refine .mk ⟨As 0 d,zt⟩ (by unfold Cf;split<;>exact⟨As 0 _,zt,zt⟩) (c76.a (AI kh (AJ ?_)));have ye:d.syms.length<1000000000:=hd.sy;have hrl:d.regs.length<1000000000:=hd.rg;have hE:∀e,CJ d= .error e->Cf d= .tup [B5 KW,.int .i64 e]:=λe h=>by unfold Cf;rw[h]
 have hO:∀x,CJ d= .ok x->Cf d= .tup [B5 x,.int .i64 0]:=λx h=>by unfold Cf;rw[h]
 by_cases wh:16<d.syms.length
 ·have hb:((16:Int)<(d.syms.length:Int))=True:=ra zo;rw[hE 2 (by unfold CJ;rw[rt wh])];simp only[eZ,seval,BG,r9,c76,hb];exact ki
 have hb:((16:Int)<(d.syms.length:Int))=False:=ri zo;have h16':d.syms.length<=16:=zo
 simp only[eZ,seval,r9,c76,hb];refine AO (λv:VNm=>⟨[(1,true,.ptr 0 0),(2,true,.ptr 1 0),(4,true,.sl v.tk ((Mt [] (λx:xv=>x.nm) d.syms v.i).map .str)),(5,true,.int .i64 v.i)],v.H,v.n⟩) (λv=>(AD v.H 1=some (.box I4))/\INm d 3 d.syms.length (Mt [] (λx:xv=>x.nm) d.syms v.i) v) (λv=>d.syms.length-v.i)
  ⟨0,.nil,hset (hset Ai 0 (.box (AL d))) 1 (.box I4),3⟩ rfl ⟨rfl,rm _,(AP.nil.hset (m:=3) (rm 3) (show 0<3 by decide)).hset (rq 3) (show 1<3 by decide),rq _,rfl,.inl rfl,.inr rfl⟩ ?_
 rintro⟨i,tk,H,n⟩ ⟨h1,hi,l7,hn,h0,l5,s5⟩;simp only at h1 hi l7 hn h0 l5 s5;by_cases c9:i<d.syms.length
 ·have hg:=rc c9;have e:=AK (k:=i) zo;have htx:=Jn [] (λx:xv=>x.nm) c9;have hnl:=MV [] (λx:xv=>x.nm) d.syms i;have xo:([]:List Bs).length<=8:=zd
  generalize d.syms[i]=x at hg htx;generalize hL:Mt [] (λx:xv=>x.nm) d.syms i=L at htx l5 s5 hnl⊢;have q1:BH H 1 tk=True:=ra l5.app;have q2:(L.length<=35184372088831)=True:=ra zo;have q3:Al (L.length+1) 16=True:=ra (by unfold Al;omega);simp only[eZ,seval,eY,AN c9,hg,e,h0,Bq l7,q1,q2,q3];refine .mk ⟨i+1,.own (n+8) 1,hset (AU H tk) (n+8) .tok,n+10⟩ ?_ ?_ zp
  ·simp only[htx,rz];rfl
  ·refine⟨by simp only[];rw[AA _ _ _ _ zo,Af l5 (.inr ⟨_,h1⟩)];exact h1,c9,(Ab l5 l7).hset (m:=n+10) zo zo,zp,?_,.inr (.inr ⟨n+8,rfl,zo,AC ..⟩),.inl rfl⟩;simp only[];rw[AA _ _ _ _ zo,Af l5 (.inr ⟨_,h0⟩)];exact h0
 obtain rfl:i=d.syms.length:=zo
 have hNA:=MW [] (λx:xv=>x.nm) d.syms;have xo:([]:List Bs).length<=8:=zd
 rw[hNA]at s5;have hnf:An (d.syms.map λx:xv=>x.nm):=show(d.syms.map λx:xv=>x.nm).length<_ by first|(rw[r9];omega)|(unfold By;rw[sm,r9];omega)
 rw[sj]at hNA s5;cases ht:Ap (d.syms.map λx:xv=>x.nm)with
 |true=>
  rw[hE 161 (by unfold CJ;rw[rj wh,rt ht])];simp only[eZ,seval,BG,r9,Ad c9,h0,h1,hNA,Le,s1,D7 s5,DJ,ra hnf,ht];exact ki
 |false=>
 have hgx:rK []=λ_=>(True,dA):=rfl
 have hg0:dA= .sl (.exact 1) ((Mt CW (λx:xj=>x.nm) d.regs 0).map .str):=by unfold Mt;rw[tX,sI,sE];rfl
 simp only[eZ,seval,r9,Ad c9,h0,hNA,Le,Tre_g,hgx,s1,D7 s5,DJ,ra hnf,ht];rw[hg0];clear s5 l5 hi c9 hNA xo hnf;refine AO (λv:VNm=>⟨[(1,true,.ptr 0 0),(2,true,.ptr 1 0),(6,true,.sl v.tk ((Mt CW (λx:xj=>x.nm) d.regs v.i).map .str)),(7,true,.int .i64 v.i)],v.H,v.n⟩) (λv=>(AD v.H 1=some (.box I4))/\INm d 3 d.regs.length (Mt CW (λx:xj=>x.nm) d.regs v.i) v) (λv=>d.regs.length-v.i)
  ⟨0,.exact 1,H,n⟩ rfl ⟨h1,rm _,l7,hn,h0,.inr (.inl rfl),.inl rfl⟩ ?_
 rintro⟨i,tk,H,n⟩ ⟨h1,hi,l7,hn,h0,l5,s5⟩;simp only at h1 hi l7 hn h0 l5 s5;by_cases c9:i<d.regs.length
 ·have hg:=rc c9;have e:=AK (k:=i) zo;have htx:=Jn CW (λx:xj=>x.nm) c9;have hnl:=MV CW (λx:xj=>x.nm) d.regs i;have xo:(CW:List Bs).length<=8:=zd
  generalize d.regs[i]=x at hg htx;generalize hL:Mt CW (λx:xj=>x.nm) d.regs i=L at htx l5 s5 hnl⊢;have q1:BH H 1 tk=True:=ra l5.app;have q2:(L.length<=35184372088831)=True:=ra zo;have q3:Al (L.length+1) 16=True:=ra (by unfold Al;omega);simp only[eZ,seval,eY,AN c9,hg,e,h0,Bq l7,q1,q2,q3];refine .mk ⟨i+1,.own (n+8) 1,hset (AU H tk) (n+8) .tok,n+10⟩ ?_ ?_ zp
  ·simp only[htx,rz];rfl
  ·refine⟨by simp only[];rw[AA _ _ _ _ zo,Af l5 (.inr ⟨_,h1⟩)];exact h1,c9,(Ab l5 l7).hset (m:=n+10) zo zo,zp,?_,.inr (.inr ⟨n+8,rfl,zo,AC ..⟩),.inl rfl⟩;simp only[];rw[AA _ _ _ _ zo,Af l5 (.inr ⟨_,h0⟩)];exact h0
 obtain rfl:i=d.regs.length:=zo
 have hNA:=MW CW (λx:xj=>x.nm) d.regs;have xo:(CW:List Bs).length<=8:=zd
 rw[hNA]at s5;have hnf:An (By d):=show(By d).length<_ by first|(rw[r9];omega)|(unfold By;rw[sm,r9];omega)
 cases wi:Ap (By d)with
 |true=>
  rw[hE 161 (by unfold CJ;rw[rj wh,rj (by rw[ht];decide),rt wi])];have hNA:Mt CW (λx:xj=>x.nm) d.regs d.regs.length=By d:=hNA;have s5:tk.esz=1\/By d=[]:=s5;simp only[eZ,seval,BG,r9,Ad c9,h0,h1,hNA,Le,s1,D7 s5,DJ,ra hnf,wi];exact ki
 |false=>
 have hNA:Mt CW (λx:xj=>x.nm) d.regs d.regs.length=By d:=hNA;have s5:tk.esz=1\/By d=[]:=s5;have hres:CJ d=if Ap (d.clus.map λx:x8=>x.nm)=true then .error 161 else match Aq (CI d) d.clus with
   |none=>.error 160
   |some cs=>if Ap (d.ruls.map λx:zj=>x.nm)=true then .error 161 else match Aq (Bf d) d.ruls with
    |none=>.error 160
    |some rs=>.ok {d with clus:=cs,ruls:=rs}:=by unfold CJ;rw[rj wh,rj (by rw[ht];decide),rj (by rw[wi];decide)];rfl
 have base:=λ(X:Fs) (hX:D8 d=X)=>hX
 cases yc:Ap (d.clus.map λx:x8=>x.nm)with
 |true=>
  have hc:D8 d= .tup [E6 [],.int .i64 161]:=by unfold D8;rw[rt yc]
  rw[hE 161 (by rw[hres,rt yc])];simp only[eZ,seval,rf,eY,BG,Ad c9,h0,h1,hNA,Le,Rb,s1,D7 s5,DJ,BR,Az,ra hd,ra hnf,wi,hc];exact ki
 |false=>
 rw[rj (by rw[yc];decide)]at hres;cases wz:Aq (CI d) d.clus with
 |none=>
  have hc:D8 d= .tup [E6 [],.int .i64 160]:=by unfold D8;rw[rj (by rw[yc];decide),wz]
  rw[hE 160 (by rw[hres,wz])];simp only[eZ,seval,rf,eY,BG,Ad c9,h0,h1,hNA,Le,Rb,s1,D7 s5,DJ,BR,Az,ra hd,ra hnf,wi,hc];exact ki
 |some cs=>
 have hc:D8 d= .tup [E6 cs,.int .i64 0]:=by unfold D8;rw[rj (by rw[yc];decide),wz]
 rw[wz]at hres;simp only at hres;cases ht4:Ap (d.ruls.map λx:zj=>x.nm)with
 |true=>
  have hr:EZ d= .tup [Dr [],.int .i64 161]:=by unfold EZ;rw[rt ht4]
  rw[hE 161 (by rw[hres,rt ht4])];simp only[eZ,seval,re,rf,eY,BG,Ad c9,h0,h1,hNA,Le,Rb,YV,s1,D7 s5,DJ,BR,Az,ra hd,ra h16',ra hnf,wi,hc,hr];exact ki
 |false=>
 rw[rj (by rw[ht4];decide)]at hres;cases hrs:Aq (Bf d) d.ruls with
 |none=>
  have hr:EZ d= .tup [Dr [],.int .i64 160]:=by unfold EZ;rw[rj (by rw[ht4];decide),hrs]
  rw[hE 160 (by rw[hres,hrs])];simp only[eZ,seval,re,rf,eY,BG,Ad c9,h0,h1,hNA,Le,Rb,YV,s1,D7 s5,DJ,BR,Az,ra hd,ra h16',ra hnf,wi,hc,hr];exact ki
 |some rs=>
  have hr:EZ d= .tup [Dr rs,.int .i64 0]:=by unfold EZ;rw[rj (by rw[ht4];decide),hrs]
  rw[hO _ (by rw[hres,hrs])];simp only[eZ,seval,re,eY,BG,Ad c9,h0,h1,hNA,Le,Rb,YV,s1,D7 s5,DJ,BR,Az,ra hd,ra h16',ra hnf,wi,hc,hr,AQ];exact Wk.refl _
abbrev QD(d:xk):Prop:=zk d/\d.regs.length<999999000
def kj:Bc:=AG 76 (s1 dD QD Cf) (AG 120 (s2 dD dD (λa _=>zk a) λa b=>.bool (decide (a=b))) (AG 78 cQ (AG 121 (s2 dD DY (λd g=>zk d/\Av g.sh g.w g.h g.holes=some g.cells/\An g.holes) λd g=>.int .i64 (DV g.cells d.regs)) (AG 122 (s1 dD zk λd=>.bool (B9 d)) (AG 123 (s1 dD (λd=>An d.ruls) λd=>Am (B0 d.ruls)) tnil)))))
def ko:AH prog kj:=(((((AH.tnil.add (q1 λd h=>p123 d h)).add (q1 λd h=>p122 d h)).add (q2 λd g h=>p121 d g h.1 h.2.1 h.2.2)).add qMk).add (q2 λa b h=>p120 a b h)).add (q1 λd h=>p76 d h.1 h.2)
theorem Lf(a:List Fs)(H:AB):kj 76 a H=s1 dD QD Cf a H:=rfl
theorem Mu(a:List Fs)(H:AB):kj 120 a H=s2 dD dD (λa _=>zk a) (λa b=>.bool (decide (a=b))) a H:=rfl
theorem Rd(sh w h:Int)(x:Fs)(H:AB):kj 78 [.int .i64 sh,.int .i64 w,.int .i64 h,x] H=(BA.ok x/\An (BA.dec x),Be sh w h (BA.dec x)):=rfl
theorem U6(a:List Fs)(H:AB):kj 121 a H=s2 dD DY (λd g=>zk d/\Av g.sh g.w g.h g.holes=some g.cells/\An g.holes) (λd g=>.int .i64 (DV g.cells d.regs)) a H:=rfl
theorem YW(a:List Fs)(H:AB):kj 122 a H=s1 dD zk (λd=>.bool (B9 d)) a H:=rfl
theorem iv(a:List Fs)(H:AB):kj 123 a H=s1 dD (λd=>An d.ruls) (λd=>Am (B0 d.ruls)) a H:=rfl
theorem Hv{α β:Type}{f:α->Option β}:∀{l:List α} {r:List β},Aq f l=some r->r.length=l.length/\∀y∈r,∃x∈l,f x=some y
 |[],r,h=>by
  simp only[Aq,Option.some.injEq]at h;subst h;exact⟨rfl,λy hy=>by cases hy⟩
 |x::l,r,h=>by
  rw[EX]at h;cases hx:f x with
  |none=>rw[hx]at h;cases h
  |some z=>
   rw[hx]at h;simp only at h;cases hl:Aq f l with
   |none=>rw[hl]at h;cases h
   |some s=>
    rw[hl]at h;simp only[sU,Option.some.injEq]at h;subst h;obtain⟨h1,h2⟩:=Hv hl;refine⟨by simp [h1],λy hy=>?_⟩;rcases sP.1 hy with rfl|hy
    ·exact⟨x,zw,hx⟩
    ·obtain⟨w,hw,e⟩:=h2 y hy;exact⟨w,by simp [hw],e⟩
def WW{d:xk}{r r':zj}(h:Bf d r=some r'):r'.ns=r.ns/\r'.os=r.os:=by
 unfold Bf at h;split at h
 ·cases h;exact⟨rfl,rfl⟩
 ·cases h
def Ik{d x:xk}(hd:zk d)(h:CJ d= .ok x):zk x:=by
 obtain⟨-,-,-,-,-,e1,e2,e3⟩:=S7 h
 have key:∃cs rs,Aq (CI d) d.clus=some cs/\Aq (Bf d) d.ruls=some rs/\x.clus=cs/\x.ruls=rs:=by
  unfold CJ at h
  repeat' split at h
  all_goals first
   |(cases h;done)
   |(rename_i cs wz _ _ rs hrs
     cases h
     exact⟨_,_,wz,hrs,rfl,rfl⟩)
 obtain⟨cs,rs,h1,h2,h3,h4⟩:=key
 obtain⟨l1,-⟩:=Hv h1
 obtain⟨l2,m2⟩:=Hv h2
 refine⟨by rw[e1];exact hd.ho,by rw[e2];exact hd.sy,by rw[e3];exact hd.rg,by rw[e3];exact hd.rgs,?_,?_,λr hr=>?_⟩
 ·rw[h3];show cs.length<_;rw[l1];exact hd.cl
 ·rw[h4];show rs.length<_;rw[l2];exact hd.ru
 ·rw[h4]at hr
  obtain⟨r0,hr0,e⟩:=m2 r hr
  obtain⟨q1,q2⟩:=WW e
  have:=hd.rus r0 hr0
  exact⟨by rw[q1];exact this.1,by rw[q2];exact this.2⟩
def dC(d:xk):(decide ((d.syms.length:Int)=0)||decide ((16:Int)<d.syms.length)||decide ((4:Int)<d.regs.length)||decide ((4:Int)<d.clus.length)||decide ((16:Int)<d.ruls.length))= !KV d:=by
 rw[su];unfold KV;simp only[sA,rn,tq,vk,sR];omega
def p77(d:xk)(hd:zk d):Aw prog 77 [B5 d] (.int .i64 (D2 d)):=by
 refine .mk ⟨As 0 d,zt⟩ zt (bG.a (AI ko (AJ ?_)));unfold D2;have hlb:=dC d;cases hl:KV d with
 |false=>
  rw[hl]at hlb;rw[rt rfl];simp only[eZ,seval,rf,r9,bG,hlb,rf]
 |true=>
 rw[hl]at hlb;rw[rj zd];have l7:QD d:=⟨hd,by
  unfold KV at hl;simp only[rl,rn]at hl;omega⟩
 cases hr:CJ d with
 |error e=>
  have hv:Cf d= .tup [B5 KW,.int .i64 e]:=by unfold Cf;rw[hr]
  have he:(e=0)=False:=ri (GQ hr);simp only[eZ,seval,re,rf,eY,bG,hlb,re,Lf,s1,BR,Az,ra l7,hv,he]
 |ok x=>
 have hv:Cf d= .tup [B5 x,.int .i64 0]:=by unfold Cf;rw[hr]
 have hfx:=Ik hd hr;simp only[];by_cases hx:x=d;case neg=>
  rw[rt hx];simp only[eZ,seval,re,rf,eY,bG,hlb,re,Lf,Mu,s1,s2,BR,Az,ra l7,ra hfx,hv,A3 hx]
 rw[rj (λz=>z hx)];subst hx;by_cases hver:x.ver<1\/255<x.ver
 ·have hvb:(decide (x.ver<1)||decide (255<x.ver))=true:=by simpa using hver
  rw[rt hver];simp only[eZ,seval,re,eY,bG,hlb,re,Lf,Mu,s1,s2,BR,Az,ra l7,ra hd,hv,hvb]
 have hvb:(decide (x.ver<1)||decide (255<x.ver))=false:=by simp;omega
 rw[rj hver];cases hc:Av x.sh x.w x.h x.holes with
 |none=>
  have hm:Be x.sh x.w x.h x.holes= .tup [Ek 0 0 0 [] [],.int .i64 130]:=by unfold Be;rw[hc]
  simp only[eZ,seval,re,rf,eY,bG,hlb,re,Lf,Mu,Rd,s1,s2,BR,Az,Ak,Ag,ra l7,ra hd,ra hd.ho,hv,hvb,hm]
 |some cells=>
 have hm:Be x.sh x.w x.h x.holes= .tup [Ek x.sh x.w x.h x.holes cells,.int .i64 0]:=by unfold Be;rw[hc]
 simp only[];by_cases hre:DV cells x.regs=0;case neg=>
  rw[rt hre];simp only[eZ,seval,re,rf,eY,bG,hlb,re,Lf,Mu,Rd,U6,s1,s2,BR,Az,Ak,Ag,Fl,Ds,ra l7,ra hd,ra hd.ho,hv,hvb,hm,hc,ri hre]
 rw[rj (λz=>z hre)];cases hf:B9 x with
 |false=>
  rw[rt rfl];simp only[eZ,seval,re,rf,eY,bG,hlb,re,Lf,Mu,Rd,U6,YW,s1,s2,BR,Az,Ak,Ag,Fl,Ds,ra l7,ra hd,ra hd.ho,hv,hvb,hm,hc,hre,hf]
 |true=>
 rw[rj zd];by_cases hu:B0 x.ruls=[]
 ·rw[rj (λz=>z hu)];simp only[eZ,seval,re,eY,bG,hlb,re,Lf,Mu,Rd,U6,YW,iv,s1,s2,BR,Az,Ak,Ag,Fl,Ds,ra l7,ra hd,ra hd.ho,ra hd.ru,hv,hvb,hm,hc,hre,hf,hu]
 ·rw[rt hu];have hup:((0:Int)<((B0 x.ruls).length:Int))=True:=ra (by have:=List.length_pos_iff.2 hu;omega);simp only[eZ,seval,re,eY,bG,hlb,re,Lf,Mu,Rd,U6,YW,iv,s1,s2,BR,Az,Ak,Ag,Fl,Ds,ra l7,ra hd,ra hd.ho,ra hd.ru,hv,hvb,hm,hc,hre,hf,hup]
abbrev ML(ls:List (List (List Int))):Fs:=.sl (.none 1) (ls.map Bv)
abbrev AF(k:zx):List Fs:=AL k.d++(AE k.g.sh k.g.w k.g.h k.g.holes k.g.cells++[Bv k.nb,ML k.ls])
abbrev A5(k:zx):Fs:=.agg (AF k)
def TR:Fs->List (List (List Int))
 | .sl _ L=>L.map P4
 |_=>[]
def iw:Fs->zx
 | .agg [nm,v,sh,w,h,ho,sy,rg,cl,ru,gs,gw,gh,gho,gce,nb,ls]=>⟨be (.agg [nm,v,sh,w,h,ho,sy,rg,cl,ru]),TB (.agg [gs,gw,gh,gho,gce]),P4 nb,TR ls⟩
 |_=>⟨KW,⟨0,0,0,[],[]⟩,[],[]⟩
def Fz(n:Nat)(l:List (List (List Int))):(ML l).under n:=⟨zt,Ay (BC n) _⟩
def Aj(n:Nat)(k:zx):(A5 k).under n:=⟨zt,zt,zt,zt,zt,AZ n _,HQ n _,E7 n _,E8 n _,Di n _,zt,zt,zt,AZ n _,AZ n _,BC n _,Fz n _,zt⟩
def TS(l:List (List (List Int))):TR (ML l)=l:=DF G8 l
def Ou(k:zx):iw (A5 k)=k:=by
 have h1:=Nz k.d;have h2:=LX k.g;show zx.mk (be (B5 k.d)) (TB (CK k.g)) (P4 (Bv k.nb)) (TR (ML k.ls))=k;rw[h1,h2,G8,TS]
def WX:Dc (List (List (List Int))):=jj 1 Bv P4
def dF(l:List (List (List Int))):WX.ok (ML l)=True:=Jd G8 (.inl rfl)
def YX(l:List (List (List Int))):WX.dec (ML l)=l:=HU G8
def B2:Dc zx:=cY A5 iw
def CC(x:zx):B2.ok (A5 x)=True:=HS Ou x
def Bm(x:zx):B2.dec (A5 x)=x:=Ou x
def p111(a b:List (List Int))(hb:B6 b):Aw prog 111 [Bv a,Bv b] (.bool (decide (a=b))):=by
 refine .mk ⟨BC 0 a,BC 0 b,zt⟩ zt (c111.a (AI cA (AJ ?_)));simp only[eE,eN,seval,c111,Tcl,X6,Dj,Cz,ra hb,AG]
def Tke:Bc:=AG 111 (s2 N0 N0 (λ_ b=>B6 b) λa b=>.bool (decide (a=b))) tnil
def YY:AH prog Tke:=AH.tnil.add (q2 p111)
def p112(a b:List (List (List Int)))(hb:An b)(hx:∀x∈b,B6 x):Aw prog 112 [ML a,ML b,.fn (.func 111) [] []] (.bool (decide (a=b))):=by
 refine .mk ⟨Fz 0 a,Fz 0 b,by simp [Fs.under,unders],zt⟩ zt (qZ.a (AI YY (AJ ?_)));by_cases hl:a.length=b.length;case neg=>
  simp only[eZ,seval,rf,r9,qZ,Gp hl,rf];exact(sa λe=>hl (by rw[e])).symm
 simp only[eZ,seval,re,r9,qZ,Gq hl];refine AO (λi:Nat=>⟨[(1,true,ML b),(2,true,.fn (.func 111) [] []),(15,true,ML a),(16,true,.int .i64 a.length),(17,true,.int .i64 i)],Ai,0⟩) (λi=>i<=a.length/\∀j,j<i->a[j]?=b[j]?) (λi=>a.length-i) 0 rfl ⟨rm _,λj hj=>zo⟩ ?_;rintro i ⟨hi,e9⟩;by_cases c9:i<a.length;case neg=>
  simp only[eZ,seval,Ad c9];exact(sk (DO hl λj hj=>e9 j zo)).symm
 have hltb:i<b.length:=zo
 have hga:=rc c9;have hgb:=rc hltb;have e:=AK (k:=i) (by have:b.length<1000000000:=hb;omega);have hf:=hx _ (rY hltb);by_cases hs:a[i]=b[i]
 ·simp only[eZ,seval,re,rZ,rr,ry,r9,sb,AN c9,AN hltb,hga,hgb,e,Tke,s2,Dj,Cz,ra hf,BS hs,AG];refine cX.drop (i+1) rfl rfl rfl rfl AP.nil (λ_ _ h=>by cases h) ⟨Fz 0 b,by simp [Fs.under,unders],Fz 0 a,zt,zt,zt⟩ ⟨c9,λj h=>?_⟩ zo;by_cases q:j=i
  ·subst q;rw[hga,hgb,hs]
  ·exact e9 j zo
 ·simp only[eZ,seval,rf,rZ,rr,ry,r9,sb,AN c9,AN hltb,hga,hgb,Tke,s2,Dj,Cz,ra hf,A3 hs,AG];exact(sa λq=>hs (by simp [q])).symm
structure FewKn(k:zx):Prop where
 d:zk k.d
 ho:wide k.g.holes
 ce:wide k.g.cells
 nb:B6 k.nb
 ls:An k.ls
 lx:∀x∈k.ls,B6 x
def Tks:Bc:=AG 109 (s2 BA BA (λ_ b=>wide b) λa b=>.bool (decide (a=b))) (AG 110 (s2 dD dD (λ_ b=>zk b) λa b=>.bool (decide (a=b))) (AG 112 (X6 111 WX WX (λ_ b=>An b/\∀x∈b,B6 x) λa b=>.bool (decide (a=b))) Tke))
def kr:AH prog Tks:=((YY.add (q2f λa b h=>p112 a b h.1 h.2)).add (q2 p110)).add (q2 Xt)
theorem Tks_i(a:List Fs)(H:AB):Tks 109 a H=s2 BA BA (λ_ b=>wide b) (λa b=>.bool (decide (a=b))) a H:=rfl
theorem Tks_s(a:List Fs)(H:AB):Tks 110 a H=s2 dD dD (λ_ b=>zk b) (λa b=>.bool (decide (a=b))) a H:=rfl
theorem Tks_f(a:List Fs)(H:AB):Tks 112 a H=X6 111 WX WX (λ_ b=>An b/\∀x∈b,B6 x) (λa b=>.bool (decide (a=b))) a H:=rfl
theorem Tks_e(a:List Fs)(H:AB):Tks 111 a H=s2 N0 N0 (λ_ b=>B6 b) (λa b=>.bool (decide (a=b))) a H:=rfl
def dG{a b:zx}:a=b↔(((((((a.g.sh=b.g.sh/\a.g.w=b.g.w)/\a.g.h=b.g.h)/\a.g.holes=b.g.holes)/\a.g.cells=b.g.cells)/\a.d=b.d)/\a.nb=b.nb)/\a.ls=b.ls):=by
 obtain⟨ad,⟨a1,a2,a3,a4,a5⟩,an,al⟩:=a;obtain⟨bd,⟨b1,b2,b3,b4,b5⟩,bn,bl⟩:=b;simp only[zx.mk.injEq,v7.mk.injEq];constructor
 ·simp_all
 ·simp_all
def p74(a b:zx)(hb:FewKn b):Aw prog 74 [A5 a,A5 b] (.bool (decide (a=b))):=by
 refine .mk ⟨Aj 0 a,Aj 0 b,zt⟩ zt (c74.a (AI kr (AJ ?_)));have e1:dD.ok (.agg (AL a.d))=True:=BR a.d;have e2:dD.dec (.agg (AL a.d))=a.d:=Az a.d;have e3:dD.ok (.agg (AL b.d))=True:=BR b.d;have e4:dD.dec (.agg (AL b.d))=b.d:=Az b.d;simp only[AL]at e1 e2 e3 e4;simp only[eZ,seval,c74,AF,AE,AL,Tks_i,Tks_s,Tks_f,Tks_e,s2,X6,Ak,Ag,Dj,Cz,dF,YX,e1,e2,e3,e4,ra hb.d,ra hb.ho,ra hb.ce,ra hb.nb,ra hb.ls,ra hb.lx];rw[su];simp only[rl,rn,dG]
def p168(a b:List Int)(ha:wide a):Aw prog 168 [Am a,Am b] (.bool (decide (a=b))):=by
 refine .mk ⟨AZ 0 _,AZ 0 _,zt⟩ zt (qN.a (AI AH.tnil (AJ ?_)));have wm:a.length<1125899906842624:=ha;by_cases hl:a.length=b.length;case neg=>
  have hR:decide (a=b)=false:=sa λq=>hl (by rw[q])
  have hq:((a.length:Int)=(b.length:Int))=False:=ri zo;rw[hR];simp only[eZ,seval,rf,r9,qN,hq]
 have hq:((a.length:Int)=(b.length:Int))=True:=ra zo;simp only[eZ,seval,re,r9,qN,hq];refine AO (λi:Nat=>⟨[(0,true,Am a),(1,true,Am b),(5,true,.int .i64 i)],Ai,0⟩) (λi=>i<=a.length/\a.take i=b.take i) (λi=>a.length-i) 0 rfl ⟨rm _,rfl⟩ ?_;rintro i ⟨hi,l5⟩;by_cases c9:i<a.length
 ·have hltb:i<b.length:=zo
  have hg:=rc c9;have hgb:=rc hltb;have e:=AK (k:=i) zo;have ta:a.take (i+1)=a.take i++[a[i]]:=by rw[sf,hg];rfl
  have tb:b.take (i+1)=b.take i++[b[i]]:=by rw[sf,hgb];rfl
  generalize a[i]=x at hg ta;generalize b[i]=y at hgb tb;by_cases hxy:x=y
  ·simp only[eZ,seval,re,eY,AN c9,AN hltb,hg,hgb,e,hxy];exact .mk (i+1) rfl ⟨c9,by rw[ta,tb,l5,hxy]⟩ zo
  ·have hR:decide (a=b)=false:=sa λq=>hxy (by rw[q]at hg;rw[hg]at hgb;exact Option.some.inj hgb)
   rw[hR];simp only[eZ,seval,rf,eY,AN c9,AN hltb,hg,hgb,A3 hxy]
 obtain rfl:i=a.length:=zo
 have hR:decide (a=b)=true:=sk (by rw[se,hl,se]at l5;exact l5);rw[hR];simp only[eZ,seval,r9,Ad c9]
def p231(a b:List Bs)(ha:wide a):Aw prog 231 [FH a,FH b] (.bool (decide (a=b))):=by
 refine .mk ⟨CN 0 _,CN 0 _,zt⟩ zt (qO.a (AI AH.tnil (AJ ?_)));have wm:a.length<1125899906842624:=ha;by_cases hl:a.length=b.length;case neg=>
  have hR:decide (a=b)=false:=sa λq=>hl (by rw[q])
  have hq:((a.length:Int)=(b.length:Int))=False:=ri zo;rw[hR];simp only[eZ,seval,rf,r9,qO,hq]
 have hq:((a.length:Int)=(b.length:Int))=True:=ra zo;simp only[eZ,seval,re,r9,qO,hq];refine AO (λi:Nat=>⟨[(0,true,FH a),(1,true,FH b),(5,true,.int .i64 i)],Ai,0⟩) (λi=>i<=a.length/\a.take i=b.take i) (λi=>a.length-i) 0 rfl ⟨rm _,rfl⟩ ?_;rintro i ⟨hi,l5⟩;by_cases c9:i<a.length
 ·have hltb:i<b.length:=zo
  have hg:=rc c9;have hgb:=rc hltb;have e:=AK (k:=i) zo;have ta:a.take (i+1)=a.take i++[a[i]]:=by rw[sf,hg];rfl
  have tb:b.take (i+1)=b.take i++[b[i]]:=by rw[sf,hgb];rfl
  generalize a[i]=x at hg ta;generalize b[i]=y at hgb tb;by_cases hxy:x=y
  ·simp only[eZ,seval,re,eY,AN c9,AN hltb,hg,hgb,e,A0,BS hxy];exact .mk (i+1) rfl ⟨c9,by rw[ta,tb,l5,hxy]⟩ zo
  ·have hR:decide (a=b)=false:=sa λq=>hxy (by rw[q]at hg;rw[hg]at hgb;exact Option.some.inj hgb)
   rw[hR];simp only[eZ,seval,rf,eY,AN c9,AN hltb,hg,hgb,A0,A3 hxy]
 obtain rfl:i=a.length:=zo
 have hR:decide (a=b)=true:=sk (by rw[se,hl,se]at l5;exact l5);rw[hR];simp only[eZ,seval,r9,Ad c9]
def T6n:Bc:=AG 231 (s2 I1 I1 (λa _=>wide a) λa b=>.bool (decide (a=b))) tnil
def ks:AH prog T6n:=AH.tnil.add (q2 p231)
def T6i:Bc:=AG 168 (s2 BA BA (λa _=>wide a) λa b=>.bool (decide (a=b))) tnil
def ku:AH prog T6i:=AH.tnil.add (q2 p168)
def T3i:Bc:=AG 167 (s2 BA BA (λa _=>wide a) λa b=>.bool (decide (a=b))) tnil
def YZ:AH prog T3i:=AH.tnil.add (q2 iY)
def p170(a b:zj)(ha:Ge a):Aw prog 170 [Br a,Br b] (.bool (decide (a=b))):=by
 refine .mk ⟨BN 0 _,BN 0 _,zt⟩ zt (c170.a (AI ks (AJ ?_)));obtain⟨h1,h2⟩:=ha;simp only[eZ,seval,c170,T6n,s2,HV,Ft,ra h1,ra h2,BB,AG];rw[su,rn,RF];simp only[rl,rn];constructor
 ·intro h;simp only[h,and_self]
 ·intro h;simp only[h,and_self]
def p113(a b:List (List Int))(ha:An a)(hf:∀x∈a,wide x):Aw prog 113 [Bv a,Bv b] (.bool (decide (a=b))):=by
 refine .mk ⟨BC 0 _,BC 0 _,zt⟩ zt (qH.a (AI YZ (AJ ?_)));have wm:a.length<1000000000:=ha;by_cases hl:a.length=b.length;case neg=>
  have hR:decide (a=b)=false:=sa λq=>hl (by rw[q])
  have hq:((a.length:Int)=(b.length:Int))=False:=ri zo;rw[hR];simp only[eZ,seval,rf,r9,qH,hq]
 have hq:((a.length:Int)=(b.length:Int))=True:=ra zo;simp only[eZ,seval,re,r9,qH,hq];refine AO (λi:Nat=>⟨[(0,true,Bv a),(1,true,Bv b),(5,true,.int .i64 i)],Ai,0⟩) (λi=>i<=a.length/\a.take i=b.take i) (λi=>a.length-i) 0 rfl ⟨rm _,rfl⟩ ?_;rintro i ⟨hi,l5⟩;by_cases c9:i<a.length
 ·have hltb:i<b.length:=zo
  have hg:=rc c9;have hgb:=rc hltb;have e:=AK (k:=i) zo;have ta:a.take (i+1)=a.take i++[a[i]]:=by rw[sf,hg];rfl
  have tb:b.take (i+1)=b.take i++[b[i]]:=by rw[sf,hgb];rfl
  have hxf:=hf _ (rY c9);generalize a[i]=x at hg ta hxf;generalize b[i]=y at hgb tb;by_cases hxy:x=y
  ·simp only[eZ,seval,re,eY,AN c9,AN hltb,hg,hgb,e,T3i,s2,Ak,Ag,ra hxf,BS hxy,AG];exact .mk (i+1) rfl ⟨c9,by rw[ta,tb,l5,hxy]⟩ zo
  ·have hR:decide (a=b)=false:=sa λq=>hxy (by rw[q]at hg;rw[hg]at hgb;exact Option.some.inj hgb)
   rw[hR];simp only[eZ,seval,rf,eY,AN c9,AN hltb,hg,hgb,T3i,s2,Ak,Ag,ra hxf,A3 hxy,AG]
 obtain rfl:i=a.length:=zo
 have hR:decide (a=b)=true:=sk (by rw[se,hl,se]at l5;exact l5);rw[hR];simp only[eZ,seval,r9,Ad c9]
def p169(x y:xj)(hx:B6 x.ls):Aw prog 169 [Gc x,Gc y] (.bool (decide (x=y))):=by
 refine .mk ⟨ES 0 x,ES 0 y,zt⟩ zt (gT.a (AI ku (AJ ?_)));obtain⟨nm,a⟩:=x;obtain⟨nn,b⟩:=y;have ha:An a:=hx.1;have hf:∀x∈a,wide x:=hx.2;have wm:a.length<1000000000:=ha;by_cases hn:nm=nn;case neg=>
  have hR:decide ((⟨nm,a⟩:xj)=⟨nn,b⟩)=false:=sa λq=>hn (by injection q)
  rw[hR];simp only[eZ,seval,re,rf,r9,gT,A0,A3 hn]
 subst hn;by_cases hl:a.length=b.length;case neg=>
  have hR:decide ((⟨nm,a⟩:xj)=⟨nm,b⟩)=false:=sa λq=>hl (by injection q with _ q;rw[q])
  have hq:((a.length:Int)=(b.length:Int))=False:=ri zo;rw[hR];simp only[eZ,seval,re,rf,r9,gT,hq,A0]
 have hq:((a.length:Int)=(b.length:Int))=True:=ra zo;have hS:decide ((⟨nm,a⟩:xj)=⟨nm,b⟩)=decide (a=b):=by rw[su];simp [xj.mk.injEq]
 rw[hS];simp only[eZ,seval,re,r9,gT,hq,A0];refine AO (λi:Nat=>⟨[(2,true,.ptr 0 0),(3,true,.ptr 1 0),(5,true,.int .i64 i)],hset (hset Ai 0 (.box [.str nm,Bv a])) 1 (.box [.str nm,Bv b]),3⟩) (λi=>i<=a.length/\a.take i=b.take i) (λi=>a.length-i) 0 rfl ⟨rm _,rfl⟩ ?_;rintro i ⟨hi,l5⟩;by_cases c9:i<a.length
 ·have hltb:i<b.length:=zo
  have hg:=rc c9;have hgb:=rc hltb;have e:=AK (k:=i) zo;have ta:a.take (i+1)=a.take i++[a[i]]:=by rw[sf,hg];rfl
  have tb:b.take (i+1)=b.take i++[b[i]]:=by rw[sf,hgb];rfl
  have hxf:=hf _ (rY c9);generalize a[i]=x at hg ta hxf;generalize b[i]=y at hgb tb;by_cases hxy:x=y
  ·simp only[eZ,seval,re,eY,AN c9,AN hltb,hg,hgb,e,T6i,s2,Ak,Ag,ra hxf,BS hxy,AG];exact .mk (i+1) rfl ⟨c9,by rw[ta,tb,l5,hxy]⟩ zo
  ·have hR:decide (a=b)=false:=sa λq=>hxy (by rw[q]at hg;rw[hg]at hgb;exact Option.some.inj hgb)
   rw[hR];simp only[eZ,seval,rf,eY,AN c9,AN hltb,hg,hgb,T6i,s2,Ak,Ag,ra hxf,A3 hxy,AG]
 obtain rfl:i=a.length:=zo
 have hR:decide (a=b)=true:=sk (by rw[se,hl,se]at l5;exact l5);rw[hR];simp only[eZ,seval,r9,Ad c9]
def p115(a b:v7)(h1:wide a.holes)(h2:wide a.cells):Aw prog 115 [CK a,CK b] (.bool (decide (a=b))):=by
 refine .mk ⟨⟨zt,zt,zt,AZ 0 _,AZ 0 _,zt⟩,⟨zt,zt,zt,AZ 0 _,AZ 0 _,zt⟩,zt⟩ zt (c115.a (AI YZ (AJ ?_)));simp only[eZ,seval,c115,T3i,s2,Ak,Ag,ra h1,ra h2,AG];rw[su];simp only[rl,rn];constructor
 ·intro h;obtain⟨a1,a2,a3,a4,a5⟩:=a;obtain⟨b1,b2,b3,b4,b5⟩:=b;simp only at h;simp only[h]
 ·intro h;simp only[h,and_self]
def iy:Bc:=AG 168 (s2 BA BA (λa _=>wide a) λa b=>.bool (decide (a=b))) (AG 169 (s2 qf qf (λa _=>B6 a.ls) λa b=>.bool (decide (a=b))) (AG 170 (s2 Mk Mk (λa _=>Ge a) λa b=>.bool (decide (a=b))) tnil))
def kw:AH prog iy:=((AH.tnil.add (q2 p170)).add (q2 p169)).add (q2 p168)
def p114(a b:xk)(hd:zk a):Aw prog 114 [B5 a,B5 b] (.bool (decide (a=b))):=by
 refine .mk ⟨As 0 _,As 0 _,zt⟩ zt (a114 (AI kw (AJ ?_)));cases h1:decide (a.nm=b.nm/\a.ver=b.ver/\a.sh=b.sh/\a.w=b.w/\a.h=b.h/\a.holes=b.holes)with
 |false=>
  have h1:=vf h1;have hR:decide (a=b)=false:=sa λq=>h1 (by rw[q];exact⟨rfl,rfl,rfl,rfl,rfl,rfl⟩)
  have hb:(scmp .neq a.nm b.nm|| !decide (a.ver=b.ver)|| !decide (a.sh=b.sh)|| !decide (a.w=b.w)|| !decide (a.h=b.h)|| !decide (a.holes=b.holes))=true:=by
   rw[A0,<-vi];intro q;simp only[tv,uG,rn,ud]at q;exact h1 q
  rw[hR];simp only[eZ,seval,re,r9,gS,iy,s2,Ak,Ag,ra (Dz hd.ho),hb,AG]
 |true=>
 obtain⟨a1,a2,a3,a4,a5,a6⟩:=t5 h1;have hb:(scmp .neq a.nm b.nm|| !decide (a.ver=b.ver)|| !decide (a.sh=b.sh)|| !decide (a.w=b.w)|| !decide (a.h=b.h)|| !decide (a.holes=b.holes))=false:=by
  rw[A0];simp [a1,a2,a3,a4,a5,a6]
 clear h1;cases h2:decide (a.syms.length=b.syms.length/\a.regs.length=b.regs.length/\a.clus.length=b.clus.length/\a.ruls.length=b.ruls.length)with
 |false=>
  have h2:=vf h2;have hR:decide (a=b)=false:=sa λq=>h2 (by rw[q];exact⟨rfl,rfl,rfl,rfl⟩)
  have z9:(!decide ((a.syms.length:Int)=(b.syms.length:Int))|| !decide ((a.regs.length:Int)=(b.regs.length:Int))|| !decide ((a.clus.length:Int)=(b.clus.length:Int))|| !decide ((a.ruls.length:Int)=(b.ruls.length:Int)))=true:=by grind
  rw[hR];simp only[eZ,seval,r9,gS,iy,s2,Ak,Ag,ra (Dz hd.ho),hb,z9,AG]
 |true=>
 obtain⟨l1,l2,l3,l4⟩:=t5 h2;have z9:(!decide ((a.syms.length:Int)=(b.syms.length:Int))|| !decide ((a.regs.length:Int)=(b.regs.length:Int))|| !decide ((a.clus.length:Int)=(b.clus.length:Int))|| !decide ((a.ruls.length:Int)=(b.ruls.length:Int)))=false:=by
  simp [l1,l2,l3,l4]
 clear h2;simp only[eZ,seval,r9,gS,iy,s2,Ak,Ag,ra (Dz hd.ho),hb,z9,AG];refine AO (λi:Nat=>⟨[(2,true,.ptr 0 0),(3,true,.ptr 1 0),(5,true,.int .i64 i)],hset (hset Ai 0 (.box (AL a))) 1 (.box (AL b)),3⟩) (λi=>i<=a.syms.length/\a.syms.take i=b.syms.take i) (λi=>a.syms.length-i) 0 rfl ⟨rm _,rfl⟩ ?_;rintro i ⟨hi,l5⟩;have hfl:a.syms.length<1000000000:=hd.sy;by_cases c9:i<a.syms.length
 ·have hltb:i<b.syms.length:=zo
  have hg:=rc c9;have hgb:=rc hltb;have e:=AK (k:=i) zo;have ta:a.syms.take (i+1)=a.syms.take i++[a.syms[i]]:=by rw[sf,hg];rfl
  have tb:b.syms.take (i+1)=b.syms.take i++[b.syms[i]]:=by rw[sf,hgb];rfl
  generalize a.syms[i]=x at hg ta;generalize b.syms[i]=y at hgb tb;by_cases hxy:x=y
  ·have hc:=LU x y;rw[sk hxy]at hc;simp only[eZ,seval,re,eY,AN c9,AN hltb,hg,hgb,e,hc,EB];exact .mk (i+1) rfl ⟨c9,by rw[ta,tb,l5,hxy]⟩ zo
  ·have hR:decide (a=b)=false:=sa λq=>hxy (by rw[q]at hg;rw[hg]at hgb;exact Option.some.inj hgb)
   have hc:=LU x y;rw[sa hxy]at hc;rw[hR];simp only[eZ,seval,rf,eY,AN c9,AN hltb,hg,hgb,hc,EB]
 obtain rfl:i=a.syms.length:=zo
 have b_syms:a.syms=b.syms:=by rw[se,l1,se]at l5;exact l5
 simp only[eZ,seval,r9,Ad c9];clear hi l5 hfl c9;refine AO (λi:Nat=>⟨[(2,true,.ptr 0 0),(3,true,.ptr 1 0),(6,true,.int .i64 i)],hset (hset Ai 0 (.box (AL a))) 1 (.box (AL b)),3⟩) (λi=>i<=a.regs.length/\a.regs.take i=b.regs.take i) (λi=>a.regs.length-i) 0 rfl ⟨rm _,rfl⟩ ?_;rintro i ⟨hi,l5⟩;have hfl:a.regs.length<1000000000:=hd.rg;by_cases c9:i<a.regs.length
 ·have hltb:i<b.regs.length:=zo
  have hg:=rc c9;have hgb:=rc hltb;have e:=AK (k:=i) zo;have ta:a.regs.take (i+1)=a.regs.take i++[a.regs[i]]:=by rw[sf,hg];rfl
  have tb:b.regs.take (i+1)=b.regs.take i++[b.regs[i]]:=by rw[sf,hgb];rfl
  have hxf:B6 a.regs[i].ls:=hd.rgs _ (rY c9);generalize a.regs[i]=x at hg ta hxf;generalize b.regs[i]=y at hgb tb;by_cases hxy:x=y
  ·simp only[eZ,seval,re,eY,AN c9,AN hltb,hg,hgb,e,iy,s2,LO,Iu,ra hxf,BS hxy,AG];exact .mk (i+1) rfl ⟨c9,by rw[ta,tb,l5,hxy]⟩ zo
  ·have hR:decide (a=b)=false:=sa λq=>hxy (by rw[q]at hg;rw[hg]at hgb;exact Option.some.inj hgb)
   rw[hR];simp only[eZ,seval,rf,eY,AN c9,AN hltb,hg,hgb,iy,s2,LO,Iu,ra hxf,A3 hxy,AG]
 obtain rfl:i=a.regs.length:=zo
 have b_regs:a.regs=b.regs:=by rw[se,l2,se]at l5;exact l5
 simp only[eZ,seval,r9,Ad c9];clear hi l5 hfl c9;refine AO (λi:Nat=>⟨[(2,true,.ptr 0 0),(3,true,.ptr 1 0),(7,true,.int .i64 i)],hset (hset Ai 0 (.box (AL a))) 1 (.box (AL b)),3⟩) (λi=>i<=a.clus.length/\a.clus.take i=b.clus.take i) (λi=>a.clus.length-i) 0 rfl ⟨rm _,rfl⟩ ?_;rintro i ⟨hi,l5⟩;have hfl:a.clus.length<1000000000:=hd.cl;by_cases c9:i<a.clus.length
 ·have hltb:i<b.clus.length:=zo
  have hg:=rc c9;have hgb:=rc hltb;have e:=AK (k:=i) zo;have ta:a.clus.take (i+1)=a.clus.take i++[a.clus[i]]:=by rw[sf,hg];rfl
  have tb:b.clus.take (i+1)=b.clus.take i++[b.clus[i]]:=by rw[sf,hgb];rfl
  generalize a.clus[i]=x at hg ta;generalize b.clus[i]=y at hgb tb;by_cases hxy:x=y
  ·have hc:=LW x y;rw[sk hxy]at hc;simp only[eZ,seval,re,eY,AN c9,AN hltb,hg,hgb,e,hc,EB];exact .mk (i+1) rfl ⟨c9,by rw[ta,tb,l5,hxy]⟩ zo
  ·have hR:decide (a=b)=false:=sa λq=>hxy (by rw[q]at hg;rw[hg]at hgb;exact Option.some.inj hgb)
   have hc:=LW x y;rw[sa hxy]at hc;rw[hR];simp only[eZ,seval,rf,eY,AN c9,AN hltb,hg,hgb,hc,EB]
 obtain rfl:i=a.clus.length:=zo
 have b_clus:a.clus=b.clus:=by rw[se,l3,se]at l5;exact l5
 simp only[eZ,seval,r9,Ad c9];clear hi l5 hfl c9;refine AO (λi:Nat=>⟨[(2,true,.ptr 0 0),(3,true,.ptr 1 0),(8,true,.int .i64 i)],hset (hset Ai 0 (.box (AL a))) 1 (.box (AL b)),3⟩) (λi=>i<=a.ruls.length/\a.ruls.take i=b.ruls.take i) (λi=>a.ruls.length-i) 0 rfl ⟨rm _,rfl⟩ ?_;rintro i ⟨hi,l5⟩;have hfl:a.ruls.length<1000000000:=hd.ru;by_cases c9:i<a.ruls.length
 ·have hltb:i<b.ruls.length:=zo
  have hg:=rc c9;have hgb:=rc hltb;have e:=AK (k:=i) zo;have ta:a.ruls.take (i+1)=a.ruls.take i++[a.ruls[i]]:=by rw[sf,hg];rfl
  have tb:b.ruls.take (i+1)=b.ruls.take i++[b.ruls[i]]:=by rw[sf,hgb];rfl
  have hxf:Ge a.ruls[i]:=hd.rus _ (rY c9);generalize a.ruls[i]=x at hg ta hxf;generalize b.ruls[i]=y at hgb tb;by_cases hxy:x=y
  ·simp only[eZ,seval,re,eY,AN c9,AN hltb,hg,hgb,e,iy,s2,CA,Bg,ra hxf,BS hxy,AG];exact .mk (i+1) rfl ⟨c9,by rw[ta,tb,l5,hxy]⟩ zo
  ·have hR:decide (a=b)=false:=sa λq=>hxy (by rw[q]at hg;rw[hg]at hgb;exact Option.some.inj hgb)
   rw[hR];simp only[eZ,seval,rf,eY,AN c9,AN hltb,hg,hgb,iy,s2,CA,Bg,ra hxf,A3 hxy,AG]
 obtain rfl:i=a.ruls.length:=zo
 have b_ruls:a.ruls=b.ruls:=by rw[se,l4,se]at l5;exact l5
 have hR:decide (a=b)=true:=sk (by
  cases a;cases b;simp only at a1 a2 a3 a4 a5 a6 b_syms b_regs b_clus b_ruls;subst a1 a2 a3 a4 a5 a6 b_syms b_regs b_clus b_ruls;rfl)
 rw[hR];simp only[eZ,seval,r9,Ad c9]
def T8l:Bc:=AG 113 (s2 N0 N0 (λa _=>B6 a) λa b=>.bool (decide (a=b))) (AG 115 (s2 DY DY (λa _=>wide a.holes/\wide a.cells) λa b=>.bool (decide (a=b))) (AG 114 (s2 dD dD (λa _=>zk a) λa b=>.bool (decide (a=b))) tnil))
def kz:AH prog T8l:=((AH.tnil.add (q2 p114)).add (q2 λa b h=>p115 a b h.1 h.2)).add (q2 λa b h=>p113 a b h.1 h.2)
structure FewKr(k:zx):Prop where
 d:zk k.d
 ho:wide k.g.holes
 ce:wide k.g.cells
 nb:B6 k.nb
 ls:wide k.ls
 lx:∀x∈k.ls,B6 x
def p75(x y:zx)(hx:FewKr x):Aw prog 75 [A5 x,A5 y] (.bool (decide (x=y))):=by
 refine .mk ⟨Aj 0 x,Aj 0 y,zt⟩ zt (c75.a (AI kz (AJ ?_)));have wm:x.ls.length<1125899906842624:=hx.ls;by_cases hl:x.ls.length=y.ls.length;case neg=>
  have hR:decide (x=y)=false:=sa λq=>hl (by rw[q])
  have hq:((x.ls.length:Int)=(y.ls.length:Int))=False:=ri zo;rw[hR];simp only[eZ,seval,rf,r9,c75,AF,AE,AL,hq]
 have hq:((x.ls.length:Int)=(y.ls.length:Int))=True:=ra zo;simp only[eZ,seval,re,r9,c75,AF,AE,AL,hq];refine AO (λi:Nat=>⟨[(2,true,.ptr 0 0),(3,true,.ptr 1 0),(5,true,.int .i64 i)],hset (hset Ai 0 (.box (AF x))) 1 (.box (AF y)),3⟩) (λi=>i<=x.ls.length/\x.ls.take i=y.ls.take i) (λi=>x.ls.length-i) 0 rfl ⟨rm _,rfl⟩ ?_;rintro i ⟨hi,l5⟩;by_cases c9:i<x.ls.length
 ·have hltb:i<y.ls.length:=zo
  have hg:=rc c9;have hgb:=rc hltb;have e:=AK (k:=i) zo;have ta:x.ls.take (i+1)=x.ls.take i++[x.ls[i]]:=by rw[sf,hg];rfl
  have tb:y.ls.take (i+1)=y.ls.take i++[y.ls[i]]:=by rw[sf,hgb];rfl
  have hxf:=hx.lx _ (rY c9);generalize x.ls[i]=u at hg ta hxf;generalize y.ls[i]=v at hgb tb;by_cases hxy:u=v
  ·simp only[eZ,seval,re,eY,AF,AE,AL,AN c9,AN hltb,hg,hgb,e,T8l,s2,Dj,Cz,ra hxf,BS hxy,AG];exact .mk (i+1) rfl ⟨c9,by rw[ta,tb,l5,hxy]⟩ zo
  ·have hR:decide (x=y)=false:=sa λq=>hxy (by rw[q]at hg;rw[hg]at hgb;exact Option.some.inj hgb)
   rw[hR];simp only[eZ,seval,rf,eY,AF,AE,AL,AN c9,AN hltb,hg,hgb,T8l,s2,Dj,Cz,ra hxf,A3 hxy,AG]
 obtain rfl:i=x.ls.length:=zo
 have xa:x.ls=y.ls:=by rw[se,hl,se]at l5;exact l5
 have e1:dD.ok (.agg (AL x.d))=True:=BR x.d;have e2:dD.dec (.agg (AL x.d))=x.d:=Az x.d;have e3:dD.ok (.agg (AL y.d))=True:=BR y.d;have e4:dD.dec (.agg (AL y.d))=y.d:=Az y.d;have f1:DY.ok (.agg (AE x.g.sh x.g.w x.g.h x.g.holes x.g.cells))=True:=EH x.g;have f2:DY.dec (.agg (AE x.g.sh x.g.w x.g.h x.g.holes x.g.cells))=x.g:=DG x.g;have f3:DY.ok (.agg (AE y.g.sh y.g.w y.g.h y.g.holes y.g.cells))=True:=EH y.g;have f4:DY.dec (.agg (AE y.g.sh y.g.w y.g.h y.g.holes y.g.cells))=y.g:=DG y.g;simp only[AL]at e1 e2 e3 e4;simp only[AE]at f1 f2 f3 f4;simp only[eZ,seval,r9,AF,AE,AL,Ad c9,T8l,s2,Dj,Cz,e1,e2,e3,e4,f1,f2,f3,f4,ra hx.d,ra hx.ho,ra hx.ce,ra hx.nb,AG];rw[su];simp only[rl,rn];constructor
 ·rintro⟨⟨h1,h2⟩,h3⟩;obtain⟨a1,a2,a3,a4⟩:=x;obtain⟨b1,b2,b3,b4⟩:=y;simp only at h1 h2 h3 xa;subst h1 h2 h3 xa;rfl
 ·rintro rfl;exact⟨⟨rfl,rfl⟩,rfl⟩
end Go.AM
