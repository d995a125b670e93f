/-
  The references of sound: small lemmas · The reference of kinds: small declarations · The reference of kinds: how many li.
  Conditions: none beyond those of its parts.
-/
import Derived.Test.YtncahiacfdihpaaGreatDoorB9
import Derived.Test.YtncahiacfdihpaaGreatDoorB7
import Derived.Test.YtncahiacfdihpaaGreatDoorB11
import Derived.Test.YtncahiacfdihpaaGreatDoorB14
import Derived.Test.YtncahiacfdihpaaGreatDoorB8
import Derived.Test.YtncahiacfdihpaaGreatDoorB6

set_option maxRecDepth 20000
set_option linter.all false
set_option maxHeartbeats 1000000
namespace Go.AM
open Go.Proofs Go.Lib
def fewB(x:Lma):Bool:=decide (x.cs.length<=10)&&decide (x.ls.length<=10)&&decide (x.qs.length<=10)&&decide (x.ps.length<=10)&&(x.qs.all λq=>decide (q.cs.length<=10)&&decide (q.ls.length<=10))&&x.ps.all λp=>decide (p.ls.length<=10)
theorem RA{x:Lma}(h:fewB x=true):FewL x:=by
 unfold fewB at h
 simp only[V7,Vf,Vj]at h
 obtain⟨⟨⟨⟨⟨h1,h2⟩,h3⟩,h4⟩,h5⟩,h6⟩:=h
 exact⟨by show x.cs.length<_;omega,by show x.ls.length<_;omega,by show x.qs.length<_;omega,by show x.ps.length<_;omega,λq hq=>by have:=h5 q hq;constructor<;>(show List.length _<_;omega),λp hp=>by have:=h6 p hp;show List.length _<_;omega⟩
theorem gt10{n:Nat}:decide ((10:Int)<n)= !decide (n<=10):=by rw[VS];simp;omega
theorem p26(x:Lma):Pur Tryz.prog 26 [encL x] (.bool (fewB x)):=by
 refine .mk ⟨Bb 0 x,trivial⟩ trivial (a26 (AE AH.tnil (AF ?_)))
 simp only[eE,eC,eN,Nat.reduceEqDiff,↓reduceIte,Nat.reduceAdd,Nat.reduceLeDiff,V0,c26,gt10]
 rw[cK_i]
 refine⟨λhB=>?_,λhB=>?_⟩
 ·simp only[eE,eN,↓reduceIte]
  cases q:fewB x with
  |false=>rfl
  |true=>
   unfold fewB at q
   simp only[V7]at q
   obtain⟨⟨⟨⟨⟨h1,h2⟩,h3⟩,h4⟩,h5⟩,h6⟩:=q
   simp [h1,h2,h3,h4]at hB
 simp only[Bool.or_eq_false_iff,Bool.not_eq_false']at hB
 obtain⟨⟨⟨h1,h2⟩,h3⟩,h4⟩:=hB
 have hq10:x.qs.length<=10:=by simpa using h3
 have hp10:x.ps.length<=10:=by simpa using h4
 unfold fewB
 rw[h1,h2,h3,h4]
 simp only[WU]
 simp only[eE,eN,Nat.reduceEqDiff,↓reduceIte,V8]
 refine AU (λi:Nat=>⟨[(1,true,.ptr 0 0),(3,true,.int .i64 i)],hset hnil 0 (.box (Ae x)),2⟩) (λi=>i<=x.qs.length/\∀j (hj:j<x.qs.length),j<i->x.qs[j].cs.length<=10/\x.qs[j].ls.length<=10) (λi=>x.qs.length-i) 0 rfl ⟨Vi _,λj hj h=>by omega⟩ ?_
 rintro i ⟨hi,hall⟩
 by_cases hlt:i<x.qs.length
 ·have hg:=V5 hlt
  have e:=AJ (k:=i) (by omega)
  cases b1:(decide (x.qs[i].cs.length<=10))with
  |false=>
   simp only[eE,eC,eN,reduceCtorEq,Nat.reduceEqDiff,↓reduceIte,Nat.reduceAdd,Nat.reduceLeDiff,V8,Ve,V1,V2,V4,V0,V6,lt_T hlt,hg,gt10,b1]
   rw[WG.2 ⟨_,Vn hlt,by rw[b1];exact Bool.false_ne_true⟩];rfl
  |true=>
   cases b2:(decide (x.qs[i].ls.length<=10))with
   |false=>
    simp only[eE,eC,eN,Nat.reduceEqDiff,↓reduceIte,Nat.reduceAdd,Nat.reduceLeDiff,V8,Ve,V1,V2,V4,V0,V6,lt_T hlt,hg,gt10,b1,b2]
    rw[WG.2 ⟨_,Vn hlt,by rw[b1,b2];decide⟩];rfl
   |true=>
    simp only[eE,eC,eN,Nat.reduceEqDiff,↓reduceIte,Nat.reduceAdd,Nat.reduceLeDiff,Int.reduceEq,V8,V1,V2,V4,V0,V6,lt_T hlt,hg,e,gt10,b1,b2]
    refine .mk (i+1) rfl ⟨hlt,λj hj h=>?_⟩ (by omega)
    by_cases q:j=i
    ·subst q;exact⟨VH b1,VH b2⟩
    ·exact hall j hj (by omega)
 have hqa:(x.qs.all λq=>decide (q.cs.length<=10)&&decide (q.ls.length<=10))=true:=Vj.2 λq hq=>by
  obtain⟨j,hj,rfl⟩:=VI.1 hq
  have:=hall j hj (by omega)
  rw[VJ this.1,VJ this.2];rfl
 rw[hqa,WU]
 simp only[eE,eC,eN,Nat.reduceEqDiff,↓reduceIte,Nat.reduceAdd,Nat.reduceLeDiff,V0,lt_F hlt]
 clear hlt hall hi
 refine AU (λi:Nat=>⟨[(1,true,.ptr 0 0),(4,true,.int .i64 i)],hset hnil 0 (.box (Ae x)),2⟩) (λi=>i<=x.ps.length/\∀j (hj:j<x.ps.length),j<i->x.ps[j].ls.length<=10) (λi=>x.ps.length-i) 0 rfl ⟨Vi _,λj hj h=>by omega⟩ ?_
 rintro i ⟨hi,hall⟩
 by_cases hlt:i<x.ps.length
 ·have hg:=V5 hlt
  have e:=AJ (k:=i) (by omega)
  cases b1:(decide (x.ps[i].ls.length<=10))with
  |false=>
   simp only[eE,eC,eN,Nat.reduceEqDiff,↓reduceIte,Nat.reduceAdd,Nat.reduceLeDiff,Ve,V1,V2,V4,V0,V6,lt_T hlt,hg,gt10,b1]
   exact(WG.2 ⟨_,Vn hlt,by rw[b1];decide⟩).symm
  |true=>
   simp only[eE,eC,eN,Nat.reduceEqDiff,↓reduceIte,Nat.reduceAdd,Nat.reduceLeDiff,Int.reduceEq,V8,V1,V2,V4,V0,V6,lt_T hlt,hg,e,gt10,b1]
   refine .mk (i+1) rfl ⟨hlt,λj hj h=>?_⟩ (by omega)
   by_cases q:j=i
   ·subst q;exact VH b1
   ·exact hall j hj (by omega)
 simp only[eE,eC,eN,Nat.reduceEqDiff,↓reduceIte,Nat.reduceAdd,Nat.reduceLeDiff,V0,lt_F hlt]
 exact(Vj.2 λq hq=>by
  obtain⟨j,hj,rfl⟩:=VI.1 hq
  exact VJ (hall j hj (by omega))).symm
end Go.AM
namespace Go.AM
open Go.Proofs Go.Lib
theorem gtZ{n:Nat}(k:Nat)(z:Int)(hz:z=(k:Int)):decide (z<(n:Int))= !decide (n<=k):=by subst hz;rw[VS];simp
theorem leZ{n:Nat}(k:Nat)(z:Int)(hz:z=(k:Int)):decide ((n:Int)<=z)=decide (n<=k):=by subst hz;rw[VS];simp
def Eh(r:DReg):Bool:=decide (r.ls.length<=40)&&r.ls.all λl=>decide (l.length<=40)
def FH(r:DRul):Bool:=decide (r.ns.length<=20)&&decide (r.os.length<=20)
def IR(d:Dcl):Bool:=decide (d.holes.length<=40)&&decide (d.syms.length<=20)&&decide (d.regs.length<=8)&&decide (d.clus.length<=8)&&decide (d.ruls.length<=20)&&d.regs.all Eh&&d.ruls.all FH
theorem Ol{d:Dcl}(h:IR d=true):FewD d:=by
 unfold IR Eh FH at h
 simp only[V7,Vf,Vj]at h
 obtain⟨⟨⟨⟨⟨⟨h1,h2⟩,h3⟩,h4⟩,h5⟩,h6⟩,h7⟩:=h
 exact⟨show d.holes.length<_ by omega,show d.syms.length<_ by omega,show d.regs.length<_ by omega,λr hm=>⟨show r.ls.length<_ by have:=(h6 r hm).1;omega,λl hl=>show l.length<_ by have:=(h6 r hm).2 l hl;omega⟩,show d.clus.length<_ by omega,show d.ruls.length<_ by omega,λr hm=>by have:=h7 r hm;exact⟨show r.ns.length<_ by omega,show r.os.length<_ by omega⟩⟩
theorem p31(d:Dcl):Pur Tryz.prog 31 [encD d] (.bool (IR d)):=by
 refine .mk ⟨A9 0 d,trivial⟩ trivial (a31 (AE AH.tnil (AF ?_)))
 have g40:=λ{n:Nat}=>gtZ (n:=n) 40 40 rfl
 have g20:=λ{n:Nat}=>gtZ (n:=n) 20 20 rfl
 have g8:=λ{n:Nat}=>gtZ (n:=n) 8 8 rfl
 simp only[eE,eC,eN,Nat.reduceEqDiff,↓reduceIte,Nat.reduceAdd,Nat.reduceLeDiff,V0,c31,AO,g40,g20,g8]
 rw[cK_i]
 refine⟨λhB=>?_,λhB=>?_⟩
 ·simp only[eE,eN,↓reduceIte]
  cases q:IR d with
  |false=>rfl
  |true=>
   unfold IR at q
   simp only[V7]at q
   obtain⟨⟨⟨⟨⟨⟨h1,h2⟩,h3⟩,h4⟩,h5⟩,h6⟩,h7⟩:=q
   simp [h1,h2,h3,h4,h5]at hB
 simp only[Bool.or_eq_false_iff,Bool.not_eq_false']at hB
 obtain⟨⟨⟨⟨h1,h2⟩,h3⟩,h4⟩,h5⟩:=hB
 have hr8:d.regs.length<=8:=by simpa using h3
 have hu20:d.ruls.length<=20:=by simpa using h5
 unfold IR
 rw[h1,h2,h3,h4,h5]
 simp only[WU]
 simp only[eE,eN,Nat.reduceEqDiff,↓reduceIte,V8]
 refine AU (λi:Nat=>⟨[(1,true,.ptr 0 0),(3,true,.int .i64 i)],hset hnil 0 (.box (AO d)),2⟩) (λi=>i<=d.regs.length/\∀j (hj:j<d.regs.length),j<i->Eh d.regs[j]=true) (λi=>d.regs.length-i) 0 rfl ⟨Vi _,λj hj h=>by omega⟩ ?_
 rintro i ⟨hi,hall⟩
 by_cases hlt:i<d.regs.length
 ·have hg:=V5 hlt
  have hm:=Vn hlt
  have e:=AJ (k:=i) (by omega)
  have fin:Eh d.regs[i]=false->d.regs.all Eh=false:=λh=>WG.2 ⟨_,hm,by rw[h];decide⟩
  generalize hrr:d.regs[i]=r at hg fin
  cases b1:(decide (r.ls.length<=40))with
  |false=>
   simp only[eE,eC,eN,Nat.reduceEqDiff,↓reduceIte,Nat.reduceAdd,Nat.reduceLeDiff,Ve,V1,V2,V4,V0,V6,AO,lt_T hlt,hg,g40,b1]
   rw[fin (by unfold Eh;rw[b1];rfl)];rfl
  |true=>
   have hl40:r.ls.length<=40:=VH b1
   simp only[eE,eC,eN,Nat.reduceEqDiff,↓reduceIte,Nat.reduceAdd,Nat.reduceLeDiff,V8,V1,V2,V4,V0,V6,AO,lt_T hlt,hg,g40,b1]
   refine AU (λk:Nat=>⟨[(1,true,.ptr 0 0),(3,true,.int .i64 i),(4,true,.int .i64 k)],hset hnil 0 (.box (AO d)),2⟩) (λk=>k<=r.ls.length/\∀j (hj:j<r.ls.length),j<k->r.ls[j].length<=40) (λk=>r.ls.length-k) 0 rfl ⟨Vi _,λj hj h=>by omega⟩ ?_
   rintro k ⟨hk,hal2⟩
   by_cases hlt2:k<r.ls.length
   ·have hg2:=V5 hlt2
    have e2:=AJ (k:=k) (by omega)
    cases b2:(decide (r.ls[k].length<=40))with
    |false=>
     simp only[eE,eC,eN,Nat.reduceEqDiff,↓reduceIte,Nat.reduceAdd,Nat.reduceLeDiff,Ve,V1,V2,V4,V0,V6,AO,lt_T hlt,hg,lt_T hlt2,hg2,g40,b2]
     rw[fin (by unfold Eh;rw[WG.2 ⟨_,Vn hlt2,by rw[b2];decide⟩,Bool.and_false])];rfl
    |true=>
     simp only[eE,eC,eN,Nat.reduceEqDiff,↓reduceIte,Nat.reduceAdd,Nat.reduceLeDiff,Int.reduceEq,V8,V1,V2,V4,V0,V6,AO,lt_T hlt,hg,lt_T hlt2,hg2,e2,g40,b2]
     refine .mk (k+1) rfl ⟨hlt2,λj hj h=>?_⟩ (by omega)
     by_cases q:j=k
     ·subst q;exact VH b2
     ·exact hal2 j hj (by omega)
   simp only[eE,eC,eN,Nat.reduceEqDiff,↓reduceIte,Nat.reduceAdd,Nat.reduceLeDiff,Int.reduceEq,V1,V2,V4,V0,V6,AO,lt_T hlt,hg,lt_F hlt2,e]
   refine .mk (i+1) rfl ⟨hlt,λj hj h=>?_⟩ (by omega)
   by_cases q:j=i
   ·subst q
    rw[hrr]
    unfold Eh
    rw[b1,WU]
    exact Vj.2 λl hl=>by
     obtain⟨j,hj,rfl⟩:=VI.1 hl
     exact VJ (hal2 j hj (by omega))
   ·exact hall j hj (by omega)
 have hqa:d.regs.all Eh=true:=Vj.2 λq hq=>by
  obtain⟨j,hj,rfl⟩:=VI.1 hq
  exact hall j hj (by omega)
 rw[hqa,WU]
 simp only[eE,eC,eN,Nat.reduceEqDiff,↓reduceIte,Nat.reduceAdd,Nat.reduceLeDiff,V0,AO,lt_F hlt]
 clear hlt hall hi
 refine AU (λi:Nat=>⟨[(1,true,.ptr 0 0),(5,true,.int .i64 i)],hset hnil 0 (.box (AO d)),2⟩) (λi=>i<=d.ruls.length/\∀j (hj:j<d.ruls.length),j<i->FH d.ruls[j]=true) (λi=>d.ruls.length-i) 0 rfl ⟨Vi _,λj hj h=>by omega⟩ ?_
 rintro i ⟨hi,hall⟩
 by_cases hlt:i<d.ruls.length
 ·have hg:=V5 hlt
  have hm:=Vn hlt
  have e:=AJ (k:=i) (by omega)
  have fin:FH d.ruls[i]=false->d.ruls.all FH=false:=λh=>WG.2 ⟨_,hm,by rw[h];decide⟩
  generalize hrr:d.ruls[i]=r at hg fin
  cases b1:(decide (r.ns.length<=20))with
  |false=>
   simp only[eE,eC,eN,reduceCtorEq,Nat.reduceEqDiff,↓reduceIte,Nat.reduceAdd,Nat.reduceLeDiff,V8,Ve,V1,V2,V4,V0,V6,AO,lt_T hlt,hg,g20,b1]
   exact(fin (by unfold FH;rw[b1];rfl)).symm
  |true=>
   cases b2:(decide (r.os.length<=20))with
   |false=>
    simp only[eE,eC,eN,Nat.reduceEqDiff,↓reduceIte,Nat.reduceAdd,Nat.reduceLeDiff,V8,Ve,V1,V2,V4,V0,V6,AO,lt_T hlt,hg,g20,b1,b2]
    exact(fin (by unfold FH;rw[b1,b2];rfl)).symm
   |true=>
    simp only[eE,eC,eN,Nat.reduceEqDiff,↓reduceIte,Nat.reduceAdd,Nat.reduceLeDiff,Int.reduceEq,V8,V1,V2,V4,V0,V6,AO,lt_T hlt,hg,e,g20,b1,b2]
    refine .mk (i+1) rfl ⟨hlt,λj hj h=>?_⟩ (by omega)
    by_cases q:j=i
    ·subst q;rw[hrr];unfold FH;rw[b1,b2];rfl
    ·exact hall j hj (by omega)
 simp only[eE,eC,eN,Nat.reduceEqDiff,↓reduceIte,Nat.reduceAdd,V0,AO,lt_F hlt]
 exact(Vj.2 λq hq=>by
  obtain⟨j,hj,rfl⟩:=VI.1 hq
  exact hall j hj (by omega)).symm
end Go.AM
namespace Go.AM
open Go.Proofs Go.Lib
def lsF:Nat->List (List Int)->Nat
 |n,[]=>n
 |n,a::r=>if n<=2000 then lsF (min n 2001+1+min a.length 2001) r else n
def De(l:List (List Int)):Nat:=min (lsF 0 l) 2001
theorem RB(l:List (List Int)):De l<=2001:=Nat.min_le_right ..
theorem p30(l:List (List Int))(hw:wide l)(hws:∀a∈l,wide a):Pur Tryz.prog 30 [eLl l] (.int .i64 (De l)):=by
 refine .mk ⟨Ar 0 l,trivial⟩ trivial (a30 (AE AH.tnil (AF ?_)))
 have hw:l.length<1125899906842624:=hw
 have g2000:=λ{n:Nat}=>leZ (n:=n) 2000 2000 rfl
 simp only[eE,eN,reduceCtorEq,Nat.reduceEqDiff,↓reduceIte,c30]
 refine AU (λv:Nat×Nat=>⟨[(0,true,eLl l),(3,true,.int .i64 v.2),(4,true,.int .i64 v.1)],hnil,0⟩) (λv=>v.1<=l.length/\v.2<=6000/\lsF v.2 (l.drop v.1)=lsF 0 l) (λv=>l.length-v.1) (0,0) rfl ⟨Vi _,Vi _,rfl⟩ ?_
 rintro⟨i,n⟩ ⟨hi,hn,hF⟩
 simp only at hi hn hF
 have fin:lsF 0 l=n->min (n:Int) 2001=(De l:Int):=λh=>by unfold De;rw[h];omega
 by_cases hlt:i<l.length
 case neg=>
  rw[List.drop_of_length_le (by omega),lsF]at hF
  simp only[eE,eC,eN,reduceCtorEq,Nat.reduceEqDiff,↓reduceIte,V0,lt_F hlt,fin hF.symm]
 have hd:l.drop i=l[i]::l.drop (i+1):=VO hlt
 rw[hd,lsF]at hF
 have hg:=V5 hlt
 have hwa:l[i].length<1125899906842624:=hws _ (Vn hlt)
 generalize l[i]=a at hF hg hwa
 by_cases h2:n<=2000
 case neg=>
  rw[Vb h2]at hF
  simp only[eE,eC,eN,reduceCtorEq,Nat.reduceEqDiff,↓reduceIte,V0,lt_T hlt,g2000,VN h2,fin hF.symm]
 rw[Vk h2]at hF
 have e:=AJ (k:=i) (by omega)
 simp only[eE,eC,eN,reduceCtorEq,Nat.reduceEqDiff,↓reduceIte,Int.reduceEq,V1,V2,V4,V0,V6,lt_T hlt,hg,g2000,VJ h2,e]
 have e2:IntKind.i64.wrap (IntKind.i64.wrap (min (n:Int) 2001+1)+min (a.length:Int) 2001)=((min n 2001+1+min a.length 2001:Nat):Int):=by
  rw[Aq (x:=min (n:Int) 2001+1) (by omega) (by omega),Aq (by omega) (by omega)]
  omega
 rw[e2]
 exact .mk (i+1,min n 2001+1+min a.length 2001) rfl ⟨hlt,by simp only[];omega,hF⟩ (by simp only[];omega)
end Go.AM
namespace Go.AM
open Go.Proofs Go.Lib
def l18F:Nat->List (List (List Int))->Nat
 |n,[]=>n
 |n,a::r=>if n<=2000 then l18F (n+De a) r else n
def Kf(k:Knd):Bool:=decide (l18F 0 k.ls<=2000)&&decide (De k.nb<=2000)&&decide (k.g.cells.length<=256)&&decide (k.g.holes.length<=300)&&IR k.d
def JJ(k:Knd)(x:Lma):Bool:=Kf k&&decide (k.g.cells.length<=16)&&decide (k.d.syms.length<=4)&&fewB x&&decide (x.cs.length<=3)&&decide (x.ls.length<=2)
theorem Om{k:Knd}{x:Lma}(h:JJ k x=true):FewD k.d/\FewL x:=by
 unfold JJ Kf at h
 simp only[V7]at h
 exact⟨Ol h.1.1.1.1.1.2,RA h.1.1.2⟩
def T18:Tab:=tadd 30 (s1 dLl (λl=>wide l/\∀a∈l,wide a) λl=>.int .i64 (De l)) (tadd 31 (s1 dD (λ_=>True) λd=>.bool (IR d)) tnil)
theorem T18_ok:AH Tryz.prog T18:=(AH.tnil.add (q1 λd _=>p31 d)).add (q1 λl h=>p30 l h.1 h.2)
theorem T18_l(a:List AVal)(H:AB):T18 30 a H=s1 dLl (λl=>wide l/\∀a∈l,wide a) (λl=>.int .i64 (De l)) a H:=rfl
theorem T18_d(a:List AVal)(H:AB):T18 31 a H=s1 dD (λ_=>True) (λd=>.bool (IR d)) a H:=rfl
structure WdS(k:Knd):Prop where
 nb:wide k.nb/\∀l∈k.nb,wide l
 ls:wide k.ls
 lss:∀l∈k.ls,wide l/\∀m∈l,wide m
theorem p10(k:Knd)(hw:WdS k):Pur Tryz.prog 10 [Bq k] (.bool (Kf k)):=by
 refine .mk ⟨Aj 0 k,trivial⟩ trivial (a10 (AE T18_ok (AF ?_)))
 have hl:k.ls.length<1125899906842624:=hw.ls
 have g2000:=λ{n:Nat}=>leZ (n:=n) 2000 2000 rfl
 have g256:=λ{n:Nat}=>leZ (n:=n) 256 256 rfl
 have g300:=λ{n:Nat}=>leZ (n:=n) 300 300 rfl
 simp only[eE,eN,Nat.reduceEqDiff,↓reduceIte,Nat.reduceAdd,c10]
 refine AU (λv:Nat×Nat=>⟨[(1,true,.ptr 0 0),(3,true,.int .i64 v.2),(4,true,.int .i64 v.1)],hset hnil 0 (.box (AL k)),2⟩) (λv=>v.1<=k.ls.length/\v.2<=6000/\l18F v.2 (k.ls.drop v.1)=l18F 0 k.ls) (λv=>k.ls.length-v.1) (0,0) rfl ⟨Vi _,Vi _,rfl⟩ ?_
 rintro⟨i,n⟩ ⟨hi,hn,hF⟩
 simp only at hi hn hF
 have u1:dD.ok (.agg (AO k.d))=True:=FF k.d
 have u2:dD.dec (.agg (AO k.d))=k.d:=DA k.d
 simp only[AO]at u1 u2
 by_cases hlt:i<k.ls.length
 case neg=>
  rw[List.drop_of_length_le (by omega),l18F]at hF
  simp only[eE,eC,eN,Nat.reduceEqDiff,↓reduceIte,Nat.reduceAdd,Nat.reduceLeDiff,V0,AL,AG,AO,lt_F hlt,g2000,g256,g300,T18_l,T18_d,s1,Dy,Cf,u1,u2,V3 hw.nb]
  unfold Kf
  rw[<-hF]
 have hd:k.ls.drop i=k.ls[i]::k.ls.drop (i+1):=VO hlt
 rw[hd,l18F]at hF
 have hg:=V5 hlt
 have hwa:=hw.lss _ (Vn hlt)
 generalize k.ls[i]=a at hF hg hwa
 by_cases h2:n<=2000
 case neg=>
  rw[Vb h2]at hF
  simp only[eE,eC,eN,reduceCtorEq,Nat.reduceEqDiff,↓reduceIte,Nat.reduceAdd,Nat.reduceLeDiff,V0,AL,AG,AO,lt_T hlt,VN h2,g2000]
  unfold Kf
  rw[<-hF,VN h2]
  rfl
 rw[Vk h2]at hF
 have e:=AJ (k:=i) (by omega)
 have hla:=RB a
 have e2:IntKind.i64.wrap ((n:Int)+(De a:Int))=((n+De a:Nat):Int):=by
  rw[Aq (by omega) (by omega)];rfl
 simp only[eE,eC,eN,reduceCtorEq,Nat.reduceEqDiff,↓reduceIte,Nat.reduceAdd,Int.reduceEq,V1,V2,V4,V0,V6,AL,AG,AO,lt_T hlt,hg,VJ h2,g2000,e,T18_l,s1,Dy,Cf,V3 hwa,e2]
 exact .mk (i+1,n+De a) rfl ⟨hlt,by simp only[];omega,hF⟩ (by simp only[];omega)
end Go.AM
namespace Go.AM
open Go.Proofs Go.Lib
def G9(p:List (List Cas)):Bool:=(p.all λt=>decide (t.length<=200))&&decide (p.length<=30)
theorem On{p:List (List Cas)}(h:G9 p=true):p.length<=30/\∀t∈p,t.length<=200:=by
 unfold G9 at h
 simp only[V7,Vf,Vj]at h
 exact⟨h.2,h.1⟩
theorem p17(p:List (List Cas))(hw:wide p):Pur Tryz.prog 17 [EC p] (.bool (G9 p)):=by
 refine .mk ⟨CX 0 p,trivial⟩ trivial (a17 (AE AH.tnil (AF ?_)))
 have hw:p.length<1125899906842624:=hw
 have g200:=λ{n:Nat}=>gtZ (n:=n) 200 200 rfl
 have g30:=λ{n:Nat}=>leZ (n:=n) 30 30 rfl
 simp only[eE,eN,Nat.reduceEqDiff,↓reduceIte,c17,EC]
 refine AU (λi:Nat=>⟨[(1,true,.ptr 0 0),(3,true,.int .i64 i)],hset hnil 0 (.box [eTr p]),2⟩) (λi=>i<=p.length/\∀j (hj:j<p.length),j<i->p[j].length<=200) (λi=>p.length-i) 0 rfl ⟨Vi _,λj hj h=>by omega⟩ ?_
 rintro i ⟨hi,hall⟩
 by_cases hlt:i<p.length
 ·have hg:=V5 hlt
  have e:=AJ (k:=i) (by omega)
  cases b1:(decide (p[i].length<=200))with
  |false=>
   simp only[eE,eC,eN,Nat.reduceEqDiff,↓reduceIte,Ve,V1,V2,V4,V0,V6,lt_T hlt,hg,g200,b1]
   unfold G9
   rw[WG.2 ⟨_,Vn hlt,by rw[b1];decide⟩];rfl
  |true=>
   simp only[eE,eC,eN,Nat.reduceEqDiff,↓reduceIte,Int.reduceEq,V8,V1,V2,V4,V0,V6,lt_T hlt,hg,e,g200,b1]
   refine .mk (i+1) rfl ⟨hlt,λj hj h=>?_⟩ (by omega)
   by_cases q:j=i
   ·subst q;exact VH b1
   ·exact hall j hj (by omega)
 simp only[eE,eC,eN,Nat.reduceEqDiff,↓reduceIte,V0,lt_F hlt,g30]
 unfold G9
 rw[Vj.2 λq hq=>by
  obtain⟨j,hj,rfl⟩:=VI.1 hq
  exact VJ (hall j hj (by omega))]
 rfl
def T31:Tab:=tadd 10 (s1 dKn WdS λk=>.bool (Kf k)) (tadd 26 (s1 dX (λ_=>True) λx=>.bool (fewB x)) tnil)
theorem T31_ok:AH Tryz.prog T31:=(AH.tnil.add (q1 λx _=>p26 x)).add (q1 λk h=>p10 k h)
theorem T31_k(a:List AVal)(H:AB):T31 10 a H=s1 dKn WdS (λk=>.bool (Kf k)) a H:=rfl
theorem T31_x(a:List AVal)(H:AB):T31 26 a H=s1 dX (λ_=>True) (λx=>.bool (fewB x)) a H:=rfl
theorem p16(k:Knd)(x:Lma)(hw:WdS k):Pur Tryz.prog 16 [Bq k,encL x] (.bool (JJ k x)):=by
 refine .mk ⟨Aj 0 k,Bb 0 x,trivial⟩ trivial (a16 (AE T31_ok (AF ?_)))
 have u1:dKn.ok (.agg (AL k))=True:=EF k
 have u2:dKn.dec (.agg (AL k))=k:=Ct k
 simp only[AL,AG,AO,Vu,Vw]at u1 u2
 have v1:dX.ok (.agg (Ae x))=True:=Ns x
 have v2:dX.dec (.agg (Ae x))=x:=IF x
 simp only[Ae]at v1 v2
 have g16:=λ{n:Nat}=>leZ (n:=n) 16 16 rfl
 have g4:=λ{n:Nat}=>leZ (n:=n) 4 4 rfl
 have g3:=λ{n:Nat}=>leZ (n:=n) 3 3 rfl
 have g2:=λ{n:Nat}=>leZ (n:=n) 2 2 rfl
 simp only[eE,eC,eN,reduceCtorEq,Nat.reduceEqDiff,↓reduceIte,Nat.reduceAdd,Nat.reduceLeDiff,V0,c16,AL,AG,AO,g16,g4,g3,g2,T31_k,T31_x,s1,u1,u2,v1,v2,V3 hw]
 trace_state
 rfl
end Go.AM
namespace Go.AM
open Go.Proofs Go.Lib Go.RowKit Go.Sort
def s179:List AVal->AB->Prop×AVal:=λa H=>match a with
 |[.str l,.str p]=>(True,.bool (hasPrefix l p))
 |_=>(False,.tup [])
theorem q179:∀args H n,(s179 args H).1->AZ Tryz.prog 179 args H n (s179 args H).2:=by
 intro args H n h
 unfold s179 at h⊢
 split at h
 ·rename_i l p
  refine Pur.quiet ?_ H n
  refine BM l179 ⟨trivial,trivial,trivial⟩ trivial ?_
  rintro g w vs hR ⟨v,r,rfl,k1,v2,r2,rfl,k2,k3⟩
  have k1':v= .string ⟨l.toArray⟩:=k1
  have k2':v2= .string ⟨p.toArray⟩:=k2
  have k3':r2=[]:=k3
  subst k1';subst k2';subst k3'
  refine(Tryz.strings_HasPrefix ⟨l.toArray⟩ ⟨p.toArray⟩ w).mono ?_
  rintro e w' ⟨rfl,rfl⟩
  exact⟨⟨_,rfl,rfl⟩,Below.refl _ _⟩
 ·exact h.elim
def s178:List AVal->AB->Prop×AVal:=λa H=>match a with
 |[.int .i64 z]=>(-9223372036854775808<=z/\z<=9223372036854775807,.str (itoa z))
 |_=>(False,.tup [])
theorem tab_is{g:Ghost}{w:World}(hR:Rel g hnil 0 w):TabIs Tryz.prog w "internal/strconv.uint64pow10" .u64 pow10Tab:=by
 have hn:Tryz.prog.globalNamed "internal/strconv.uint64pow10" =some 3:=by kernel_rfl
 obtain⟨c,e,fz,h1,h2⟩:=hR.gz 3 _ rfl
 have h3:=hR.gl 3 _ rfl
 have hc:c=(pow10Tab.map λz=>Value.int .u64 z).toArray:=by
  have hs:∀(i:Nat) z,pow10Tab[i]?=some z->c[i]?=some (.int .u64 z):=by
   intro i z hz
   have key:∀(l:List Int) (o:Nat),PStab g (g.σ 3) o (l.map λz=>AVal.int .u64 z)->∀(i:Nat) z,l[i]?=some z->g.σ 3 (o+i)=some (.int .u64 z):=by
    intro l
    induction l with
    |nil=>intro o _ i z h;simp at h
    |cons x l ih=>
     intro o h i z hz
     obtain⟨⟨v,q1,q2,q3⟩,h'⟩:=h
     cases i with
     |zero=>simp at hz;subst hz;have q2':v= .int .u64 x:=q2;subst q2';exact q1
     |succ i=>rw[show o+(i+1)=o+1+i by omega];exact ih (o+1) h' i z (by simpa using hz)
   have h4:=hR.σw _ _ _ (key pow10Tab 0 (by exact h3) i z hz)
   rw[VW]at h4
   simpa [World.cell?,h1]using h4
  have hl:c.size=pow10Tab.length:=by rw[h2];rfl
  refine Xv λi=>?_
  by_cases hi:i<pow10Tab.length
  ·rw[hs i _ (V5 hi)];simp [hi]
  ·rw[Wo (by omega),Wo (by simp;omega)]
 unfold TabIs World.var?
 rw[hn]
 simp only[Option.bind_some,h1,hc]
theorem q178:∀args H n,(s178 args H).1->AZ Tryz.prog 178 args H n (s178 args H).2:=by
 intro args H n h
 unfold s178 at h⊢
 split at h
 ·rename_i z
  refine Pur.quiet ?_ H n
  refine BM l178 ⟨trivial,trivial⟩ trivial ?_
  rintro g w vs hR ⟨v,r,rfl,k1,k3⟩
  have k1':v= .int .i64 z:=k1
  have k3':r=[]:=k3
  subst k1';subst k3'
  refine(Tryz.strconv_Itoa z h.1 h.2 w (tab_is hR)).mono ?_
  rintro e w' ⟨rfl,k,os,rfl⟩
  exact⟨⟨_,rfl,rfl⟩,Nh⟩
 ·exact h.elim
def s177:List AVal->AB->Prop×AVal:=λa H=>match a with
 |[.str l]=>(l.length<=281474976710656,match atoiAll l with| .ok v=>.tup [.int .i64 v,.nilifc]| .range=>.tup [.int .i64 (atoiSat l),.ifc 287 .up]|_=>.tup [.int .i64 0,.ifc 287 .up])
 |_=>(False,.tup [])
theorem q177:∀args H n,(s177 args H).1->AZ Tryz.prog 177 args H n (s177 args H).2:=by
 intro args H n h
 unfold s177 at h⊢
 split at h
 ·rename_i l
  simp only at h
  have hsz:(⟨l.toArray⟩:ByteArray).size=l.length:=by simp [ByteArray.size]
  cases ha:atoiAll l with
  |ok v=>
   refine Pur.quiet ?_ H n
   refine BM l177 ⟨trivial,trivial⟩ ⟨trivial,trivial,trivial⟩ ?_
   rintro g w vs hR ⟨v,r,rfl,k1,k3⟩
   have k1':v= .string ⟨l.toArray⟩:=k1
   have k3':r=[]:=k3
   subst k1';subst k3'
   refine(Tryz.strconv_Atoi_ok ⟨l.toArray⟩ (by omega) _ ha w).mono ?_
   rintro e w' ⟨rfl,hw⟩
   refine⟨⟨_,rfl,⟨_,rfl,_,_,rfl,rfl,_,_,rfl,rfl,rfl⟩⟩,?_⟩
   rcases hw with rfl|⟨t,rfl⟩
   ·exact Below.refl _ _
   ·exact Lib.bytesWorld_below _ _ _
  |range=>
   refine Pur.quiet ?_ H n
   refine BM l177 ⟨trivial,trivial⟩ ⟨trivial,trivial,trivial⟩ ?_
   rintro g w vs hR ⟨v,r,rfl,k1,k3⟩
   have k1':v= .string ⟨l.toArray⟩:=k1
   have k3':r=[]:=k3
   subst k1';subst k3'
   obtain⟨⟨ev,e1,⟨z,e2,_⟩,_⟩,_⟩:=hR.gl 2 _ rfl
   refine(Tryz.strconv_Atoi_range ⟨l.toArray⟩ (by omega) ha ev w (hR.σw _ _ _ e1) (.inr ⟨_,_,e2⟩)).mono ?_
   rintro e w' ⟨N,rfl,_,_,hb⟩
   exact⟨⟨_,rfl,⟨_,rfl,_,_,rfl,rfl,_,_,rfl,⟨_,rfl,_,rfl⟩,rfl⟩⟩,hb⟩
  |_=>
   refine Pur.quiet ?_ H n
   refine BM l177 ⟨trivial,trivial⟩ ⟨trivial,trivial,trivial⟩ ?_
   rintro g w vs hR ⟨v,r,rfl,k1,k3⟩
   have k1':v= .string ⟨l.toArray⟩:=k1
   have k3':r=[]:=k3
   subst k1';subst k3'
   obtain⟨⟨ev,e1,⟨z,e2,_⟩,_⟩,_⟩:=hR.gl 1 _ rfl
   refine(Tryz.strconv_Atoi_syntax ⟨l.toArray⟩ (by omega) ha ev w (hR.σw _ _ _ e1) (.inr ⟨_,_,e2⟩)).mono ?_
   rintro e w' ⟨N,rfl,_,_,hb⟩
   exact⟨⟨_,rfl,⟨_,rfl,_,_,rfl,rfl,_,_,rfl,⟨_,rfl,_,rfl⟩,rfl⟩⟩,hb⟩
 ·exact h.elim
end Go.AM
