/-
  Parts of the proof. Conditions: none.
-/
import Derived.Test.YtncahiacfdihpaaGreatDoorB14
set_option maxRecDepth 20000
set_option linter.all false
namespace Go.AM
open Go.Lib Go.Proofs Go.Proofs.Tryz
def fewB(x:jq):Bool:=decide (x.cs.length<=10)&&decide (x.ls.length<=10)&&decide (x.qs.length<=10)&&decide (x.ps.length<=10)&&(x.qs.all λq=>decide (q.cs.length<=10)&&decide (q.ls.length<=10))&&x.ps.all λp=>decide (p.ls.length<=10)
def S4{x:jq}(h:fewB x=true):FewL x:=by
 unfold fewB at h;simp only[W7,X1,X9]at h;obtain⟨⟨⟨⟨⟨h1,h2⟩,h3⟩,h4⟩,h5⟩,h6⟩:=h;exact⟨by show x.cs.length<_;omega,by show x.ls.length<_;omega,by show x.qs.length<_;omega,by show x.ps.length<_;omega,λq hq=>by have:=h5 q hq;constructor<;>(show List.length _<_;omega),λp hp=>by have:=h6 p hp;show List.length _<_;omega⟩
def gt10{n:Nat}:decide ((10:Int)<n)= !decide (n<=10):=by rw[Xg];simp;omega
def p26(x:jq):Pur prog 26 [encL x] (.bool (fewB x)):=by
 refine .mk ⟨Be 0 x,trivial⟩ trivial (c26.a (AF AH.tnil (AG ?_)));simp only[eZ,seval,W3,c26,gt10];rw[cK_i];refine⟨λhB=>?_,λhB=>?_⟩
 ·simp only[eE,eN,seval];cases q:fewB x with
  |false=>rfl
  |true=>
   unfold fewB at q;simp only[W7]at q;obtain⟨⟨⟨⟨⟨h1,h2⟩,h3⟩,h4⟩,h5⟩,h6⟩:=q;simp [h1,h2,h3,h4]at hB
 simp only[Yi,YE]at hB;obtain⟨⟨⟨h1,h2⟩,h3⟩,h4⟩:=hB;have hq10:x.qs.length<=10:=by simpa using h3
 have hp10:x.ps.length<=10:=by simpa using h4
 unfold fewB;rw[h1,h2,h3,h4];simp only[XY];simp only[eE,eN,seval,W6];refine AL (λi:Nat=>⟨[(1,true,.ptr 0 0),(3,true,.int .i64 i)],hset hnil 0 (.box (Am x)),2⟩) (λi=>i<=x.qs.length/\∀j (hj:j<x.qs.length),j<i->x.qs[j].cs.length<=10/\x.qs[j].ls.length<=10) (λi=>x.qs.length-i) 0 rfl ⟨X3 _,λj hj h=>zo⟩ ?_;rintro i ⟨hi,c7⟩;by_cases c6:i<x.qs.length
 ·have hg:=W5 c6;have e:=AE (k:=i) zo;cases b1:(decide (x.qs[i].cs.length<=10))with
  |false=>
   simp only[eZ,seval,W6,W8,eY,lt_T c6,hg,gt10,b1];rw[Yw.2 ⟨_,Xa c6,by rw[b1];exact Bool.false_ne_true⟩];rfl
  |true=>
   cases b2:(decide (x.qs[i].ls.length<=10))with
   |false=>
    simp only[eZ,seval,W6,W8,eY,lt_T c6,hg,gt10,b1,b2];rw[Yw.2 ⟨_,Xa c6,by rw[b1,b2];decide⟩];rfl
   |true=>
    simp only[eZ,seval,W6,eY,lt_T c6,hg,e,gt10,b1,b2];refine .mk (i+1) rfl ⟨c6,λj hj h=>?_⟩ zo;by_cases q:j=i
    ·subst q;exact⟨Xv b1,Xv b2⟩
    ·exact c7 j hj zo
 have hqa:(x.qs.all λq=>decide (q.cs.length<=10)&&decide (q.ls.length<=10))=true:=X9.2 λq hq=>by
  obtain⟨j,hj,rfl⟩:=Xn.1 hq;have:=c7 j hj zo;rw[Xi this.1,Xi this.2];rfl
 rw[hqa,XY];simp only[eZ,seval,W3,lt_F c6];clear c6 c7 hi;refine AL (λi:Nat=>⟨[(1,true,.ptr 0 0),(4,true,.int .i64 i)],hset hnil 0 (.box (Am x)),2⟩) (λi=>i<=x.ps.length/\∀j (hj:j<x.ps.length),j<i->x.ps[j].ls.length<=10) (λi=>x.ps.length-i) 0 rfl ⟨X3 _,λj hj h=>zo⟩ ?_;rintro i ⟨hi,c7⟩;by_cases c6:i<x.ps.length
 ·have hg:=W5 c6;have e:=AE (k:=i) zo;cases b1:(decide (x.ps[i].ls.length<=10))with
  |false=>
   simp only[eZ,seval,W8,eY,lt_T c6,hg,gt10,b1];exact(Yw.2 ⟨_,Xa c6,by rw[b1];decide⟩).symm
  |true=>
   simp only[eZ,seval,W6,eY,lt_T c6,hg,e,gt10,b1];refine .mk (i+1) rfl ⟨c6,λj hj h=>?_⟩ zo;by_cases q:j=i
   ·subst q;exact Xv b1
   ·exact c7 j hj zo
 simp only[eZ,seval,W3,lt_F c6];exact(X9.2 λq hq=>by
  obtain⟨j,hj,rfl⟩:=Xn.1 hq;exact Xi (c7 j hj zo)).symm
def gtZ{n:Nat}(k:Nat)(z:Int)(hz:z=(k:Int)):decide (z<(n:Int))= !decide (n<=k):=by subst hz;rw[Xg];simp
def leZ{n:Nat}(k:Nat)(z:Int)(hz:z=(k:Int)):decide ((n:Int)<=z)=decide (n<=k):=by subst hz;rw[Xg];simp
def Fe(r:zx):Bool:=decide (r.ls.length<=40)&&r.ls.all λl=>decide (l.length<=40)
def GM(r:qj):Bool:=decide (r.ns.length<=20)&&decide (r.os.length<=20)
def JX(d:zy):Bool:=decide (d.holes.length<=40)&&decide (d.syms.length<=20)&&decide (d.regs.length<=8)&&decide (d.clus.length<=8)&&decide (d.ruls.length<=20)&&d.regs.all Fe&&d.ruls.all GM
def KO{d:zy}(h:JX d=true):qk d:=by
 unfold JX Fe GM at h;simp only[W7,X1,X9]at h;obtain⟨⟨⟨⟨⟨⟨h1,h2⟩,h3⟩,h4⟩,h5⟩,h6⟩,h7⟩:=h;exact⟨show d.holes.length<_ by omega,show d.syms.length<_ by omega,show d.regs.length<_ by omega,λr hm=>⟨show r.ls.length<_ by have:=(h6 r hm).1;omega,λl hl=>show l.length<_ by have:=(h6 r hm).2 l hl;omega⟩,show d.clus.length<_ by omega,show d.ruls.length<_ by omega,λr hm=>by have:=h7 r hm;exact⟨show r.ns.length<_ by omega,show r.os.length<_ by omega⟩⟩
def p31(d:zy):Pur prog 31 [encD d] (.bool (JX d)):=by
 refine .mk ⟨Ab 0 d,trivial⟩ trivial (c31.a (AF AH.tnil (AG ?_)));have g40:=λ{n:Nat}=>gtZ (n:=n) 40 40 rfl
 have g20:=λ{n:Nat}=>gtZ (n:=n) 20 20 rfl
 have g8:=λ{n:Nat}=>gtZ (n:=n) 8 8 rfl
 simp only[eZ,seval,W3,c31,AI,g40,g20,g8];rw[cK_i];refine⟨λhB=>?_,λhB=>?_⟩
 ·simp only[eE,eN,seval];cases q:JX d with
  |false=>rfl
  |true=>
   unfold JX at q;simp only[W7]at q;obtain⟨⟨⟨⟨⟨⟨h1,h2⟩,h3⟩,h4⟩,h5⟩,h6⟩,h7⟩:=q;simp [h1,h2,h3,h4,h5]at hB
 simp only[Yi,YE]at hB;obtain⟨⟨⟨⟨h1,h2⟩,h3⟩,h4⟩,h5⟩:=hB;have hr8:d.regs.length<=8:=by simpa using h3
 have hu20:d.ruls.length<=20:=by simpa using h5
 unfold JX;rw[h1,h2,h3,h4,h5];simp only[XY];simp only[eE,eN,seval,W6];refine AL (λi:Nat=>⟨[(1,true,.ptr 0 0),(3,true,.int .i64 i)],hset hnil 0 (.box (AI d)),2⟩) (λi=>i<=d.regs.length/\∀j (hj:j<d.regs.length),j<i->Fe d.regs[j]=true) (λi=>d.regs.length-i) 0 rfl ⟨X3 _,λj hj h=>zo⟩ ?_;rintro i ⟨hi,c7⟩;by_cases c6:i<d.regs.length
 ·have hg:=W5 c6;have hm:=Xa c6;have e:=AE (k:=i) zo;have fin:Fe d.regs[i]=false->d.regs.all Fe=false:=λh=>Yw.2 ⟨_,hm,by rw[h];decide⟩
  generalize x8:d.regs[i]=r at hg fin;cases b1:(decide (r.ls.length<=40))with
  |false=>
   simp only[eZ,seval,W8,eY,AI,lt_T c6,hg,g40,b1];rw[fin (by unfold Fe;rw[b1];rfl)];rfl
  |true=>
   have hl40:r.ls.length<=40:=Xv b1;simp only[eZ,seval,W6,eY,AI,lt_T c6,hg,g40,b1];refine AL (λk:Nat=>⟨[(1,true,.ptr 0 0),(3,true,.int .i64 i),(4,true,.int .i64 k)],hset hnil 0 (.box (AI d)),2⟩) (λk=>k<=r.ls.length/\∀j (hj:j<r.ls.length),j<k->r.ls[j].length<=40) (λk=>r.ls.length-k) 0 rfl ⟨X3 _,λj hj h=>zo⟩ ?_;rintro k ⟨hk,hal2⟩;by_cases hlt2:k<r.ls.length
   ·have hg2:=W5 hlt2;have e2:=AE (k:=k) zo;cases b2:(decide (r.ls[k].length<=40))with
    |false=>
     simp only[eZ,seval,W8,eY,AI,lt_T c6,hg,lt_T hlt2,hg2,g40,b2];rw[fin (by unfold Fe;rw[Yw.2 ⟨_,Xa hlt2,by rw[b2];decide⟩,YT])];rfl
    |true=>
     simp only[eZ,seval,W6,eY,AI,lt_T c6,hg,lt_T hlt2,hg2,e2,g40,b2];refine .mk (k+1) rfl ⟨hlt2,λj hj h=>?_⟩ zo;by_cases q:j=k
     ·subst q;exact Xv b2
     ·exact hal2 j hj zo
   simp only[eZ,seval,eY,AI,lt_T c6,hg,lt_F hlt2,e];refine .mk (i+1) rfl ⟨c6,λj hj h=>?_⟩ zo;by_cases q:j=i
   ·subst q;rw[x8];unfold Fe;rw[b1,XY];exact X9.2 λl hl=>by
     obtain⟨j,hj,rfl⟩:=Xn.1 hl;exact Xi (hal2 j hj zo)
   ·exact c7 j hj zo
 have hqa:d.regs.all Fe=true:=X9.2 λq hq=>by
  obtain⟨j,hj,rfl⟩:=Xn.1 hq;exact c7 j hj zo
 rw[hqa,XY];simp only[eZ,seval,W3,AI,lt_F c6];clear c6 c7 hi;refine AL (λi:Nat=>⟨[(1,true,.ptr 0 0),(5,true,.int .i64 i)],hset hnil 0 (.box (AI d)),2⟩) (λi=>i<=d.ruls.length/\∀j (hj:j<d.ruls.length),j<i->GM d.ruls[j]=true) (λi=>d.ruls.length-i) 0 rfl ⟨X3 _,λj hj h=>zo⟩ ?_;rintro i ⟨hi,c7⟩;by_cases c6:i<d.ruls.length
 ·have hg:=W5 c6;have hm:=Xa c6;have e:=AE (k:=i) zo;have fin:GM d.ruls[i]=false->d.ruls.all GM=false:=λh=>Yw.2 ⟨_,hm,by rw[h];decide⟩
  generalize x8:d.ruls[i]=r at hg fin;cases b1:(decide (r.ns.length<=20))with
  |false=>
   simp only[eZ,seval,W6,W8,eY,AI,lt_T c6,hg,g20,b1];exact(fin (by unfold GM;rw[b1];rfl)).symm
  |true=>
   cases b2:(decide (r.os.length<=20))with
   |false=>
    simp only[eZ,seval,W6,W8,eY,AI,lt_T c6,hg,g20,b1,b2];exact(fin (by unfold GM;rw[b1,b2];rfl)).symm
   |true=>
    simp only[eZ,seval,W6,eY,AI,lt_T c6,hg,e,g20,b1,b2];refine .mk (i+1) rfl ⟨c6,λj hj h=>?_⟩ zo;by_cases q:j=i
    ·subst q;rw[x8];unfold GM;rw[b1,b2];rfl
    ·exact c7 j hj zo
 simp only[eZ,seval,W3,AI,lt_F c6];exact(X9.2 λq hq=>by
  obtain⟨j,hj,rfl⟩:=Xn.1 hq;exact c7 j hj zo).symm
def lsF:Nat->List (List Int)->Nat
 |n,[]=>n
 |n,a::r=>if n<=2000 then lsF (min n 2001+1+min a.length 2001) r else n
def Do(l:List (List Int)):Nat:=min (lsF 0 l) 2001
theorem QJ:∀{n:Nat} {l:List (List Int)},lsF n l<=2000->n+l.length<=2000/\∀a∈l,a.length<=2000
 |n,[],h=>⟨by rw[lsF]at h;simpa using h,λa ha=>by cases ha⟩
 |n,a::r,h=>by
  rw[lsF]at h;split at h
  ·rename_i hn;have ih:=QJ h;refine⟨by have:=ih.1;rw[Xj];omega,λb hb=>?_⟩;rcases Xw.1 hb with rfl|hb
   ·have:=ih.1;omega
   ·exact ih.2 b hb
  ·omega
def HH{l:List (List Int)}(h:Do l<=2000):l.length<=2000/\∀a∈l,a.length<=2000:=by
 have:=QJ (n:=0) (l:=l) (by unfold Do at h;omega);exact⟨zo,this.2⟩
def S5(l:List (List Int)):Do l<=2001:=Nat.min_le_right ..
def p30(l:List (List Int))(hw:wide l)(hws:∀a∈l,wide a):Pur prog 30 [eLl l] (.int .i64 (Do l)):=by
 refine .mk ⟨Ak 0 l,trivial⟩ trivial (c30.a (AF AH.tnil (AG ?_)));have hw:l.length<1125899906842624:=hw;have g2000:=λ{n:Nat}=>leZ (n:=n) 2000 2000 rfl
 simp only[eE,eN,seval,c30];refine AL (λv:Nat×Nat=>⟨[(0,true,eLl l),(3,true,.int .i64 v.2),(4,true,.int .i64 v.1)],hnil,0⟩) (λv=>v.1<=l.length/\v.2<=6000/\lsF v.2 (l.drop v.1)=lsF 0 l) (λv=>l.length-v.1) (0,0) rfl ⟨X3 _,X3 _,rfl⟩ ?_;rintro⟨i,n⟩ ⟨hi,hn,hF⟩;simp only at hi hn hF;have fin:lsF 0 l=n->min (n:Int) 2001=(Do l:Int):=λh=>by unfold Do;rw[h];omega
 by_cases c6:i<l.length;case neg=>
  rw[List.drop_of_length_le zo,lsF]at hF;simp only[eZ,seval,W3,lt_F c6,fin hF.symm]
 have hd:l.drop i=l[i]::l.drop (i+1):=Xm c6;rw[hd,lsF]at hF;have hg:=W5 c6;have hwa:l[i].length<1125899906842624:=hws _ (Xa c6);generalize l[i]=a at hF hg hwa;by_cases h2:n<=2000;case neg=>
  rw[X0 h2]at hF;simp only[eZ,seval,W3,lt_T c6,g2000,Xe h2,fin hF.symm]
 rw[X6 h2]at hF;have e:=AE (k:=i) zo;simp only[eZ,seval,eY,lt_T c6,hg,g2000,Xi h2,e];have e2:IntKind.i64.wrap (IntKind.i64.wrap (min (n:Int) 2001+1)+min (a.length:Int) 2001)=((min n 2001+1+min a.length 2001:Nat):Int):=by
  rw[Aq (x:=min (n:Int) 2001+1) zo zo,Aq zo zo];omega
 rw[e2];exact .mk (i+1,min n 2001+1+min a.length 2001) rfl ⟨c6,zp,hF⟩ zp
def l18F:Nat->List (List (List Int))->Nat
 |n,[]=>n
 |n,a::r=>if n<=2000 then l18F (n+Do a) r else n
theorem QK:∀{n:Nat} {l:List (List (List Int))},l18F n l<=2000->n<=2000/\∀a∈l,Do a<=2000
 |n,[],h=>⟨h,λa ha=>by cases ha⟩
 |n,a::r,h=>by
  rw[l18F]at h;split at h
  ·rename_i hn;have ih:=QK h;refine⟨hn,λb hb=>?_⟩;rcases Xw.1 hb with rfl|hb
   ·have:=ih.1;omega
   ·exact ih.2 b hb
  ·omega
def JY(k:zz):Bool:=decide (l18F 0 k.ls<=2000)&&decide (Do k.nb<=2000)&&decide (k.g.cells.length<=256)&&decide (k.g.holes.length<=300)&&JX k.d
def KP(k:zz)(x:jq):Bool:=JY k&&decide (k.g.cells.length<=16)&&decide (k.d.syms.length<=4)&&fewB x&&decide (x.cs.length<=3)&&decide (x.ls.length<=2)
def QL{k:zz}{x:jq}(h:KP k x=true):qk k.d/\FewL x:=by
 unfold KP JY at h;simp only[W7]at h;exact⟨KO h.1.1.1.1.1.2,S4 h.1.1.2⟩
def T18:Tab:=tadd 30 (s1 dLl (λl=>wide l/\∀a∈l,wide a) λl=>.int .i64 (Do l)) (tadd 31 (s1 dD (λ_=>True) λd=>.bool (JX d)) tnil)
def T18_ok:AH prog T18:=(AH.tnil.add (q1 λd _=>p31 d)).add (q1 λl h=>p30 l h.1 h.2)
structure WdS(k:zz):Prop where
 nb:wide k.nb/\∀l∈k.nb,wide l
 ls:wide k.ls
 lss:∀l∈k.ls,wide l/\∀m∈l,wide m
def p10(k:zz)(hw:WdS k):Pur prog 10 [Bj k] (.bool (JY k)):=by
 refine .mk ⟨Ag 0 k,trivial⟩ trivial (c10.a (AF T18_ok (AG ?_)));have hl:k.ls.length<1125899906842624:=hw.ls;have g2000:=λ{n:Nat}=>leZ (n:=n) 2000 2000 rfl
 have g256:=λ{n:Nat}=>leZ (n:=n) 256 256 rfl
 have g300:=λ{n:Nat}=>leZ (n:=n) 300 300 rfl
 simp only[eE,eN,seval,c10];refine AL (λv:Nat×Nat=>⟨[(1,true,.ptr 0 0),(3,true,.int .i64 v.2),(4,true,.int .i64 v.1)],hset hnil 0 (.box (AJ k)),2⟩) (λv=>v.1<=k.ls.length/\v.2<=6000/\l18F v.2 (k.ls.drop v.1)=l18F 0 k.ls) (λv=>k.ls.length-v.1) (0,0) rfl ⟨X3 _,X3 _,rfl⟩ ?_;rintro⟨i,n⟩ ⟨hi,hn,hF⟩;simp only at hi hn hF;have u1:dD.ok (.agg (AI k.d))=True:=A9 k.d;have u2:dD.dec (.agg (AI k.d))=k.d:=Al k.d;simp only[AI]at u1 u2;by_cases c6:i<k.ls.length;case neg=>
  rw[List.drop_of_length_le zo,l18F]at hF;simp only[eZ,seval,W3,AJ,AD,AI,lt_F c6,g2000,g256,g300,T18,s1,CU,Bm,u1,u2,W4 hw.nb,tadd];unfold JY;rw[<-hF]
 have hd:k.ls.drop i=k.ls[i]::k.ls.drop (i+1):=Xm c6;rw[hd,l18F]at hF;have hg:=W5 c6;have hwa:=hw.lss _ (Xa c6);generalize k.ls[i]=a at hF hg hwa;by_cases h2:n<=2000;case neg=>
  rw[X0 h2]at hF;simp only[eZ,seval,W3,AJ,AD,AI,lt_T c6,Xe h2,g2000];unfold JY;rw[<-hF,Xe h2];rfl
 rw[X6 h2]at hF;have e:=AE (k:=i) zo;have hla:=S5 a;have e2:IntKind.i64.wrap ((n:Int)+(Do a:Int))=((n+Do a:Nat):Int):=by
  rw[Aq zo zo];rfl
 simp only[eZ,seval,eY,AJ,AD,AI,lt_T c6,hg,Xi h2,g2000,e,T18,s1,CU,Bm,W4 hwa,e2,tadd];exact .mk (i+1,n+Do a) rfl ⟨c6,zp,hF⟩ zp
def JZ(p:List (List jx)):Bool:=(p.all λt=>decide (t.length<=200))&&decide (p.length<=30)
def QN{p:List (List jx)}(h:JZ p=true):p.length<=30/\∀t∈p,t.length<=200:=by
 unfold JZ at h;simp only[W7,X1,X9]at h;exact⟨h.2,h.1⟩
def p17(p:List (List jx))(hw:wide p):Pur prog 17 [HG p] (.bool (JZ p)):=by
 refine .mk ⟨FK 0 p,trivial⟩ trivial (c17.a (AF AH.tnil (AG ?_)));have hw:p.length<1125899906842624:=hw;have g200:=λ{n:Nat}=>gtZ (n:=n) 200 200 rfl
 have g30:=λ{n:Nat}=>leZ (n:=n) 30 30 rfl
 simp only[eE,eN,seval,c17,HG];refine AL (λi:Nat=>⟨[(1,true,.ptr 0 0),(3,true,.int .i64 i)],hset hnil 0 (.box [eTr p]),2⟩) (λi=>i<=p.length/\∀j (hj:j<p.length),j<i->p[j].length<=200) (λi=>p.length-i) 0 rfl ⟨X3 _,λj hj h=>zo⟩ ?_;rintro i ⟨hi,c7⟩;by_cases c6:i<p.length
 ·have hg:=W5 c6;have e:=AE (k:=i) zo;cases b1:(decide (p[i].length<=200))with
  |false=>
   simp only[eZ,seval,W8,eY,lt_T c6,hg,g200,b1];unfold JZ;rw[Yw.2 ⟨_,Xa c6,by rw[b1];decide⟩];rfl
  |true=>
   simp only[eZ,seval,W6,eY,lt_T c6,hg,e,g200,b1];refine .mk (i+1) rfl ⟨c6,λj hj h=>?_⟩ zo;by_cases q:j=i
   ·subst q;exact Xv b1
   ·exact c7 j hj zo
 simp only[eZ,seval,W3,lt_F c6,g30];unfold JZ;rw[X9.2 λq hq=>by
  obtain⟨j,hj,rfl⟩:=Xn.1 hq;exact Xi (c7 j hj zo)]
 rfl
def T31:Tab:=tadd 10 (s1 dKn WdS λk=>.bool (JY k)) (tadd 26 (s1 dX (λ_=>True) λx=>.bool (fewB x)) tnil)
def T31_ok:AH prog T31:=(AH.tnil.add (q1 λx _=>p26 x)).add (q1 λk h=>p10 k h)
def p16(k:zz)(x:jq)(hw:WdS k):Pur prog 16 [Bj k,encL x] (.bool (KP k x)):=by
 refine .mk ⟨Ag 0 k,Be 0 x,trivial⟩ trivial (c16.a (AF T31_ok (AG ?_)));have u1:dKn.ok (.agg (AJ k))=True:=DJ k;have u2:dKn.dec (.agg (AJ k))=k:=CG k;simp only[AJ,AD,AI,Xr,Xq]at u1 u2;have v1:dX.ok (.agg (Am x))=True:=LX x;have v2:dX.dec (.agg (Am x))=x:=Gi x;simp only[Am]at v1 v2;have g16:=λ{n:Nat}=>leZ (n:=n) 16 16 rfl
 have g4:=λ{n:Nat}=>leZ (n:=n) 4 4 rfl
 have g3:=λ{n:Nat}=>leZ (n:=n) 3 3 rfl
 have g2:=λ{n:Nat}=>leZ (n:=n) 2 2 rfl
 simp only[eZ,seval,W3,c16,AJ,AD,AI,g16,g4,g3,g2,T31,s1,u1,u2,v1,v2,W4 hw,tadd]
 trace_state
 rfl
end Go.AM
