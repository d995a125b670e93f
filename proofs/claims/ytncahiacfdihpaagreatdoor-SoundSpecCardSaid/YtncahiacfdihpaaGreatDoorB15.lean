/-
  Parts of the proof. Conditions: none.
-/
import Derived.Test.YtncahiacfdihpaaGreatDoorB14
set_option maxRecDepth 20000
set_option linter.all false
namespace Go.AM
open Go.Lib Go.Proofs Go.Proofs.Tryz
def fewB(x:zj):Bool:=decide (x.cs.length<=10)&&decide (x.ls.length<=10)&&decide (x.qs.length<=10)&&decide (x.ps.length<=10)&&(x.qs.all λq=>decide (q.cs.length<=10)&&decide (q.ls.length<=10))&&x.ps.all λp=>decide (p.ls.length<=10)
def TO{x:zj}(h:fewB x=true):jk x:=by
 unfold fewB at h;simp only[X4,X8,Xv]at h;obtain⟨⟨⟨⟨⟨h1,h2⟩,h3⟩,h4⟩,h5⟩,h6⟩:=h;exact⟨by show x.cs.length<_;omega,by show x.ls.length<_;omega,by show x.qs.length<_;omega,by show x.ps.length<_;omega,λq hq=>by have:=h5 q hq;constructor<;>(show List.length _<_;omega),λp hp=>by have:=h6 p hp;show List.length _<_;omega⟩
def gt10{n:Nat}:decide ((10:Int)<n)= !decide (n<=10):=by rw[Y0];simp;omega
def p26(x:zj):Pur prog 26 [encL x] (.bool (fewB x)):=by
 refine .mk ⟨As 0 x,trivial⟩ trivial (c26.a (AF AJ.tnil (AG ?_)));simp only[eZ,seval,X0,c26,gt10];rw[cK_i];refine⟨λhB=>?_,λhB=>?_⟩
 ·simp only[eE,eN,seval];cases q:fewB x with
  |false=>rfl
  |true=>
   unfold fewB at q;simp only[X4]at q;obtain⟨⟨⟨⟨⟨h1,h2⟩,h3⟩,h4⟩,h5⟩,h6⟩:=q;simp [h1,h2,h3,h4]at hB
 simp only[Z4,Zv]at hB;obtain⟨⟨⟨h1,h2⟩,h3⟩,h4⟩:=hB;have hq10:x.qs.length<=10:=by simpa using h3
 have hp10:x.ps.length<=10:=by simpa using h4
 unfold fewB;rw[h1,h2,h3,h4];simp only[Yq];simp only[eE,eN,seval,X3];refine AL (λi:Nat=>⟨[(1,true,.ptr 0 0),(3,true,.int .i64 i)],hset hnil 0 (.box (Ab x)),2⟩) (λi=>i<=x.qs.length/\∀j (hj:j<x.qs.length),j<i->x.qs[j].cs.length<=10/\x.qs[j].ls.length<=10) (λi=>x.qs.length-i) 0 rfl ⟨Xn _,λj hj h=>zo⟩ ?_;rintro i ⟨hi,c6⟩;by_cases c5:i<x.qs.length
 ·have hg:=X2 c5;have e:=AE (k:=i) zo;cases b1:(decide (x.qs[i].cs.length<=10))with
  |false=>
   simp only[eZ,seval,X3,X5,eY,lt_T c5,hg,gt10,b1];rw[Zi.2 ⟨_,Xt c5,by rw[b1];exact Bool.false_ne_true⟩];rfl
  |true=>
   cases b2:(decide (x.qs[i].ls.length<=10))with
   |false=>
    simp only[eZ,seval,X3,X5,eY,lt_T c5,hg,gt10,b1,b2];rw[Zi.2 ⟨_,Xt c5,by rw[b1,b2];decide⟩];rfl
   |true=>
    simp only[eZ,seval,X3,eY,lt_T c5,hg,e,gt10,b1,b2];refine .mk (i+1) rfl ⟨c5,λj hj h=>?_⟩ zo;by_cases q:j=i
    ·subst q;exact⟨Yh b1,Yh b2⟩
    ·exact c6 j hj zo
 have hqa:(x.qs.all λq=>decide (q.cs.length<=10)&&decide (q.ls.length<=10))=true:=Xv.2 λq hq=>by
  obtain⟨j,hj,rfl⟩:=Yc.1 hq;have:=c6 j hj zo;rw[Y3 this.1,Y3 this.2];rfl
 rw[hqa,Yq];simp only[eZ,seval,X0,lt_F c5];clear c5 c6 hi;refine AL (λi:Nat=>⟨[(1,true,.ptr 0 0),(4,true,.int .i64 i)],hset hnil 0 (.box (Ab x)),2⟩) (λi=>i<=x.ps.length/\∀j (hj:j<x.ps.length),j<i->x.ps[j].ls.length<=10) (λi=>x.ps.length-i) 0 rfl ⟨Xn _,λj hj h=>zo⟩ ?_;rintro i ⟨hi,c6⟩;by_cases c5:i<x.ps.length
 ·have hg:=X2 c5;have e:=AE (k:=i) zo;cases b1:(decide (x.ps[i].ls.length<=10))with
  |false=>
   simp only[eZ,seval,X5,eY,lt_T c5,hg,gt10,b1];exact(Zi.2 ⟨_,Xt c5,by rw[b1];decide⟩).symm
  |true=>
   simp only[eZ,seval,X3,eY,lt_T c5,hg,e,gt10,b1];refine .mk (i+1) rfl ⟨c5,λj hj h=>?_⟩ zo;by_cases q:j=i
   ·subst q;exact Yh b1
   ·exact c6 j hj zo
 simp only[eZ,seval,X0,lt_F c5];exact(Xv.2 λq hq=>by
  obtain⟨j,hj,rfl⟩:=Yc.1 hq;exact Y3 (c6 j hj zo)).symm
def gtZ{n:Nat}(k:Nat)(z:Int)(hz:z=(k:Int)):decide (z<(n:Int))= !decide (n<=k):=by subst hz;rw[Y0];simp
def leZ{n:Nat}(k:Nat)(z:Int)(hz:z=(k:Int)):decide ((n:Int)<=z)=decide (n<=k):=by subst hz;rw[Y0];simp
def Fh(r:zk):Bool:=decide (r.ls.length<=40)&&r.ls.all λl=>decide (l.length<=40)
def GP(r:qj):Bool:=decide (r.ns.length<=20)&&decide (r.os.length<=20)
def Jd(d:j7):Bool:=decide (d.holes.length<=40)&&decide (d.syms.length<=20)&&decide (d.regs.length<=8)&&decide (d.clus.length<=8)&&decide (d.ruls.length<=20)&&d.regs.all Fh&&d.ruls.all GP
def Kb{d:j7}(h:Jd d=true):qv d:=by
 unfold Jd Fh GP at h;simp only[X4,X8,Xv]at h;obtain⟨⟨⟨⟨⟨⟨h1,h2⟩,h3⟩,h4⟩,h5⟩,h6⟩,h7⟩:=h;exact⟨show d.holes.length<_ by omega,show d.syms.length<_ by omega,show d.regs.length<_ by omega,λr hm=>⟨show r.ls.length<_ by have:=(h6 r hm).1;omega,λl hl=>show l.length<_ by have:=(h6 r hm).2 l hl;omega⟩,show d.clus.length<_ by omega,show d.ruls.length<_ by omega,λr hm=>by have:=h7 r hm;exact⟨show r.ns.length<_ by omega,show r.os.length<_ by omega⟩⟩
def p31(d:j7):Pur prog 31 [encD d] (.bool (Jd d)):=by
 refine .mk ⟨Ae 0 d,trivial⟩ trivial (c31.a (AF AJ.tnil (AG ?_)));have g40:=λ{n:Nat}=>gtZ (n:=n) 40 40 rfl
 have g20:=λ{n:Nat}=>gtZ (n:=n) 20 20 rfl
 have g8:=λ{n:Nat}=>gtZ (n:=n) 8 8 rfl
 simp only[eZ,seval,X0,c31,AI,g40,g20,g8];rw[cK_i];refine⟨λhB=>?_,λhB=>?_⟩
 ·simp only[eE,eN,seval];cases q:Jd d with
  |false=>rfl
  |true=>
   unfold Jd at q;simp only[X4]at q;obtain⟨⟨⟨⟨⟨⟨h1,h2⟩,h3⟩,h4⟩,h5⟩,h6⟩,h7⟩:=q;simp [h1,h2,h3,h4,h5]at hB
 simp only[Z4,Zv]at hB;obtain⟨⟨⟨⟨h1,h2⟩,h3⟩,h4⟩,h5⟩:=hB;have hr8:d.regs.length<=8:=by simpa using h3
 have hu20:d.ruls.length<=20:=by simpa using h5
 unfold Jd;rw[h1,h2,h3,h4,h5];simp only[Yq];simp only[eE,eN,seval,X3];refine AL (λi:Nat=>⟨[(1,true,.ptr 0 0),(3,true,.int .i64 i)],hset hnil 0 (.box (AI d)),2⟩) (λi=>i<=d.regs.length/\∀j (hj:j<d.regs.length),j<i->Fh d.regs[j]=true) (λi=>d.regs.length-i) 0 rfl ⟨Xn _,λj hj h=>zo⟩ ?_;rintro i ⟨hi,c6⟩;by_cases c5:i<d.regs.length
 ·have hg:=X2 c5;have hm:=Xt c5;have e:=AE (k:=i) zo;have fin:Fh d.regs[i]=false->d.regs.all Fh=false:=λh=>Zi.2 ⟨_,hm,by rw[h];decide⟩
  generalize x8:d.regs[i]=r at hg fin;cases b1:(decide (r.ls.length<=40))with
  |false=>
   simp only[eZ,seval,X5,eY,AI,lt_T c5,hg,g40,b1];rw[fin (by unfold Fh;rw[b1];rfl)];rfl
  |true=>
   have hl40:r.ls.length<=40:=Yh b1;simp only[eZ,seval,X3,eY,AI,lt_T c5,hg,g40,b1];refine AL (λk:Nat=>⟨[(1,true,.ptr 0 0),(3,true,.int .i64 i),(4,true,.int .i64 k)],hset hnil 0 (.box (AI d)),2⟩) (λk=>k<=r.ls.length/\∀j (hj:j<r.ls.length),j<k->r.ls[j].length<=40) (λk=>r.ls.length-k) 0 rfl ⟨Xn _,λj hj h=>zo⟩ ?_;rintro k ⟨hk,hal2⟩;by_cases hlt2:k<r.ls.length
   ·have hg2:=X2 hlt2;have e2:=AE (k:=k) zo;cases b2:(decide (r.ls[k].length<=40))with
    |false=>
     simp only[eZ,seval,X5,eY,AI,lt_T c5,hg,lt_T hlt2,hg2,g40,b2];rw[fin (by unfold Fh;rw[Zi.2 ⟨_,Xt hlt2,by rw[b2];decide⟩,ZD])];rfl
    |true=>
     simp only[eZ,seval,X3,eY,AI,lt_T c5,hg,lt_T hlt2,hg2,e2,g40,b2];refine .mk (k+1) rfl ⟨hlt2,λj hj h=>?_⟩ zo;by_cases q:j=k
     ·subst q;exact Yh b2
     ·exact hal2 j hj zo
   simp only[eZ,seval,eY,AI,lt_T c5,hg,lt_F hlt2,e];refine .mk (i+1) rfl ⟨c5,λj hj h=>?_⟩ zo;by_cases q:j=i
   ·subst q;rw[x8];unfold Fh;rw[b1,Yq];exact Xv.2 λl hl=>by
     obtain⟨j,hj,rfl⟩:=Yc.1 hl;exact Y3 (hal2 j hj zo)
   ·exact c6 j hj zo
 have hqa:d.regs.all Fh=true:=Xv.2 λq hq=>by
  obtain⟨j,hj,rfl⟩:=Yc.1 hq;exact c6 j hj zo
 rw[hqa,Yq];simp only[eZ,seval,X0,AI,lt_F c5];clear c5 c6 hi;refine AL (λi:Nat=>⟨[(1,true,.ptr 0 0),(5,true,.int .i64 i)],hset hnil 0 (.box (AI d)),2⟩) (λi=>i<=d.ruls.length/\∀j (hj:j<d.ruls.length),j<i->GP d.ruls[j]=true) (λi=>d.ruls.length-i) 0 rfl ⟨Xn _,λj hj h=>zo⟩ ?_;rintro i ⟨hi,c6⟩;by_cases c5:i<d.ruls.length
 ·have hg:=X2 c5;have hm:=Xt c5;have e:=AE (k:=i) zo;have fin:GP d.ruls[i]=false->d.ruls.all GP=false:=λh=>Zi.2 ⟨_,hm,by rw[h];decide⟩
  generalize x8:d.ruls[i]=r at hg fin;cases b1:(decide (r.ns.length<=20))with
  |false=>
   simp only[eZ,seval,X3,X5,eY,AI,lt_T c5,hg,g20,b1];exact(fin (by unfold GP;rw[b1];rfl)).symm
  |true=>
   cases b2:(decide (r.os.length<=20))with
   |false=>
    simp only[eZ,seval,X3,X5,eY,AI,lt_T c5,hg,g20,b1,b2];exact(fin (by unfold GP;rw[b1,b2];rfl)).symm
   |true=>
    simp only[eZ,seval,X3,eY,AI,lt_T c5,hg,e,g20,b1,b2];refine .mk (i+1) rfl ⟨c5,λj hj h=>?_⟩ zo;by_cases q:j=i
    ·subst q;rw[x8];unfold GP;rw[b1,b2];rfl
    ·exact c6 j hj zo
 simp only[eZ,seval,X0,AI,lt_F c5];exact(Xv.2 λq hq=>by
  obtain⟨j,hj,rfl⟩:=Yc.1 hq;exact c6 j hj zo).symm
def lsF:Nat->List (List Int)->Nat
 |n,[]=>n
 |n,a::r=>if n<=2000 then lsF (min n 2001+1+min a.length 2001) r else n
def Dr(l:List (List Int)):Nat:=min (lsF 0 l) 2001
theorem Ql:∀{n:Nat} {l:List (List Int)},lsF n l<=2000->n+l.length<=2000/\∀a∈l,a.length<=2000
 |n,[],h=>⟨by rw[lsF]at h;simpa using h,λa ha=>by cases ha⟩
 |n,a::r,h=>by
  rw[lsF]at h;split at h
  ·rename_i hn;have ih:=Ql h;refine⟨by have:=ih.1;rw[Y4];omega,λb hb=>?_⟩;rcases Yf.1 hb with rfl|hb
   ·have:=ih.1;omega
   ·exact ih.2 b hb
  ·omega
def HL{l:List (List Int)}(h:Dr l<=2000):l.length<=2000/\∀a∈l,a.length<=2000:=by
 have:=Ql (n:=0) (l:=l) (by unfold Dr at h;omega);exact⟨zo,this.2⟩
def TP(l:List (List Int)):Dr l<=2001:=Nat.min_le_right ..
def p30(l:List (List Int))(hw:wide l)(hws:∀a∈l,wide a):Pur prog 30 [eLl l] (.int .i64 (Dr l)):=by
 refine .mk ⟨Am 0 l,trivial⟩ trivial (c30.a (AF AJ.tnil (AG ?_)));have hw:l.length<1125899906842624:=hw;have g2000:=λ{n:Nat}=>leZ (n:=n) 2000 2000 rfl
 simp only[eE,eN,seval,c30];refine AL (λv:Nat×Nat=>⟨[(0,true,eLl l),(3,true,.int .i64 v.2),(4,true,.int .i64 v.1)],hnil,0⟩) (λv=>v.1<=l.length/\v.2<=6000/\lsF v.2 (l.drop v.1)=lsF 0 l) (λv=>l.length-v.1) (0,0) rfl ⟨Xn _,Xn _,rfl⟩ ?_;rintro⟨i,n⟩ ⟨hi,hn,hF⟩;simp only at hi hn hF;have fin:lsF 0 l=n->min (n:Int) 2001=(Dr l:Int):=λh=>by unfold Dr;rw[h];omega
 by_cases c5:i<l.length;case neg=>
  rw[ZM zo,lsF]at hF;simp only[eZ,seval,X0,lt_F c5,fin hF.symm]
 have hd:l.drop i=l[i]::l.drop (i+1):=Y2 c5;rw[hd,lsF]at hF;have hg:=X2 c5;have hwa:l[i].length<1125899906842624:=hws _ (Xt c5);generalize l[i]=a at hF hg hwa;by_cases h2:n<=2000;case neg=>
  rw[X6 h2]at hF;simp only[eZ,seval,X0,lt_T c5,g2000,Xy h2,fin hF.symm]
 rw[Xp h2]at hF;have e:=AE (k:=i) zo;simp only[eZ,seval,eY,lt_T c5,hg,g2000,Y3 h2,e];have e2:IntKind.i64.wrap (IntKind.i64.wrap (min (n:Int) 2001+1)+min (a.length:Int) 2001)=((min n 2001+1+min a.length 2001:Nat):Int):=by
  rw[Aq (x:=min (n:Int) 2001+1) zo zo,Aq zo zo];omega
 rw[e2];exact .mk (i+1,min n 2001+1+min a.length 2001) rfl ⟨c5,zp,hF⟩ zp
def l18F:Nat->List (List (List Int))->Nat
 |n,[]=>n
 |n,a::r=>if n<=2000 then l18F (n+Dr a) r else n
theorem Qm:∀{n:Nat} {l:List (List (List Int))},l18F n l<=2000->n<=2000/\∀a∈l,Dr a<=2000
 |n,[],h=>⟨h,λa ha=>by cases ha⟩
 |n,a::r,h=>by
  rw[l18F]at h;split at h
  ·rename_i hn;have ih:=Qm h;refine⟨hn,λb hb=>?_⟩;rcases Yf.1 hb with rfl|hb
   ·have:=ih.1;omega
   ·exact ih.2 b hb
  ·omega
def Je(k:qw):Bool:=decide (l18F 0 k.ls<=2000)&&decide (Dr k.nb<=2000)&&decide (k.g.cells.length<=256)&&decide (k.g.holes.length<=300)&&Jd k.d
def Oc(k:qw)(x:zj):Bool:=Je k&&decide (k.g.cells.length<=16)&&decide (k.d.syms.length<=4)&&fewB x&&decide (x.cs.length<=3)&&decide (x.ls.length<=2)
def Qn{k:qw}{x:zj}(h:Oc k x=true):qv k.d/\jk x:=by
 unfold Oc Je at h;simp only[X4]at h;exact⟨Kb h.1.1.1.1.1.2,TO h.1.1.2⟩
def T18:Tab:=tadd 30 (s1 dLl (λl=>wide l/\∀a∈l,wide a) λl=>.int .i64 (Dr l)) (tadd 31 (s1 dD (λ_=>True) λd=>.bool (Jd d)) tnil)
def T18_ok:AJ prog T18:=(AJ.tnil.add (q1 λd _=>p31 d)).add (q1 λl h=>p30 l h.1 h.2)
structure WdS(k:qw):Prop where
 nb:wide k.nb/\∀l∈k.nb,wide l
 ls:wide k.ls
 lss:∀l∈k.ls,wide l/\∀m∈l,wide m
def p10(k:qw)(hw:WdS k):Pur prog 10 [A9 k] (.bool (Je k)):=by
 refine .mk ⟨Aa 0 k,trivial⟩ trivial (c10.a (AF T18_ok (AG ?_)));have hl:k.ls.length<1125899906842624:=hw.ls;have g2000:=λ{n:Nat}=>leZ (n:=n) 2000 2000 rfl
 have g256:=λ{n:Nat}=>leZ (n:=n) 256 256 rfl
 have g300:=λ{n:Nat}=>leZ (n:=n) 300 300 rfl
 simp only[eE,eN,seval,c10];refine AL (λv:Nat×Nat=>⟨[(1,true,.ptr 0 0),(3,true,.int .i64 v.2),(4,true,.int .i64 v.1)],hset hnil 0 (.box (AH k)),2⟩) (λv=>v.1<=k.ls.length/\v.2<=6000/\l18F v.2 (k.ls.drop v.1)=l18F 0 k.ls) (λv=>k.ls.length-v.1) (0,0) rfl ⟨Xn _,Xn _,rfl⟩ ?_;rintro⟨i,n⟩ ⟨hi,hn,hF⟩;simp only at hi hn hF;have u1:dD.ok (.agg (AI k.d))=True:=BC k.d;have u2:dD.dec (.agg (AI k.d))=k.d:=An k.d;simp only[AI]at u1 u2;by_cases c5:i<k.ls.length;case neg=>
  rw[ZM zo,l18F]at hF;simp only[eZ,seval,X0,AH,AD,AI,lt_F c5,g2000,g256,g300,T18,s1,CX,Bq,u1,u2,X1 hw.nb,tadd];unfold Je;rw[<-hF]
 have hd:k.ls.drop i=k.ls[i]::k.ls.drop (i+1):=Y2 c5;rw[hd,l18F]at hF;have hg:=X2 c5;have hwa:=hw.lss _ (Xt c5);generalize k.ls[i]=a at hF hg hwa;by_cases h2:n<=2000;case neg=>
  rw[X6 h2]at hF;simp only[eZ,seval,X0,AH,AD,AI,lt_T c5,Xy h2,g2000];unfold Je;rw[<-hF,Xy h2];rfl
 rw[Xp h2]at hF;have e:=AE (k:=i) zo;have hla:=TP a;have e2:IntKind.i64.wrap ((n:Int)+(Dr a:Int))=((n+Dr a:Nat):Int):=by
  rw[Aq zo zo];rfl
 simp only[eZ,seval,eY,AH,AD,AI,lt_T c5,hg,Y3 h2,g2000,e,T18,s1,CX,Bq,X1 hwa,e2,tadd];exact .mk (i+1,n+Dr a) rfl ⟨c5,zp,hF⟩ zp
def L4(p:List (List jj)):Bool:=(p.all λt=>decide (t.length<=200))&&decide (p.length<=30)
def Qo{p:List (List jj)}(h:L4 p=true):p.length<=30/\∀t∈p,t.length<=200:=by
 unfold L4 at h;simp only[X4,X8,Xv]at h;exact⟨h.2,h.1⟩
def p17(p:List (List jj))(hw:wide p):Pur prog 17 [D5 p] (.bool (L4 p)):=by
 refine .mk ⟨DL 0 p,trivial⟩ trivial (c17.a (AF AJ.tnil (AG ?_)));have hw:p.length<1125899906842624:=hw;have g200:=λ{n:Nat}=>gtZ (n:=n) 200 200 rfl
 have g30:=λ{n:Nat}=>leZ (n:=n) 30 30 rfl
 simp only[eE,eN,seval,c17,D5];refine AL (λi:Nat=>⟨[(1,true,.ptr 0 0),(3,true,.int .i64 i)],hset hnil 0 (.box [eTr p]),2⟩) (λi=>i<=p.length/\∀j (hj:j<p.length),j<i->p[j].length<=200) (λi=>p.length-i) 0 rfl ⟨Xn _,λj hj h=>zo⟩ ?_;rintro i ⟨hi,c6⟩;by_cases c5:i<p.length
 ·have hg:=X2 c5;have e:=AE (k:=i) zo;cases b1:(decide (p[i].length<=200))with
  |false=>
   simp only[eZ,seval,X5,eY,lt_T c5,hg,g200,b1];unfold L4;rw[Zi.2 ⟨_,Xt c5,by rw[b1];decide⟩];rfl
  |true=>
   simp only[eZ,seval,X3,eY,lt_T c5,hg,e,g200,b1];refine .mk (i+1) rfl ⟨c5,λj hj h=>?_⟩ zo;by_cases q:j=i
   ·subst q;exact Yh b1
   ·exact c6 j hj zo
 simp only[eZ,seval,X0,lt_F c5,g30];unfold L4;rw[Xv.2 λq hq=>by
  obtain⟨j,hj,rfl⟩:=Yc.1 hq;exact Y3 (c6 j hj zo)]
 rfl
def T31:Tab:=tadd 10 (s1 dKn WdS λk=>.bool (Je k)) (tadd 26 (s1 dX (λ_=>True) λx=>.bool (fewB x)) tnil)
def T31_ok:AJ prog T31:=(AJ.tnil.add (q1 λx _=>p26 x)).add (q1 λk h=>p10 k h)
def p16(k:qw)(x:zj)(hw:WdS k):Pur prog 16 [A9 k,encL x] (.bool (Oc k x)):=by
 refine .mk ⟨Aa 0 k,As 0 x,trivial⟩ trivial (c16.a (AF T31_ok (AG ?_)));have u1:dKn.ok (.agg (AH k))=True:=CC k;have u2:dKn.dec (.agg (AH k))=k:=BP k;simp only[AH,AD,AI,Y7,Y5]at u1 u2;have v1:dX.ok (.agg (Ab x))=True:=Ff x;have v2:dX.dec (.agg (Ab x))=x:=DW x;simp only[Ab]at v1 v2;have g16:=λ{n:Nat}=>leZ (n:=n) 16 16 rfl
 have g4:=λ{n:Nat}=>leZ (n:=n) 4 4 rfl
 have g3:=λ{n:Nat}=>leZ (n:=n) 3 3 rfl
 have g2:=λ{n:Nat}=>leZ (n:=n) 2 2 rfl
 simp only[eZ,seval,X0,c16,AH,AD,AI,g16,g4,g3,g2,T31,s1,u1,u2,v1,v2,X1 hw,tadd]
 trace_state
 rfl
end Go.AM
