/-
  Parts of the proof. Conditions: none.
-/
import Derived.Test.YtncahiacfdihpaaGreatDoorB14
set_option maxRecDepth 20000
set_option linter.all false
namespace Go.AM
open Go.Lib Go.Proofs Go.Proofs.Tryz
def gtZ{n:Nat}(k:Nat)(z:Int)(hz:z=(k:Int)):decide (z<(n:Int))= !decide (n<=k):=by subst hz;rw[Wt];simp
def leZ{n:Nat}(k:Nat)(z:Int)(hz:z=(k:Int)):decide ((n:Int)<=z)=decide (n<=k):=by subst hz;rw[Wt];simp
def FQ(r:Zl):Bool:=decide (r.ls.length<=40)&&r.ls.all λl=>decide (l.length<=40)
def F9(r:Zf):Bool:=decide (r.ns.length<=20)&&decide (r.os.length<=20)
def JH(d:Zo):Bool:=decide (d.holes.length<=40)&&decide (d.syms.length<=20)&&decide (d.regs.length<=8)&&decide (d.clus.length<=8)&&decide (d.ruls.length<=20)&&d.regs.all FQ&&d.ruls.all F9
def Pv{d:Zo}(h:JH d=true):Zh d:=by
 unfold JH FQ F9 at h;simp only[W5,W9,Wo]at h;obtain⟨⟨⟨⟨⟨⟨h1,h2⟩,h3⟩,h4⟩,h5⟩,h6⟩,h7⟩:=h;exact⟨show d.holes.length<_ by omega,show d.syms.length<_ by omega,show d.regs.length<_ by omega,λr hm=>⟨show r.ls.length<_ by have:=(h6 r hm).1;omega,λl hl=>show l.length<_ by have:=(h6 r hm).2 l hl;omega⟩,show d.clus.length<_ by omega,show d.ruls.length<_ by omega,λr hm=>by have:=h7 r hm;exact⟨show r.ns.length<_ by omega,show r.os.length<_ by omega⟩⟩
def p31(d:Zo):Pur prog 31 [encD d] (.bool (JH d)):=by
 refine .mk ⟨Ab 0 d,trivial⟩ trivial (c31.a (AF AI.tnil (AG ?_)));have g40:=λ{n:Nat}=>gtZ (n:=n) 40 40 rfl
 have g20:=λ{n:Nat}=>gtZ (n:=n) 20 20 rfl
 have g8:=λ{n:Nat}=>gtZ (n:=n) 8 8 rfl
 simp only[eZ,seval,W0,c31,AH,g40,g20,g8];rw[cK_i];refine⟨λhB=>?_,λhB=>?_⟩
 ·simp only[eE,eN,seval];cases q:JH d with
  |false=>rfl
  |true=>
   unfold JH at q;simp only[W5]at q;obtain⟨⟨⟨⟨⟨⟨h1,h2⟩,h3⟩,h4⟩,h5⟩,h6⟩,h7⟩:=q;simp [h1,h2,h3,h4,h5]at hB
 simp only[Yd,YC]at hB;obtain⟨⟨⟨⟨h1,h2⟩,h3⟩,h4⟩,h5⟩:=hB;have hr8:d.regs.length<=8:=by simpa using h3
 have hu20:d.ruls.length<=20:=by simpa using h5
 unfold JH;rw[h1,h2,h3,h4,h5];simp only[XU];simp only[eE,eN,seval,W3];refine AL (λi:Nat=>⟨[(1,true,.ptr 0 0),(3,true,.int .i64 i)],hset hnil 0 (.box (AH d)),2⟩) (λi=>i<=d.regs.length/\∀j (hj:j<d.regs.length),j<i->FQ d.regs[j]=true) (λi=>d.regs.length-i) 0 rfl ⟨We _,λj hj h=>zo⟩ ?_;rintro i ⟨hi,c8⟩;by_cases c5:i<d.regs.length
 ·have hg:=W2 c5;have hm:=Wn c5;have e:=AE (k:=i) zo;have fin:FQ d.regs[i]=false->d.regs.all FQ=false:=λh=>YS.2 ⟨_,hm,by rw[h];decide⟩
  generalize w8:d.regs[i]=r at hg fin;cases b1:(decide (r.ls.length<=40))with
  |false=>
   simp only[eZ,seval,W6,eY,AH,lt_T c5,hg,g40,b1];rw[fin (by unfold FQ;rw[b1];rfl)];rfl
  |true=>
   have hl40:r.ls.length<=40:=Xa b1;simp only[eZ,seval,W3,eY,AH,lt_T c5,hg,g40,b1];refine AL (λk:Nat=>⟨[(1,true,.ptr 0 0),(3,true,.int .i64 i),(4,true,.int .i64 k)],hset hnil 0 (.box (AH d)),2⟩) (λk=>k<=r.ls.length/\∀j (hj:j<r.ls.length),j<k->r.ls[j].length<=40) (λk=>r.ls.length-k) 0 rfl ⟨We _,λj hj h=>zo⟩ ?_;rintro k ⟨hk,hal2⟩;by_cases hlt2:k<r.ls.length
   ·have hg2:=W2 hlt2;have e2:=AE (k:=k) zo;cases b2:(decide (r.ls[k].length<=40))with
    |false=>
     simp only[eZ,seval,W6,eY,AH,lt_T c5,hg,lt_T hlt2,hg2,g40,b2];rw[fin (by unfold FQ;rw[YS.2 ⟨_,Wn hlt2,by rw[b2];decide⟩,YA])];rfl
    |true=>
     simp only[eZ,seval,W3,eY,AH,lt_T c5,hg,lt_T hlt2,hg2,e2,g40,b2];refine .mk (k+1) rfl ⟨hlt2,λj hj h=>?_⟩ zo;by_cases q:j=k
     ·subst q;exact Xa b2
     ·exact hal2 j hj zo
   simp only[eZ,seval,eY,AH,lt_T c5,hg,lt_F hlt2,e];refine .mk (i+1) rfl ⟨c5,λj hj h=>?_⟩ zo;by_cases q:j=i
   ·subst q;rw[w8];unfold FQ;rw[b1,XU];exact Wo.2 λl hl=>by
     obtain⟨j,hj,rfl⟩:=X9.1 hl;exact Wv (hal2 j hj zo)
   ·exact c8 j hj zo
 have hqa:d.regs.all FQ=true:=Wo.2 λq hq=>by
  obtain⟨j,hj,rfl⟩:=X9.1 hq;exact c8 j hj zo
 rw[hqa,XU];simp only[eZ,seval,W0,AH,lt_F c5];clear c5 c8 hi;refine AL (λi:Nat=>⟨[(1,true,.ptr 0 0),(5,true,.int .i64 i)],hset hnil 0 (.box (AH d)),2⟩) (λi=>i<=d.ruls.length/\∀j (hj:j<d.ruls.length),j<i->F9 d.ruls[j]=true) (λi=>d.ruls.length-i) 0 rfl ⟨We _,λj hj h=>zo⟩ ?_;rintro i ⟨hi,c8⟩;by_cases c5:i<d.ruls.length
 ·have hg:=W2 c5;have hm:=Wn c5;have e:=AE (k:=i) zo;have fin:F9 d.ruls[i]=false->d.ruls.all F9=false:=λh=>YS.2 ⟨_,hm,by rw[h];decide⟩
  generalize w8:d.ruls[i]=r at hg fin;cases b1:(decide (r.ns.length<=20))with
  |false=>
   simp only[eZ,seval,W3,W6,eY,AH,lt_T c5,hg,g20,b1];exact(fin (by unfold F9;rw[b1];rfl)).symm
  |true=>
   cases b2:(decide (r.os.length<=20))with
   |false=>
    simp only[eZ,seval,W3,W6,eY,AH,lt_T c5,hg,g20,b1,b2];exact(fin (by unfold F9;rw[b1,b2];rfl)).symm
   |true=>
    simp only[eZ,seval,W3,eY,AH,lt_T c5,hg,e,g20,b1,b2];refine .mk (i+1) rfl ⟨c5,λj hj h=>?_⟩ zo;by_cases q:j=i
    ·subst q;rw[w8];unfold F9;rw[b1,b2];rfl
    ·exact c8 j hj zo
 simp only[eZ,seval,W0,AH,lt_F c5];exact(Wo.2 λq hq=>by
  obtain⟨j,hj,rfl⟩:=X9.1 hq;exact c8 j hj zo).symm
def lsF:Nat->List (List Int)->Nat
 |n,[]=>n
 |n,a::r=>if n<=2000 then lsF (min n 2001+1+min a.length 2001) r else n
def Dk(l:List (List Int)):Nat:=min (lsF 0 l) 2001
theorem Pw:∀{n:Nat} {l:List (List Int)},lsF n l<=2000->n+l.length<=2000/\∀a∈l,a.length<=2000
 |n,[],h=>⟨by rw[lsF]at h;simpa using h,λa ha=>by cases ha⟩
 |n,a::r,h=>by
  rw[lsF]at h;split at h
  ·rename_i hn;have ih:=Pw h;refine⟨by have:=ih.1;rw[Ww];omega,λb hb=>?_⟩;rcases X7.1 hb with rfl|hb
   ·have:=ih.1;omega
   ·exact ih.2 b hb
  ·omega
def G1{l:List (List Int)}(h:Dk l<=2000):l.length<=2000/\∀a∈l,a.length<=2000:=by
 have:=Pw (n:=0) (l:=l) (by unfold Dk at h;omega);exact⟨zo,this.2⟩
def Sb(l:List (List Int)):Dk l<=2001:=Nat.min_le_right ..
def p30(l:List (List Int))(hw:wide l)(hws:∀a∈l,wide a):Pur prog 30 [eLl l] (.int .i64 (Dk l)):=by
 refine .mk ⟨Ak 0 l,trivial⟩ trivial (c30.a (AF AI.tnil (AG ?_)));have hw:l.length<1125899906842624:=hw;have g2000:=λ{n:Nat}=>leZ (n:=n) 2000 2000 rfl
 simp only[eE,eN,seval,c30];refine AL (λv:Nat×Nat=>⟨[(0,true,eLl l),(3,true,.int .i64 v.2),(4,true,.int .i64 v.1)],hnil,0⟩) (λv=>v.1<=l.length/\v.2<=6000/\lsF v.2 (l.drop v.1)=lsF 0 l) (λv=>l.length-v.1) (0,0) rfl ⟨We _,We _,rfl⟩ ?_;rintro⟨i,n⟩ ⟨hi,hn,hF⟩;simp only at hi hn hF;have fin:lsF 0 l=n->min (n:Int) 2001=(Dk l:Int):=λh=>by unfold Dk;rw[h];omega
 by_cases c5:i<l.length;case neg=>
  rw[List.drop_of_length_le zo,lsF]at hF;simp only[eZ,seval,W0,lt_F c5,fin hF.symm]
 have hd:l.drop i=l[i]::l.drop (i+1):=Wy c5;rw[hd,lsF]at hF;have hg:=W2 c5;have hwa:l[i].length<1125899906842624:=hws _ (Wn c5);generalize l[i]=a at hF hg hwa;by_cases h2:n<=2000;case neg=>
  rw[W7 h2]at hF;simp only[eZ,seval,W0,lt_T c5,g2000,Wp h2,fin hF.symm]
 rw[Wg h2]at hF;have e:=AE (k:=i) zo;simp only[eZ,seval,eY,lt_T c5,hg,g2000,Wv h2,e];have e2:IntKind.i64.wrap (IntKind.i64.wrap (min (n:Int) 2001+1)+min (a.length:Int) 2001)=((min n 2001+1+min a.length 2001:Nat):Int):=by
  rw[Aq (x:=min (n:Int) 2001+1) zo zo,Aq zo zo];omega
 rw[e2];exact .mk (i+1,min n 2001+1+min a.length 2001) rfl ⟨c5,zp,hF⟩ zp
def l18F:Nat->List (List (List Int))->Nat
 |n,[]=>n
 |n,a::r=>if n<=2000 then l18F (n+Dk a) r else n
theorem Px:∀{n:Nat} {l:List (List (List Int))},l18F n l<=2000->n<=2000/\∀a∈l,Dk a<=2000
 |n,[],h=>⟨h,λa ha=>by cases ha⟩
 |n,a::r,h=>by
  rw[l18F]at h;split at h
  ·rename_i hn;have ih:=Px h;refine⟨hn,λb hb=>?_⟩;rcases X7.1 hb with rfl|hb
   ·have:=ih.1;omega
   ·exact ih.2 b hb
  ·omega
def J7(k:Zm):Bool:=decide (l18F 0 k.ls<=2000)&&decide (Dk k.nb<=2000)&&decide (k.g.cells.length<=256)&&decide (k.g.holes.length<=300)&&JH k.d
def T18:Tab:=tadd 30 (s1 dLl (λl=>wide l/\∀a∈l,wide a) λl=>.int .i64 (Dk l)) (tadd 31 (s1 dD (λ_=>True) λd=>.bool (JH d)) tnil)
def T18_ok:AI prog T18:=(AI.tnil.add (q1 λd _=>p31 d)).add (q1 λl h=>p30 l h.1 h.2)
structure WdS(k:Zm):Prop where
 nb:wide k.nb/\∀l∈k.nb,wide l
 ls:wide k.ls
 lss:∀l∈k.ls,wide l/\∀m∈l,wide m
def p10(k:Zm)(hw:WdS k):Pur prog 10 [Bh k] (.bool (J7 k)):=by
 refine .mk ⟨Ah 0 k,trivial⟩ trivial (c10.a (AF T18_ok (AG ?_)));have hl:k.ls.length<1125899906842624:=hw.ls;have g2000:=λ{n:Nat}=>leZ (n:=n) 2000 2000 rfl
 have g256:=λ{n:Nat}=>leZ (n:=n) 256 256 rfl
 have g300:=λ{n:Nat}=>leZ (n:=n) 300 300 rfl
 simp only[eE,eN,seval,c10];refine AL (λv:Nat×Nat=>⟨[(1,true,.ptr 0 0),(3,true,.int .i64 v.2),(4,true,.int .i64 v.1)],hset hnil 0 (.box (AJ k)),2⟩) (λv=>v.1<=k.ls.length/\v.2<=6000/\l18F v.2 (k.ls.drop v.1)=l18F 0 k.ls) (λv=>k.ls.length-v.1) (0,0) rfl ⟨We _,We _,rfl⟩ ?_;rintro⟨i,n⟩ ⟨hi,hn,hF⟩;simp only at hi hn hF;have u1:dD.ok (.agg (AH k.d))=True:=A8 k.d;have u2:dD.dec (.agg (AH k.d))=k.d:=Al k.d;simp only[AH]at u1 u2;by_cases c5:i<k.ls.length;case neg=>
  rw[List.drop_of_length_le zo,l18F]at hF;simp only[eZ,seval,W0,AJ,AD,AH,lt_F c5,g2000,g256,g300,T18,s1,CH,Bd,u1,u2,W1 hw.nb,tadd];unfold J7;rw[<-hF]
 have hd:k.ls.drop i=k.ls[i]::k.ls.drop (i+1):=Wy c5;rw[hd,l18F]at hF;have hg:=W2 c5;have hwa:=hw.lss _ (Wn c5);generalize k.ls[i]=a at hF hg hwa;by_cases h2:n<=2000;case neg=>
  rw[W7 h2]at hF;simp only[eZ,seval,W0,AJ,AD,AH,lt_T c5,Wp h2,g2000];unfold J7;rw[<-hF,Wp h2];rfl
 rw[Wg h2]at hF;have e:=AE (k:=i) zo;have hla:=Sb a;have e2:IntKind.i64.wrap ((n:Int)+(Dk a:Int))=((n+Dk a:Nat):Int):=by
  rw[Aq zo zo];rfl
 simp only[eZ,seval,eY,AJ,AD,AH,lt_T c5,hg,Wv h2,g2000,e,T18,s1,CH,Bd,W1 hwa,e2,tadd];exact .mk (i+1,n+Dk a) rfl ⟨c5,zp,hF⟩ zp
end Go.AM
