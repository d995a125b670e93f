/-
  The program's value of a declaration · The program's value of a declaration · The reference's value of a declaration · T.
  Conditions: none beyond those of its parts.
-/
import Derived.Test.YtbngedlokkndkaaGreatDoorB15
import Derived.Test.YtbngedlokkndkaaGreatDoorB12
import Derived.Test.YtbngedlokkndkaaGreatDoorB11

set_option maxRecDepth 20000
set_option linter.all false
namespace Go.AM
open Go.Lib Go.Proofs Go.Proofs.Tryz
section
def ML(r:x9):Prop:=KG r.ls/\∀l∈r.ls,KG l
def MM(r:zj):Prop:=KG r.ns/\KG r.os
def X1{α:Type}(D:Dc (List α))(ok:α->Prop)(fv:Fs)(g:α->zk):List Fs->AB->Prop×Fs:=λa _=>match a with
 |[x,f]=>(D.ok x/\f=fv/\KG (D.dec x)/\(∀y∈D.dec x,ok y),eV (.list ((D.dec x).map g)))
 |_=>(False,.sH [])
def qEa{α:Type}{D:Dc (List α)}{ok:α->Prop}{fv:Fs}{g:α->zk}{tF:FuncId}(h:∀{H:AB} {n:Nat} (l:List α),KG l->(∀y∈l,ok y)->Ad prog tF [D.enc l,fv] H n (eV (.list (l.map g)))):∀args H n,(X1 D ok fv g args H).1->Ad prog tF args H n (X1 D ok fv g args H).2:=by
 intro args H n hh;unfold X1 at hh⊢;split at hh
 ·obtain⟨h1,rfl,h2,h3⟩:=hh;refine AO.args (h _ h2 h3) ?_;rintro gg vs ⟨v,r,rfl,k1,k2⟩;exact⟨v,_,rfl,D.wk _ h1 _ _ k1,k2⟩
 ·exact hh.elim
def jZ:=X1 On (λ_=>True) (.fn (.func 48) [] []) zk.text
def X2:=X1 Le (λl=>KG l) (.fn (.func 42) [] []) DF
noncomputable def Sc:Bk:=AJ 56 jZ (AJ 51 X2 bQ)
def PP:AG prog Sc:=(PO.add (qEa q51)).add (qEa q56)
section
variable (a:List Fs) (H:AB)
theorem ja:Sc 56 a H=jZ a H:=rfl
theorem jb:Sc 51 a H=X2 a H:=rfl
theorem jc:Sc 44 a H=Lp a H:=rfl
theorem X3:Sc 48 a H=K1 a H:=rfl
theorem X4:Sc 47 a H=PM a H:=rfl
end
def q50(r:x9)(hr:ML r){H:AB}{n c:Nat}(hc:AD H c=some (.box [.fn (.func 42) [] []])):Ad prog 50 [Fb r,.ptr c 0] H n (eV (HM r)):=by
 refine Ad.of c50.l (Ar _ _) λhf=>c50.a (AE PP (AF ?_))
 have f0:=hf n (od _);have f1:=hf (n+1) zo;have hcn:=hf.lt hc;have n1:(n=c)=False:=oA zo;have n2:(n+1=c)=False:=oA zo;simp only[eE,eN,seval,Au,c50,f0,f1,hc,n1,n2,X3,X4,jb,K1,PM,X2,X1,Cp,CC,o7 hr.1,o7 hr.2,AH,Bc,CN,De,ri];exact⟨Wk.refl _,Cr.new hf (Nat.le_succ n) (Cr.new hf (od _) (Cr.refl _))⟩
def p55(x:zj)(hx:MM x):A6 prog 55 [Ao x] (eV (Ic x)):=by
 refine .mk ⟨BA 0 x,zt⟩ (Ar 0 _) (c55.a (AE PP (AF ?_)));simp only[eE,eN,seval,Au,c55,BT,X3,jc,X4,ja,K1,Lp,PM,jZ,X1,FU,Do,o7 hx.1,o7 hx.2,AH,Bc,CN,De,ri];exact Wk.refl _
def nW:List Fs->AB->Prop×Fs:=λa H=>match a with
 |[x,.ptr c 0]=>(ZS.ok x/\ML (ZS.dec x)/\AD H c=some (.box [.fn (.func 42) [] []]),eV (HM (ZS.dec x)))
 |_=>(False,.sH [])
def qV3:∀args H n,(nW args H).1->Ad prog 50 args H n (nW args H).2:=by
 intro args H n hh;unfold nW at hh⊢;split at hh
 ·obtain⟨h1,h2,h3⟩:=hh;refine AO.args (q50 _ h2 h3) ?_;rintro gg vs ⟨v,r,rfl,k1,k2⟩;exact⟨v,_,rfl,ZS.wk _ h1 _ _ k1,k2⟩
 ·exact hh.elim
def sV5:List Fs->AB->Prop×Fs:=s1 Kj MM λr=>eV (Ic r)
noncomputable def UG:Bk:=AJ 50 nW (AJ 55 sV5 Sc)
def MN:AG prog UG:=(PP.add (q1 λr h=>p55 r h)).add qV3
theorem bR(a:List Fs)(H:AB):UG 50 a H=nW a H:=rfl
theorem bS(a:List Fs)(H:AB):UG 55 a H=sV5 a H:=rfl
variable {c:Nat}
theorem q54{H:AB}{n:Nat}(l:List (zj))(hl:KG l)(hx:∀x∈l,MM x):Ad prog 54 [DT l,.fn (.func 55) [] []] H n (eV (.list (l.map Ic))):=by
 refine Ad.of c54.l (Ar _ _) λhf=>c54.a (AE MN (AF ?_))
 have hl':l.length<100000:=hl;have m1:((l.length:Int)<=35184372088832)=True:=o7 zo;have m2:small l.length 56=True:=o7 (AY zo zd);have f0:=hf n (od _);simp only[eE,eN,seval,eY,c54,m1,m2,Bx hf,f0];refine AQ (λv:VEa=>⟨[(1,true,.fn (.func 55) [] []),(4,true,.ptr n 0),(5,true,.ref (n+3) 4 0 l.length l.length),(11,true,DT l),(12,true,.int .i64 l.length),(13,true,.int .i64 v.j)],v.H,v.n⟩) (IEa H n (λx=>eV (Ic x)) l) (λv=>l.length-v.j) ⟨0,sA (sA H n (.box [z0,z0,zr,zs])) (n+3) (.arr 4 (List.replicate l.length zV)),n+5⟩ rfl (IEa.init hf) ?_;rintro⟨j,H1,n1⟩ hI;have hj:j<=l.length:=hI.hj;have ha:=hI.a;have hb:=hI.b;have t7:=hI.fr;have hle:n+5<=n1:=hI.le;simp only at ha hb t7;by_cases e9:j<l.length
 ·have hg:=o8 e9;have e:=AI (k:=j) zo;have nx:=Gr (f:=λx=>eV (Ic x)) e9;have ln:=Gp (f:=λx=>eV (Ic x)) hj;have hxx:=hx _ (oK e9);generalize l[j]=x at hg nx hxx;have f3:=t7 (n1+3) zo;have t9:Kj.ok (.agg (BT x))=True:=B0 x;have hdc:Kj.dec (.agg (BT x))=x:=BU x;simp only[BT]at t9 hdc;have ne3:(n1+3=n+3)=False:=oA zo;simp only[eZ,seval,eY,AT e9,e9,hg,BT,bS,sV5,s1,t9,hdc,o7 hxx,e,ha,f3,ne3,AH,Bc,CN,ln];exact .mk ⟨j+1,_,_⟩ rfl (hI.nextS e9 nx) (by show l.length-(j+1)<l.length-j;omega)
 obtain rfl:j=l.length:=zo
 rw[Gq]at ha;simp only[eZ,seval,Ah e9];refine Fm (l.map Ic) ha (by rw[pO];rfl) (o6 _) ?_;have n30:(n+3=n)=False:=oA zo;simp only[eE,eN,seval,Au,BG,Bc,CN,n30,hb];exact⟨Wk.refl _,El hf hI.low⟩
theorem q49{H:AB}{n:Nat}(l:List (x9))(hl:KG l)(hx:∀x∈l,ML x)(hc:AD H c=some (.box [.fn (.func 42) [] []])):Ad prog 49 [GV l,.fn (.func 50) [] [.ptr c 0]] H n (eV (.list (l.map HM))):=by
 refine Ad.of c49.l (Ar _ _) λhf=>c49.a (AE MN (AF ?_))
 have hl':l.length<100000:=hl;have m1:((l.length:Int)<=35184372088832)=True:=o7 zo;have m2:small l.length 56=True:=o7 (AY zo zd);have f0:=hf n (od _);simp only[eE,eN,seval,eY,c49,m1,m2,Bx hf,f0];refine AQ (λv:VEa=>⟨[(1,true,.fn (.func 50) [] [.ptr c 0]),(4,true,.ptr n 0),(5,true,.ref (n+3) 4 0 l.length l.length),(11,true,GV l),(12,true,.int .i64 l.length),(13,true,.int .i64 v.j)],v.H,v.n⟩) (IEa H n (λx=>eV (HM x)) l) (λv=>l.length-v.j) ⟨0,sA (sA H n (.box [z0,z0,zr,zs])) (n+3) (.arr 4 (List.replicate l.length zV)),n+5⟩ rfl (IEa.init hf) ?_;rintro⟨j,H1,n1⟩ hI;have hj:j<=l.length:=hI.hj;have ha:=hI.a;have hb:=hI.b;have t7:=hI.fr;have hle:n+5<=n1:=hI.le;simp only at ha hb t7;by_cases e9:j<l.length
 ·have hg:=o8 e9;have e:=AI (k:=j) zo;have nx:=Gr (f:=λx=>eV (HM x)) e9;have ln:=Gp (f:=λx=>eV (HM x)) hj;have hxx:=hx _ (oK e9);generalize l[j]=x at hg nx hxx;have f3:=t7 (n1+3) zo;have hc1:AD H1 c=some (.box [.fn (.func 42) [] []]):=by rw[hI.low c (hf.lt hc)];exact hc
  have hcn:=hf.lt hc;have nec:(n1+3=c)=False:=oA zo;have ne3:(n1+3=n+3)=False:=oA zo;simp only[eZ,seval,eY,AT e9,e9,hg,bR,nW,I9,G4,o7 hxx,nec,hc1,e,ha,f3,ne3,AH,Bc,CN,ln];exact .mk ⟨j+1,_,_⟩ rfl (hI.nextS e9 nx) (by show l.length-(j+1)<l.length-j;omega)
 obtain rfl:j=l.length:=zo
 rw[Gq]at ha;simp only[eZ,seval,Ah e9];refine Fm (l.map HM) ha (by rw[pO];rfl) (o6 _) ?_;have n30:(n+3=n)=False:=oA zo;simp only[eE,eN,seval,Au,BG,Bc,CN,n30,hb];exact⟨Wk.refl _,El hf hI.low⟩
end
def F5(d:x8):zk:=.list [.text d.nm,.int d.uw,.int d.sh,.int d.w,.int d.h,DF d.sB,.list (d.sI.map GZ),.list (d.sJ.map HM),.list (d.sD.map HX),.list (d.sC.map Ic)]
structure FewVD(d:x8):Prop where
 ho:KG d.sB
 sy:KG d.sI
 rg:KG d.sJ
 rgx:∀r∈d.sJ,ML r
 cl:KG d.sD
 ru:KG d.sC
 rux:∀r∈d.sC,MM r
def X5:=X1 ZT (λ_=>True) (.fn (.func 46) [] []) GZ
def X6:=X1 ZU (λ_=>True) (.fn (.func 53) [] []) HX
def X7:=X1 ZV MM (.fn (.func 55) [] []) Ic
def N8:List Fs->AB->Prop×Fs:=λa H=>match a with
 |[x,.fn (.func f) [] [.ptr c 0]]=>(P5.ok x/\f=50/\AD H c=some (.box [.fn (.func 42) [] []])/\KG (P5.dec x)/\∀r∈P5.dec x,ML r,eV (.list ((P5.dec x).map HM)))
 |_=>(False,.sH [])
def qEaRg:∀args H n,(N8 args H).1->Ad prog 49 args H n (N8 args H).2:=by
 intro args H n hh;unfold N8 at hh⊢;split at hh
 ·obtain⟨h1,rfl,h3,h4,h5⟩:=hh;refine AO.args (q49 _ h4 h5 h3) ?_;rintro gg vs ⟨v,r,rfl,k1,k2⟩;exact⟨v,_,rfl,P5.wk _ h1 _ _ k1,k2⟩
 ·exact hh.elim
noncomputable def PQ:Bk:=AJ 45 X5 (AJ 52 X6 (AJ 54 X7 (AJ 49 N8 UG)))
def bT:AG prog PQ:=(((MN.add qEaRg).add (qEa q54)).add (qEa q52)).add (qEa q45)
section
variable (a:List Fs) (H:AB)
theorem jd:PQ 45 a H=X5 a H:=rfl
theorem je:PQ 52 a H=X6 a H:=rfl
theorem jf:PQ 54 a H=X7 a H:=rfl
theorem jg:PQ 49 a H=N8 a H:=rfl
theorem jh:PQ 42 a H=Qg a H:=rfl
theorem ji:PQ 44 a H=Lp a H:=rfl
theorem jj:PQ 48 a H=K1 a H:=rfl
theorem jk:PQ 47 a H=PM a H:=rfl
end
def p22(d:x8)(hd:FewVD d):A6 prog 22 [Ba d] (eV (F5 d)):=by
 refine .mk ⟨Ag 0 d,zt⟩ (Ar 0 _) (c22.a (AE bT (AF ?_)));simp only[eE,eN,seval,Au,c22,AL,jd,je,jf,jg,jh,ji,jj,jk,K1,Lp,PM,Qg,s1,X5,X6,X7,N8,X1,As,Al,Uz,Rx,U0,Ry,U1,Rz,U2,R5,o7 hd.ho,o7 hd.sy,o7 hd.rg,o7 hd.rgx,o7 hd.cl,o7 hd.ru,o7 hd.rux,AH,Bc,CN,HW,De,ri];exact Wk.refl _
structure IVb(H:AB)(n m:Nat)(v:VPd):Prop where
 hj:v.j<=m
 fr:AU v.H v.n
 ok:v.tk= .exact 4\/∃id,v.tk= .own id 4/\n<=id/\AD v.H id=some .tok
 low:∀i,i<n->AD v.H i=AD H i
 le:n<=v.n
section
variable {H H1:AB} {n m n1 j a b c:Nat} {tk:xv} {ob:xq}
theorem IVb.init(hf:AU H n):IVb H n m ⟨0,.exact 4,H,n⟩:=⟨oq _,hf,.inl rfl,λ_ _=>rfl,od _⟩
theorem IVb.es{v:VPd}(h:IVb H n m v):v.tk.esz=4:=by rcases h.ok with e|⟨id,e,_⟩<;>rw[e]<;>rfl
theorem IVb.own(h:IVb H n m ⟨j,tk,H1,n1⟩):∀id e,tk= .own id e->id<n1/\n<=id/\e=4/\AD H1 id=some .tok:=λid e q=>by
 rcases h.ok with e|⟨uP,e',h1,h2⟩
 ·rw[show tk= .exact 4 from e]at q;cases q
 ·rw[show tk= .own uP 4 from e']at q;cases q;exact⟨h.fr.lt h2,h1,rfl,h2⟩
theorem IVb.app0(h:IVb H n m ⟨j,tk,H1,n1⟩):At H1 4 tk:=by
 rcases h.ok with e|⟨id,e,_,h2⟩<;>rw[show tk=_ from e]
 ·exact rfl
 ·exact⟨rfl,h2⟩
theorem IVb.app(h:IVb H n m ⟨j,tk,H1,n1⟩):At (sA H1 (n1+a) ob) 4 tk:=by
 rcases h.ok with e|⟨id,e,_,h2⟩<;>rw[show tk=_ from e]
 ·exact rfl
 ·exact⟨rfl,by rw[AA _ _ _ _ (by have:=h.fr.lt h2;simp only[]at this;omega)];exact h2⟩
theorem IVb.next0(h:IVb H n m ⟨j,tk,H1,n1⟩)(e9:j<m)(hb:b<c):IVb H n m ⟨j+1,.own (n1+b) 4,sA (AR H1 tk) (n1+b) .tok,n1+c⟩:=
 have hl:n<=n1:=h.le
 ⟨e9,(Ek h.fr λid e q=>(h.own id e q).1).sA (m:=n1+c) (by show n1<=n1+c;omega) zo,.inr ⟨_,rfl,zo,AC ..⟩,λi hi=>by
  rw[AA _ _ _ _ zo];show AD (AR H1 tk) i=_;unfold AR;split
  ·rename_i id e;rw[AA _ _ _ _ (by have:=(h.own id e rfl).2.1;omega)];exact h.low i hi
  ·exact h.low i hi,by show n<=n1+c;omega⟩
theorem IVb.next(h:IVb H n m ⟨j,tk,H1,n1⟩)(e9:j<m)(ha:a<b)(hb:b<c):IVb H n m ⟨j+1,.own (n1+b) 4,sA (AR (sA H1 (n1+a) ob) tk) (n1+b) .tok,n1+c⟩:=
 have hl:n<=n1:=h.le
 ⟨e9,(Ek (h.fr.sA (m:=n1+b) (by show n1<=n1+b;omega) zo) λid e q=>by have:=(h.own id e q).1;omega).sA (m:=n1+c) (by show n1+b<=n1+c;omega) zo,.inr ⟨_,rfl,zo,AC ..⟩,λi hi=>by
  rw[AA _ _ _ _ zo];unfold AR;split
  ·rename_i id e;rw[AA _ _ _ _ (by have:=(h.own id e rfl).2.1;omega),AA _ _ _ _ zo];exact h.low i hi
  ·rw[AA _ _ _ _ zo];exact h.low i hi,by show n<=n1+c;omega⟩
end
def Df{α β:Type}{f:α->β}{l:List α}{j:Nat}(h:j<l.length):(l.take (j+1)).map f=(l.take j).map f++[f l[j]]:=by
 rw[oG,o8 h,oD];rfl
def EK{α β:Type}{f:α->β}{l:List α}{j:Nat}:((l.take j).map f).length<=j:=by rw[o6,oJ];omega
noncomputable def Vs:Bk:=AJ 63 Lp (AJ 62 K1 (AJ 61 PM (AJ 64 (s1 Cj (λl=>KG l) λl=>eV (DF l)) (AJ 65 (s1 On (λl=>KG l) λl=>eV (MK l)) sE))))
def bU:AG prog Vs:=((((AG.sE.add (q1 λl h=>p65 l h)).add (q1 λl h=>p64 l h)).add (qLs p61)).add qT1).add qI1
section
variable (a:List Fs) (H:AB)
theorem PR:Vs 63 a H=Lp a H:=rfl
theorem MO:Vs 62 a H=K1 a H:=rfl
theorem MP:Vs 61 a H=PM a H:=rfl
theorem X8:Vs 64 a H=s1 Cj (λl=>KG l) (λl=>eV (DF l)) a H:=rfl
theorem jl:Vs 65 a H=s1 On (λl=>KG l) (λl=>eV (MK l)) a H:=rfl
end
theorem KH:∀l:List zk,(l.map eV).map dV=l
 |[]=>rfl
 |v::l=>by rw[oL,oL,De,KH l]
def p25(d:x8)(hd:FewVD d):A6 prog 25 [Ba d] (eV (F5 d)):=by
 refine .mk ⟨Ag 0 d,zt⟩ (Ar 0 _) (c25.a (AE bU (AF ?_)));simp only[eE,eN,seval,c25];generalize hH0:sA (sA Ac 0 (.box (AL d))) 1 (.box [z0,z0,zr,zs])=H0;have hf0:AU H0 2:=by rw[<-hH0];exact(AU.nil.sA (m:=2) (oq _) zd).sA (od _) zd
 have h00:AD H0 0=some (.box (AL d)):=by rw[<-hH0,AA _ _ _ _ zd];exact AC ..
 have z9:AD H0 1=some (.box [z0,z0,zr,zs]):=by rw[<-hH0];exact AC ..
 clear hH0;have hl1:d.sI.length<100000:=hd.sy;refine AQ (λv:VPd=>⟨[(1,true,.ptr 0 0),(2,true,.ptr 1 0),(3,true,.sl v.tk (((d.sI.take v.j).map GZ).map eV)),(4,true,.int .i64 v.j)],v.H,v.n⟩) (IVb H0 2 d.sI.length) (λv=>d.sI.length-v.j) ⟨0,.exact 4,H0,2⟩ rfl (IVb.init hf0) ?_;rintro⟨j,tk1,H1,n1⟩ hI;have hj:j<=d.sI.length:=hI.hj;have t7:AU H1 n1:=hI.fr;have hle:2<=n1:=hI.le;have hp1:2<=n1:=zo
 have h10:AD H1 0=some (.box (AL d)):=(hI.low 0 zo).trans h00;have h11:AD H1 1=some (.box [z0,z0,zr,zs]):=(hI.low 1 zo).trans z9;simp only[AL]at h10;by_cases e9:j<d.sI.length
 ·have hg:=o8 e9;have e:=AI (k:=j) zo;have nx:=Df (f:=GZ) e9;have ml:=EK (f:=GZ) (l:=d.sI) (j:=j);have hxx:=(show ∀x∈d.sI,True from λ_ _=>zt) _ (oK e9);generalize (d.sI.take j).map GZ=Y at nx ml;generalize d.sI[j]=x at hg nx hxx;have ga:∀ob,At (sA H1 (n1+5) ob) 4 tk1=True:=λob=>o7 hI.app
  have q2:(Y.length+1<=35184372088832)=True:=o7 zo;have q3:small (Y.length+1) 56=True:=o7 (AY zo zd);have z0n:(n1+5=0)=False:=oA zo;simp only[eZ,seval,eY,AT e9,hg,PR,MO,MP,Lp,K1,PM,e,h10,ga,q2,q3,Bx t7,AH,Bc,CN,De,ri];exact .mk ⟨j+1,.own (n1+17) 4,_,n1+19⟩ (by rw[nx,oD];rfl) (hI.next e9 zd zd) (by show d.sI.length-(j+1)<d.sI.length-j;omega)
 obtain rfl:j=d.sI.length:=zo
 have es1:tk1.esz=4:=hI.es;rw[oF];simp only[eZ,seval,o6,Ah e9,h10];clear e9 hI hj hle;have hl2:d.sJ.length<100000:=hd.rg;refine AQ (λv:VPd=>⟨[(1,true,.ptr 0 0),(2,true,.ptr 1 0),(3,true,.sl tk1 ((d.sI.map GZ).map eV)),(6,true,.sl v.tk (((d.sJ.take v.j).map HM).map eV)),(7,true,.int .i64 v.j)],v.H,v.n⟩) (IVb H1 n1 d.sJ.length) (λv=>d.sJ.length-v.j) ⟨0,.exact 4,H1,n1⟩ rfl (IVb.init t7) ?_;rintro⟨j,tk2,H2,n2⟩ hI;have hj:j<=d.sJ.length:=hI.hj;have hf2:AU H2 n2:=hI.fr;have hle:n1<=n2:=hI.le;have hp2:2<=n2:=zo
 have h20:AD H2 0=some (.box (AL d)):=(hI.low 0 zo).trans h10;have h21:AD H2 1=some (.box [z0,z0,zr,zs]):=(hI.low 1 zo).trans h11;simp only[AL]at h20;by_cases e9:j<d.sJ.length
 ·have hg:=o8 e9;have e:=AI (k:=j) zo;have nx:=Df (f:=HM) e9;have ml:=EK (f:=HM) (l:=d.sJ) (j:=j);have hxx:=hd.rgx _ (oK e9);generalize (d.sJ.take j).map HM=Y at nx ml;generalize d.sJ[j]=x at hg nx hxx;have hxl:x.ls.length<100000:=hxx.1;simp only[eZ,seval,o6,AT e9,h20];refine AQ (λv:VPd=>⟨[(1,true,.ptr 0 0),(2,true,.ptr 1 0),(3,true,.sl tk1 ((d.sI.map GZ).map eV)),(6,true,.sl tk2 (Y.map eV)),(7,true,.int .i64 j),(8,true,.sl v.tk (((x.ls.take v.j).map DF).map eV)),(9,true,.int .i64 v.j)],v.H,v.n⟩) (IVb H2 n2 x.ls.length) (λv=>x.ls.length-v.j) ⟨0,.exact 4,H2,n2⟩ rfl (IVb.init hf2) ?_;rintro⟨i,tki,Hi,ni⟩ hJ;have hi:i<=x.ls.length:=hJ.hj;have hfi:AU Hi ni:=hJ.fr;have hli:n2<=ni:=hJ.le;have hi0:AD Hi 0=_:=(hJ.low 0 zo).trans h20;by_cases v8:i<x.ls.length
  ·have hg2:=o8 v8;have e2:=AI (k:=i) zo;have nx2:=Df (f:=DF) v8;have ml2:=EK (f:=DF) (l:=x.ls) (j:=i);have hyy:=hxx.2 _ (oK v8);generalize (x.ls.take i).map DF=Z at nx2 ml2;generalize x.ls[i]=y at hg2 nx2 hyy;have ga:At Hi 4 tki=True:=o7 hJ.app0;have q2:(Z.length+1<=35184372088832)=True:=o7 zo;have q3:small (Z.length+1) 56=True:=o7 (AY zo zd);simp only[eZ,seval,eY,AT e9,hg,AT v8,hg2,X8,s1,As,Al,o7 hyy,e2,hi0,ga,q2,q3,Bx hfi,Bc,CN,ri];exact .mk ⟨i+1,.own (ni+12) 4,_,ni+14⟩ (by rw[nx2,oD];rfl) (hJ.next0 v8 zd) (by show x.ls.length-(i+1)<x.ls.length-i;omega)
  obtain rfl:i=x.ls.length:=zo
  have esi:tki.esz=4:=hJ.es;rw[oF];have hK:IVb H1 n1 d.sJ.length ⟨j,tk2,Hi,ni⟩:=⟨hj,hfi,hI.ok.imp_right λ⟨id,h1,h2,h3⟩=>⟨id,h1,h2,by show AD Hi id=_;rw[hJ.low id (hf2.lt h3)];exact h3⟩,λi hi=>(hJ.low i zo).trans (hI.low i hi),by show _<=ni;omega⟩;have ga:At Hi 4 tk2=True:=o7 hK.app0;have q2:(Y.length+1<=35184372088832)=True:=o7 zo;have q3:small (Y.length+1) 56=True:=o7 (AY zo zd);have dm:((x.ls.map DF).map eV).map dV=x.ls.map DF:=KH _;simp only[eZ,seval,eY,AT e9,hg,Ah v8,MO,MP,K1,PM,esi,dm,e,hi0,ga,q2,q3,Bx hfi,Bc,CN,De,ri];exact .mk ⟨j+1,.own (ni+13) 4,_,ni+15⟩ (by rw[nx,oD];rfl) (hK.next0 e9 zd) (by show d.sJ.length-(j+1)<d.sJ.length-j;omega)
 obtain rfl:j=d.sJ.length:=zo
 have es2:tk2.esz=4:=hI.es;rw[oF];simp only[eZ,seval,o6,Ah e9,h20];clear e9 hI hj hle;have hl3:d.sD.length<100000:=hd.cl;refine AQ (λv:VPd=>⟨[(1,true,.ptr 0 0),(2,true,.ptr 1 0),(3,true,.sl tk1 ((d.sI.map GZ).map eV)),(6,true,.sl tk2 ((d.sJ.map HM).map eV)),(10,true,.sl v.tk (((d.sD.take v.j).map HX).map eV)),(11,true,.int .i64 v.j)],v.H,v.n⟩) (IVb H2 n2 d.sD.length) (λv=>d.sD.length-v.j) ⟨0,.exact 4,H2,n2⟩ rfl (IVb.init hf2) ?_;rintro⟨j,tk3,H3,n3⟩ hI;have hj:j<=d.sD.length:=hI.hj;have hf3:AU H3 n3:=hI.fr;have hle:n2<=n3:=hI.le;have hp3:2<=n3:=zo
 have h30:AD H3 0=some (.box (AL d)):=(hI.low 0 zo).trans h20;have h31:AD H3 1=some (.box [z0,z0,zr,zs]):=(hI.low 1 zo).trans h21;simp only[AL]at h30;by_cases e9:j<d.sD.length
 ·have hg:=o8 e9;have e:=AI (k:=j) zo;have nx:=Df (f:=HX) e9;have ml:=EK (f:=HX) (l:=d.sD) (j:=j);have hxx:=(show ∀x∈d.sD,True from λ_ _=>zt) _ (oK e9);generalize (d.sD.take j).map HX=Y at nx ml;generalize d.sD[j]=x at hg nx hxx;have ga:∀ob,At (sA H3 (n3+5) ob) 4 tk3=True:=λob=>o7 hI.app
  have q2:(Y.length+1<=35184372088832)=True:=o7 zo;have q3:small (Y.length+1) 56=True:=o7 (AY zo zd);have z0n:(n3+5=0)=False:=oA zo;simp only[eZ,seval,eY,AT e9,hg,PR,MO,MP,Lp,K1,PM,e,h30,ga,q2,q3,Bx hf3,AH,Bc,CN,De,ri];exact .mk ⟨j+1,.own (n3+26) 4,_,n3+28⟩ (by rw[nx,oD];rfl) (hI.next e9 zd zd) (by show d.sD.length-(j+1)<d.sD.length-j;omega)
 obtain rfl:j=d.sD.length:=zo
 have es3:tk3.esz=4:=hI.es;rw[oF];simp only[eZ,seval,o6,Ah e9,h30];clear e9 hI hj hle;have hl4:d.sC.length<100000:=hd.ru;refine AQ (λv:VPd=>⟨[(1,true,.ptr 0 0),(2,true,.ptr 1 0),(3,true,.sl tk1 ((d.sI.map GZ).map eV)),(6,true,.sl tk2 ((d.sJ.map HM).map eV)),(10,true,.sl tk3 ((d.sD.map HX).map eV)),(13,true,.sl v.tk (((d.sC.take v.j).map Ic).map eV)),(14,true,.int .i64 v.j)],v.H,v.n⟩) (IVb H3 n3 d.sC.length) (λv=>d.sC.length-v.j) ⟨0,.exact 4,H3,n3⟩ rfl (IVb.init hf3) ?_;rintro⟨j,tk4,H4,n4⟩ hI;have hj:j<=d.sC.length:=hI.hj;have hf4:AU H4 n4:=hI.fr;have hle:n3<=n4:=hI.le;have hp4:2<=n4:=zo
 have h40:AD H4 0=some (.box (AL d)):=(hI.low 0 zo).trans h30;have h41:AD H4 1=some (.box [z0,z0,zr,zs]):=(hI.low 1 zo).trans h31;simp only[AL]at h40;by_cases e9:j<d.sC.length
 ·have hg:=o8 e9;have e:=AI (k:=j) zo;have nx:=Df (f:=Ic) e9;have ml:=EK (f:=Ic) (l:=d.sC) (j:=j);have hxx:=hd.rux _ (oK e9);generalize (d.sC.take j).map Ic=Y at nx ml;generalize d.sC[j]=x at hg nx hxx;have ga:∀ob,At (sA H4 (n4+5) ob) 4 tk4=True:=λob=>o7 hI.app
  have q2:(Y.length+1<=35184372088832)=True:=o7 zo;have q3:small (Y.length+1) 56=True:=o7 (AY zo zd);have z0n:(n4+5=0)=False:=oA zo;simp only[eZ,seval,eY,AT e9,hg,PR,MO,MP,jl,Lp,K1,PM,s1,FU,Do,BT,o7 hxx.1,o7 hxx.2,e,h40,ga,q2,q3,Bx hf4,AH,Bc,CN,De,ri];exact .mk ⟨j+1,.own (n4+35) 4,_,n4+37⟩ (by rw[nx,oD];rfl) (hI.next e9 zd zd) (by show d.sC.length-(j+1)<d.sC.length-j;omega)
 obtain rfl:j=d.sC.length:=zo
 have es4:tk4.esz=4:=hI.es;rw[oF];simp only[eZ,seval,Au,o6,Ah e9,h40];clear e9 hI hj hle;have dS:((d.sI.map GZ).map eV).map dV=d.sI.map GZ:=KH _;have dR:((d.sJ.map HM).map eV).map dV=d.sJ.map HM:=KH _;have dC:((d.sD.map HX).map eV).map dV=d.sD.map HX:=KH _;have dU:((d.sC.map Ic).map eV).map dV=d.sC.map Ic:=KH _;simp only[eE,seval,PR,MO,MP,X8,Lp,K1,PM,s1,As,Al,o7 hd.ho,es1,es2,es3,es4,dS,dR,dC,dU,h41,Bc,CN,De,ri];exact Wk.refl _
def JQ:List UInt8:=[107,105,110,100]
def KI:Fs:=.agg [.int .u8 0,.int .u8 0,.int .u8 0,.int .u8 0,.int .u8 0,.int .u8 0,.int .u8 0,.int .u8 0,.int .u8 0,.int .u8 0,.int .u8 0,.int .u8 0,.int .u8 0,.int .u8 0,.int .u8 0,.int .u8 0,.int .u8 0,.int .u8 0,.int .u8 0,.int .u8 0,.int .u8 0,.int .u8 0,.int .u8 0,.int .u8 0,.int .u8 0,.int .u8 0,.int .u8 0,.int .u8 0,.int .u8 0,.int .u8 0,.int .u8 0,.int .u8 0]
def B1(k:uV):Fs:=if Cq k≠0 then .sH [KI,.int .i64 180]else .sH [Vh (CJ JQ (B7 (F5 k.d))),.int .i64 0]
structure DgOK(k:uV):Prop where
 sR:FewVD k.d
 small:FM (F5 k.d)
def bV(n:Nat):List Fs->AB->Prop×Fs:=λa _=>match a with
 |[.str t,.sl tk L]=>(t.length<1000/\tk.esz=1/\L.length<n/\(L.map LY).map eB=L,Vh (CJ t (L.map LY)))
 |_=>(False,.sH [])
def qTg{tF:FuncId}{m:Nat}(h:∀t b:List UInt8,t.length<1000->b.length<m->A6 prog tF [.str t,F4 b] (Vh (CJ t b))):∀args H n,(bV m args H).1->Ad prog tF args H n (bV m args H).2:=by
 intro args H n hh;unfold bV at hh⊢;split at hh
 ·rename_i t tk L;obtain⟨h1,h2,h3,h4⟩:=hh;refine AO.args ((h t (L.map LY) h1 (by rw[o6];exact h3)).quiet H n) ?_;rintro g vs ⟨v,r,rfl,k1,u,r',rfl,k2,k3⟩;refine⟨v,_,rfl,k1,u,_,rfl,?_,k3⟩;unfold F4;rw[h4];exact Wk.sl (.inl h2) g u k2
 ·exact hh.elim
noncomputable def X9:Bk:=AJ 10 (s1 DO (λk=>zy k.d) λk=>.int .i64 (Cq k)) (AJ 22 (s1 dD FewVD λd=>eV (F5 d)) (AJ 21 (LZ FM λv=>.sH [F4 (B7 v),.int .i64 0]) (AJ 23 (bV 3900000000) sE)))
def bW:AG prog X9:=(((AG.sE.add (qTg λt b h1 h2=>p23 t b zo zo)).add (fP λv h=>p21 v h)).add (q1 λd h=>p22 d h)).add (q1 λk h=>p10 k h)
noncomputable def Qh:Bk:=AJ 11 (s1 DO (λk=>Gm k.d/\uy k) λk=>.int .i64 (Cq k)) (AJ 25 (s1 dD FewVD λd=>eV (F5 d)) (AJ 24 (LZ FM λv=>.sH [F4 (B7 v),.int .i64 0]) (AJ 26 (bV 3900000000) sE)))
def YA:AG prog Qh:=(((AG.sE.add (qTg λt b h1 h2=>p26 t b h1 h2)).add (fP λv h=>p24 v h)).add (q1 λd h=>p25 d h)).add (q1 λk h=>p11 k h.1 h.2)
section
variable (a:List Fs) (H:AB)
theorem YB:X9 10 a H=s1 DO (λk=>zy k.d) (λk=>.int .i64 (Cq k)) a H:=rfl
theorem jm:X9 22 a H=s1 dD FewVD (λd=>eV (F5 d)) a H:=rfl
theorem jn:X9 21 a H=LZ FM (λv=>.sH [F4 (B7 v),.int .i64 0]) a H:=rfl
theorem jo:X9 23 a H=bV 3900000000 a H:=rfl
theorem UH:Qh 11 a H=s1 DO (λk=>Gm k.d/\uy k) (λk=>.int .i64 (Cq k)) a H:=rfl
theorem bX:Qh 25 a H=s1 dD FewVD (λd=>eV (F5 d)) a H:=rfl
theorem bY:Qh 24 a H=LZ FM (λv=>.sH [F4 (B7 v),.int .i64 0]) a H:=rfl
theorem bZ:Qh 26 a H=bV 3900000000 a H:=rfl
end
def HY(t b:List UInt8):(CJ t b).length=32:=by unfold CJ;rw[DE]
def Ij(k:uV):(B1 k).under 0:=by
 unfold B1;split
 ·exact⟨by unfold KI;simp only[Fs.under,sN,sb],zt,zt⟩
 ·exact⟨Af (f:=eB) (λ_=>zt) _,zt,zt⟩
def p8(k:uV)(hk:zy k.d)(hd:DgOK k):A6 prog 8 [BM k] (B1 k):=by
 have u1:DO.ok (.agg (Ab k))=True:=FY k;have u2:DO.dec (.agg (Ab k))=k:=Dq k;simp only[Ab,AK,AL,pp,oW]at u1 u2;have v1:dD.ok (.agg (AL k.d))=True:=Az k.d;have v2:dD.dec (.agg (AL k.d))=k.d:=Ap k.d;simp only[AL]at v1 v2;refine .mk ⟨Bp 0 k,zt⟩ ?_ (c8.a (AE bW (AF ?_)))
 ·exact Ij k
 have hm:(∃u,FM u/\eV u=eV (F5 k.d))=True:=o7 ⟨_,hd.small,rfl⟩;have hs:=hd.small.2;unfold B1;by_cases hc:Cq k=0
 ·rw[og (by simpa using hc)];simp only[eZ,seval,o9,eY,Au,c8,Ab,AK,AL,YB,jm,jn,jo,s1,LZ,bV,u1,u2,v1,v2,o7 hk,o7 hd.sR,hm,De,hc,AH,E7,HY,o7 hs];exact Wk.refl _
 ·rw[oE (by simpa using hc)];simp only[eZ,seval,oh,Au,c8,Ab,AK,AL,YB,s1,u1,u2,o7 hk,oA hc,AH];exact Wk.refl _
def p9(k:uV)(h1:Gm k.d)(h2:uy k)(hd:DgOK k):A6 prog 9 [BM k] (B1 k):=by
 have u1:DO.ok (.agg (Ab k))=True:=FY k;have u2:DO.dec (.agg (Ab k))=k:=Dq k;simp only[Ab,AK,AL,pp,oW]at u1 u2;have v1:dD.ok (.agg (AL k.d))=True:=Az k.d;have v2:dD.dec (.agg (AL k.d))=k.d:=Ap k.d;simp only[AL]at v1 v2;refine .mk ⟨Bp 0 k,zt⟩ ?_ (c9.a (AE YA (AF ?_)))
 ·exact Ij k
 have hm:(∃u,FM u/\eV u=eV (F5 k.d))=True:=o7 ⟨_,hd.small,rfl⟩;have hs:=hd.small.2;unfold B1;by_cases hc:Cq k=0
 ·rw[og (by simpa using hc)];simp only[eZ,seval,o9,eY,Au,c9,Ab,AK,AL,UH,bX,bY,bZ,s1,LZ,bV,u1,u2,v1,v2,o7 h1,o7 h2,o7 hd.sR,hm,De,hc,AH,E7,HY,o7 hs];exact Wk.refl _
 ·rw[oE (by simpa using hc)];simp only[eZ,seval,oh,Au,c9,Ab,AK,AL,UH,s1,u1,u2,o7 h1,o7 h2,oA hc,AH];exact Wk.refl _
end Go.AM
