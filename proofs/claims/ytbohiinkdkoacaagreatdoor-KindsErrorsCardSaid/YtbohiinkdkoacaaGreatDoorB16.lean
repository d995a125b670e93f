/-
  Parts of the proof. Conditions: none.
-/
import Derived.Test.YtbohiinkdkoacaaGreatDoorB15
set_option maxRecDepth 20000
set_option linter.all false
namespace Go.AM
open Go.Lib Go.Proofs Go.Proofs.Tryz
section
def Jh(r:Z6):Prop:=lt5 r.ls/\∀l∈r.ls,lt5 l
def Ji(r:Yz):Prop:=lt5 r.ns/\lt5 r.os
def sEa{α:Type}(D:Dc (List α))(ok:α->Prop)(fv:Fs)(g:α->Z0):List Fs->AC->Prop×Fs:=λa _=>match a with
 |[x,f]=>(D.ok x/\f=fv/\lt5 (D.dec x)/\(∀y∈D.dec x,ok y),eV (.list ((D.dec x).map g)))
 |_=>(False,.tup [])
def qEa{α:Type}{D:Dc (List α)}{ok:α->Prop}{fv:Fs}{g:α->Z0}{fid:FuncId}(h:∀{H:AC} {n:Nat} (l:List α),lt5 l->(∀y∈l,ok y)->Ab prog fid [D.enc l,fv] H n (eV (.list (l.map g)))):∀args H n,(sEa D ok fv g args H).1->Ab prog fid args H n (sEa D ok fv g args H).2:=by
 intro args H n hh;unfold sEa at hh⊢;split at hh
 ·obtain⟨h1,rfl,h2,h3⟩:=hh;refine AN.args (h _ h2 h3) ?_;rintro gg vs ⟨v,r,rfl,k1,k2⟩;exact⟨v,_,rfl,D.wk _ h1 _ _ k1,k2⟩
 ·exact hh.elim
def sEaS:=sEa dSs (λ_=>True) (.fn (.func 114) [] []) Z0.text
def UO:=sEa dLl (λl=>lt5 l) (.fn (.func 108) [] []) DK
noncomputable def TabH:Tab:=tadd 122 sEaS (tadd 117 UO TabG)
def K4:AI prog TabH:=(K3.add (qEa q117)).add (qEa q122)
section
variable (a:List Fs) (H:AC)
theorem TabH_s:TabH 122 a H=sEaS a H:=rfl
theorem TabH_i:TabH 117 a H=UO a H:=rfl
theorem TabH_n:TabH 110 a H=sI1 a H:=rfl
theorem S7:TabH 114 a H=sT1 a H:=rfl
theorem S8:TabH 113 a H=sLs a H:=rfl
end
def q116(r:Z6)(hr:Jh r){H:AC}{n c:Nat}(hc:hget H c=some (.box [.fn (.func 108) [] []])):Ab prog 116 [FF r,.ptr c 0] H n (eV (regV r)):=by
 refine Ab.of c116.l (Af _ _) λhf=>c116.a (AE K4 (AF ?_))
 have f0:=hf n (V4 _);have f1:=hf (n+1) zo;have hcn:=hf.lt hc;have n1:(n=c)=False:=Vs zo;have n2:(n+1=c)=False:=Vs zo;simp only[eE,eN,seval,Au,c116,f0,f1,hc,n1,n2,S7,S8,TabH_i,sT1,sLs,UO,sEa,CM,Bl,V1 hr.1,V1 hr.2,AD,BD,B1,DY,Y9];exact⟨Wk.refl _,Ce.new hf (Nat.le_succ n) (Ce.new hf (V4 _) (Ce.refl _))⟩
def p121(x:Yz)(hx:Ji x):Pur prog 121 [BQ x] (eV (rleV x)):=by
 refine .mk ⟨Ao 0 x,trivial⟩ (Af 0 _) (c121.a (AE K4 (AF ?_)));simp only[eE,eN,seval,Au,c121,A6,S7,TabH_n,S8,TabH_s,sT1,sI1,sLs,sEaS,sEa,Ed,DG,V1 hx.1,V1 hx.2,AD,BD,B1,DY,Y9];exact Wk.refl _
def sV3:List Fs->AC->Prop×Fs:=λa H=>match a with
 |[x,.ptr c 0]=>(dRg.ok x/\Jh (dRg.dec x)/\hget H c=some (.box [.fn (.func 108) [] []]),eV (regV (dRg.dec x)))
 |_=>(False,.tup [])
def qV3:∀args H n,(sV3 args H).1->Ab prog 116 args H n (sV3 args H).2:=by
 intro args H n hh;unfold sV3 at hh⊢;split at hh
 ·obtain⟨h1,h2,h3⟩:=hh;refine AN.args (q116 _ h2 h3) ?_;rintro gg vs ⟨v,r,rfl,k1,k2⟩;exact⟨v,_,rfl,dRg.wk _ h1 _ _ k1,k2⟩
 ·exact hh.elim
def sV5:List Fs->AC->Prop×Fs:=s1 dRu Ji λr=>eV (rleV r)
noncomputable def RZ:Tab:=tadd 116 sV3 (tadd 121 sV5 TabH)
def Iy:AI prog RZ:=(K4.add (q1 λr h=>p121 r h)).add qV3
theorem UP(a:List Fs)(H:AC):RZ 116 a H=sV3 a H:=rfl
theorem UQ(a:List Fs)(H:AC):RZ 121 a H=sV5 a H:=rfl
variable {c:Nat}
theorem q120{H:AC}{n:Nat}(l:List (Yz))(hl:lt5 l)(hx:∀x∈l,Ji x):Ab prog 120 [eRus l,.fn (.func 121) [] []] H n (eV (.list (l.map rleV))):=by
 refine Ab.of c120.l (Af _ _) λhf=>c120.a (AE Iy (AF ?_))
 have hl':l.length<100000:=hl;have m1:((l.length:Int)<=35184372088832)=True:=V1 zo;have m2:small l.length 56=True:=V1 (AP zo zd);have f0:=hf n (V4 _);simp only[eE,eN,seval,eY,c120,m1,m2,fr1 hf,f0];refine AO (λv:VEa=>⟨[(1,true,.fn (.func 121) [] []),(4,true,.ptr n 0),(5,true,.ref (n+3) 4 0 l.length l.length),(11,true,eRus l),(12,true,.int .i64 l.length),(13,true,.int .i64 v.j)],v.H,v.n⟩) (IEa H n (λx=>eV (rleV x)) l) (λv=>l.length-v.j) ⟨0,hset (hset H n (.box [z0,z0,zr,zs])) (n+3) (.arr 4 (List.replicate l.length zV)),n+5⟩ rfl (IEa.init hf) ?_;rintro⟨j,H1,n1⟩ hI;have hj:j<=l.length:=hI.hj;have ha:=hI.a;have hb:=hI.b;have e9:=hI.fr;have hle:n+5<=n1:=hI.le;simp only at ha hb e9;by_cases c6:j<l.length
 ·have hg:=V2 c6;have e:=AG (k:=j) zo;have nx:=E5 (f:=λx=>eV (rleV x)) c6;have ln:=Ez (f:=λx=>eV (rleV x)) hj;have hxx:=hx _ (W1 c6);generalize l[j]=x at hg nx hxx;have f3:=e9 (n1+3) zo;have i5:dRu.ok (.agg (A6 x))=True:=BV x;have hdc:dRu.dec (.agg (A6 x))=x:=A7 x;simp only[A6]at i5 hdc;have ne3:(n1+3=n+3)=False:=Vs zo;simp only[eZ,seval,eY,lt_T c6,c6,hg,A6,UQ,sV5,s1,i5,hdc,V1 hxx,e,ha,f3,ne3,AD,BD,B1,ln];exact .mk ⟨j+1,_,_⟩ rfl (hI.nextS c6 nx) (by show l.length-(j+1)<l.length-j;omega)
 obtain rfl:j=l.length:=zo
 rw[E4]at ha;simp only[eZ,seval,lt_F c6];refine Do (l.map rleV) ha (by rw[X2];rfl) (V0 _) ?_;have n30:(n+3=n)=False:=Vs zo;simp only[eE,eN,seval,Au,retK,BD,B1,n30,hb];exact⟨Wk.refl _,C7 hf hI.low⟩
theorem q115{H:AC}{n:Nat}(l:List (Z6))(hl:lt5 l)(hx:∀x∈l,Jh x)(hc:hget H c=some (.box [.fn (.func 108) [] []])):Ab prog 115 [eRgs l,.fn (.func 116) [] [.ptr c 0]] H n (eV (.list (l.map regV))):=by
 refine Ab.of c115.l (Af _ _) λhf=>c115.a (AE Iy (AF ?_))
 have hl':l.length<100000:=hl;have m1:((l.length:Int)<=35184372088832)=True:=V1 zo;have m2:small l.length 56=True:=V1 (AP zo zd);have f0:=hf n (V4 _);simp only[eE,eN,seval,eY,c115,m1,m2,fr1 hf,f0];refine AO (λv:VEa=>⟨[(1,true,.fn (.func 116) [] [.ptr c 0]),(4,true,.ptr n 0),(5,true,.ref (n+3) 4 0 l.length l.length),(11,true,eRgs l),(12,true,.int .i64 l.length),(13,true,.int .i64 v.j)],v.H,v.n⟩) (IEa H n (λx=>eV (regV x)) l) (λv=>l.length-v.j) ⟨0,hset (hset H n (.box [z0,z0,zr,zs])) (n+3) (.arr 4 (List.replicate l.length zV)),n+5⟩ rfl (IEa.init hf) ?_;rintro⟨j,H1,n1⟩ hI;have hj:j<=l.length:=hI.hj;have ha:=hI.a;have hb:=hI.b;have e9:=hI.fr;have hle:n+5<=n1:=hI.le;simp only at ha hb e9;by_cases c6:j<l.length
 ·have hg:=V2 c6;have e:=AG (k:=j) zo;have nx:=E5 (f:=λx=>eV (regV x)) c6;have ln:=Ez (f:=λx=>eV (regV x)) hj;have hxx:=hx _ (W1 c6);generalize l[j]=x at hg nx hxx;have f3:=e9 (n1+3) zo;have hc1:hget H1 c=some (.box [.fn (.func 108) [] []]):=by rw[hI.low c (hf.lt hc)];exact hc
  have hcn:=hf.lt hc;have nec:(n1+3=c)=False:=Vs zo;have ne3:(n1+3=n+3)=False:=Vs zo;simp only[eZ,seval,eY,lt_T c6,c6,hg,UP,sV3,HN,FG,V1 hxx,nec,hc1,e,ha,f3,ne3,AD,BD,B1,ln];exact .mk ⟨j+1,_,_⟩ rfl (hI.nextS c6 nx) (by show l.length-(j+1)<l.length-j;omega)
 obtain rfl:j=l.length:=zo
 rw[E4]at ha;simp only[eZ,seval,lt_F c6];refine Do (l.map regV) ha (by rw[X2];rfl) (V0 _) ?_;have n30:(n+3=n)=False:=Vs zo;simp only[eE,eN,seval,Au,retK,BD,B1,n30,hb];exact⟨Wk.refl _,C7 hf hI.low⟩
end
def valD(d:Z8):Z0:=.list [.text d.nm,.int d.ver,.int d.sh,.int d.w,.int d.h,DK d.holes,.list (d.syms.map symV),.list (d.regs.map regV),.list (d.clus.map cluV),.list (d.ruls.map rleV)]
structure FewVD(d:Z8):Prop where
 ho:lt5 d.holes
 sy:lt5 d.syms
 rg:lt5 d.regs
 rgx:∀r∈d.regs,Jh r
 cl:lt5 d.clus
 ru:lt5 d.ruls
 rux:∀r∈d.ruls,Ji r
def UR:=sEa dSys (λ_=>True) (.fn (.func 112) [] []) symV
def US:=sEa dCls (λ_=>True) (.fn (.func 119) [] []) cluV
def UT:=sEa dRus Ji (.fn (.func 121) [] []) rleV
def NK:List Fs->AC->Prop×Fs:=λa H=>match a with
 |[x,.fn (.func f) [] [.ptr c 0]]=>(dRgs.ok x/\f=116/\hget H c=some (.box [.fn (.func 108) [] []])/\lt5 (dRgs.dec x)/\∀r∈dRgs.dec x,Jh r,eV (.list ((dRgs.dec x).map regV)))
 |_=>(False,.tup [])
def qEaRg:∀args H n,(NK args H).1->Ab prog 115 args H n (NK args H).2:=by
 intro args H n hh;unfold NK at hh⊢;split at hh
 ·obtain⟨h1,rfl,h3,h4,h5⟩:=hh;refine AN.args (q115 _ h4 h5 h3) ?_;rintro gg vs ⟨v,r,rfl,k1,k2⟩;exact⟨v,_,rfl,dRgs.wk _ h1 _ _ k1,k2⟩
 ·exact hh.elim
noncomputable def TabJ:Tab:=tadd 111 UR (tadd 118 US (tadd 120 UT (tadd 115 NK RZ)))
def UU:AI prog TabJ:=(((Iy.add qEaRg).add (qEa q120)).add (qEa q118)).add (qEa q111)
section
variable (a:List Fs) (H:AC)
theorem TabJ_s:TabJ 111 a H=UR a H:=rfl
theorem TabJ_c:TabJ 118 a H=US a H:=rfl
theorem TabJ_u:TabJ 120 a H=UT a H:=rfl
theorem TabJ_g:TabJ 115 a H=NK a H:=rfl
theorem TabJ_v:TabJ 108 a H=sV1a a H:=rfl
theorem TabJ_n:TabJ 110 a H=sI1 a H:=rfl
theorem TabJ_t:TabJ 114 a H=sT1 a H:=rfl
theorem TabJ_l:TabJ 113 a H=sLs a H:=rfl
end
def p40(d:Z8)(hd:FewVD d):Pur prog 40 [encD d] (eV (valD d)):=by
 refine .mk ⟨AW 0 d,trivial⟩ (Af 0 _) (c40.a (AE UU (AF ?_)));simp only[eE,eN,seval,Au,c40,AK,TabJ_s,TabJ_c,TabJ_u,TabJ_g,TabJ_v,TabJ_n,TabJ_t,TabJ_l,sT1,sI1,sLs,sV1a,s1,UR,US,UT,NK,sEa,Al,AZ,Qk,M1,Ql,M2,Qm,M3,Qn,M4,V1 hd.ho,V1 hd.sy,V1 hd.rg,V1 hd.rgx,V1 hd.cl,V1 hd.ru,V1 hd.rux,AD,BD,B1,F4,DY,Y9];exact Wk.refl _
structure IVb(H:AC)(n m:Nat)(v:VPd):Prop where
 hj:v.j<=m
 fr:AR v.H v.n
 ok:v.tk= .exact 4\/∃id,v.tk= .own id 4/\n<=id/\hget v.H id=some .tok
 low:∀i,i<n->hget v.H i=hget H i
 le:n<=v.n
section
variable {H H1:AC} {n m n1 j a b c:Nat} {tk:Zd} {ob:Z7}
theorem IVb.init(hf:AR H n):IVb H n m ⟨0,.exact 4,H,n⟩:=⟨V8 _,hf,.inl rfl,λ_ _=>rfl,V4 _⟩
theorem IVb.es{v:VPd}(h:IVb H n m v):v.tk.esz=4:=by rcases h.ok with e|⟨id,e,_⟩<;>rw[e]<;>rfl
theorem IVb.own(h:IVb H n m ⟨j,tk,H1,n1⟩):∀id e,tk= .own id e->id<n1/\n<=id/\e=4/\hget H1 id=some .tok:=λid e q=>by
 rcases h.ok with e|⟨id',e',h1,h2⟩
 ·rw[show tk= .exact 4 from e]at q;cases q
 ·rw[show tk= .own id' 4 from e']at q;cases q;exact⟨h.fr.lt h2,h1,rfl,h2⟩
theorem IVb.app0(h:IVb H n m ⟨j,tk,H1,n1⟩):At H1 4 tk:=by
 rcases h.ok with e|⟨id,e,_,h2⟩<;>rw[show tk=_ from e]
 ·exact rfl
 ·exact⟨rfl,h2⟩
theorem IVb.app(h:IVb H n m ⟨j,tk,H1,n1⟩):At (hset H1 (n1+a) ob) 4 tk:=by
 rcases h.ok with e|⟨id,e,_,h2⟩<;>rw[show tk=_ from e]
 ·exact rfl
 ·exact⟨rfl,by rw[AA _ _ _ _ (by have:=h.fr.lt h2;simp only[]at this;omega)];exact h2⟩
theorem IVb.next0(h:IVb H n m ⟨j,tk,H1,n1⟩)(c6:j<m)(hb:b<c):IVb H n m ⟨j+1,.own (n1+b) 4,hset (AL H1 tk) (n1+b) .tok,n1+c⟩:=
 have hl:n<=n1:=h.le
 ⟨c6,(C6 h.fr λid e q=>(h.own id e q).1).hset (m:=n1+c) (by show n1<=n1+c;omega) zo,.inr ⟨_,rfl,zo,AB ..⟩,λi hi=>by
  rw[AA _ _ _ _ zo];show hget (AL H1 tk) i=_;unfold AL;split
  ·rename_i id e;rw[AA _ _ _ _ (by have:=(h.own id e rfl).2.1;omega)];exact h.low i hi
  ·exact h.low i hi,by show n<=n1+c;omega⟩
theorem IVb.next(h:IVb H n m ⟨j,tk,H1,n1⟩)(c6:j<m)(ha:a<b)(hb:b<c):IVb H n m ⟨j+1,.own (n1+b) 4,hset (AL (hset H1 (n1+a) ob) tk) (n1+b) .tok,n1+c⟩:=
 have hl:n<=n1:=h.le
 ⟨c6,(C6 (h.fr.hset (m:=n1+b) (by show n1<=n1+b;omega) zo) λid e q=>by have:=(h.own id e q).1;omega).hset (m:=n1+c) (by show n1+b<=n1+c;omega) zo,.inr ⟨_,rfl,zo,AB ..⟩,λi hi=>by
  rw[AA _ _ _ _ zo];unfold AL;split
  ·rename_i id e;rw[AA _ _ _ _ (by have:=(h.own id e rfl).2.1;omega),AA _ _ _ _ zo];exact h.low i hi
  ·rw[AA _ _ _ _ zo];exact h.low i hi,by show n<=n1+c;omega⟩
end
def CC{α β:Type}{f:α->β}{l:List α}{j:Nat}(h:j<l.length):(l.take (j+1)).map f=(l.take j).map f++[f l[j]]:=by
 rw[Vx,V2 h,Vt];rfl
def Cb{α β:Type}{f:α->β}{l:List α}{j:Nat}:((l.take j).map f).length<=j:=by rw[V0,W0];omega
noncomputable def TabK:Tab:=tadd 129 sI1 (tadd 128 sT1 (tadd 127 sLs (tadd 130 (s1 dIs (λl=>lt5 l) λl=>eV (DK l)) (tadd 131 (s1 dSs (λl=>lt5 l) λl=>eV (MH l)) tnil))))
def UV:AI prog TabK:=((((AI.tnil.add (q1 λl h=>p131 l h)).add (q1 λl h=>p130 l h)).add (qLs p127)).add qT1).add qI1
section
variable (a:List Fs) (H:AC)
theorem MI:TabK 129 a H=sI1 a H:=rfl
theorem Jj:TabK 128 a H=sT1 a H:=rfl
theorem Jk:TabK 127 a H=sLs a H:=rfl
theorem S9:TabK 130 a H=s1 dIs (λl=>lt5 l) (λl=>eV (DK l)) a H:=rfl
theorem TabK_x:TabK 131 a H=s1 dSs (λl=>lt5 l) (λl=>eV (MH l)) a H:=rfl
end
theorem Hw:∀l:List Z0,(l.map eV).map dV=l
 |[]=>rfl
 |v::l=>by rw[W6,W6,DY,Hw l]
def p43(d:Z8)(hd:FewVD d):Pur prog 43 [encD d] (eV (valD d)):=by
 refine .mk ⟨AW 0 d,trivial⟩ (Af 0 _) (c43.a (AE UV (AF ?_)));simp only[eE,eN,seval,c43];generalize hH0:hset (hset hnil 0 (.box (AK d))) 1 (.box [z0,z0,zr,zs])=H0;have hf0:AR H0 2:=by rw[<-hH0];exact(AR.nil.hset (m:=2) (V8 _) zd).hset (V4 _) zd
 have h00:hget H0 0=some (.box (AK d)):=by rw[<-hH0,AA _ _ _ _ zd];exact AB ..
 have l0:hget H0 1=some (.box [z0,z0,zr,zs]):=by rw[<-hH0];exact AB ..
 clear hH0;have hl1:d.syms.length<100000:=hd.sy;refine AO (λv:VPd=>⟨[(1,true,.ptr 0 0),(2,true,.ptr 1 0),(3,true,.sl v.tk (((d.syms.take v.j).map symV).map eV)),(4,true,.int .i64 v.j)],v.H,v.n⟩) (IVb H0 2 d.syms.length) (λv=>d.syms.length-v.j) ⟨0,.exact 4,H0,2⟩ rfl (IVb.init hf0) ?_;rintro⟨j,tk1,H1,n1⟩ hI;have hj:j<=d.syms.length:=hI.hj;have e9:AR H1 n1:=hI.fr;have hle:2<=n1:=hI.le;have hp1:2<=n1:=zo
 have h10:hget H1 0=some (.box (AK d)):=(hI.low 0 zo).trans h00;have h11:hget H1 1=some (.box [z0,z0,zr,zs]):=(hI.low 1 zo).trans l0;simp only[AK]at h10;by_cases c6:j<d.syms.length
 ·have hg:=V2 c6;have e:=AG (k:=j) zo;have nx:=CC (f:=symV) c6;have ml:=Cb (f:=symV) (l:=d.syms) (j:=j);have hxx:=(show ∀x∈d.syms,True from λ_ _=>trivial) _ (W1 c6);generalize (d.syms.take j).map symV=Y at nx ml;generalize d.syms[j]=x at hg nx hxx;have ga:∀ob,At (hset H1 (n1+5) ob) 4 tk1=True:=λob=>V1 hI.app
  have q2:(Y.length+1<=35184372088832)=True:=V1 zo;have q3:small (Y.length+1) 56=True:=V1 (AP zo zd);have z0n:(n1+5=0)=False:=Vs zo;simp only[eZ,seval,eY,lt_T c6,hg,MI,Jj,Jk,sI1,sT1,sLs,e,h10,ga,q2,q3,fr1 e9,AD,BD,B1,DY,Y9];exact .mk ⟨j+1,.own (n1+17) 4,_,n1+19⟩ (by rw[nx,Vt];rfl) (hI.next c6 zd zd) (by show d.syms.length-(j+1)<d.syms.length-j;omega)
 obtain rfl:j=d.syms.length:=zo
 have es1:tk1.esz=4:=hI.es;rw[Vw];simp only[eZ,seval,V0,lt_F c6,h10];clear c6 hI hj hle;have hl2:d.regs.length<100000:=hd.rg;refine AO (λv:VPd=>⟨[(1,true,.ptr 0 0),(2,true,.ptr 1 0),(3,true,.sl tk1 ((d.syms.map symV).map eV)),(6,true,.sl v.tk (((d.regs.take v.j).map regV).map eV)),(7,true,.int .i64 v.j)],v.H,v.n⟩) (IVb H1 n1 d.regs.length) (λv=>d.regs.length-v.j) ⟨0,.exact 4,H1,n1⟩ rfl (IVb.init e9) ?_;rintro⟨j,tk2,H2,n2⟩ hI;have hj:j<=d.regs.length:=hI.hj;have hf2:AR H2 n2:=hI.fr;have hle:n1<=n2:=hI.le;have hp2:2<=n2:=zo
 have h20:hget H2 0=some (.box (AK d)):=(hI.low 0 zo).trans h10;have h21:hget H2 1=some (.box [z0,z0,zr,zs]):=(hI.low 1 zo).trans h11;simp only[AK]at h20;by_cases c6:j<d.regs.length
 ·have hg:=V2 c6;have e:=AG (k:=j) zo;have nx:=CC (f:=regV) c6;have ml:=Cb (f:=regV) (l:=d.regs) (j:=j);have hxx:=hd.rgx _ (W1 c6);generalize (d.regs.take j).map regV=Y at nx ml;generalize d.regs[j]=x at hg nx hxx;have hxl:x.ls.length<100000:=hxx.1;simp only[eZ,seval,V0,lt_T c6,h20];refine AO (λv:VPd=>⟨[(1,true,.ptr 0 0),(2,true,.ptr 1 0),(3,true,.sl tk1 ((d.syms.map symV).map eV)),(6,true,.sl tk2 (Y.map eV)),(7,true,.int .i64 j),(8,true,.sl v.tk (((x.ls.take v.j).map DK).map eV)),(9,true,.int .i64 v.j)],v.H,v.n⟩) (IVb H2 n2 x.ls.length) (λv=>x.ls.length-v.j) ⟨0,.exact 4,H2,n2⟩ rfl (IVb.init hf2) ?_;rintro⟨i,tki,Hi,ni⟩ hJ;have hi:i<=x.ls.length:=hJ.hj;have hfi:AR Hi ni:=hJ.fr;have hli:n2<=ni:=hJ.le;have hi0:hget Hi 0=_:=(hJ.low 0 zo).trans h20;by_cases i9:i<x.ls.length
  ·have hg2:=V2 i9;have e2:=AG (k:=i) zo;have nx2:=CC (f:=DK) i9;have ml2:=Cb (f:=DK) (l:=x.ls) (j:=i);have hyy:=hxx.2 _ (W1 i9);generalize (x.ls.take i).map DK=Z at nx2 ml2;generalize x.ls[i]=y at hg2 nx2 hyy;have ga:At Hi 4 tki=True:=V1 hJ.app0;have q2:(Z.length+1<=35184372088832)=True:=V1 zo;have q3:small (Z.length+1) 56=True:=V1 (AP zo zd);simp only[eZ,seval,eY,lt_T c6,hg,lt_T i9,hg2,S9,s1,Al,AZ,V1 hyy,e2,hi0,ga,q2,q3,fr1 hfi,BD,B1,Y9];exact .mk ⟨i+1,.own (ni+12) 4,_,ni+14⟩ (by rw[nx2,Vt];rfl) (hJ.next0 i9 zd) (by show x.ls.length-(i+1)<x.ls.length-i;omega)
  obtain rfl:i=x.ls.length:=zo
  have esi:tki.esz=4:=hJ.es;rw[Vw];have hK:IVb H1 n1 d.regs.length ⟨j,tk2,Hi,ni⟩:=⟨hj,hfi,hI.ok.imp_right λ⟨id,h1,h2,h3⟩=>⟨id,h1,h2,by show hget Hi id=_;rw[hJ.low id (hf2.lt h3)];exact h3⟩,λi hi=>(hJ.low i zo).trans (hI.low i hi),by show _<=ni;omega⟩;have ga:At Hi 4 tk2=True:=V1 hK.app0;have q2:(Y.length+1<=35184372088832)=True:=V1 zo;have q3:small (Y.length+1) 56=True:=V1 (AP zo zd);have dm:((x.ls.map DK).map eV).map dV=x.ls.map DK:=Hw _;simp only[eZ,seval,eY,lt_T c6,hg,lt_F i9,Jj,Jk,sT1,sLs,esi,dm,e,hi0,ga,q2,q3,fr1 hfi,BD,B1,DY,Y9];exact .mk ⟨j+1,.own (ni+13) 4,_,ni+15⟩ (by rw[nx,Vt];rfl) (hK.next0 c6 zd) (by show d.regs.length-(j+1)<d.regs.length-j;omega)
 obtain rfl:j=d.regs.length:=zo
 have es2:tk2.esz=4:=hI.es;rw[Vw];simp only[eZ,seval,V0,lt_F c6,h20];clear c6 hI hj hle;have hl3:d.clus.length<100000:=hd.cl;refine AO (λv:VPd=>⟨[(1,true,.ptr 0 0),(2,true,.ptr 1 0),(3,true,.sl tk1 ((d.syms.map symV).map eV)),(6,true,.sl tk2 ((d.regs.map regV).map eV)),(10,true,.sl v.tk (((d.clus.take v.j).map cluV).map eV)),(11,true,.int .i64 v.j)],v.H,v.n⟩) (IVb H2 n2 d.clus.length) (λv=>d.clus.length-v.j) ⟨0,.exact 4,H2,n2⟩ rfl (IVb.init hf2) ?_;rintro⟨j,tk3,H3,n3⟩ hI;have hj:j<=d.clus.length:=hI.hj;have hf3:AR H3 n3:=hI.fr;have hle:n2<=n3:=hI.le;have hp3:2<=n3:=zo
 have h30:hget H3 0=some (.box (AK d)):=(hI.low 0 zo).trans h20;have h31:hget H3 1=some (.box [z0,z0,zr,zs]):=(hI.low 1 zo).trans h21;simp only[AK]at h30;by_cases c6:j<d.clus.length
 ·have hg:=V2 c6;have e:=AG (k:=j) zo;have nx:=CC (f:=cluV) c6;have ml:=Cb (f:=cluV) (l:=d.clus) (j:=j);have hxx:=(show ∀x∈d.clus,True from λ_ _=>trivial) _ (W1 c6);generalize (d.clus.take j).map cluV=Y at nx ml;generalize d.clus[j]=x at hg nx hxx;have ga:∀ob,At (hset H3 (n3+5) ob) 4 tk3=True:=λob=>V1 hI.app
  have q2:(Y.length+1<=35184372088832)=True:=V1 zo;have q3:small (Y.length+1) 56=True:=V1 (AP zo zd);have z0n:(n3+5=0)=False:=Vs zo;simp only[eZ,seval,eY,lt_T c6,hg,MI,Jj,Jk,sI1,sT1,sLs,e,h30,ga,q2,q3,fr1 hf3,AD,BD,B1,DY,Y9];exact .mk ⟨j+1,.own (n3+26) 4,_,n3+28⟩ (by rw[nx,Vt];rfl) (hI.next c6 zd zd) (by show d.clus.length-(j+1)<d.clus.length-j;omega)
 obtain rfl:j=d.clus.length:=zo
 have es3:tk3.esz=4:=hI.es;rw[Vw];simp only[eZ,seval,V0,lt_F c6,h30];clear c6 hI hj hle;have hl4:d.ruls.length<100000:=hd.ru;refine AO (λv:VPd=>⟨[(1,true,.ptr 0 0),(2,true,.ptr 1 0),(3,true,.sl tk1 ((d.syms.map symV).map eV)),(6,true,.sl tk2 ((d.regs.map regV).map eV)),(10,true,.sl tk3 ((d.clus.map cluV).map eV)),(13,true,.sl v.tk (((d.ruls.take v.j).map rleV).map eV)),(14,true,.int .i64 v.j)],v.H,v.n⟩) (IVb H3 n3 d.ruls.length) (λv=>d.ruls.length-v.j) ⟨0,.exact 4,H3,n3⟩ rfl (IVb.init hf3) ?_;rintro⟨j,tk4,H4,n4⟩ hI;have hj:j<=d.ruls.length:=hI.hj;have hf4:AR H4 n4:=hI.fr;have hle:n3<=n4:=hI.le;have hp4:2<=n4:=zo
 have h40:hget H4 0=some (.box (AK d)):=(hI.low 0 zo).trans h30;have h41:hget H4 1=some (.box [z0,z0,zr,zs]):=(hI.low 1 zo).trans h31;simp only[AK]at h40;by_cases c6:j<d.ruls.length
 ·have hg:=V2 c6;have e:=AG (k:=j) zo;have nx:=CC (f:=rleV) c6;have ml:=Cb (f:=rleV) (l:=d.ruls) (j:=j);have hxx:=hd.rux _ (W1 c6);generalize (d.ruls.take j).map rleV=Y at nx ml;generalize d.ruls[j]=x at hg nx hxx;have ga:∀ob,At (hset H4 (n4+5) ob) 4 tk4=True:=λob=>V1 hI.app
  have q2:(Y.length+1<=35184372088832)=True:=V1 zo;have q3:small (Y.length+1) 56=True:=V1 (AP zo zd);have z0n:(n4+5=0)=False:=Vs zo;simp only[eZ,seval,eY,lt_T c6,hg,MI,Jj,Jk,TabK_x,sI1,sT1,sLs,s1,Ed,DG,A6,V1 hxx.1,V1 hxx.2,e,h40,ga,q2,q3,fr1 hf4,AD,BD,B1,DY,Y9];exact .mk ⟨j+1,.own (n4+35) 4,_,n4+37⟩ (by rw[nx,Vt];rfl) (hI.next c6 zd zd) (by show d.ruls.length-(j+1)<d.ruls.length-j;omega)
 obtain rfl:j=d.ruls.length:=zo
 have es4:tk4.esz=4:=hI.es;rw[Vw];simp only[eZ,seval,Au,V0,lt_F c6,h40];clear c6 hI hj hle;have dS:((d.syms.map symV).map eV).map dV=d.syms.map symV:=Hw _;have dR:((d.regs.map regV).map eV).map dV=d.regs.map regV:=Hw _;have dC:((d.clus.map cluV).map eV).map dV=d.clus.map cluV:=Hw _;have dU:((d.ruls.map rleV).map eV).map dV=d.ruls.map rleV:=Hw _;simp only[eE,seval,MI,Jj,Jk,S9,sI1,sT1,sLs,s1,Al,AZ,V1 hd.ho,es1,es2,es3,es4,dS,dR,dC,dU,h41,BD,B1,DY,Y9];exact Wk.refl _
def O8:List UInt8:=[107,105,110,100]
def MJ:Fs:=.agg [.int .u8 0,.int .u8 0,.int .u8 0,.int .u8 0,.int .u8 0,.int .u8 0,.int .u8 0,.int .u8 0,.int .u8 0,.int .u8 0,.int .u8 0,.int .u8 0,.int .u8 0,.int .u8 0,.int .u8 0,.int .u8 0,.int .u8 0,.int .u8 0,.int .u8 0,.int .u8 0,.int .u8 0,.int .u8 0,.int .u8 0,.int .u8 0,.int .u8 0,.int .u8 0,.int .u8 0,.int .u8 0,.int .u8 0,.int .u8 0,.int .u8 0,.int .u8 0]
def CD(k:Knd):Fs:=if CN k≠0 then .tup [MJ,.int .i64 180]else .tup [eDg (B5 O8 (encB (valD k.d))),.int .i64 0]
structure DgOK(k:Knd):Prop where
 few:FewVD k.d
 small:D6 (valD k.d)
def sTg(n:Nat):List Fs->AC->Prop×Fs:=λa _=>match a with
 |[.str t,.sl tk L]=>(t.length<1000/\tk.esz=1/\L.length<n/\(L.map deB).map eB=L,eDg (B5 t (L.map deB)))
 |_=>(False,.tup [])
def qTg{fid:FuncId}{m:Nat}(h:∀t b:List UInt8,t.length<1000->b.length<m->Pur prog fid [.str t,eBy b] (eDg (B5 t b))):∀args H n,(sTg m args H).1->Ab prog fid args H n (sTg m args H).2:=by
 intro args H n hh;unfold sTg at hh⊢;split at hh
 ·rename_i t tk L;obtain⟨h1,h2,h3,h4⟩:=hh;refine AN.args ((h t (L.map deB) h1 (by rw[V0];exact h3)).quiet H n) ?_;rintro g vs ⟨v,r,rfl,k1,u,r',rfl,k2,k3⟩;refine⟨v,_,rfl,k1,u,_,rfl,?_,k3⟩;unfold eBy;rw[h4];exact Wk.sl (.inl h2) g u k2
 ·exact hh.elim
noncomputable def TabD:Tab:=tadd 16 (s1 dKn (λk=>Z4 k.d) λk=>.int .i64 (CN k)) (tadd 40 (s1 dD FewVD λd=>eV (valD d)) (tadd 39 (sV1 D6 λv=>.tup [eBy (encB v),.int .i64 0]) (tadd 41 (sTg 900000000) tnil)))
def UW:AI prog TabD:=(((AI.tnil.add (qTg λt b h1 h2=>p41 t b zo zo)).add (qV1 λv h=>p39 v h)).add (q1 λd h=>p40 d h)).add (q1 λk h=>p16 k h)
noncomputable def O9:Tab:=tadd 17 (s1 dKn (λk=>FewR k.d/\FewKr k) λk=>.int .i64 (CN k)) (tadd 43 (s1 dD FewVD λd=>eV (valD d)) (tadd 42 (sV1 D6 λv=>.tup [eBy (encB v),.int .i64 0]) (tadd 44 (sTg 900000000) tnil)))
def Ra:AI prog O9:=(((AI.tnil.add (qTg λt b h1 h2=>p44 t b h1 h2)).add (qV1 λv h=>p42 v h)).add (q1 λd h=>p43 d h)).add (q1 λk h=>p17 k h.1 h.2)
section
variable (a:List Fs) (H:AC)
theorem TA:TabD 16 a H=s1 dKn (λk=>Z4 k.d) (λk=>.int .i64 (CN k)) a H:=rfl
theorem TabD_v:TabD 40 a H=s1 dD FewVD (λd=>eV (valD d)) a H:=rfl
theorem TabD_e:TabD 39 a H=sV1 D6 (λv=>.tup [eBy (encB v),.int .i64 0]) a H:=rfl
theorem TabD_t:TabD 41 a H=sTg 900000000 a H:=rfl
theorem PA:O9 17 a H=s1 dKn (λk=>FewR k.d/\FewKr k) (λk=>.int .i64 (CN k)) a H:=rfl
theorem UX:O9 43 a H=s1 dD FewVD (λd=>eV (valD d)) a H:=rfl
theorem UY:O9 42 a H=sV1 D6 (λv=>.tup [eBy (encB v),.int .i64 0]) a H:=rfl
theorem UZ:O9 44 a H=sTg 900000000 a H:=rfl
end
def Jl(t b:List UInt8):(B5 t b).length=32:=by unfold B5;rw[CB]
def FO(k:Knd):(CD k).under 0:=by
 unfold CD;split
 ·exact⟨by unfold MJ;simp only[Fs.under,unders,Yt],trivial,trivial⟩
 ·exact⟨AV (f:=eB) (λ_=>trivial) _,trivial,trivial⟩
def p14(k:Knd)(hk:Z4 k.d)(hd:DgOK k):Pur prog 14 [BR k] (CD k):=by
 have u1:dKn.ok (.agg (Ah k))=True:=GK k;have u2:dKn.dec (.agg (Ah k))=k:=Eg k;simp only[Ah,AH,AK,Ww,Wi]at u1 u2;have v1:dD.ok (.agg (AK k.d))=True:=A0 k.d;have v2:dD.dec (.agg (AK k.d))=k.d:=Aj k.d;simp only[AK]at v1 v2;refine .mk ⟨BT 0 k,trivial⟩ ?_ (c14.a (AE UW (AF ?_)))
 ·exact FO k
 have hm:(∃u,D6 u/\eV u=eV (valD k.d))=True:=V1 ⟨_,hd.small,rfl⟩;have hs:=hd.small.2;unfold CD;by_cases hc:CN k=0
 ·rw[V5 (by simpa using hc)];simp only[eZ,seval,V3,eY,Au,c14,Ah,AH,AK,TA,TabD_v,TabD_e,TabD_t,s1,sV1,sTg,u1,u2,v1,v2,V1 hk,V1 hd.few,hm,DY,hc,AD,DX,Jl,V1 hs];exact Wk.refl _
 ·rw[Vv (by simpa using hc)];simp only[eZ,seval,V6,Au,c14,Ah,AH,AK,TA,s1,u1,u2,V1 hk,Vs hc,AD];exact Wk.refl _
def p15(k:Knd)(h1:FewR k.d)(h2:FewKr k)(hd:DgOK k):Pur prog 15 [BR k] (CD k):=by
 have u1:dKn.ok (.agg (Ah k))=True:=GK k;have u2:dKn.dec (.agg (Ah k))=k:=Eg k;simp only[Ah,AH,AK,Ww,Wi]at u1 u2;have v1:dD.ok (.agg (AK k.d))=True:=A0 k.d;have v2:dD.dec (.agg (AK k.d))=k.d:=Aj k.d;simp only[AK]at v1 v2;refine .mk ⟨BT 0 k,trivial⟩ ?_ (c15.a (AE Ra (AF ?_)))
 ·exact FO k
 have hm:(∃u,D6 u/\eV u=eV (valD k.d))=True:=V1 ⟨_,hd.small,rfl⟩;have hs:=hd.small.2;unfold CD;by_cases hc:CN k=0
 ·rw[V5 (by simpa using hc)];simp only[eZ,seval,V3,eY,Au,c15,Ah,AH,AK,PA,UX,UY,UZ,s1,sV1,sTg,u1,u2,v1,v2,V1 h1,V1 h2,V1 hd.few,hm,DY,hc,AD,DX,Jl,V1 hs];exact Wk.refl _
 ·rw[Vv (by simpa using hc)];simp only[eZ,seval,V6,Au,c15,Ah,AH,AK,PA,s1,u1,u2,V1 h1,V1 h2,Vs hc,AD];exact Wk.refl _
end Go.AM
