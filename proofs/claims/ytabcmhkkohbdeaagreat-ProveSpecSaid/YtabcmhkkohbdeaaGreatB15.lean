/-
  Parts of the proof. Conditions: none.
-/
import Derived.Test.YtabcmhkkohbdeaaGreatB14
set_option maxRecDepth 20000
set_option linter.all false
namespace Go.AM
open Go.Lib Go.Proofs Go.Proofs.Tryz
abbrev UB:Fs:=.agg [.sl .nil []]
def HO(vals:List Int)(x:zk):Fs:=match Lb vals x with
 | .error e=>.wJ [UB,.int .i64 e]
 | .ok ts=>.wJ [EW ts,.int .i64 0]
def DL(k:zx)(x:zk):Fs:=if BH k x≠0 then .wJ [UB,.int .i64 (BH k x)]else HO (AP k) x
def Tpr:Bg:=AF 23 (s2 CQ dX (λk x=>zy k.d/\wq x) DG) wD
def Z5:AH prog Tpr:=AH.wD.add (q2 λk x h=>p23 k x h.1 h.2)
def IN{k:zx}{x:zk}(hk:zy k.d)(hx:wq x)(h:BH k x=0):BE k=0/\OKL x:=by
 unfold BH at h;by_cases hc:BE k=0
 ·rw[sg (by simpa using hc)]at h;exact⟨hc,Z3 h⟩
 ·rw[sn hc]at h;exact absurd h hc
def JP{f:Nat}(h:f<=4):EE f<=70000:=by
 have:f=0\/f=1\/f=2\/f=3\/f=4:=zo
 rcases this with rfl|rfl|rfl|rfl|rfl<;>simp [EE]
def PS(a b:List (List xv)):Bc (a++b)=Bc a+Bc b:=by unfold Bc;simp
structure VPv where
 j:Nat
 ts:List (List xv)
 H:AB
 n:Nat
structure IPv(k:zx)(x:zk)(A:List (List Int))(F:List Int->Option (List xv))(v:VPv):Prop where
 hj:v.j<=A.length
 fr:AO v.H v.n
 hn:6<=v.n
 h0:AD v.H 0=some (.box (AG k))
 h1:AD v.H 1=some (.box (Aa x))
 h2:∃tp E,AD v.H 2=some (.box [.sl tp E])/\(Bc v.ts<=65536->zn E (v.ts.map Rh))/\E.length=v.ts.length/\(tp.esz=1\/E=[])/\C8 1 6 v.H tp
 h4:AD v.H 4=some (.box [.int .i64 (Bc v.ts)])
 he:IC F A=(IC F (A.drop v.j)).map λt=>v.ts++t
 ln:v.ts.length=v.j
 le:Bc v.ts<=v.j*70000
def p8(k:zx)(x:zk)(hk:zy k.d)(hx:wq x):Av prog 8 [BA k,Cl x] (DL k x):=by
 have u1:CQ.ok (.agg (AG k))=True:=Ce k;have u2:CQ.dec (.agg (AG k))=k:=Bx k;simp only[AG,AE,AL,sJ,sI]at u1 u2;have v1:dX.ok (.agg (Aa x))=True:=Gm x;have v2:dX.dec (.agg (Aa x))=x:=Ei x;simp only[Aa]at v1 v2;refine .mk ⟨Am 0 k,BN 0 x,zt⟩ ?_ (c8.a (AI Z5 (AJ ?_)))
 ·unfold DL HO;split
  ·exact⟨⟨⟨zt,zt⟩,zt⟩,zt,zt⟩
  ·split
   ·exact⟨⟨⟨zt,zt⟩,zt⟩,zt,zt⟩
   ·exact⟨FP 0 _,zt,zt⟩
 unfold DL;by_cases hv:BH k x=0;case neg=>
  have hpv:DG k x= .wJ [.sl .nil [],.int .i64 (BH k x)]:=by unfold DG;rw[sn hv]
  rw[sn hv];simp only[eZ,seval,se,eY,BO,c8,AG,AE,AL,Tpr,s2,u1,u2,v1,v2,r9 hk,r9 hx,hpv,sb hv,AF];exact Wk.refl _
 have hpv:DG k x= .wJ [.sl (.none 1) ((EP k.d.wE.length x.ls.length).map Aj),.int .i64 0]:=by unfold DG;rw[sg (by simpa using hv)]
 rw[sg (by simpa using hv)];obtain⟨hck,hox⟩:=IN hk hx hv;have hsy:=BZ hck;have hvl:(AP k).length=k.d.wE.length:=by unfold AP;rw[ry]
 have hPr:∀l∈EP k.d.wE.length x.ls.length,PrC k x l:=λl hl=>⟨hck,hk,hx,hox,hl⟩
 have hAl:(EP k.d.wE.length x.ls.length).length<=4096:=by
  refine sX (Iy _ _) (sX (uW hsy.2 _) (sX (uS zd (show x.ls.length<=3 from hox.ls.2.2.2)) zd))
 obtain⟨F,hF⟩:∃F:List Int->Option (List xv),(λwA=>B8 (AP k) x wA x.cs.length (C7 x wA))=F:=⟨_,rfl⟩;have hFs:∀l,F l=B8 (AP k) x l x.cs.length (C7 x l):=λl=>by rw[<-hF]
 have htp:GP (AP k) x=IC F (EP k.d.wE.length x.ls.length):=by unfold GP;rw[hF,hvl]
 unfold HO Lb;rw[htp];simp only[eZ,seval,sa,eY,c8,AG,AE,AL,Tpr,s2,u1,u2,v1,v2,r9 hk,r9 hx,hpv,AF];generalize EP k.d.wE.length x.ls.length=A at hPr hAl;have hx4:=hox.cs.2.2.2;have ye:=JP hx4;refine AQ (λv:VPv=>⟨[(2,true,.ptr 0 0),(3,true,.ptr 1 0),(4,true,.ptr 2 0),(7,true,.ptr 4 0),(22,true,.sl (.none 1) (A.map Aj)),(23,true,.int .i64 A.length),(24,true,.int .i64 v.j)],v.H,v.n⟩) (IPv k x A F) (λv=>A.length-v.j)
  ⟨0,[],_,6⟩ rfl ⟨sk _,?_,sj _,rfl,rfl,⟨.nil,[],rfl,λ_=>.nil,rfl,.inr rfl,.inl rfl⟩,rfl,zw,rfl,by simp [Bc]⟩ ?_
 ·simp only[];repeat' (first|exact AO.nil.wB (m:=6) (sk _) zd|refine AO.wB ?_ (sj _) zd)
 rintro⟨j,ts,H,n⟩ ⟨hj,hf,hn,h0,h1,⟨tp,E,h2,hE,hEl,hEz,l7⟩,h4,he,ww,hle⟩;simp only at hj hf hn h0 h1 h2 hE hEl hEz l7 h4 he ww hle;have wj:=h0;have h1':=h1;simp only[AG,AE,AL,sJ,sI]at h0;simp only[Aa]at h1;by_cases e9:j<A.length;case neg=>
  obtain rfl:j=A.length:=zo
  rw[t5,IC,td,sR]at he;rw[he];simp only[];by_cases hN:65536<Bc ts
  ·have w1:((65536:Int)<(Bc ts:Int))=True:=r9 zo;have w2:decide ((65536:Int)<(Bc ts:Int))=true:=sK zo;rw[sn hN];simp only[eZ,seval,BO,Ag e9,h4,h2,w1];exact Wk.refl _
  ·have w1:((65536:Int)<(Bc ts:Int))=False:=sb zo;have w2:decide ((65536:Int)<(Bc ts:Int))=false:=sA zo;rw[sg hN];simp only[eZ,seval,BO,Ag e9,h4,h2,w1];exact Wk.wJ (.cons (Wk.agg (.cons (Wk.yY hEz (hE zo)) .nil)) (.cons (Wk.refl _) .nil))
 have e:=AK (k:=j) zo;have hg:=rz e9;have hdr:=sO e9;have hpr:=hPr _ (sC e9);rw[hdr,IC]at he;generalize A[j]=l at hg hpr he;have y1:(n=0)=False:=sb zo;have y2:(n=1)=False:=sb zo;simp only[eZ,seval,eY,AN e9,hg,OZ hf,h0,h1,y1,y2];generalize yA:wB H n (x9.box [.sl .nil []])=H1;have wW:AO H1 (n+1):=by rw[<-yA];exact hf.wB zo zo
 have k1:∀i,i<n->AD H1 i=AD H i:=λi hi=>by rw[<-yA,AA _ _ _ _ zo]
 have hP1:NdP 4 n (Bc ts) [] H1 .nil:=⟨(k1 4 zo).trans h4,⟨[],by rw[<-yA,AC],λ_=>.nil,.inr rfl⟩,.inl rfl,sk _⟩;have hjA:j*70000<=4096*70000:=tT _ zo;refine(Z4 hpr zo zo wW hP1).mono ?_;rintro o H2 n2 ⟨wn,yq,tl,xN,so,xR⟩;rw[<-hFs]at xR;have k2:∀i,i<n->i≠4->AD H2 i=AD H i:=λi hi s8=>(so i zo s8 zo (λe q=>by cases q)).trans (k1 i hi)
 have g2:=(k2 2 zo zd).trans h2;cases hFl:F l with
 |none=>
  rw[hFl]at xR he;obtain rfl:o= .ret (.bool false):=xR;simp only[tU]at he;rw[he];simp only[];simp only[eZ,seval,se,BO,BL,se,g2];exact Wk.refl _
 |some t=>
  rw[hFl]at xR he;obtain⟨rfl,hP2⟩:=xR;rw[sI]at hP2;obtain⟨hN2,⟨E2,hT2,hE2,hz2⟩,yW,-⟩:=hP2;have htp:C8 1 6 H2 tp:=by
   rcases l7 with rfl|rfl|⟨p,rfl,p1,p2⟩
   ·exact .inl rfl
   ·exact .inr (.inl rfl)
   ·exact .inr (.inr ⟨p,rfl,p1,(k2 p (hf.lt p2) zo).trans p2⟩)
  have q1:BB H2 1 tp=True:=r9 htp.app;have q2:(E.length<=35184372088831)=True:=r9 zo;have q3:Al (E.length+1) 24=True:=r9 (Ae zo zd);have kk2:AD (AU H2 tp) 2=AD H2 2:=Ac htp (.inl zd);have y3:(n2+4=2)=False:=sb zo;simp only[eZ,seval,sa,BL,sa,g2,hT2,q1,q2,q3,kk2,y3,Bq wn,e];have hgl:=G3 (vals:=AP k) (x:=x) (wA:=l) zo x.cs.length _ t (by rw[<-hFs];exact hFl);have hnd:Bc (ts++[t])=Bc ts+t.length:=by rw[PS];simp [Bc]
  have hlow:∀i,i<2\/i=4->AD (wB (wB (AU H2 tp) (n2+4) .tok) 2 (.box [.sl (.own (n2+4) 1) (E++[.sl tl E2])])) i=AD H2 i:=λi hi=>by
   rw[AA _ _ _ _ zo,AA _ _ _ _ zo,Ac htp (.inl zo)]
  refine .mk ⟨j+1,ts++[t],wB (wB (AU H2 tp) (n2+4) .tok) 2 (.box [.sl (.own (n2+4) 1) (E++[.sl tl E2])]),n2+7⟩ rfl ⟨e9,((Ab htp wn).wB (m:=n2+7) zo zo).wB (m:=n2+7) (sj _) zo,zp,?_,?_,⟨.own (n2+4) 1,_,AC ..,λhN=>?_,by simp only[sH,sM,tI];omega,.inl rfl,.inr (.inr ⟨n2+4,rfl,zo,?_⟩)⟩,?_,?_,by simp only[sH,sM,tI];omega,?_⟩ zp
  ·rw[hlow 0 zo,k2 0 zo zd];exact wj
  ·rw[hlow 1 zo,k2 1 zo zd];exact h1'
  ·simp only[hnd]at hN;rw[su];exact(hE zo).app (.cons (Wk.yY hz2 (hE2 zo)) .nil)
  ·rw[AA _ _ _ _ zo,AC]
  ·rw[hlow 4 (.inr rfl),hN2];simp only[hnd]
  ·simp only[];rw[he,Option.map_map];congr 1;funext b;simp
  ·simp only[hnd];rw[tA];omega
section
def Tyc(k:zx)(x:zk)(wA:List Int):Bg:=AF 31 (Gp k x wA) (AF 32 Lo wD)
variable {H:AB} {k:zx} {wA:List Int} {x:zk} {l' n id:Nat}
theorem nJ(h:PrC k x wA):AH prog (Tyc k x wA):=(AH.wD.add Zf).add (V2 h)
structure CxL(k:zx)(x:zk)(wA:List Int)(q10 q11 L l':Nat)(env:List (Nat×Bool×Fs))(H:AB):Prop where
 h2:AD H 2=some (.box [.sl .nil []])
 h3:AD H 3=some (.box [.sl .nil []])
 h4:AD H 4=some (.box [.bool false])
 h10:AD H q10=some (.box [Aj wA])
 h11:AD H q11=some (.box (A0 k x wA))
 hL:AD H L=some (.lp ⟨l',.ready,none,46,env, #[34],Jc,Jd⟩)
def CxF(wA c:List Int)(L l':Nat)(env:List (Nat×Bool×Fs))(H:AB):Prop:=
 AD H 2=some (.box [Aj wA])/\AD H 3=some (.box [Aj c])/\AD H 4=some (.box [.bool true])/\AD H L=some (.lp ⟨l',.done,some (.exit 0),46,env, #[34],Jc,Jd⟩)
abbrev Z6(q10 q11:Nat)(rest:List (Nat×Bool×Fs)):List (Nat×Bool×Fs):=[(2,true,.ptr 0 0),(3,true,.ptr 1 0),(4,true,.ptr 2 0),(5,true,.ptr 3 0),(6,true,.ptr 4 0),(7,true,.int .i64 0),(10,true,.ptr q10 0),(11,true,.ptr q11 0)]++rest
theorem y_cx{cells:List Int}(h:PrC k x wA){q10 q11 L:Nat}{rest:List (Nat×Bool×Fs)}{R:Bool->AB->Nat->Prop}(hf:AO H n)(hl5:5<=L)
  (hX:CxL k x wA q10 q11 L l' (Z6 q10 q11 rest) H) (s5:AD H id=some (.arr 1 (cells.map eI))) (hC:ClP k x cells)
  (hT:Bk (AP k) x wA cells=false->∀H' n',AO H' n'->n<=n'->(∀i,i<n->AD H' i=AD H i)->R true H' n')
  (hF:Bk (AP k) x wA cells=true->∀H' n',CxF wA cells L l' (Z6 q10 q11 rest) H'->R false H' n'):
  CY prog l' [.ref id 1 0 x.cs.length x.cs.length] H n R:=by
 obtain⟨h2,h3,h4,h10,h11,hL⟩:=hX;have xL:=hf.lt hL;have hRI:∀H',AD H' id=AD H id->OV H' (.ref id 1 0 x.cs.length x.cs.length) cells:=λH' e=>.inr ⟨id,_,[],by rw[hC.cl.len],by rw[e,sR];exact s5,by rw[hC.cl.len];exact sj _⟩
 have hneL:∀i ob,AD H i=some ob->(∀z,ob≠ .lp z)->L≠i:=λi ob hi hn e=>by rw[<-e,hL]at hi;cases hi;exact hn _ rfl
 refine y10_0 hL rfl (AI AH.wD (AJ ?_));simp only[eE,eN,seval,U3,Gv,uI,uT,ug,vn];refine⟨_,hL,rfl,AI (nJ h) (AJ ?_)⟩;generalize yA:wB H L _=H1;have k1:∀i,i≠L->AD H1 i=AD H i:=λi hi=>by rw[<-yA,AA _ _ _ _ (Ne.symm hi)]
 have wW:AO H1 n:=by rw[<-yA];exact hf.wB (sj _) xL
 have hL1:AD H1 L=some (.lp ⟨l',.busy,none,46,Z6 q10 q11 rest, #[34],Jc,Jd⟩):=by rw[<-yA,AC]
 have n11:=hneL _ _ h11 (λz e=>by cases e);have n10:=hneL _ _ h10 (λz e=>by cases e);have nid:=hneL _ _ s5 (λz e=>by cases e);have a11:=(k1 q11 (Ne.symm n11)).trans h11;have iO:=(k1 q10 (Ne.symm n10)).trans h10;have aid:=hRI H1 (k1 id (Ne.symm nid));have r1:=II aid;have a2:=(k1 2 zo).trans h2;have a3:=(k1 3 zo).trans h3;have a4:=(k1 4 zo).trans h4;simp only[A0,AG,AE,AL,Aa,sJ,sI]at a11;have eP1:(Fs.agg [.str k.d.nm,.int .i64 k.d.yN,.int .i64 k.d.sh,.int .i64 k.d.w,.int .i64 k.d.h,Aj k.d.wC,He k.d.wE,Gz k.d.wK,Eh k.d.wG,DZ k.d.wF,.int .i64 k.g.sh,.int .i64 k.g.w,.int .i64 k.g.h,Aj k.g.wC,Aj k.g.cells,Br k.nb,Jo k.ls,.str x.nm,.int .i64 x.lv,FN x.cs,FN x.ls,.sl (.none 4) (x.qs.map GQ),.sl (.none 2) (x.ps.map F4),.int .i64 x.c,.int .i64 x.l,Aj wA]=JE k x wA)=True:=r9 rfl;have hx4:=h.ox.cs.2.2.2;have hfew:Aq cells:=by show cells.length<_;rw[hC.cl.len];omega
 cases hb:Bk (AP k) x wA cells with
 |false=>
  have hcn:∃c:Nat,Dh (AP k) x wA cells=(c:Int):=by grind [Dh,GO]
  obtain⟨c,hcn⟩:=hcn;have w1:((c:Int)<0)=False:=sb zo;have w2:decide ((c:Int)<0)=false:=sA zo;simp only[eZ,seval,RE,a11,Tyc,Gp,eP1,r1,r9 aid,r9 hC,hcn,w1,AF];refine⟨⟨l',.busy,none,46,Z6 q10 q11 rest, #[34],Jc,Jd⟩,hL1,hT hb _ _ (wW.wB (m:=n) (sj _) xL) (sj _) λi hi=>?_⟩;rw[AT];split
  ·rename_i e;rw[<-e];exact hL.symm
  ·rename_i e;exact k1 i (Ne.symm e)
 |true=>
  have hcn:Dh (AP k) x wA cells= -1:=by unfold Dh;rw[GO.2 hb]
  simp only[eZ,seval,RE,a11,iO,a2,a3,a4,Tyc,Lo,Gp,eP1,r1,r9 aid,r9 hC,hcn,r9 hfew,AF];refine⟨⟨l',.busy,none,46,Z6 q10 q11 rest, #[34],Jc,Jd⟩,?_,hF hb _ _ ⟨?_,?_,?_,AC ..⟩⟩
  ·grind [AA]
  ·simp_all [AA,AC]
  ·simp_all [AA,AC]
  ·rw[AA _ _ _ _ zo,AC]
structure ChC(k:zx)(x:zk)(wA:List Int)(d1 d2 d3 d4 id l':Nat)(H:AB):Prop where
 h1:AD H d1=some (.box [.ref id 1 0 x.cs.length x.cs.length])
 h2:AD H d2=some (.box [.fn (.yield l') [] []])
 h3:AD H d3=some (.box (A0 k x wA))
 h4:AD H d4=some (.box [.fn (.func 58) [] [.ptr d1 0,.ptr d2 0,.ptr d3 0,.ptr d4 0]])
theorem ChC.keep{d1 d2 d3 d4:Nat}{H':AB}(h:ChC k x wA d1 d2 d3 d4 id l' H)(s5:∃L,AD H id=some (.arr 1 L))(hf:AO H n)(hk:DF id n H H'):ChC k x wA d1 d2 d3 d4 id l' H':=by
 obtain⟨L,s5⟩:=s5;have key:∀c cs,AD H c=some (.box cs)->AD H' c=some (.box cs):=λc cs hc=>by
  rw[hk c (hf.lt hc) (λe=>by rw[e,s5]at hc;cases hc)];exact hc
 obtain⟨h1,h2,h3,h4⟩:=h;exact⟨key _ _ h1,key _ _ h2,key _ _ h3,key _ _ h4⟩
theorem CxL.keep{q10 q11 L:Nat}{env:List (Nat×Bool×Fs)}{H':AB}(h:CxL k x wA q10 q11 L l' env H)(s5:∃L,AD H id=some (.arr 1 L))(hf:AO H n)(hk:DF id n H H'):CxL k x wA q10 q11 L l' env H':=by
 obtain⟨A,s5⟩:=s5;have key:∀c ob,AD H c=some ob->(∀A,ob≠ .arr 1 A)->AD H' c=some ob:=λc ob hc hn=>by
  rw[hk c (hf.lt hc) (λe=>by rw[e,s5]at hc;cases hc;exact hn _ rfl)];exact hc
 obtain⟨h2,h3,h4,h10,h11,hL⟩:=h;exact⟨key _ _ h2 (λA e=>by cases e),key _ _ h3 (λA e=>by cases e),key _ _ h4 (λA e=>by cases e),key _ _ h10 (λA e=>by cases e),key _ _ h11 (λA e=>by cases e),key _ _ hL (λA e=>by cases e)⟩
def agree(i:Nat)(a b:List Int):Prop:=a.length=b.length/\∀k,k<i->a[k]?=b[k]?
theorem V7{m:Nat}:∀(j i:Nat) (a b:List Int),i+j=a.length->agree i a b->Fl m x wA j i a=Fl m x wA j i b
 |0,i,a,b,hij,h=>by
  have:a=b:=uM λk=>by
   by_cases q:k<i
   ·exact h.2 k q
   ·rw[uG zo,uG (by have:=h.1;omega)]
  rw[this]
 |j+1,i,a,b,hij,h=>by
  rw[Fl,Fl];congr 1;funext s;refine V7 j (i+1) _ _ (by rw[tz];omega) ⟨by rw[tz,tz];exact h.1,λk hk=>?_⟩;rw[tC,tC,h.1];split
  ·rfl
  ·exact h.2 k zo
def ChP(k:zx)(wA:List Int)(L l':Nat)(env:List (Nat×Bool×Fs))(id n i:Nat)(H:AB)(cells:List Int)(r:Option (List Int)):xw->AB->Nat->Prop:=λo H' n'=>match r with
 |none=>o= .ret (.bool true)/\AO H' n'/\n<=n'/\DF id n H H'/\∃xB,AD H' id=some (.arr 1 (xB.map eI))/\agree i cells xB/\∀s∈xB,De k s
 |some c=>o= .ret (.bool false)/\CxF wA c L l' env H'
def ChG(k:zx)(x:zk)(wA:List Int)(q10 q11 L l' d1 d2 d3 d4 id:Nat)(rest:List (Nat×Bool×Fs))(j:Nat):Prop:=∀(i:Nat) (cells:List Int) (H:AB) (n:Nat),i+j=x.cs.length->cells.length=x.cs.length->(∀s∈cells,De k s)->AO H n->ChC k x wA d1 d2 d3 d4 id l' H->CxL k x wA q10 q11 L l' (Z6 q10 q11 rest) H->AD H id=some (.arr 1 (cells.map eI))->
 AX prog 58 [.int .i64 i,.ptr d1 0,.ptr d2 0,.ptr d3 0,.ptr d4 0] H n (ChP k wA L l' (Z6 q10 q11 rest) id n i H cells ((Fl k.d.wE.length x wA j i cells).find? λc=>Bk (AP k) x wA c))
structure VCx where
 s:Nat
 c:List Int
 H:AB
 n:Nat
structure ICx(k:zx)(id n0 i:Nat)(H0:AB)(cells:List Int)(r:Option (List Int))(rest:Nat->Option (List Int))(v:VCx):Prop where
 hs:v.s<=k.d.wE.length
 fr:AO v.H v.n
 hn:n0<=v.n
 kp:DF id n0 H0 v.H
 ar:AD v.H id=some (.arr 1 (v.c.map eI))
 ag:agree i cells v.c
 ok:∀s∈v.c,De k s
 he:r=rest v.s
theorem Xd{i:Nat}{a b:List Int}{s:Int}(h:agree i a b):agree (i+1) (a.set i s) (b.set i s):=⟨by rw[tz,tz];exact h.1,λk hk=>by
 rw[tC,tC,h.1];split
 ·rfl
 ·exact h.2 k zo⟩
theorem PT(h:PrC k x wA)(q10 q11 L l' d1 d2 d3 d4 id:Nat)(rest:List (Nat×Bool×Fs))(hl5:5<=L)(j:Nat)(ih:∀j',j=j'+1->ChG k x wA q10 q11 L l' d1 d2 d3 d4 id rest j'):ChG k x wA q10 q11 L l' d1 d2 d3 d4 id rest j:=by
 intro i cells H n hij wi s9 hf hG hX s5;have hG0:=hG;obtain⟨h1,h2,h3,h4⟩:=hG0;have hC:∀c:List Int,c.length=x.cs.length->(∀s∈c,De k s)->ClP k x c:=λc e hc=>⟨⟨e,λs hs _=>hc s hs⟩,λs hs=>by have:=(hc s hs).1;omega⟩
 have h3':=h3;simp only[A0,AG,AE,AL,Aa,sJ,sI]at h3';refine c58.a (AI AH.wD (AJ ?_));cases j with
 |zero=>
  have hi:((i:Int)=(x.cs.length:Int))=True:=r9 zo;have hd:decide ((i:Int)=(x.cs.length:Int))=true:=sK zo;simp only[eZ,seval,c58,h1,h2,hi];rw[Fl,List.find?_cons,List.find?_nil];refine y_cx h (rest:=rest) hf hl5 hX s5 (hC _ wi s9) (λhb H' n' a1 a2 a3=>?_) (λhb H' n' a1=>?_)
  ·simp only[eE,eN,seval,Ov];rw[hb];exact⟨rfl,a1,a2,λz z1 _=>a3 z z1,cells,(a3 id (hf.lt s5)).trans s5,⟨rfl,λ_ _=>rfl⟩,s9⟩
  ·simp only[eE,eN,seval,Ov];rw[hb];exact⟨rfl,a1⟩
 |succ j=>
 have ih:=ih j rfl;have hi:((i:Int)=(x.cs.length:Int))=False:=sb zo;have hsy:=BZ h.ck;have il:i<x.cs.length:=zo
 have hx4:=h.ox.cs.2.2.2;have e1:=AK (k:=i) zo;have il3:((i:Int)<(x.cs.length:Int))=True:=r9 zo;obtain⟨G,hG'⟩:∃G:Int->List (List Int),(λs=>Fl k.d.wE.length x wA j (i+1) (cells.set i s))=G:=⟨_,rfl⟩;obtain⟨p,hp⟩:∃p:Int->Bool,(λs=>decide ((i:Int)≠x.c)||decide (s=BG wA x.l))=p:=⟨_,rfl⟩;rw[Fl,hG',hp];have hGs:∀s,G s=Fl k.d.wE.length x wA j (i+1) (cells.set i s):=λs=>by rw[<-hG']
 have hps:∀s,p s=(decide ((i:Int)≠x.c)||decide (s=BG wA x.l)):=λs=>by rw[<-hp]
 simp only[eZ,seval,ry,c58,h1,h3',hi];refine AQ (λv:VCx=>⟨[(0,true,.int .i64 i),(1,true,.ptr d1 0),(3,true,.ptr d3 0),(4,true,.ptr d4 0),(19,true,.int .i64 k.d.wE.length),(20,true,.int .i64 v.s)],v.H,v.n⟩) (ICx k id n i H cells ((((CP k.d.wE.length).filter p).flatMap G).find? λc=>Bk (AP k) x wA c) (λs=>((((CP k.d.wE.length).drop s).filter p).flatMap G).find? λc=>Bk (AP k) x wA c)) (λv=>k.d.wE.length-v.s)
  ⟨0,cells,H,n⟩ rfl ⟨sk _,hf,sj _,DF.refl _,s5,⟨rfl,λ_ _=>rfl⟩,s9,rfl⟩ ?_
 rintro⟨s,c,H1,n1⟩ ⟨hs,wW,to,hk1,har,hag,hok1,he⟩;simp only at hs wW to hk1 har hag hok1 he;rw[he];by_cases e9:s<k.d.wE.length;case neg=>
  obtain rfl:s=k.d.wE.length:=zo
  rw[uy (by unfold CP;simp)];simp only[eZ,seval,Ag e9];exact⟨rfl,wW,to,hk1,c,har,hag,hok1⟩
 have e:=AK (k:=s) zo;have hd:=Jv e9;have hG1:=hG.keep ⟨_,s5⟩ hf hk1;have hX1:=hX.keep ⟨_,s5⟩ hf hk1;obtain⟨g1,g2,g3,g4⟩:=hG1;simp only[A0,AG,AE,AL,Aa,sJ,sI]at g3;have hxl:=h.ox.l;rw[<-h.rd.ll]at hxl;have hgl:=BY hxl.1 hxl.2;have w5:(0<=x.l)=True:=r9 hxl.1;have w6:(x.l<(wA.length:Int))=True:=r9 hxl.2;have hcl1:c.length=x.cs.length:=by rw[<-hag.1];exact wi
 have il2:(i<c.length)=True:=r9 zo;have hps':=hps (s:Int);generalize BG wA x.l=lt at hgl hps';by_cases hpv:p (s:Int)=true;case neg=>
  have hpv':p (s:Int)=false:=by simpa using hpv
  rw[hd,vj hpv];rw[hpv']at hps';have hbo:=tY.1 hps'.symm;have hic:(i:Int)=x.c:=by simpa using hbo.1
  have yk:¬(s:Int)=lt:=by simpa using hbo.2
  simp only[eZ,seval,se,eY,AN e9,g3,r9 hic,w5,w6,hgl,sb yk,se,e];exact .mk ⟨s+1,c,H1,n1⟩ rfl ⟨e9,wW,to,hk1,har,hag,hok1,rfl⟩ zp
 rw[hd,vk hpv,uU,List.find?_append];have est:(c.map eI).set i (.int .i64 (s:Int))=(c.set i (s:Int)).map eI:=by simp_all
 have y4:(id=d4)=False:=sb λq=>by rw[q,g4]at har;cases har
 have hbr:¬(i:Int)=x.c\/(i:Int)=x.c/\(s:Int)=lt:=by grind
 rcases hbr with hic|⟨hic,yk⟩
 case' inl=>simp only[eZ,seval,eY,AN e9,g3,sb hic,w5,w6,hgl,g1,har,il2,il3,est,g4,y4,e1]
 case' inr=>simp only[eZ,seval,sa,eY,AN e9,g3,r9 hic,w5,w6,hgl,r9 yk,sa,g1,har,il2,il3,est,g4,y4,e1]
 all_goals
  generalize hH2:wB H1 id (x9.arr 1 ((c.set i (s:Int)).map eI))=H2;have hidn:=wW.lt har;have wn:AO H2 n1:=by rw[<-hH2];exact wW.wB (sj _) hidn
  have ha2:AD H2 id=some (.arr 1 ((c.set i (s:Int)).map eI)):=by rw[<-hH2,AC]
  have so:DF id n H H2:=by rw[<-hH2];exact hk1.set
  have hok2:∀z∈c.set i (s:Int),De k z:=λz hz=>by
   rcases ua hz with q|q
   ·exact hok1 z q
   ·rw[q];exact⟨zo,zo⟩
  have hag2:agree (i+1) (cells.set i (s:Int)) (c.set i (s:Int)):=Xd hag;have hasg:Fl k.d.wE.length x wA j (i+1) (c.set i (s:Int))=G (s:Int):=by
   rw[hGs];exact(V7 j (i+1) _ _ (by rw[tz];omega) hag2).symm
  refine(ih (i+1) (c.set i (s:Int)) H2 n1 zo (by rw[tz];exact hcl1) hok2 wn (hG.keep ⟨_,s5⟩ hf so) (hX.keep ⟨_,s5⟩ hf so) ha2).mono ?_;rintro o H3 n3 hr;rw[hasg]at hr;cases hfd:(G (s:Int)).find? λc=>Bk (AP k) x wA c with
  |some c2=>
   rw[hfd]at hr;obtain⟨rfl,hr⟩:=hr;rw[Option.some_or];simp only[eZ,seval,se,BL,se];exact⟨rfl,hr⟩
  |none=>
   rw[hfd]at hr;obtain⟨rfl,r1,r2,r3,c3,r4,r5,r6⟩:=hr;rw[Option.none_or];simp only[eZ,seval,sa,BL,sa,e];refine .mk ⟨s+1,c3,H3,n3⟩ rfl ⟨e9,r1,zp,so.trans r3 to,r4,?_,r6,rfl⟩ zp;refine⟨?_,λz hz=>?_⟩
   ·have:=r5.1;rw[tz]at this;rw[hag.1];exact this
   ·have:=r5.2 z zo;rw[tC,sg zo]at this;rw[hag.2 z hz];exact this
theorem SC(h:PrC k x wA)(q10 q11 L l' d1 d2 d3 d4 id:Nat)(rest:List (Nat×Bool×Fs))(hl5:5<=L):∀j,ChG k x wA q10 q11 L l' d1 d2 d3 d4 id rest j
 |0=>PT h q10 q11 L l' d1 d2 d3 d4 id rest hl5 0 λj' hj=>zo
 |j+1=>PT h q10 q11 L l' d1 d2 d3 d4 id rest hl5 (j+1) λj' hj=>by
  obtain rfl:j'=j:=zo
  exact SC h q10 q11 L l' d1 d2 d3 d4 id rest hl5 j'
end
theorem Z7{k:zx}{x:zk}{wA:List Int}(h:PrC k x wA){q10 q11 L l' p n:Nat}{rest:List (Nat×Bool×Fs)}{H:AB}(hl5:5<=L)(hf:AO H n)(hp:AD H p=some (.box (A0 k x wA)))(hX:CxL k x wA q10 q11 L l' (Z6 q10 q11 rest) H):
  AX prog 57 [.fn (.yield l') [] [],.ptr p 0] H n λo H' n'=>o= .ret (.wJ [])/\match (Fl k.d.wE.length x wA x.cs.length 0 (List.replicate x.cs.length 0)).find? (λc=>Bk (AP k) x wA c)with
   |none=>AO H' n'/\n<=n'/\∀i,i<n->AD H' i=AD H i
   |some c=>CxF wA c L l' (Z6 q10 q11 rest) H':=by
 have hpn:=hf.lt hp;have hp':=hp;simp only[A0,AG,AE,AL,Aa,sJ,sI]at hp';have hx4:=h.ox.cs.2.2;have hsy:=BZ h.ck;refine c57.a (AI AH.wD (AJ ?_));have w1:∀a b:Nat,(n+a=n+b)=(a=b):=λa b=>propext ⟨λh=>zo,λh=>zo⟩
 have w2:∀b:Nat,(n=n+b)=(b=0):=λb=>propext ⟨λh=>zo,λh=>zo⟩
 have w3:∀b:Nat,(n+b=p)=False:=λb=>sb zo
 have w4:(n=p)=False:=sb zo;have w6:((x.cs.length:Int)<=35184372088832)=True:=r9 zo;have w7:Al x.cs.length 8=True:=r9 (Ae zo zd);simp only[eE,eN,seval,eY,c57,OZ hf,Bq hf,hp',w1,w2,w4,w6,w7,AW];generalize hHb:wB (wB (wB (wB H n _) (n+5) _) (n+6) _) (n+8) _=Hb;have hfb:AO Hb (n+9):=by
  rw[<-hHb];exact(((hf.wB (m:=n+9) zo zo).wB (sj _) zo).wB (sj _) zo).wB (sj _) zo
 have kb:∀i,i<n->AD Hb i=AD H i:=λi hi=>by
  rw[<-hHb,AA _ _ _ _ zo,AA _ _ _ _ zo,AA _ _ _ _ zo,AA _ _ _ _ zo]
 have hG:ChC k x wA (n+6) n p (n+8) (n+5) l' Hb:=by
  refine⟨?_,?_,(kb p hpn).trans hp,?_⟩
  ·rw[<-hHb,AA _ _ _ _ zo,AC]
  ·grind [AA,AC]
  ·rw[<-hHb,AC]
 have s5:AD Hb (n+5)=some (.arr 1 ((List.replicate x.cs.length (0:Int)).map eI)):=by grind [AA,AC,List.map_replicate]
 have hX':CxL k x wA q10 q11 L l' (Z6 q10 q11 rest) Hb:=by
  obtain⟨a2,a3,a4,iO,a11,aL⟩:=hX;exact⟨(kb _ (hf.lt a2)).trans a2,(kb _ (hf.lt a3)).trans a3,(kb _ (hf.lt a4)).trans a4,(kb _ (hf.lt iO)).trans iO,(kb _ (hf.lt a11)).trans a11,(kb _ (hf.lt aL)).trans aL⟩
 have hch:=SC h q10 q11 L l' (n+6) n p (n+8) (n+5) rest hl5 x.cs.length 0 (List.replicate x.cs.length 0) Hb (n+9) (tx _) zw (λs hs=>by rw[(vX.1 hs).2];exact⟨vA _,zo⟩) hfb hG hX' s5;rw[c0]at hch;refine hch.mono ?_;rintro o H' n' hr;cases hfd:(Fl k.d.wE.length x wA x.cs.length 0 (List.replicate x.cs.length 0)).find? λc=>Bk (AP k) x wA c with
 |none=>
  rw[hfd]at hr;obtain⟨rfl,r1,r2,r3,-⟩:=hr;simp only[eE,eN,BL];exact⟨r1,zo,λi hi=>(r3 i zo zo).trans (kb i hi)⟩
 |some c=>
  rw[hfd]at hr;obtain⟨rfl,hr⟩:=hr;simp only[eE,eN,BL];exact hr
def fI{H:AB}{n:Nat}{k:zx}{x:zk}{wA:List Int}(hf:AO H n):AX prog 30 [JE k x wA] H n λo H' n'=>o= .ret (.fn (.func 57) [] [.ptr n 0])/\H'=wB H n (.box (A0 k x wA))/\n'=n+2:=by
 refine c30.a (AI AH.wD (AJ ?_));simp only[eE,eN,seval,c30,OZ hf];rfl
def FQ(k:zx)(x:zk):Fs:=match Oz (AP k) x with
 |some q=>.wJ [Aj q.1,Aj q.2,.bool true,.int .i64 0]
 |none=>.wJ [.sl .nil [],.sl .nil [],.bool false,.int .i64 0]
def By(k:zx)(x:zk):Fs:=if BH k x≠0 then .wJ [.sl .nil [],.sl .nil [],.bool false,.int .i64 (BH k x)]else FQ k x
structure VPk where
 j:Nat
 H:AB
 n:Nat
structure IPk(k:zx)(x:zk)(A:List (List Int))(F:List Int->Option (List Int×List Int))(v:VPk):Prop where
 hj:v.j<=A.length
 fr:AO v.H v.n
 hn:6<=v.n
 h0:AD v.H 0=some (.box (AG k))
 h1:AD v.H 1=some (.box (Aa x))
 h2:AD v.H 2=some (.box [.sl .nil []])
 h3:AD v.H 3=some (.box [.sl .nil []])
 h4:AD v.H 4=some (.box [.bool false])
 he:A.findSome? F=(A.drop v.j).findSome? F
def p10(k:zx)(x:zk)(hk:zy k.d)(hx:wq x):Av prog 10 [BA k,Cl x] (By k x):=by
 have u1:CQ.ok (.agg (AG k))=True:=Ce k;have u2:CQ.dec (.agg (AG k))=k:=Bx k;simp only[AG,AE,AL,sJ,sI]at u1 u2;have v1:dX.ok (.agg (Aa x))=True:=Gm x;have v2:dX.dec (.agg (Aa x))=x:=Ei x;simp only[Aa]at v1 v2;refine .mk ⟨Am 0 k,BN 0 x,zt⟩ ?_ (iO (AI Z5 (AJ ?_)))
 ·unfold By FQ;split
  ·exact⟨⟨zt,zt⟩,⟨zt,zt⟩,zt,zt,zt⟩
  ·split
   ·exact⟨AV 0 _,AV 0 _,zt,zt,zt⟩
   ·exact⟨⟨zt,zt⟩,⟨zt,zt⟩,zt,zt,zt⟩
 unfold By;by_cases hv:BH k x=0;case neg=>
  have hpv:DG k x= .wJ [.sl .nil [],.int .i64 (BH k x)]:=by unfold DG;rw[sn hv]
  rw[sn hv];simp only[eZ,seval,se,eY,BO,rq,AG,AE,AL,Tpr,s2,u1,u2,v1,v2,r9 hk,r9 hx,hpv,sb hv,AF];exact Wk.refl _
 have hpv:DG k x= .wJ [.sl (.none 1) ((EP k.d.wE.length x.ls.length).map Aj),.int .i64 0]:=by unfold DG;rw[sg (by simpa using hv)]
 rw[sg (by simpa using hv)];obtain⟨hck,hox⟩:=IN hk hx hv;have hsy:=BZ hck;have hvl:(AP k).length=k.d.wE.length:=by unfold AP;rw[ry]
 have hPr:∀l∈EP k.d.wE.length x.ls.length,PrC k x l:=λl hl=>⟨hck,hk,hx,hox,hl⟩
 have hAl:(EP k.d.wE.length x.ls.length).length<=4096:=by
  refine sX (Iy _ _) (sX (uW hsy.2 _) (sX (uS zd (show x.ls.length<=3 from hox.ls.2.2.2)) zd))
 unfold FQ Oz;rw[hvl];obtain⟨F,hF⟩:∃F:List Int->Option (List Int×List Int),(λwA=>((Fl k.d.wE.length x wA x.cs.length 0 (List.replicate x.cs.length 0)).find? λc=>Bk (AP k) x wA c).map λc=>(wA,c))=F:=⟨_,rfl⟩;rw[hF];have hFs:∀l,F l=((Fl k.d.wE.length x l x.cs.length 0 (List.replicate x.cs.length 0)).find? λc=>Bk (AP k) x l c).map λc=>(l,c):=λl=>by rw[<-hF]
 simp only[eZ,seval,sa,eY,rq,AG,AE,AL,Tpr,s2,u1,u2,v1,v2,r9 hk,r9 hx,hpv,AF];generalize EP k.d.wE.length x.ls.length=A at hPr hAl;refine AQ (λv:VPk=>⟨[(2,true,.ptr 0 0),(3,true,.ptr 1 0),(4,true,.ptr 2 0),(5,true,.ptr 3 0),(6,true,.ptr 4 0),(7,true,.int .i64 0),(22,true,.sl (.none 1) (A.map Aj)),(23,true,.int .i64 A.length),(24,true,.int .i64 v.j)],v.H,v.n⟩) (IPk k x A F) (λv=>A.length-v.j)
  ⟨0,_,6⟩ rfl ⟨sk _,?_,sj _,rfl,rfl,rfl,rfl,rfl,rfl⟩ ?_
 ·simp only[];repeat' (first|exact AO.nil.wB (m:=6) (sk _) zd|refine AO.wB ?_ (sj _) zd)
 rintro⟨j,H,n⟩ ⟨hj,hf,hn,h0,h1,h2,h3,h4,he⟩;simp only at hj hf hn h0 h1 h2 h3 h4 he;rw[he];have wj:=h0;have h1':=h1;simp only[AG,AE,AL,sJ,sI]at h0;simp only[Aa]at h1;by_cases e9:j<A.length;case neg=>
  obtain rfl:j=A.length:=zo
  rw[t5,List.findSome?_nil];simp only[eZ,seval,BO,Ag e9,h2,h3,h4];exact Wk.refl _
 have e:=AK (k:=j) zo;have hg:=rz e9;have hpr:=hPr _ (sC e9);have hdr:=sO e9;rw[hdr,uY];generalize A[j]=l at hg hpr hdr;have y1:∀z,(n+z=0)=False:=λz=>sb zo
 have y2:∀z,(n+z=1)=False:=λz=>sb zo
 have w1:∀a b:Nat,(n+a=n+b)=(a=b):=λa b=>propext ⟨λh=>zo,λh=>zo⟩
 simp only[eZ,seval,eY,AN e9,hg,Bq hf,h0,h1,y1,y2,w1,AW];obtain⟨Ha,hHa⟩:∃Ha,wB (wB H (n+2) (.box [Aj l])) (n+8) (.box (A0 k x l))=Ha:=⟨_,rfl⟩;have hfa:AO Ha (n+10):=by rw[<-hHa];exact(hf.wB (m:=n+10) zo zo).wB (sj _) zo
 have g10:AD Ha (n+2)=some (.box [Aj l]):=by rw[<-hHa,AA _ _ _ _ zo,AC]
 have g11:AD Ha (n+8)=some (.box (A0 k x l)):=by rw[<-hHa,AC]
 have ka:∀i,i<n->AD Ha i=AD H i:=λi hi=>by rw[<-hHa,AA _ _ _ _ zo,AA _ _ _ _ zo]
 simp only[A0,AG,AE,AL,Aa,sJ,sI]at hHa;rw[hHa];refine(fI hfa).mono ?_;rintro o H1 n1 ⟨rfl,rfl,rfl⟩;simp only[eE,eN,seval,BL,GE];intro l';generalize hHb:wB (wB Ha (n+10) _) _ (x9.lp _)=Hb;have hfb:AO Hb (n+13):=by rw[<-hHb];exact(hfa.wB (m:=n+13) zo zo).wB (sj _) zo
 have kb:∀i,i<n+10->AD Hb i=AD Ha i:=λi hi=>by rw[<-hHb,AA _ _ _ _ zo,AA _ _ _ _ zo]
 have kH:∀i,i<n->AD Hb i=AD H i:=λi hi=>(kb i zo).trans (ka i hi)
 have hp:AD Hb (n+10)=some (.box (A0 k x l)):=by rw[<-hHb,AA _ _ _ _ zo,AC]
 have hX:CxL k x l (n+2) (n+8) (n+12) l' (Z6 (n+2) (n+8) [(22,true,.sl (.none 1) (A.map Aj)),(23,true,.int .i64 A.length),(24,true,.int .i64 j),(33,true,.fn (.func 57) [] [.ptr (n+10) 0])]) Hb:=
  ⟨(kH 2 zo).trans h2,(kH 3 zo).trans h3,(kH 4 zo).trans h4,(kb _ zo).trans g10,(kb _ zo).trans g11,by rw[<-hHb];exact AC ..⟩
 refine(Z7 hpr zo hfb hp hX).mono ?_;rintro o H2 n2 ⟨rfl,hr⟩;have hFl:=hFs l;cases hfd:(Fl k.d.wE.length x l x.cs.length 0 (List.replicate x.cs.length 0)).find? λc=>Bk (AP k) x l c with
 |none=>
  rw[hfd]at hr hFl;obtain⟨r1,r2,r3⟩:=hr;rw[tU]at hFl;rw[hFl];have hL2:=(r3 (n+12) zo).trans hX.hL;simp only[eE,eN,seval,GD,hL2,e];have kk:∀i,i<n->AD (wB H2 (n+12) .dead) i=AD H i:=λi hi=>by rw[AA _ _ _ _ zo,r3 i zo];exact kH i hi
  exact .mk ⟨j+1,wB H2 (n+12) .dead,n2⟩ rfl ⟨e9,r1.wB (m:=n2) (sj _) zo,zp,(kk 0 zo).trans wj,(kk 1 zo).trans h1',(kk 2 zo).trans h2,(kk 3 zo).trans h3,(kk 4 zo).trans h4,by rw[he,hdr,uY,hFl]⟩ zp
 |some c=>
  rw[hfd]at hr hFl;obtain⟨r2,r3,r4,rL⟩:=hr;rw[td]at hFl;rw[hFl];have z2:(n+12=2)=False:=sb zo;have z3:(n+12=3)=False:=sb zo;have z4:(n+12=4)=False:=sb zo;simp only[eE,eN,seval,BO,GD,rL,r2,r3,r4,z2,z3,z4];exact Wk.refl _
section
def Z8(k:zx)(x:zk)(ts:List (List xv)):Bool:=decide (BH k x=0)&&ED (AP k) x ts
def decC:Fs->xv
 | .agg [.int _ k,.int _ a]=>⟨k,a⟩
 |_=>⟨0,0⟩
def jq:Fs->List xv:=C1 decC
def jr:Fs->List (List xv)
 | .agg [l]=>C1 jq l
 |_=>[]
theorem Z9(c:xv):decC (Qg c)=c:=rfl
def Xe(l:List xv):jq (Rh l)=l:=Dx Z9 l
def PU(t:List (List xv)):jr (EW t)=t:=Dx Xe t
def PV(t:List (List xv)):Prop:=Aq t/\∀l∈t,Aq l
variable {cap:List Fs}
def aA(l:List zk)(s:Bs):Bool:=l.any λx=>decide (x.nm=s)
end
structure Lbr where
 ls:List zk
 pf:List (List (List xv))
abbrev eLms(l:List zk):Fs:=.sl (.none 8) (l.map Cl)
abbrev ePfs(l:List (List (List xv))):Fs:=.sl (.none 1) (l.map EW)
abbrev Lt(l:Lbr):Fs:=.agg [eLms l.ls,ePfs l.pf]
structure FewB(l:Lbr):Prop where
 ls:Aq l.ls
 pf:Aq l.pf
 lm:∀x∈l.ls,wq x
 pr:∀p∈l.pf,PV p
def V8(k:zx):List zk->List zk->List (List (List xv))->Int
 |prev,x::r,p::q=>if JA x≠0 then JA x else if aA prev x.nm=true then 161 else if Z8 k x p=false then 310 else V8 k (prev++[x]) r q
 |_,_,_=>0
def V9(k:zx)(l:Lbr):Int:=if BE k≠0 then BE k else if 16<l.ls.length then 2 else if l.pf.length≠l.ls.length then 310 else V8 k [] l.ls l.pf
structure IVl(k:zx)(l:Lbr)(v:VPm):Prop where
 hi:v.i<=l.ls.length
 fr:AO v.H v.n
 hn:3<=v.n
 h0:AD v.H 0=some (.box (AG k))
 h1:AD v.H 1=some (.box [eLms l.ls,ePfs l.pf])
 he:V8 k [] l.ls l.pf=V8 k (l.ls.take v.i) (l.ls.drop v.i) (l.pf.drop v.i)
abbrev fJ:Fs:=.agg [.sl .nil [],.sl .nil []]
def aB(k:zx)(l:Lbr)(x:zk)(p:List (List xv)):Int:=if V9 k l≠0 then V9 k l else if JA x≠0 then JA x else if l.ls.length=16 then 2 else if aA l.ls x.nm=true then 161 else if Z8 k x p=false then 310 else 0
def aC(k:zx)(l:Lbr)(x:zk)(p:List (List xv)):Fs:=if aB k l x p≠0 then .wJ [fJ,.int .i64 (aB k l x p)]else .wJ [Lt ⟨l.ls++[x],l.pf++[p]⟩,.int .i64 0]
def MV(q:Cnd):Bool:=!(decide (6<q.cs.length)||decide (6<q.ls.length))
def Kw(x:zk):Bool:=!(decide (4<x.cs.length)||decide (3<x.ls.length)||decide (8<x.qs.length)||decide (6<x.ps.length)||decide (3<x.cs.length)&&decide (2<x.ls.length))&&x.qs.all MV&&x.ps.all λp=>!decide (6<p.ls.length)
def NN{n:Nat}(k:Nat)(z:Int)(hz:z=(k:Int)):(z<(n:Int))=(k<n):=by subst hz;exact propext zo
def p7(x:zk):Av prog 7 [Cl x] (.bool (Kw x)):=by
 refine .mk ⟨BN 0 x,zt⟩ zt (c7.a (AI AH.wD (AJ ?_)));have l2:=λn:Nat=>NN (n:=n) 2 2 rfl
 have l3:=λn:Nat=>NN (n:=n) 3 3 rfl
 have l4:=λn:Nat=>NN (n:=n) 4 4 rfl
 have l6:=λn:Nat=>NN (n:=n) 6 6 rfl
 have l8:=λn:Nat=>NN (n:=n) 8 8 rfl
 have dn:∀{p:Prop} [Decidable p],¬p->decide p=false:=λh=>sA h
 have dy:∀{p:Prop} [Decidable p],p->decide p=true:=λh=>sK h
 unfold Kw;by_cases h1:4<x.cs.length
 ·simp only[eZ,seval,sa,ry,c7,r9 (show(4:Int)<(x.cs.length:Int)by omega),dy h1,sa]
 by_cases h2:3<x.ls.length
 ·simp only[eZ,seval,sa,ry,c7,sb (show ¬(4:Int)<(x.cs.length:Int)by omega),r9 (show(3:Int)<(x.ls.length:Int)by omega),dn h1,dy h2,sa]
 by_cases h3:8<x.qs.length
 ·simp only[eZ,seval,sa,ry,c7,sb (show ¬(4:Int)<(x.cs.length:Int)by omega),sb (show ¬(3:Int)<(x.ls.length:Int)by omega),r9 (show(8:Int)<(x.qs.length:Int)by omega),dn h1,dn h2,dy h3,sa]
 by_cases h4:6<x.ps.length
 ·simp only[eZ,seval,sa,ry,c7,sb (show ¬(4:Int)<(x.cs.length:Int)by omega),sb (show ¬(3:Int)<(x.ls.length:Int)by omega),sb (show ¬(8:Int)<(x.qs.length:Int)by omega),r9 (show(6:Int)<(x.ps.length:Int)by omega),dn h1,dn h2,dn h3,dy h4,sa]
 by_cases h5:3<x.cs.length/\2<x.ls.length
 ·simp only[eZ,seval,sa,ry,c7,sb (show ¬(4:Int)<(x.cs.length:Int)by omega),sb (show ¬(3:Int)<(x.ls.length:Int)by omega),sb (show ¬(8:Int)<(x.qs.length:Int)by omega),sb (show ¬(6:Int)<(x.ps.length:Int)by omega),r9 (show(3:Int)<(x.cs.length:Int)by omega),r9 (show(2:Int)<(x.ls.length:Int)by omega),dn h1,dn h2,dn h3,dn h4,dy h5.1,dy h5.2,sa]
 have hg:(!(decide (4<x.cs.length)||decide (3<x.ls.length)||decide (8<x.qs.length)||decide (6<x.ps.length)||decide (3<x.cs.length)&&decide (2<x.ls.length)))=true:=by grind
 rw[hg,tS];by_cases h6:3<x.cs.length;case' pos=>simp only[eZ,seval,ry,c7,sb (show ¬(4:Int)<(x.cs.length:Int)by omega),sb (show ¬(3:Int)<(x.ls.length:Int)by omega),sb (show ¬(8:Int)<(x.qs.length:Int)by omega),sb (show ¬(6:Int)<(x.ps.length:Int)by omega),r9 (show(3:Int)<(x.cs.length:Int)by omega),sb (show ¬(2:Int)<(x.ls.length:Int)from λq=>h5 ⟨h6,zo⟩)]
 case' neg=>simp only[eZ,seval,ry,c7,sb (show ¬(4:Int)<(x.cs.length:Int)by omega),sb (show ¬(3:Int)<(x.ls.length:Int)by omega),sb (show ¬(8:Int)<(x.qs.length:Int)by omega),sb (show ¬(6:Int)<(x.ps.length:Int)by omega),sb (show ¬(3:Int)<(x.cs.length:Int)by omega)]
 all_goals
  refine AQ (λi:Nat=>⟨[(1,true,.ptr 0 0),(3,true,.int .i64 i)],wB Ak 0 (.box (Aa x)),2⟩) (λi=>i<=x.qs.length/\∀(j:Nat) q,j<i->x.qs[j]?=some q->MV q=true) (λi=>x.qs.length-i) 0 rfl ⟨sk _,λj q h=>zo⟩ ?_;rintro i ⟨hi,l5⟩;by_cases e9:i<x.qs.length
  ·have e:=AK (k:=i) zo;have hg:=rz e9;have hm:=sC e9;generalize x.qs[i]=q at hg hm;by_cases z1:6<q.cs.length
   ·have hq:MV q=false:=by unfold MV;rw[dy z1];rfl
    have:x.qs.all MV=false:=vq.2 ⟨q,hm,by rw[hq];decide⟩;rw[this];simp only[eZ,seval,sa,eY,Aa,AN e9,hg,r9 (show(6:Int)<(q.cs.length:Int)by omega)]
    done
   by_cases z2:6<q.ls.length
   ·have hq:MV q=false:=by unfold MV;rw[dy z2,Bool.or_true];rfl
    have:x.qs.all MV=false:=vq.2 ⟨q,hm,by rw[hq];decide⟩;rw[this];simp only[eZ,seval,eY,Aa,AN e9,hg,sb (show ¬(6:Int)<(q.cs.length:Int)by omega),r9 (show(6:Int)<(q.ls.length:Int)by omega)]
    done
   have hq:MV q=true:=by unfold MV;rw[dn z1,dn z2];rfl
   simp only[eZ,seval,eY,Aa,AN e9,hg,sb (show ¬(6:Int)<(q.cs.length:Int)by omega),sb (show ¬(6:Int)<(q.ls.length:Int)by omega),e];refine .mk (i+1) rfl ⟨e9,λj y hj hy=>?_⟩ zo;by_cases w:j<i
   ·exact l5 j y w hy
   ·obtain rfl:j=i:=zo
    rw[hg]at hy;cases hy;exact hq
  obtain rfl:i=x.qs.length:=zo
  have hqs:x.qs.all MV=true:=sE.2 λq hq=>by
   obtain⟨j,hj,rfl⟩:=sV.1 hq;exact l5 j _ hj (rz hj)
  rw[hqs,tS];simp only[eZ,seval,ry,Aa,Ag e9];refine AQ (λi:Nat=>⟨[(1,true,.ptr 0 0),(4,true,.int .i64 i)],wB Ak 0 (.box (Aa x)),2⟩) (λi=>i<=x.ps.length/\∀(j:Nat) q,j<i->x.ps[j]?=some q->¬6<q.ls.length) (λi=>x.ps.length-i) 0 rfl ⟨sk _,λj q h=>zo⟩ ?_;rintro i ⟨hi,l5⟩;by_cases e9:i<x.ps.length
  ·have e:=AK (k:=i) zo;have hg:=rz e9;have hm:=sC e9;generalize x.ps[i]=q at hg hm;by_cases z1:6<q.ls.length
   ·have:(x.ps.all λp=>!decide (6<p.ls.length))=false:=vq.2 ⟨q,hm,by rw[dy z1];decide⟩;rw[this];simp only[eZ,seval,eY,Aa,AN e9,hg,r9 (show(6:Int)<(q.ls.length:Int)by omega)]
    done
   simp only[eZ,seval,eY,Aa,AN e9,hg,sb (show ¬(6:Int)<(q.ls.length:Int)by omega),e];refine .mk (i+1) rfl ⟨e9,λj y hj hy=>?_⟩ zo;by_cases w:j<i
   ·exact l5 j y w hy
   ·obtain rfl:j=i:=zo
    rw[hg]at hy;cases hy;exact z1
  obtain rfl:i=x.ps.length:=zo
  have hps:(x.ps.all λp=>!decide (6<p.ls.length))=true:=sE.2 λq hq=>by
   obtain⟨j,hj,rfl⟩:=sV.1 hq;rw[dn (l5 j _ hj (rz hj))];rfl
  rw[hps];simp only[eZ,seval,ry,Aa,Ag e9]
  done
def nK{x:zk}(h:Kw x=true):wq x:=by
 unfold Kw at h;simp only[sf,tJ,tY,ti,sE]at h;obtain⟨⟨⟨⟨⟨⟨h1,h2⟩,h3⟩,h4⟩,-⟩,h5⟩,h6⟩:=h;refine⟨?_,?_,?_,?_,λq hq=>?_,λp hp=>?_⟩
 ·show x.cs.length<1000000000;omega
 ·show x.ls.length<1000000000;omega
 ·show x.qs.length<1000000000;omega
 ·show x.ps.length<1000000000;omega
 ·grind [MV,Bool.not_eq_true',Bool.or_eq_false_iff,decide_eq_false_iff_not]
 ·have:=h6 p hp;show p.ls.length<1000000000;omega
def SD{α:Type}{a b:List α}(h:a.length=b.length)(k:∀i,i<a.length->a[i]?=b[i]?):a=b:=uM λi=>by
 by_cases q:i<a.length
 ·exact k i q
 ·simp_all
def WA(a b:xv):xT [.int .i64 a.k,.int .i64 a.a] [.int .i64 b.k,.int .i64 b.a]=decide (a=b):=by
 obtain⟨k,m⟩:=a;obtain⟨k',m'⟩:=b;simp [xT,ID]
abbrev Hsp(a b:List (List xv)):AB:=wB (wB Ak 0 (.box [mo a])) 1 (.box [mo b])
def p12(a b:List (List xv))(ha:PV a):Av prog 12 [EW a,EW b] (.bool (decide (a=b))):=by
 refine .mk ⟨FP 0 a,FP 0 b,zt⟩ zt (a12 (AI AH.wD (AJ ?_)));have wu:a.length<1000000000:=ha.1;by_cases hl:a.length=b.length;case neg=>
  have w1:((a.length:Int)=(b.length:Int))=False:=sb zo;have w2:decide ((a.length:Int)=(b.length:Int))=false:=sA zo;rw[sA (λe=>hl (by rw[e]))];simp only[eZ,seval,se,ry,c12,w1]
 have w1:((a.length:Int)=(b.length:Int))=True:=r9 zo;have w2:decide ((a.length:Int)=(b.length:Int))=true:=sK zo;simp only[eZ,seval,sa,ry,c12,w1];refine AQ (λi:Nat=>⟨[(2,true,.ptr 0 0),(3,true,.ptr 1 0),(5,true,.int .i64 i)],Hsp a b,3⟩) (λi=>i<=a.length/\∀j,j<i->a[j]?=b[j]?) (λi=>a.length-i) 0 rfl ⟨sk _,λj h=>zo⟩ ?_;rintro i ⟨hi,l5⟩;by_cases e9:i<a.length;case neg=>
  obtain rfl:i=a.length:=zo
  rw[sK (SD hl l5)];simp only[eZ,seval,ry,Ag e9]
 have wO:i<b.length:=zo
 have e:=AK (k:=i) zo;have xW:=rz e9;have wQ:=rz wO;have hfa:=ha.2 _ (sC e9);generalize a[i]=la at xW hfa;generalize b[i]=lb at wQ;have hlal:la.length<1000000000:=hfa;have neAB:la≠lb->a≠b:=λq e=>q (by rw[e,wQ]at xW;exact(Option.some.inj xW).symm)
 by_cases wm:la.length=lb.length;case neg=>
  have w3:((la.length:Int)=(lb.length:Int))=False:=sb zo;have w4:decide ((la.length:Int)=(lb.length:Int))=false:=sA zo;rw[sA (neAB λe=>wm (by rw[e]))];simp only[eZ,seval,se,eY,AN e9,AN wO,xW,wQ,w3]
 have w3:((la.length:Int)=(lb.length:Int))=True:=r9 zo;have w4:decide ((la.length:Int)=(lb.length:Int))=true:=sK zo;simp only[eZ,seval,sa,eY,AN e9,AN wO,xW,wQ,w3];refine AQ (λj:Nat=>⟨[(2,true,.ptr 0 0),(3,true,.ptr 1 0),(5,true,.int .i64 i),(6,true,.int .i64 j)],Hsp a b,3⟩) (λj=>j<=la.length/\∀m,m<j->la[m]?=lb[m]?) (λj=>la.length-j) 0 rfl ⟨sk _,λj h=>zo⟩ ?_;rintro j ⟨hj,hallj⟩;by_cases s6:j<la.length;case neg=>
  obtain rfl:j=la.length:=zo
  have xd:=SD wm hallj;simp only[eZ,seval,eY,AN e9,xW,Ag s6,e];refine .mk (i+1) rfl ⟨e9,λm hm=>?_⟩ zo;by_cases q:m<i
  ·exact l5 m q
  ·obtain rfl:m=i:=zo
   rw[xW,wQ,xd]
 have hljb:j<lb.length:=zo
 have ej:=AK (k:=j) zo;have hgc:=rz s6;have hgd:=rz hljb;generalize la[j]=ca at hgc;generalize lb[j]=cb at hgd;have neL:ca≠cb->la≠lb:=λq e=>q (by rw[e,hgd]at hgc;exact(Option.some.inj hgc).symm)
 by_cases hc:ca=cb
 ·subst hc;simp only[eZ,seval,sa,eY,AN e9,AN wO,xW,wQ,AN s6,AN hljb,hgc,hgd,ej,WA,D2];refine .mk (j+1) rfl ⟨s6,λm hm=>?_⟩ zo;by_cases q:m<j
  ·exact hallj m q
  ·obtain rfl:m=j:=zo
   rw[hgc,hgd]
 ·simp only[eZ,seval,se,eY,AN e9,AN wO,xW,wQ,AN s6,AN hljb,hgc,hgd,WA,D2,A5 hc];exact(sA (neAB (neL hc))).symm
def p89(l:List Int)(s:Int)(hl:Aq l):Av prog 89 [Aj l,eI s] (.bool (l.contains s)):=by
 refine .mk ⟨AV 0 l,zt,zt⟩ zt (c89.a (AI AH.wD (AJ ?_)));have wm:l.length<1000000000:=hl;simp only[eE,eN,seval,c89];refine AQ (λi:Nat=>⟨[(0,true,Aj l),(1,true,eI s),(5,true,.int .i64 i)],Ak,0⟩) (λi=>i<=l.length/\∀(j:Nat) q,j<i->l[j]?=some q->q≠s) (λi=>l.length-i) 0 rfl ⟨sk _,λj q h=>zo⟩ ?_;rintro i ⟨hi,l5⟩;by_cases e9:i<l.length
 ·have e:=AK (k:=i) zo;have hg:=rz e9;have hm:=sC e9;generalize l[i]=q at hg hm;by_cases hq:q=s
  ·rw[show l.contains s=true from t9.2 (hq▸hm)];simp only[eZ,seval,eY,AN e9,hg,r9 hq]
  simp only[eZ,seval,eY,AN e9,hg,sb hq,e];refine .mk (i+1) rfl ⟨e9,λj y hj hy=>?_⟩ zo;by_cases w:j<i
  ·exact l5 j y w hy
  ·obtain rfl:j=i:=zo
   rw[hg]at hy;cases hy;exact hq
 obtain rfl:i=l.length:=zo
 have:l.contains s=false:=by
  rw[uF];intro hc;obtain⟨j,hj,hjs⟩:=sV.1 (t9.1 hc);exact l5 j _ hj (rz hj) hjs
 rw[this];simp only[eZ,seval,ry,Ag e9]
structure IPs(l cells:List Int)(v:VPl):Prop where
 hj:v.j<=l.length
 fr:AO v.H v.n
 tok:C8 1 0 v.H v.tk
 es:v.tk.esz=1\/(l.take v.j).map (BG cells)=[]
def p135(l cells:List Int)(hl:Aq l)(hc:∀c∈l,0<=c/\c<(cells.length:Int)):Av prog 135 [Aj l,Aj cells] (Aj (l.map (BG cells))):=by
 refine .mk ⟨AV 0 l,AV 0 cells,zt⟩ (AV 0 _) (c135.a (AI AH.wD (AJ ?_)));have wm:l.length<1000000000:=hl;simp only[eE,eN,seval,c135];refine AQ (λv:VPl=>⟨[(0,true,Aj l),(1,true,Aj cells),(5,true,.sl v.tk (((l.take v.j).map (BG cells)).map eI)),(6,true,.int .i64 v.j)],v.H,v.n⟩) (IPs l cells) (λv=>l.length-v.j) ⟨0,.exact 1,Ak,0⟩ rfl ⟨sk _,AO.nil,.inr (.inl rfl),.inl rfl⟩ ?_;rintro⟨j,tk,H,n⟩ ⟨hj,hf,l7,s7⟩;simp only at hj hf l7 s7;by_cases s6:j<l.length;case neg=>
  obtain rfl:j=l.length:=zo
  rw[sD]at s7;simp only[eZ,seval,ry,Ag s6];rw[sD];exact Wk.sl (s7.imp id λq=>by rw[q];rfl)
 have hg:=rz s6;have e:=AK (k:=j) zo;have hci:=hc _ (sC s6);have yB:l.take (j+1)=l.take j++[l[j]]:=by rw[sG,hg];rfl
 generalize l[j]=y at hg hci yB;have hgx:=BY hci.1 hci.2;have hX:((l.take j).map (BG cells)).length<=j:=by simp;omega
 have q1:BB H 1 tk=True:=r9 l7.app;have q2:(((l.take j).map (BG cells)).length<=35184372088831)=True:=r9 zo;have q3:Al (((l.take j).map (BG cells)).length+1) 8=True:=r9 (Ae zo zd);generalize hXd:(l.take j).map (BG cells)=X at hX q2 q3 s7;simp only[eZ,seval,eY,AN s6,hg,r9 hci.1,r9 hci.2,hgx,q1,q2,q3,Bq hf,e];refine .mk ⟨j+1,.own (n+9) 1,wB (AU H tk) (n+9) .tok,n+11⟩ ?_ ⟨s6,(Ab l7 hf).wB (m:=n+11) zo zo,.inr (.inr ⟨n+9,rfl,sk _,AC ..⟩),.inl rfl⟩ zp;simp only[yB,su,sS,t6,hXd]
def p136(k:zx)(s:Int)(h:De k s):Av prog 136 [BA k,eI s] (eI (BG (AP k) s)):=by
 refine .mk ⟨Am 0 k,zt,zt⟩ zt (c136.a (AI AH.wD (AJ ?_)));have e9:s.toNat<k.d.wE.length:=by have:=h.1;have:=h.2;omega
 have hg:=rz e9;rw[Ju hg];generalize k.d.wE[s.toNat]=y at hg;simp only[eE,eN,seval,eY,c136,AG,AE,AL,r9 h.1,r9 h.2,hg]
def Jy(k:zx):List Fs->AB->Prop×Fs:=λa _=>match a with
 |[K,.int .i64 s]=>(CQ.ok K/\CQ.dec K=k/\De k s,eI (BG (AP k) s))
 |_=>(False,.wJ [])
def aD(k:zx):∀args H n,(Jy k args H).1->Ao prog 136 args H n (Jy k args H).2:=by
 intro args H n hh;unfold Jy at hh⊢;split at hh
 ·obtain⟨h1,h2,h3⟩:=hh;have w1:=CQ.wk _ h1;rw[h2]at w1;refine AX.args ((p136 k _ h3).quiet H n) ?_;rintro g vs ⟨v,r,rfl,k1,k2⟩;exact⟨v,_,rfl,w1 _ _ k1,k2⟩
 ·exact hh.elim
def Tva(k:zx):Bg:=AF 136 (Jy k) wD
def nM(k:zx):AH prog (Tva k):=AH.wD.add (aD k)
def SE{k:zx}(hv:∀y∈k.d.wE,0<=y.v/\y.v<=99){s:Int}(h:De k s):0<=BG (AP k) s/\BG (AP k) s<=99:=by
 have e9:s.toNat<k.d.wE.length:=by have:=h.1;have:=h.2;omega
 rw[Ju (rz e9)];exact hv _ (sC e9)
def p137(k:zx)(s t:Int)(hv:∀y∈k.d.wE,0<=y.v/\y.v<=99)(hs:De k s)(ht:De k t):Av prog 137 [BA k,eI s,eI t] (eI (M4 (AP k) s t)):=by
 have u1:CQ.ok (.agg (AG k))=True:=Ce k;have u2:CQ.dec (.agg (AG k))=k:=Bx k;simp only[AG,AE,AL,sJ,sI]at u1 u2;refine .mk ⟨Am 0 k,zt,zt,zt⟩ zt (c137.a (AI (nM k) (AJ ?_)));have r1:=SE hv hs;have r2:=SE hv ht;unfold M4;generalize hx:BG (AP k) s=x at r1;generalize hy:BG (AP k) t=y at r2;have w1:IntKind.wrap .i64 (x-y)=x-y:=A4 zo zo;have w2:IntKind.wrap .i64 (y-x)=y-x:=A4 zo zo;simp only[eE,eN,seval,c137,AG,AE,AL,Tva,Jy,u1,u2,r9 hs,r9 ht,hx,hy,w1,w2,AF]
 done
section
def PW(k:zx):List Fs->AB->Prop×Fs:=λa _=>match a with
 |[K,.int .i64 s,.int .i64 t]=>(CQ.ok K/\CQ.dec K=k/\De k s/\De k t,eI (M4 (AP k) s t))
 |_=>(False,.wJ [])
def nN{k:zx}(hv:∀y∈k.d.wE,0<=y.v/\y.v<=99):∀args H n,(PW k args H).1->Ao prog 137 args H n (PW k args H).2:=by
 intro args H n hh;unfold PW at hh⊢;split at hh
 ·obtain⟨h1,h2,h3,h4⟩:=hh;have w1:=CQ.wk _ h1;rw[h2]at w1;refine AX.args ((p137 k _ _ hv h3 h4).quiet H n) ?_;rintro g vs ⟨v,r,rfl,k1,k2⟩;exact⟨v,_,rfl,w1 _ _ k1,k2⟩
 ·exact hh.elim
def rowSm:List Fs->AB->Prop×Fs:=s2 A3 A3 (λl cells=>Aq l/\∀c∈l,0<=c/\c<(cells.length:Int)) λl cells=>Aj (l.map (BG cells))
def SF:List Fs->AB->Prop×Fs:=s2 A3 dI (λl _=>Aq l) λl s=>.bool (l.contains s)
def aE(k:zx):Bg:=AF 135 rowSm (AF 89 SF (AF 136 (Jy k) (AF 137 (PW k) wD)))
def fK{k:zx}(hv:∀y∈k.d.wE,0<=y.v/\y.v<=99):AH prog (aE k):=(((AH.wD.add (nN hv)).add (aD k)).add (q2 λl s h=>p89 l s h)).add (q2 λl c h=>p135 l c h.1 h.2)
theorem UC(k:zx)(a:List Fs)(H:AB):aE k 135 a H=s2 A3 A3 (λl cells=>Aq l/\∀c∈l,0<=c/\c<(cells.length:Int)) (λl cells=>Aj (l.map (BG cells))) a H:=rfl
theorem UD(k:zx)(a:List Fs)(H:AB):aE k 89 a H=s2 A3 dI (λl _=>Aq l) (λl s=>.bool (l.contains s)) a H:=rfl
theorem aF(k:zx)(a:List Fs)(H:AB):aE k 136 a H=Jy k a H:=rfl
theorem nO(k:zx)(a:List Fs)(H:AB):aE k 137 a H=PW k a H:=rfl
variable {l:List Int} {i:Nat}
theorem UE{bad:Int->Int->Bool}(h:i<l.length):BX bad (l.drop i)=(((l.drop (i+1)).any λb=>decide (0<=l[i])&&decide (0<=b)&&bad l[i] b)||BX bad (l.drop (i+1))):=by
 rw[sO h,BX]
theorem nP{vals:List Int}{k a b:Int}(h1:k≠1)(h4:k≠4):Kn vals k a b=false:=by unfold Kn;simp [h1,h4]
theorem aG{ls:List Int}{s:Int}(h:l[i]?=some s):Fa ls (l.take (i+1))=Fa ls (l.take i)+if(decide (0<=s)&&ls.contains s)=true then 1 else 0:=by
 rw[sG,h];exact Vq ..
theorem aH{ls:List Int}{s:Int}(h:l[i]?=some s):IB ls (l.take (i+1))=IB ls (l.take i)+if(decide (0<=s)&& !ls.contains s)=true then 1 else 0:=by
 rw[sG,h];exact Vr ..
abbrev Hcq(k:zx)(q:Cnd):AB:=wB (wB Ak 0 (.box (AG k))) 1 (.box (T6 q))
abbrev eCq(wA l:List Int)(all:Bool)(ow ot:Nat)(rest:List (Nat×Bool×Fs)):List (Nat×Bool×Fs):=[(2,true,Aj wA),(4,true,.ptr 0 0),(5,true,.ptr 1 0),(9,true,Aj l),(10,true,.bool all),(11,true,.int .i64 ow),(12,true,.int .i64 ot)]++rest
set_option maxHeartbeats 1000000 in
theorem p90R(k:zx)(q:Cnd)(wA cells:List Int)(h:ClOK k q wA cells)(hge:∀s∈cells,-1<=s)(h3:q.k=3->q.cs.length=2):
  Av prog 90 [BA k,GQ q,Aj wA,Aj cells] (.bool (Ko (AP k) q.k q.n (q.ls.map (BG wA)) (q.cs.map (BG cells)))):=by
 have u1:CQ.ok (.agg (AG k))=True:=Ce k;have u2:CQ.dec (.agg (AG k))=k:=Bx k;simp only[AG,AE,AL,sJ,sI]at u1 u2;refine .mk ⟨Am 0 k,FF 0 q,AV 0 _,AV 0 _,zt⟩ zt (c90.a (AI (fK h.vl) (AJ ?_)));have xl:q.cs.length<1000000000:=h.cs;have f1:(Aq q.cs/\∀c∈q.cs,0<=c/\c<(cells.length:Int))=True:=r9 ⟨h.cs,h.ci⟩;have f2:(Aq q.ls/\∀c∈q.ls,0<=c/\c<(wA.length:Int))=True:=r9 ⟨h.ls,h.li⟩;have f3:Aq (q.cs.map (BG cells))=True:=r9 (by show(q.cs.map (BG cells)).length<_;rw[ry];exact xl);have f4:Aq (q.ls.map (BG wA))=True:=r9 (by show(q.ls.map (BG wA)).length<_;rw[ry];exact h.ls);have s9:∀s∈q.cs.map (BG cells),0<=s->De k s:=λs hs h0=>by
  obtain⟨c,hc,rfl⟩:=tn.1 hs;have:=h.ci c hc;exact h.sy _ (sZ (BY this.1 this.2)) h0
 have hml:∀s∈q.cs.map (BG cells),-1<=s:=λs hs=>by
  obtain⟨c,hc,rfl⟩:=tn.1 hs;have:=h.ci c hc;exact hge _ (sZ (BY this.1 this.2))
 have ww:(q.cs.map (BG cells)).length=q.cs.length:=ry ..;have hk:=h.kind;have hn:=h.n;simp only[eE,eN,seval,c90,UC,UD,s2,Ah,Ad,Ay,An,f1,f3];generalize q.cs.map (BG cells)=l at f3 s9 hml ww;generalize xu:q.ls.map (BG wA)=ls at f4;have wm:l.length<1000000000:=zo
 obtain⟨bad,am⟩:∃bad,Kn (AP k) q.k=bad:=⟨_,rfl⟩;refine AQ (λi:Nat=>⟨eCq wA l (!l.contains (-1)) (Fa ls (l.take i)) (IB ls (l.take i)) [(13,true,.int .i64 i)],Hcq k q,3⟩) (λi=>i<=l.length/\BX bad l=BX bad (l.drop i)) (λi=>l.length-i) 0 rfl ⟨sk _,rfl⟩ ?_;rintro i ⟨hi,hp⟩;by_cases e9:i<l.length;case neg=>
  obtain rfl:i=l.length:=zo
  rw[t5,BX]at hp;rw[sD];unfold Ko;rw[am,hp,ub];unfold mF;have lo:=T0 ls l;by_cases k2:q.k=2
  ·rw[sn k2];cases hc:l.contains (-1)with
   |true=>simp only[eZ,seval,sa,ry,Ag e9,r9 k2,sa]
   |false=>
    simp only[eZ,seval,se,ry,Ag e9,r9 k2,se];exact decide_eq_decide.2 zo
  rw[sg k2];by_cases k3:q.k=3
  ·rw[sn k3];cases hc:l.contains (-1)with
   |true=>simp only[eZ,seval,sa,eY,Ag e9,sb k2,r9 k3,sa]
   |false=>
    have hge':∀s∈l,De k s:=λs hs=>s9 s hs (by
     have hnc:¬(-1:Int)∈l:=λq=>by rw[t9.2 q]at hc;cases hc
     have hm1:=hml s hs;by_cases e:s= -1
     ·subst e;exact absurd hs hnc
     ·omega)
    have hl2:l.length=2:=by have:=h3 k3;omega
    obtain⟨a,hg0⟩:∃a,l[0]?=some a:=⟨_,rz zo⟩;obtain⟨b,hg1⟩:∃b,l[1]?=some b:=⟨_,rz zo⟩;have ha:=hge' a (sZ hg0);have hb:=hge' b (sZ hg1);have i0:((0:Int)<(l.length:Int))=True:=r9 zo;have i1:((1:Int)<(l.length:Int))=True:=r9 zo;have j0:(0<l.length)=True:=r9 zo;have j1:(1<l.length)=True:=r9 zo;rw[hg0,hg1,sw,sw,se,tS];simp only[eZ,seval,eY,Ag e9,sb k2,r9 k3,i0,i1,hg0,hg1,AG,AE,AL,nO,PW,u1,u2,r9 ha,r9 hb]
  rw[sg k3];by_cases k6:q.k=6
  ·rw[sn k6];have w:=A4 (x:=(l.length:Int)-q.n) zo zo;by_cases c1':q.n<(Fa ls l:Int)
   ·rw[sK c1',vK];simp only[eZ,seval,sa,ry,Ag e9,sb k2,sb k3,r9 k6,r9 c1']
   ·rw[sA c1',ub];simp only[eZ,seval,ry,Ag e9,sb k2,sb k3,r9 k6,sb c1',w]
  ·rw[sg k6];simp only[eZ,seval,ry,Ag e9,sb k2,sb k3,sb k6]
 have hg:=rz e9;have hd:=UE (bad:=bad) e9;have hsy:=s9 _ (sC e9);generalize l[i]=a at hg hd hsy;have ho1:=aG (ls:=ls) hg;have ho2:=aH (ls:=ls) hg;have e0:=AK (k:=i) zo;have lo1:=T0 ls (l.take i);have lo2:=Za ls (l.take i);rw[sU]at lo1 lo2;have eo1:=AK (k:=Fa ls (l.take i)) zo;have eo2:=AK (k:=IB ls (l.take i)) zo;obtain⟨P,hP⟩:∃P:Int->Bool,(λb=>decide (0<=a)&&decide (0<=b)&&bad a b)=P:=⟨_,rfl⟩;have hPb:∀b,P b=(decide (0<=a)&&decide (0<=b)&&bad a b):=λb=>by rw[<-hP]
 rw[hP]at hd;simp only[eZ,seval,ry,AN e9,e0];refine AQ (λj:Nat=>⟨eCq wA l (!l.contains (-1)) (Fa ls (l.take i)) (IB ls (l.take i)) [(13,true,.int .i64 i),(14,true,.int .i64 j)],Hcq k q,3⟩) (λj=>i+1<=j/\j<=l.length/\((l.drop (i+1)).any P)=((l.drop j).any P)) (λj=>l.length-j) (i+1) rfl ⟨sj _,e9,rfl⟩ ?_;rintro j ⟨hj1,hj2,hany⟩;by_cases s6:j<l.length;case neg=>
  obtain rfl:j=l.length:=zo
  rw[t5,List.any_nil]at hany;rw[hany,ub]at hd;have fin:i+1<=l.length/\BX bad l=BX bad (l.drop (i+1)):=⟨e9,hp.trans hd⟩;by_cases h0:0<=a
  ·rw[sK h0,tS]at ho1 ho2;cases hc:ls.contains a with
   |true=>
    simp only[hc,sa,tD,sY,sN,um]at ho1 ho2;simp only[eZ,seval,eY,Ag s6,hg,AN e9,r9 h0,UC,UD,s2,Ah,Ad,Ay,An,f2,f4,xu,hc,e0,eo1];exact .mk (i+1) (by simp only[ho1,ho2]) fin zo
   |false=>
    simp only[hc,se,tD,sY,sN,um]at ho1 ho2;simp only[eZ,seval,eY,Ag s6,hg,AN e9,r9 h0,UC,UD,s2,Ah,Ad,Ay,An,f2,f4,xu,hc,e0,eo2];exact .mk (i+1) (by simp only[ho1,ho2]) fin zo
  ·simp only[sA h0,uk,sY,sN,um]at ho1 ho2;simp only[eZ,seval,eY,Ag s6,hg,AN e9,sb h0,e0];exact .mk (i+1) (by simp only[ho1,ho2]) fin zo
 have yT:=rz s6;have hdj:=sO s6;have hsj:=s9 _ (sC s6);generalize l[j]=b at yT hdj hsj;rw[hdj,vS]at hany;have ej:=AK (k:=j) zo;have fin:P b=false->(i+1<=j+1/\j+1<=l.length/\((l.drop (i+1)).any P)=((l.drop (j+1)).any P)):=λhf=>by
  rw[hf,ub]at hany;exact⟨zo,s6,hany⟩
 have res:P b=true->Ko (AP k) q.k q.n ls l=true:=λhf=>by
  rw[hf,vK]at hany;unfold Ko;rw[am,hp,hd,hany,vK,vK]
 by_cases h0a:0<=a;case neg=>
  have hf:=fin (by rw[hPb,sA h0a];rfl);by_cases k1:q.k=1
  ·simp only[eZ,seval,eY,AN s6,yT,AN e9,hg,sb h0a,r9 k1,show(q.k=4)=False from sb zo,ej];exact .mk (j+1) rfl hf zo
  by_cases k4:q.k=4
  ·simp only[eZ,seval,eY,AN s6,yT,AN e9,hg,sb h0a,sb k1,r9 k4,ej];exact .mk (j+1) rfl hf zo
  ·simp only[eZ,seval,eY,AN s6,yT,AN e9,hg,sb h0a,sb k1,sb k4,ej];exact .mk (j+1) rfl hf zo
 by_cases h0b:0<=b;case neg=>
  have hf:=fin (by rw[hPb,sA h0b,vh];rfl);by_cases k1:q.k=1
  ·simp only[eZ,seval,eY,AN s6,yT,AN e9,hg,r9 h0a,sb h0b,r9 k1,show(q.k=4)=False from sb zo,ej];exact .mk (j+1) rfl hf zo
  by_cases k4:q.k=4
  ·simp only[eZ,seval,eY,AN s6,yT,AN e9,hg,r9 h0a,sb h0b,sb k1,r9 k4,ej];exact .mk (j+1) rfl hf zo
  ·simp only[eZ,seval,eY,AN s6,yT,AN e9,hg,r9 h0a,sb h0b,sb k1,sb k4,ej];exact .mk (j+1) rfl hf zo
 have oa:=hsy h0a;have ob:=hsj h0b;by_cases k1:q.k=1
 ·by_cases xd:a=b
  ·rw[res (by rw[hPb,sK h0a,sK h0b,<-am];unfold Kn;simp [k1,xd])];simp only[eZ,seval,eY,AN s6,yT,AN e9,hg,r9 h0a,r9 h0b,r9 k1,r9 xd]
  ·have hf:=fin (by rw[hPb,<-am];unfold Kn;simp [k1,xd]);simp only[eZ,seval,eY,AN s6,yT,AN e9,hg,r9 h0a,r9 h0b,r9 k1,sb xd,show(q.k=4)=False from sb zo,ej];exact .mk (j+1) rfl hf zo
 by_cases k4:q.k=4
 ·by_cases xd:BG (AP k) b<=BG (AP k) a
  ·rw[res (by rw[hPb,sK h0a,sK h0b,<-am];unfold Kn;simp [k4,xd])];simp only[eZ,seval,eY,AN s6,yT,AN e9,hg,r9 h0a,r9 h0b,sb k1,r9 k4,AG,AE,AL,aF,Jy,u1,u2,r9 oa,r9 ob,r9 xd]
  ·have hf:=fin (by rw[hPb,<-am];unfold Kn;simp [k4,xd]);simp only[eZ,seval,eY,AN s6,yT,AN e9,hg,r9 h0a,r9 h0b,sb k1,r9 k4,AG,AE,AL,aF,Jy,u1,u2,r9 oa,r9 ob,sb xd,ej];exact .mk (j+1) rfl hf zo
 ·have hf:=fin (by rw[hPb,<-am,nP k1 k4,vh]);simp only[eZ,seval,eY,AN s6,yT,AN e9,hg,r9 h0a,r9 h0b,sb k1,sb k4,ej];exact .mk (j+1) rfl hf zo
theorem p90(k:zx)(q:Cnd)(wA cells:List Int)(h:ClOK k q wA cells)(hge:∀s∈cells,-1<=s)(h3:q.k=3->q.cs.length=2):
  Av prog 90 [BA k,GQ q,Aj wA,Aj cells] (.bool (FA (AP k) q wA cells)):=by
 refine(p90R k q wA cells h hge h3).all ?_;unfold FA;rw[XJ]
 ·intro s hs;obtain⟨c,hc,rfl⟩:=tn.1 hs;have:=h.ci c hc;exact hge _ (sZ (BY this.1 this.2))
 ·intro hk;rw[ry];exact h3 hk
end
def C8.low{e lo n:Nat}{H H':AB}{tk:v8}(h:C8 e lo H tk)(hf:AO H n)(hk:∀i,i<n->AD H' i=AD H i):C8 e lo H' tk:=by
 rcases h with rfl|rfl|⟨id,rfl,h1,h2⟩
 ·exact .inl rfl
 ·exact .inr (.inl rfl)
 ·exact .inr (.inr ⟨id,rfl,h1,(hk id (hf.lt h2)).trans h2⟩)
structure LsG(e:Nat)(Ls:List (List Int))(E:List Fs)(tk:v8)(H:AB)(n:Nat):Prop where
 fr:AO H n
 tok:C8 1 0 H tk
 es:tk.esz=1\/E=[]
 wk:zn E (Ls.map Aj)
def LsG.fin{e:Nat}{Ls:List (List Int)}{E:List Fs}{tk:v8}{H:AB}{n:Nat}(h:LsG e Ls E tk H n):Wk (.sl tk E) (Br Ls):=Wk.yY h.es h.wk
structure VLs where
 i:Nat
 E:List Fs
 tk:v8
 H:AB
 n:Nat
def js(m:Nat)(l:List Int):List (List Int):=(MN m l).map λs=>l++[s]
def dr(m:Nat)(l:List Int)(i:Nat):List (List Int):=(((CP m).take i).filter λs=>!l.contains s).map λs=>l++[s]
def fM(m:Nat)(l:List Int):dr m l m=js m l:=by
 unfold dr js MN;rw[tL (by unfold CP;simp)]
def chT_T{m i:Nat}{l:List Int}(h:i<m)(hc:l.contains (i:Int)=false):dr m l (i+1)=dr m l i++[l++[(i:Int)]]:=by
 unfold dr;rw[NJ h,uh,vk (by rw[hc];rfl),uV,su];rfl
def chT_F{m i:Nat}{l:List Int}(h:i<m)(hc:l.contains (i:Int)=true):dr m l (i+1)=dr m l i:=by
 unfold dr;rw[NJ h,uh,vj (by rw[hc];decide),uV,sR]
def fN(m:Nat):∀n,∀l∈Kb m n,l.length=n:=λn l hl=>by
 rw[<-Mr]at hl;exact(Hn hl).1
def WB(m n:Nat):List Fs->AB->Prop×Fs:=HN [.int .i64 m,.int .i64 n] (λ_=>True) (Br (Kb m n))
theorem p51(m:Nat)(hm:m<=16):∀n:Nat,n<=3->Av prog 51 [.int .i64 (m:Int),.int .i64 (n:Int)] (Br (Kb m n))
 |0,_=>by
  refine .mk ⟨zt,zt,zt⟩ ⟨zt,BW (λl=>AV 0 l) _⟩ (c51.a (AI AH.wD (AJ ?_)));simp only[eZ,seval,c0,c51];exact Wk.yY (.inl rfl) (.cons (Wk.sl (.inr rfl)) .nil)
 |n+1,hn=>by
  have ih:=p51 m hm n zo;have hT:AH prog (AF 51 (WB m n) (AF 89 SF wD)):=(AH.wD.add (q2 λl s h=>p89 l s h)).add (NA λH k _=>ih.quiet H k);have t1:∀a H,AF 51 (WB m n) (AF 89 SF wD) 51 a H=HN [.int .i64 m,.int .i64 n] (λ_=>True) (Br (Kb m n)) a H:=λ_ _=>rfl
  have t2:∀a H,AF 51 (WB m n) (AF 89 SF wD) 89 a H=s2 A3 dI (λl _=>Aq l) (λl s=>.bool (l.contains s)) a H:=λ_ _=>rfl
  generalize AF 51 (WB m n) (AF 89 SF wD)=T at hT t1 t2;refine .mk ⟨zt,zt,zt⟩ ⟨zt,BW (λl=>AV 0 l) _⟩ (c51.a (AI hT (AJ ?_)));have hn0:(((n+1:Nat):Int)=0)=False:=sb zo;have hsub:IntKind.wrap .i64 (((n+1:Nat):Int)-1)=(n:Int):=by rw[A4 zo zo];omega
  simp only[eZ,seval,c51,hn0,hsub,t1,HN,uA];have hA:(Kb m n).length<=4096:=sX (NF m n) (sX (uW hm _) (sX (uS zd (show n<=3 by omega)) zd));have hR:Kb m (n+1)=(Kb m n).flatMap (js m):=rfl;have wm:=fN m n;rw[hR];generalize Kb m n=A at hA wm;refine AQ (λv:VLs=>⟨[(0,true,.int .i64 m),(5,true,.sl v.tk v.E),(6,true,Br A),(7,true,.int .i64 v.i)],v.H,v.n⟩) (λv=>v.i<=A.length/\v.E.length<=v.i*16/\LsG 0 ((A.take v.i).flatMap (js m)) v.E v.tk v.H v.n) (λv=>A.length-v.i) ⟨0,[],.exact 1,Ak,0⟩ rfl ⟨sk _,sk _,AO.nil,.inr (.inl rfl),.inl rfl,.nil⟩ ?_;rintro⟨i,E,tk,H,k⟩ ⟨hi,hel,hG⟩;simp only at hi hel hG;by_cases e9:i<A.length;case neg=>
   obtain rfl:i=A.length:=zo
   rw[sD]at hG;simp only[eZ,seval,ry,Ag e9];exact hG.fin
  have hg:=rz e9;have hlen:=wm _ (sC e9);have l7:(A.take (i+1)).flatMap (js m)=(A.take i).flatMap (js m)++js m A[i]:=by rw[sG,hg,vm];simp
  generalize A[i]=l at hg hlen l7;have e0:=AK (k:=i) zo;have hfl:Aq l:=by show l.length<_;omega
  simp only[eZ,seval,ry,AN e9];refine AQ (λv:VLs=>⟨[(0,true,.int .i64 m),(5,true,.sl v.tk v.E),(6,true,Br A),(7,true,.int .i64 i),(8,true,.int .i64 v.i)],v.H,v.n⟩) (λv=>v.i<=m/\v.E.length<=i*16+v.i/\LsG 0 ((A.take i).flatMap (js m)++dr m l v.i) v.E v.tk v.H v.n) (λv=>m-v.i) ⟨0,E,tk,H,k⟩ rfl ⟨sk _,hel,by
   rw[show dr m l 0=[]from rfl,sR];exact hG⟩ ?_
  clear hG hel;rintro⟨j,E,tk,H,k⟩ ⟨hj,hel,hG⟩;simp only at hj hel hG;by_cases s6:j<m;case neg=>
   obtain rfl:j=m:=zo
   rw[fM,<-l7]at hG;simp only[eZ,seval,Ag s6,e0];exact .mk ⟨i+1,E,tk,H,k⟩ rfl ⟨e9,zp,hG⟩ zp
  have ej:=AK (k:=j) zo;cases hc:l.contains (j:Int)with
  |true=>
   rw[<-chT_F s6 hc]at hG;simp only[eZ,seval,sa,eY,AN s6,AN e9,hg,t2,s2,Ah,Ad,Ay,An,r9 hfl,hc,sa,ej];exact .mk ⟨j+1,E,tk,H,k⟩ rfl ⟨s6,zp,hG⟩ zp
  |false=>
   obtain⟨hf,htok,s7,hwk⟩:=hG;have hiA:i*16<=4096*16:=tT _ zo;have kp:∀x,x<k->AD (wB (wB H (k+6) .dead) (k+9) .tok) x=AD H x:=λx hx=>by rw[AA _ _ _ _ zo,AA _ _ _ _ zo]
   have wn:AO (wB (wB H (k+6) .dead) (k+9) .tok) (k+11):=(hf.wB (m:=k+11) zo zo).wB (sj _) zo;have htok2:C8 1 0 (wB (wB H (k+6) .dead) (k+9) .tok) tk:=htok.low hf kp;have q1:BB (wB (wB H (k+6) .dead) (k+9) .tok) 1 tk=True:=r9 htok2.app;have q2:(E.length<=35184372088831)=True:=r9 zo;have q3:Al (E.length+1) 24=True:=r9 (Ae zo zd);have q4:(l.length<=35184372088832)=True:=r9 zo;have q5:(l.length<=35184372088831)=True:=r9 zo;have q6:Al (l.length+1) 8=True:=r9 (Ae zo zd);have q7:Al l.length 8=True:=r9 (Ae zo zd);simp only[eZ,seval,se,eY,AN s6,AN e9,hg,t2,s2,Ah,Ad,Ay,An,r9 hfl,hc,se,ej,Bq hf,AW,q1,q2,q3,q4,q5,q6,q7];refine .mk ⟨j+1,E++[.sl (.own (k+9) 1) (l.map eI++[eI j])],.own (k+11) 1,wB (AU (wB (wB H (k+6) .dead) (k+9) .tok) tk) (k+11) .tok,k+13⟩ rfl ⟨s6,by simp only[sH,sM,tI];omega,(Ab htok2 wn).wB (m:=k+13) zo zo,.inr (.inr ⟨k+11,rfl,sk _,AC ..⟩),.inl rfl,?_⟩ zp;simp only[];rw[chT_T s6 hc,<-te,su];refine hwk.app (.cons ?_ .nil);show Wk _ (.sl (.none 1) ((l++[(j:Int)]).map eI));rw[su];exact Wk.sl (.inl rfl)
def aI{cells:List Int}{n:Nat}{s:Int}{R:List Fs}(hn:n<cells.length):List.take cells.length ((cells.map eI++R).set n (eI s))=(cells.set n s).map eI:=by simp_all
def p56(cells:List Int)(c s:Int)(hc:0<=c/\c<(cells.length:Int))(hl:Aq cells):Av prog 56 [Aj cells,eI c,eI s] (Aj (cells.set c.toNat s)):=by
 refine .mk ⟨AV 0 _,zt,zt,zt⟩ (AV 0 _) (c56.a (AI AH.wD (AJ ?_)));have wm:cells.length<1000000000:=hl;have s8:cells.map eI≠[]:=λe=>by rw[List.map_eq_nil_iff]at e;rw[e]at hc;simp at hc;omega
 simp only[eE,eN,seval,eY,c56,DW];refine⟨Ae zo zd,zo,λq=>absurd q s8,λ_ cap xO=>?_⟩;obtain⟨n,rfl⟩:=ur hc.1;have hn:n<cells.length:=zo
 have z1:((n:Int)<(cells.length:Int))=True:=r9 hc.2;simp only[eZ,seval,eY,Fg,z1];refine⟨by rw[sH,ry];omega,⟨by rw[tz,sH,ry];omega,xO⟩,?_⟩;rw[aI hn];exact Wk.sl (.inl (by split<;>rfl))
def p55(p:Prm)(wA:List Int)(s:Int)(hl:Aq p.ls)(hi:∀c∈p.ls,0<=c/\c<(wA.length:Int)):Av prog 55 [F4 p,Aj wA,eI s] (.bool ((p.ls.map (BG wA)).contains s)):=by
 refine .mk ⟨Hq 0 p,AV 0 _,zt,zt⟩ zt (c55.a (AI AH.wD (AJ ?_)));have wm:p.ls.length<1000000000:=hl;simp only[eE,eN,seval,c55];refine AQ (λi:Nat=>⟨[(1,true,Aj wA),(2,true,eI s),(3,true,.ptr 0 0),(7,true,.int .i64 i)],wB Ak 0 (.box [.int .i64 p.c,Aj p.ls]),2⟩) (λi=>i<=p.ls.length/\∀(j:Nat) q,j<i->p.ls[j]?=some q->BG wA q≠s) (λi=>p.ls.length-i) 0 rfl ⟨sk _,λj q h=>zo⟩ ?_;rintro i ⟨z9,l5⟩;by_cases e9:i<p.ls.length
 ·have e:=AK (k:=i) zo;have hg:=rz e9;have hm:=sC e9;generalize p.ls[i]=q at hg hm;obtain⟨h1,h2⟩:=hi q hm;have hgx:=BY h1 h2;by_cases hq:BG wA q=s
  ·rw[show(p.ls.map (BG wA)).contains s=true from t9.2 (tn.2 ⟨q,hm,hq⟩)];simp only[eZ,seval,eY,AN e9,hg,r9 h1,r9 h2,hgx,r9 hq]
  simp only[eZ,seval,eY,AN e9,hg,r9 h1,r9 h2,hgx,sb hq,e];refine .mk (i+1) rfl ⟨e9,λj y hj hy=>?_⟩ zo;by_cases w:j<i
  ·exact l5 j y w hy
  ·obtain rfl:j=i:=zo
   rw[hg]at hy;cases hy;exact hq
 obtain rfl:i=p.ls.length:=zo
 have:(p.ls.map (BG wA)).contains s=false:=by
  rw[uF];intro hc;obtain⟨q,hq,hqs⟩:=tn.1 (t9.1 hc);obtain⟨j,hj,rfl⟩:=sV.1 hq;exact l5 j _ hj (rz hj) hqs
 rw[this];simp only[eZ,seval,ry,Ag e9]
def WC{α:Type}{l:List α}{p:α->Bool}{i:Nat}{x:α}(h:l[i]?=some x)(hp:p x=true)(hn:∀(j:Nat) y,j<i->l[j]?=some y->p y=false):Fc l p=(i:Int):=by
 obtain⟨hi,hx⟩:=t8.1 h;unfold Fc;rw[t7.2 ⟨hi,by rw[hx];exact hp,λj hj=>by
  rw[hn j _ hj (rz zo)];decide⟩]
def WD{α:Type}{l:List α}{p:α->Bool}(hn:∀(j:Nat) y,j<l.length->l[j]?=some y->p y=false):Fc l p= -1:=by
 unfold Fc;rw[ui.2 λx hx=>by
  obtain⟨j,hj,rfl⟩:=sV.1 hx;exact hn j _ hj (rz hj)]
def p54(x:zk)(c:Int)(hx:Aq x.ps):Av prog 54 [Cl x,eI c] (eI (Fc x.ps λp=>decide (p.c=c))):=by
 refine .mk ⟨BN 0 x,zt,zt⟩ zt (c54.a (AI AH.wD (AJ ?_)));have wm:x.ps.length<1000000000:=hx;simp only[eE,eN,seval,c54];refine AQ (λi:Nat=>⟨[(1,true,eI c),(2,true,.ptr 0 0),(5,true,.int .i64 i)],wB Ak 0 (.box (Aa x)),2⟩) (λi=>i<=x.ps.length/\∀(j:Nat) q,j<i->x.ps[j]?=some q->¬q.c=c) (λi=>x.ps.length-i) 0 rfl ⟨sk _,λj q h=>zo⟩ ?_;rintro i ⟨z9,l5⟩;by_cases e9:i<x.ps.length
 ·have e:=AK (k:=i) zo;have hg:=rz e9;generalize x.ps[i]=q at hg;by_cases hq:q.c=c
  ·rw[WC hg (sK hq) λj y hj hy=>sA (l5 j y hj hy)];simp only[eZ,seval,eY,Aa,AN e9,hg,r9 hq]
  simp only[eZ,seval,eY,Aa,AN e9,hg,sb hq,e];refine .mk (i+1) rfl ⟨e9,λj y hj hy=>?_⟩ zo;by_cases w:j<i
  ·exact l5 j y w hy
  ·obtain rfl:j=i:=zo
   rw[hg]at hy;cases hy;exact hq
 obtain rfl:i=x.ps.length:=zo
 rw[WD λj y hj hy=>sA (l5 j y hj hy)];simp only[eZ,seval,ry,Aa,Ag e9]
def p53(cells:List Int)(hl:Aq cells):Av prog 53 [Aj cells] (eI (Fc cells λs=>decide (s<0))):=by
 refine .mk ⟨AV 0 _,zt⟩ zt (c53.a (AI AH.wD (AJ ?_)));have wm:cells.length<1000000000:=hl;simp only[eE,eN,seval,c53];refine AQ (λi:Nat=>⟨[(0,true,Aj cells),(3,true,.int .i64 i)],Ak,0⟩) (λi=>i<=cells.length/\∀(j:Nat) q,j<i->cells[j]?=some q->¬q<0) (λi=>cells.length-i) 0 rfl ⟨sk _,λj q h=>zo⟩ ?_;rintro i ⟨z9,l5⟩;by_cases e9:i<cells.length
 ·have e:=AK (k:=i) zo;have hg:=rz e9;generalize cells[i]=q at hg;by_cases hq:q<0
  ·rw[WC hg (sK hq) λj y hj hy=>sA (l5 j y hj hy)];simp only[eZ,seval,eY,AN e9,hg,r9 hq]
  simp only[eZ,seval,eY,AN e9,hg,sb hq,e];refine .mk (i+1) rfl ⟨e9,λj y hj hy=>?_⟩ zo;by_cases w:j<i
  ·exact l5 j y w hy
  ·obtain rfl:j=i:=zo
   rw[hg]at hy;cases hy;exact hq
 obtain rfl:i=cells.length:=zo
 rw[WD λj y hj hy=>sA (l5 j y hj hy)];simp only[eZ,seval,ry,Ag e9]
structure KlOK(k:zx)(q:Cnd)(wA cells:List Int):Prop where
 cl:ClOK k q wA cells
 ge:∀s∈cells,-1<=s
 h3:q.k=3->q.cs.length=2
def NO(k:zx):List Fs->AB->Prop×Fs:=λa _=>match a with
 |[K,Q,a1,a2]=>(CQ.ok K/\CQ.dec K=k/\dQ.ok Q/\A3.ok a1/\A3.ok a2/\KlOK k (dQ.dec Q) (A3.dec a1) (A3.dec a2),.bool (FA (AP k) (dQ.dec Q) (A3.dec a1) (A3.dec a2)))
 |_=>(False,.wJ [])
def nQ(k:zx):∀args H n,(NO k args H).1->Ao prog 90 args H n (NO k args H).2:=by
 intro args H n hh;unfold NO at hh⊢;split at hh
 ·obtain⟨h1,h2,h3,h4,h5,h6⟩:=hh;have w1:=CQ.wk _ h1;rw[h2]at w1;refine AX.args ((p90 k _ _ _ h6.cl h6.ge h6.h3).quiet H n) ?_;rintro g vs ⟨v1,r1,rfl,k1,v2,r2,rfl,k2,v3,r3,rfl,k3,v4,r4,rfl,k4,k5⟩;exact⟨v1,_,rfl,w1 _ _ k1,v2,_,rfl,dQ.wk _ h3 _ _ k2,v3,_,rfl,A3.wk _ h4 _ _ k3,v4,_,rfl,A3.wk _ h5 _ _ k4,k5⟩
 ·exact hh.elim
def kl_ok{k:zx}{x:zk}{wA cells:List Int}(h:RdC k x wA)(hc:ClP k x cells){q:Cnd}(hq:q∈x.qs):KlOK k q wA cells:=by
 refine⟨jh h hc.cl hq,hc.ge,λh3=>?_⟩;rcases(RN (h.ox.qs q hq)).kind with⟨z,-⟩|⟨z,-⟩|⟨-,z,-⟩|⟨z,-⟩|⟨z,-⟩<;>first|exact z|omega
def jt:List Fs->AB->Prop×Fs:=s3 dM A3 dI (λp wA _=>Aq p.ls/\∀c∈p.ls,0<=c/\c<(wA.length:Int)) λp wA s=>.bool ((p.ls.map (BG wA)).contains s)
def Trc(k:zx):Bg:=AF 90 (NO k) (AF 55 jt wD)
def nR(k:zx):AH prog (Trc k):=(AH.wD.add (q3 λp l s h=>p55 p l s h.1 h.2)).add (nQ k)
theorem ju(k:zx)(a:List Fs)(H:AB):Trc k 90 a H=NO k a H:=rfl
theorem jv(k:zx)(a:List Fs)(H:AB):Trc k 55 a H=s3 dM A3 dI (λp wA _=>Aq p.ls/\∀c∈p.ls,0<=c/\c<(wA.length:Int)) (λp wA s=>.bool ((p.ls.map (BG wA)).contains s)) a H:=rfl
abbrev Hkx(k:zx)(x:zk):AB:=wB (wB Ak 0 (.box (AG k))) 1 (.box (Aa x))
def p52(k:zx)(x:zk)(wA cells:List Int)(h:PrC k x wA)(hc:ClP k x cells):Av prog 52 [BA k,Cl x,Aj wA,Aj cells] (eI (Dh (AP k) x wA cells)):=by
 have u1:CQ.ok (.agg (AG k))=True:=Ce k;have u2:CQ.dec (.agg (AG k))=k:=Bx k;simp only[AG,AE,AL,sJ,sI]at u1 u2;have hnq:x.qs.length<1000000000:=h.fx.qs;have hnp:x.ps.length<1000000000:=h.fx.ps;refine .mk ⟨Am 0 k,BN 0 x,AV 0 _,AV 0 _,zt⟩ zt (c52.a (AI (nR k) (AJ ?_)));simp only[eE,eN,seval,c52];refine AQ (λi:Nat=>⟨[(2,true,Aj wA),(3,true,Aj cells),(4,true,.ptr 0 0),(5,true,.ptr 1 0),(9,true,.int .i64 i)],Hkx k x,3⟩) (λi=>i<=x.qs.length/\∀j:Nat,j<i->Bj (AP k) x wA cells (j:Int)=false) (λi=>x.qs.length-i) 0 rfl ⟨sk _,λj h=>zo⟩ ?_;rintro i ⟨hi,v9⟩;by_cases e9:i<x.qs.length
 ·have hg:=rz e9;have hm:=sC e9;have e:=AK (k:=i) zo;generalize x.qs[i]=q at hg hm;have hkl:=kl_ok h.rd hc hm;have hcq:=T8 (vals:=AP k) (wA:=wA) (cells:=cells) hg;cases hb:FA (AP k) q wA cells with
  |true=>
   rw[hb]at hcq;rw[Jw v9 hcq];simp only[eZ,seval,eY,AN e9,hg,AG,AE,AL,Aa,ju,NO,u1,u2,MP,It,Ah,Ad,r9 hkl,hb]
  |false=>
   rw[hb]at hcq;simp only[eZ,seval,eY,AN e9,hg,AG,AE,AL,Aa,ju,NO,u1,u2,MP,It,Ah,Ad,r9 hkl,hb,e];refine .mk (i+1) rfl ⟨e9,λj hj=>?_⟩ zo;by_cases w:j<i
   ·exact v9 j w
   ·obtain rfl:j=i:=zo
    exact hcq
 obtain rfl:i=x.qs.length:=zo
 simp only[eZ,seval,ry,Ag e9,Aa];refine AQ (λi:Nat=>⟨[(2,true,Aj wA),(3,true,Aj cells),(5,true,.ptr 1 0),(10,true,.int .i64 i)],Hkx k x,3⟩) (λi=>i<=x.ps.length/\∀j:Nat,j<x.qs.length+i->Bj (AP k) x wA cells (j:Int)=false) (λi=>x.ps.length-i) 0 rfl ⟨sk _,v9⟩ ?_;clear v9;rintro i ⟨hi,v9⟩;by_cases hlp:i<x.ps.length;case neg=>
  obtain rfl:i=x.ps.length:=zo
  rw[SB v9];simp only[eZ,seval,ry,Ag hlp,Aa]
 have hg:=rz hlp;have hm:=sC hlp;have e:=AK (k:=i) zo;have e2:IntKind.wrap .i64 ((x.qs.length:Int)+(i:Int))=((x.qs.length+i:Nat):Int):=by rw[A4 zo zo];omega
 generalize x.ps[i]=p at hg hm;have hpc:=Kr h.ox hm;have hpr:=G1 h.rd p hm;have hcp:=T9 (vals:=AP k) (wA:=wA) (cells:=cells) hg;rw[<-hc.cl.len]at hpc;have hgx:=BY hpc.1 hpc.2;have next:Dl p wA cells=false->(i+1<=x.ps.length/\∀j:Nat,j<x.qs.length+(i+1)->Bj (AP k) x wA cells (j:Int)=false):=λhd=>by
  refine⟨hlp,λj hj=>?_⟩;by_cases w:j<x.qs.length+i
  ·exact v9 j w
  ·obtain rfl:j=x.qs.length+i:=zo
   rw[hcp,hd]
 by_cases h0:0<=BG cells p.c;case neg=>
  have hd:Dl p wA cells=false:=by unfold Dl;rw[sA h0];rfl
  simp only[eZ,seval,eY,AN hlp,hg,Aa,r9 hpc.1,r9 hpc.2,hgx,sb h0,e];exact .mk (i+1) rfl (next hd) zo
 cases hb:(p.ls.map (BG wA)).contains (BG cells p.c)with
 |true=>
  have hd:Dl p wA cells=false:=by unfold Dl;rw[hb];simp
  simp only[eZ,seval,sa,eY,AN hlp,hg,Aa,r9 hpc.1,r9 hpc.2,hgx,r9 h0,e,jv,s3,PO,Kv,Ah,Ad,Ay,An,r9 hpr,hb,sa];exact .mk (i+1) rfl (next hd) zo
 |false=>
  have hd:Dl p wA cells=true:=by unfold Dl;rw[hb,sK h0];rfl
  rw[hd]at hcp;rw[Jw v9 hcp];simp only[eZ,seval,se,eY,AN hlp,hg,Aa,r9 hpc.1,r9 hpc.2,hgx,r9 h0,e2,jv,s3,PO,Kv,Ah,Ad,Ay,An,r9 hpr,hb,se]
structure BgC(x:zk)(wA:List Int):Prop where
 fx:Aq x.cs
 c:0<=x.c/\x.c<(x.cs.length:Int)
 l:0<=x.l/\x.l<(wA.length:Int)
def PrC.bg{k:zx}{x:zk}{wA:List Int}(h:PrC k x wA):BgC x wA:=⟨h.fx.cs,h.ox.c,by rw[h.rd.ll];exact h.ox.l⟩
structure IBg(x:zk)(v:VPy):Prop where
 hi:v.i<=x.cs.length
 hn:2<=v.n
 fr:AO v.H v.n
 h0:AD v.H 0=some (.box (Aa x))
 tok:C8 1 1 v.H v.tk
 es:v.tk.esz=1\/v.i=0
def aJ:List Fs->AB->Prop×Fs:=s3 A3 dI dI (λl c _=>Aq l/\0<=c/\c<(l.length:Int)) λl c s=>Aj (l.set c.toNat s)
def Tbg:Bg:=AF 56 aJ wD
def aK(n:Nat)(v:Fs):List.replicate (n+1) v=List.replicate n v++[v]:=List.replicate_succ'
end Go.AM
