/-
  The program's Prove · The prover's search for a counterexample · The program's Counter · Libraries: a proof that is righ.
  Conditions: none beyond those of its parts.
-/
import Derived.Test.YtepckdbdfhpggaaGreatB14
import Derived.Test.YtepckdbdfhpggaaGreatB7
import Derived.Test.YtepckdbdfhpggaaGreatB12

set_option maxRecDepth 20000
set_option linter.all false
namespace Go.AM
open Go.Proofs Go.Lib
abbrev noPf:AVal:=.agg [.sl .nil []]
def Gt (vals:List Int) (x:Lma):AVal:=match LJ vals x with
 | .error e=>.tup [noPf,.int .i64 e]
 | .ok ts=>.tup [BY ts,.int .i64 0]
def B9 (k:Knd) (x:Lma):AVal:=if Ao k x≠0 then .tup [noPf,.int .i64 (Ao k x)]else Gt (AP k) x
def Tpr:Tab:=tadd 30 (s2 dKn dX (λk x=>FewD k.d/\FewL x) Ba) tnil
theorem Ub:AH Tryz.prog Tpr:=AH.tnil.add (q2 λk x h=>p30 k x h.1 h.2)
theorem Sn (a:List AVal) (H:AB):Tpr 30 a H=s2 dKn dX (λk x=>FewD k.d/\FewL x) Ba a H:=rfl
theorem JL {k:Knd} {x:Lma} (hk:FewD k.d) (hx:FewL x) (h:Ao k x=0):Al k=0/\OKL x:=by
 unfold Ao at h
 by_cases hc:Al k=0
 ·rw[Xc (by simpa using hc)]at h
  exact⟨hc,Ua h⟩
 ·rw[Xg hc]at h;exact absurd h hc
theorem N7 {f:Nat} (h:f<=4):Dz f<=70000:=by
 have:f=0\/f=1\/f=2\/f=3\/f=4:=by omega
 rcases this with rfl|rfl|rfl|rfl|rfl<;>simp [Dz]
theorem Pz (a b:List (List Cas)):BM (a++b)=BM a+BM b:=by unfold BM;simp
structure VPv where
 j:Nat
 ts:List (List Cas)
 H:AB
 n:Nat
structure IPv (k:Knd) (x:Lma) (A:List (List Int)) (F:List Int->Option (List Cas)) (v:VPv):Prop where
 hj:v.j<=A.length
 fr:AN v.H v.n
 hn:6<=v.n
 h0:hget v.H 0=some (.box (AE k))
 h1:hget v.H 1=some (.box (AT x))
 h2:∃tp E,hget v.H 2=some (.box [.sl tp E])/\(BM v.ts<=65536->Wks E (v.ts.map eCs))/\E.length=v.ts.length/\(tp.esz=1\/E=[])/\tkG 1 6 v.H tp
 h4:hget v.H 4=some (.box [.int .i64 (BM v.ts)])
 he:allT F A=(allT F (A.drop v.j)).map λt=>v.ts++t
 ln:v.ts.length=v.j
 le:BM v.ts<=v.j*70000
theorem p12 (k:Knd) (x:Lma) (hk:FewD k.d) (hx:FewL x):Pur Tryz.prog 12 [BF k,encL x] (B9 k x):=by
 have u1:dKn.ok (.agg (AE k))=True:=CX k
 have u2:dKn.dec (.agg (AE k))=k:=Bd k
 simp only[AE,AD,AK,Xl,Xo]at u1 u2
 have v1:dX.ok (.agg (AT x))=True:=GY x
 have v2:dX.dec (.agg (AT x))=x:=Dy x
 simp only[AT]at v1 v2
 refine .mk ⟨Ab 0 k,Ah 0 x,trivial⟩ ?_ (a12 (AF Ub (AG ?_)))
 ·unfold B9 Gt
  split
  ·exact⟨⟨⟨trivial,trivial⟩,trivial⟩,trivial,trivial⟩
  ·split
   ·exact⟨⟨⟨trivial,trivial⟩,trivial⟩,trivial,trivial⟩
   ·exact⟨A9 0 _,trivial,trivial⟩
 unfold B9
 by_cases hv:Ao k x=0
 case neg=>
  have hpv:Ba k x= .tup [.sl .nil [],.int .i64 (Ao k x)]:=by unfold Ba;rw[Xg hv]
  rw[Xg hv]
  simp only[eE,eC,eN,reduceCtorEq,Nat.reduceEqDiff,↓reduceIte,Nat.reduceAdd,Nat.reduceLT,Xe,X2,Bc,Xa,Xd,c12,AE,AD,AK,Sn,s2,u1,u2,v1,v2,X1 hk,X1 hx,hpv,X9 hv]
  exact Wk.refl _
 have hpv:Ba k x= .tup [.sl (.none 1) ((chs k.d.syms.length x.ls.length).map eIs),.int .i64 0]:=by unfold Ba;rw[Xc (by simpa using hv)]
 rw[Xc (by simpa using hv)]
 obtain⟨hck,hox⟩:=JL hk hx hv
 have hsy:=A7 hck
 have hvl:(AP k).length=k.d.syms.length:=by unfold AP;rw[X0]
 have hPr:∀l∈chs k.d.syms.length x.ls.length,PrC k x l:=λl hl=>⟨hck,hk,hx,hox,hl⟩
 have hAl:(chs k.d.syms.length x.ls.length).length<=4096:=by
  refine XT (JI _ _) (XT (ZJ hsy.2 _) (XT (ZE (by decide) (show x.ls.length<=3 from hox.ls.2.2.2)) (by decide)))
 obtain⟨F,hF⟩:∃F:List Int->Option (List Cas),(λletters=>B5 (AP k) x letters x.cs.length (begC x letters))=F:=⟨_,rfl⟩
 have hFs:∀l,F l=B5 (AP k) x l x.cs.length (begC x l):=λl=>by rw[<-hF]
 have htp:Fg (AP k) x=allT F (chs k.d.syms.length x.ls.length):=by unfold Fg;rw[hF,hvl]
 unfold Gt LJ
 rw[htp]
 simp only[eE,eC,eN,reduceCtorEq,Nat.reduceEqDiff,↓reduceIte,Nat.reduceAdd,Nat.reduceLT,X7,X2,X0,Xa,Xd,c12,AE,AD,AK,Sn,s2,u1,u2,v1,v2,X1 hk,X1 hx,hpv]
 generalize chs k.d.syms.length x.ls.length=A at hPr hAl
 have hx4:=hox.cs.2.2.2
 have hgm:=N7 hx4
 refine AU (λv:VPv=>⟨[(2,true,.ptr 0 0),(3,true,.ptr 1 0),(4,true,.ptr 2 0),(7,true,.ptr 4 0),(22,true,.sl (.none 1) (A.map eIs)),(23,true,.int .i64 A.length),(24,true,.int .i64 v.j)],v.H,v.n⟩) (IPv k x A F) (λv=>A.length-v.j)
  ⟨0,[],_,6⟩ rfl ⟨Xh _,?_,Xb _,rfl,rfl,⟨.nil,[],rfl,λ_=>.nil,rfl,.inr rfl,.inl rfl⟩,rfl,by simp,rfl,by simp [BM]⟩ ?_
 ·simp only[]
  repeat' (first|exact AN.nil.hset (m:=6) (Xh _) (by decide)|refine AN.hset ?_ (Xb _) (by decide))
 rintro⟨j,ts,H,n⟩ ⟨hj,hf,hn,h0,h1,⟨tp,E,h2,hE,hEl,hEz,htk⟩,h4,he,hln,hle⟩
 simp only at hj hf hn h0 h1 h2 hE hEl hEz htk h4 he hln hle
 have h0':=h0
 have h1':=h1
 simp only[AE,AD,AK,Xl,Xo]at h0
 simp only[AT]at h1
 by_cases hlt:j<A.length
 case neg=>
  obtain rfl:j=A.length:=by omega
  rw[Yt,allT,XU,Xu]at he
  rw[he]
  simp only[]
  by_cases hN:65536<BM ts
  ·have w1:((65536:Int)<(BM ts:Int))=True:=X1 (by omega)
   have w2:decide ((65536:Int)<(BM ts:Int))=true:=Xz (by omega)
   rw[Xg hN]
   simp only[eE,eC,eN,Nat.reduceEqDiff,↓reduceIte,Bc,lt_F hlt,h4,h2,w1]
   exact Wk.refl _
  ·have w1:((65536:Int)<(BM ts:Int))=False:=X9 (by omega)
   have w2:decide ((65536:Int)<(BM ts:Int))=false:=Xr (by omega)
   rw[Xc hN]
   simp only[eE,eC,eN,Nat.reduceEqDiff,↓reduceIte,Bc,lt_F hlt,h4,h2,w1]
   exact Wk.tup (.cons (Wk.agg (.cons (Wk.slx hEz (hE (by omega))) .nil)) (.cons (Wk.refl _) .nil))
 have e:=AL (k:=j) (by omega)
 have hg:=X5 hlt
 have hdr:=XM hlt
 have hpr:=hPr _ (Xk hlt)
 rw[hdr,allT]at he
 generalize A[j]=l at hg hpr he
 have y1:(n=0)=False:=X9 (by omega)
 have y2:(n=1)=False:=X9 (by omega)
 simp only[eE,eC,eN,Nat.reduceEqDiff,↓reduceIte,Nat.reduceAdd,Nat.reduceLeDiff,X2,X3,X4,X0,X6,lt_T hlt,hg,fr0 hf,h0,h1,y1,y2]
 generalize hH1:hset H n (AObj.box [.sl .nil []])=H1
 have hf1:AN H1 (n+1):=by rw[<-hH1];exact hf.hset (by omega) (by omega)
 have k1:∀i,i<n->hget H1 i=hget H i:=λi hi=>by rw[<-hH1,AA _ _ _ _ (by omega)]
 have hP1:NdP 4 n (BM ts) [] H1 .nil:=⟨(k1 4 (by omega)).trans h4,⟨[],by rw[<-hH1,AC],λ_=>.nil,.inr rfl⟩,.inl rfl,Xh _⟩
 have hjA:j*70000<=4096*70000:=YB _ (by omega)
 refine(Sm hpr (by omega) (by omega) hf1 hP1).mono ?_
 rintro o H2 n2 ⟨hf2,hn2,tl,htl,hk2,hres⟩
 rw[<-hFs]at hres
 have k2:∀i,i<n->i≠4->hget H2 i=hget H i:=λi hi hne=>(hk2 i (by omega) hne (by omega) (λe q=>by cases q)).trans (k1 i hi)
 have g2:=(k2 2 (by omega) (by decide)).trans h2
 cases hFl:F l with
 |none=>
  rw[hFl]at hres he
  obtain rfl:o= .ret (.bool false):=hres
  simp only[YE]at he
  rw[he]
  simp only[]
  simp only[eE,eC,eN,Nat.reduceEqDiff,↓reduceIte,Xe,Bc,retK,Xe,g2]
  exact Wk.refl _
 |some t=>
  rw[hFl]at hres he
  obtain⟨rfl,hP2⟩:=hres
  rw[Xo]at hP2
  obtain⟨hN2,⟨E2,hT2,hE2,hz2⟩,htk2,-⟩:=hP2
  have htp:tkG 1 6 H2 tp:=by
   rcases htk with rfl|rfl|⟨p,rfl,p1,p2⟩
   ·exact .inl rfl
   ·exact .inr (.inl rfl)
   ·exact .inr (.inr ⟨p,rfl,p1,(k2 p (hf.lt p2) (by omega)).trans p2⟩)
  have q1:Bj H2 1 tp=True:=X1 htp.app
  have q2:(E.length<=35184372088831)=True:=X1 (by omega)
  have q3:Ap (E.length+1) 24=True:=X1 (AX (by omega) (by decide))
  have kk2:hget (AV H2 tp) 2=hget H2 2:=Ad htp (.inl (by decide))
  have y3:(n2+4=2)=False:=X9 (by omega)
  simp only[eE,eC,eN,reduceCtorEq,Nat.reduceEqDiff,↓reduceIte,Nat.reduceLeDiff,Nat.reduceMul,Nat.reduceLT,Int.reduceEq,X7,retK,X7,g2,hT2,q1,q2,q3,kk2,y3,fr1 hf2,e]
  have hgl:=JK (vals:=AP k) (x:=x) (letters:=l) (by omega) x.cs.length _ t (by rw[<-hFs];exact hFl)
  have hnd:BM (ts++[t])=BM ts+t.length:=by rw[Pz];simp [BM]
  have hlow:∀i,i<2\/i=4->hget (hset (hset (AV H2 tp) (n2+4) .tok) 2 (.box [.sl (.own (n2+4) 1) (E++[.sl tl E2])])) i=hget H2 i:=λi hi=>by
   rw[AA _ _ _ _ (by omega),AA _ _ _ _ (by omega),Ad htp (.inl (by omega))]
  refine .mk ⟨j+1,ts++[t],hset (hset (AV H2 tp) (n2+4) .tok) 2 (.box [.sl (.own (n2+4) 1) (E++[.sl tl E2])]),n2+7⟩ rfl ⟨hlt,((Ag htp hf2).hset (m:=n2+7) (by omega) (by omega)).hset (m:=n2+7) (Xb _) (by omega),by simp only[];omega,?_,?_,⟨.own (n2+4) 1,_,AC ..,λhN=>?_,by simp only[Xm,Xn,Y7];omega,.inl rfl,.inr (.inr ⟨n2+4,rfl,by omega,?_⟩)⟩,?_,?_,by simp only[Xm,Xn,Y7];omega,?_⟩ (by simp only[];omega)
  ·rw[hlow 0 (by omega),k2 0 (by omega) (by decide)];exact h0'
  ·rw[hlow 1 (by omega),k2 1 (by omega) (by decide)];exact h1'
  ·simp only[hnd]at hN
   rw[Xj]
   exact(hE (by omega)).app (.cons (Wk.slx hz2 (hE2 (by omega))) .nil)
  ·rw[AA _ _ _ _ (by omega),AC]
  ·rw[hlow 4 (.inr rfl),hN2];simp only[hnd]
  ·simp only[]
   rw[he,Option.map_map]
   congr 1
   funext b
   simp
  ·simp only[hnd];rw[Yc];omega
end Go.AM
namespace Go.AM
open Go.Proofs Go.Lib
def Tyc (k:Knd) (x:Lma) (letters:List Int):Tab:=tadd 38 (Dt k x letters) (tadd 39 Hz tnil)
theorem Tyc_ok {k:Knd} {x:Lma} {letters:List Int} (h:PrC k x letters):AH Tryz.prog (Tyc k x letters):=(AH.tnil.add UN).add (Py h)
theorem Tyc_p (k:Knd) (x:Lma) (letters:List Int) (a:List AVal) (H:AB):Tyc k x letters 38 a H=Dt k x letters a H:=rfl
theorem Tyc_c (k:Knd) (x:Lma) (letters:List Int) (a:List AVal) (H:AB):Tyc k x letters 39 a H=Hz a H:=rfl
structure CxL (k:Knd) (x:Lma) (letters:List Int) (q10 q11 L l':Nat) (env:List (Nat×Bool×AVal)) (H:AB):Prop where
 h2:hget H 2=some (.box [.sl .nil []])
 h3:hget H 3=some (.box [.sl .nil []])
 h4:hget H 4=some (.box [.bool false])
 h10:hget H q10=some (.box [eIs letters])
 h11:hget H q11=some (.box (Ac k x letters))
 hL:hget H L=some (.lp ⟨l',.ready,none,46,env, #[34],HW,HX⟩)
def CxF (letters c:List Int) (L l':Nat) (env:List (Nat×Bool×AVal)) (H:AB):Prop:=
 hget H 2=some (.box [eIs letters])/\hget H 3=some (.box [eIs c])/\hget H 4=some (.box [.bool true])/\hget H L=some (.lp ⟨l',.done,some (.exit 0),46,env, #[34],HW,HX⟩)
abbrev eCx (q10 q11:Nat) (rest:List (Nat×Bool×AVal)):List (Nat×Bool×AVal):=[(2,true,.ptr 0 0),(3,true,.ptr 1 0),(4,true,.ptr 2 0),(5,true,.ptr 3 0),(6,true,.ptr 4 0),(7,true,.int .i64 0),(10,true,.ptr q10 0),(11,true,.ptr q11 0)]++rest
theorem y_cx {k:Knd} {x:Lma} {letters cells:List Int} (h:PrC k x letters) {q10 q11 L l' n id:Nat} {rest:List (Nat×Bool×AVal)} {H:AB} {R:Bool->AB->Nat->Prop} (hf:AN H n) (hl5:5<=L)
  (hX:CxL k x letters q10 q11 L l' (eCx q10 q11 rest) H) (hid:hget H id=some (.arr 1 (cells.map eI))) (hC:ClP k x cells)
  (hT:A8 (AP k) x letters cells=false->∀H' n',AN H' n'->n<=n'->(∀i,i<n->hget H' i=hget H i)->R true H' n')
  (hF:A8 (AP k) x letters cells=true->∀H' n',CxF letters cells L l' (eCx q10 q11 rest) H'->R false H' n'):
  BU Tryz.prog l' [.ref id 1 0 x.cs.length x.cs.length] H n R:=by
 obtain⟨h2,h3,h4,h10,h11,hL⟩:=hX
 have xL:=hf.lt hL
 have hRI:∀H',hget H' id=hget H id->RdI H' (.ref id 1 0 x.cs.length x.cs.length) cells:=λH' e=>.inr ⟨id,_,[],by rw[hC.cl.len],by rw[e,Xu];exact hid,by rw[hC.cl.len];exact Xb _⟩
 have hneL:∀i ob,hget H i=some ob->(∀z,ob≠ .lp z)->L≠i:=λi ob hi hn e=>by rw[<-e,hL]at hi;cases hi;exact hn _ rfl
 refine y14_0 hL rfl (AF AH.tnil (AG ?_))
 simp only[eE,eN,Nat.reduceEqDiff,↓reduceIte,RL,renv,YT,Za,Yy,Zj]
 refine⟨_,hL,rfl,AF (Tyc_ok h) (AG ?_)⟩
 generalize hH1:hset H L _=H1
 have k1:∀i,i≠L->hget H1 i=hget H i:=λi hi=>by rw[<-hH1,AA _ _ _ _ (Ne.symm hi)]
 have hf1:AN H1 n:=by rw[<-hH1];exact hf.hset (Xb _) xL
 have hL1:hget H1 L=some (.lp ⟨l',.busy,none,46,eCx q10 q11 rest, #[34],HW,HX⟩):=by rw[<-hH1,AC]
 have n11:=hneL _ _ h11 (λz e=>by cases e)
 have n10:=hneL _ _ h10 (λz e=>by cases e)
 have nid:=hneL _ _ hid (λz e=>by cases e)
 have a11:=(k1 q11 (Ne.symm n11)).trans h11
 have a10:=(k1 q10 (Ne.symm n10)).trans h10
 have aid:=hRI H1 (k1 id (Ne.symm nid))
 have r1:=Gp aid
 have a2:=(k1 2 (by omega)).trans h2
 have a3:=(k1 3 (by omega)).trans h3
 have a4:=(k1 4 (by omega)).trans h4
 simp only[Ac,AE,AD,AK,AT,Xl,Xo]at a11
 have eP1:(AVal.agg [.str k.d.nm,.int .i64 k.d.ver,.int .i64 k.d.sh,.int .i64 k.d.w,.int .i64 k.d.h,eIs k.d.holes,eSys k.d.syms,eRgs k.d.regs,eCls k.d.clus,eRus k.d.ruls,.int .i64 k.g.sh,.int .i64 k.g.w,.int .i64 k.g.h,eIs k.g.holes,eIs k.g.cells,eLl k.nb,eLLs k.ls,.str x.nm,.int .i64 x.lv,eSs x.cs,eSs x.ls,.sl (.none 4) (x.qs.map encQ),.sl (.none 2) (x.ps.map encM),.int .i64 x.c,.int .i64 x.l,eIs letters]=H8 k x letters)=True:=X1 rfl
 have hx4:=h.ox.cs.2.2.2
 have hfew:few cells:=by show cells.length<_;rw[hC.cl.len];omega
 cases hb:A8 (AP k) x letters cells with
 |false=>
  have hcn:∃c:Nat,FI (AP k) x letters cells=(c:Int):=by
   unfold FI
   cases hfc:DU (AP k) x letters cells with
   |none=>rw[Ei.1 hfc]at hb;cases hb
   |some c=>exact⟨c,rfl⟩
  obtain⟨c,hcn⟩:=hcn
  have w1:((c:Int)<0)=False:=X9 (by omega)
  have w2:decide ((c:Int)<0)=false:=Xr (by omega)
  simp only[eE,eC,eN,Nat.reduceEqDiff,↓reduceIte,Nat.reduceAdd,NU,a11,Tyc_p,Dt,eP1,r1,X1 aid,X1 hC,hcn,w1]
  refine⟨⟨l',.busy,none,46,eCx q10 q11 rest, #[34],HW,HX⟩,hL1,hT hb _ _ (hf1.hset (m:=n) (Xb _) xL) (Xb _) λi hi=>?_⟩
  rw[AI]
  split
  ·rename_i e;rw[<-e];exact hL.symm
  ·rename_i e;exact k1 i (Ne.symm e)
 |true=>
  have hcn:FI (AP k) x letters cells= -1:=by unfold FI;rw[Ei.2 hb]
  simp only[eE,eC,eN,reduceCtorEq,Nat.reduceEqDiff,↓reduceIte,Nat.reduceAdd,Int.reduceLT,NU,a11,a10,a2,a3,a4,Tyc_p,Tyc_c,Hz,Dt,eP1,r1,X1 aid,X1 hC,hcn,X1 hfew]
  refine⟨⟨l',.busy,none,46,eCx q10 q11 rest, #[34],HW,HX⟩,?_,hF hb _ _ ⟨?_,?_,?_,AC ..⟩⟩
  ·rw[AA _ _ _ _ (by omega),AA _ _ _ _ (by omega),AA _ _ _ _ (by omega)];exact hL1
  ·rw[AA _ _ _ _ (by omega),AA _ _ _ _ (by omega),AA _ _ _ _ (by omega),AC]
  ·rw[AA _ _ _ _ (by omega),AA _ _ _ _ (by omega),AC]
  ·rw[AA _ _ _ _ (by omega),AC]
structure ChC (k:Knd) (x:Lma) (letters:List Int) (d1 d2 d3 d4 id l':Nat) (H:AB):Prop where
 h1:hget H d1=some (.box [.ref id 1 0 x.cs.length x.cs.length])
 h2:hget H d2=some (.box [.fn (.yield l') [] []])
 h3:hget H d3=some (.box (Ac k x letters))
 h4:hget H d4=some (.box [.fn (.func 71) [] [.ptr d1 0,.ptr d2 0,.ptr d3 0,.ptr d4 0]])
theorem ChC.keep {k:Knd} {x:Lma} {letters:List Int} {d1 d2 d3 d4 id l' n:Nat} {H H':AB} (h:ChC k x letters d1 d2 d3 d4 id l' H) (hid:∃L,hget H id=some (.arr 1 L)) (hf:AN H n) (hk:CN id n H H'):ChC k x letters d1 d2 d3 d4 id l' H':=by
 obtain⟨L,hid⟩:=hid
 have key:∀c cs,hget H c=some (.box cs)->hget H' c=some (.box cs):=λc cs hc=>by
  rw[hk c (hf.lt hc) (λe=>by rw[e,hid]at hc;cases hc)];exact hc
 obtain⟨h1,h2,h3,h4⟩:=h
 exact⟨key _ _ h1,key _ _ h2,key _ _ h3,key _ _ h4⟩
theorem CxL.keep {k:Knd} {x:Lma} {letters:List Int} {q10 q11 L l' n id:Nat} {env:List (Nat×Bool×AVal)} {H H':AB} (h:CxL k x letters q10 q11 L l' env H) (hid:∃L,hget H id=some (.arr 1 L)) (hf:AN H n) (hk:CN id n H H'):CxL k x letters q10 q11 L l' env H':=by
 obtain⟨A,hid⟩:=hid
 have key:∀c ob,hget H c=some ob->(∀A,ob≠ .arr 1 A)->hget H' c=some ob:=λc ob hc hn=>by
  rw[hk c (hf.lt hc) (λe=>by rw[e,hid]at hc;cases hc;exact hn _ rfl)];exact hc
 obtain⟨h2,h3,h4,h10,h11,hL⟩:=h
 exact⟨key _ _ h2 (λA e=>by cases e),key _ _ h3 (λA e=>by cases e),key _ _ h4 (λA e=>by cases e),key _ _ h10 (λA e=>by cases e),key _ _ h11 (λA e=>by cases e),key _ _ hL (λA e=>by cases e)⟩
def agree (i:Nat) (a b:List Int):Prop:=a.length=b.length/\∀k,k<i->a[k]?=b[k]?
theorem P0 {m:Nat} {x:Lma} {letters:List Int}:∀(j i:Nat) (a b:List Int),i+j=a.length->agree i a b->asgP m x letters j i a=asgP m x letters j i b
 |0,i,a,b,hij,h=>by
  have:a=b:=Zb λk=>by
   by_cases q:k<i
   ·exact h.2 k q
   ·rw[Yk (by omega),Yk (by have:=h.1;omega)]
  rw[this]
 |j+1,i,a,b,hij,h=>by
  rw[asgP,asgP]
  congr 1
  funext s
  refine P0 j (i+1) _ _ (by rw[Ye];omega) ⟨by rw[Ye,Ye];exact h.1,λk hk=>?_⟩
  rw[Ya,Ya,h.1]
  split
  ·rfl
  ·exact h.2 k (by omega)
def ChP (k:Knd) (letters:List Int) (L l':Nat) (env:List (Nat×Bool×AVal)) (id n i:Nat) (H:AB) (cells:List Int) (r:Option (List Int)):AOut->AB->Nat->Prop:=λo H' n'=>match r with
 |none=>o= .ret (.bool true)/\AN H' n'/\n<=n'/\CN id n H H'/\∃cells',hget H' id=some (.arr 1 (cells'.map eI))/\agree i cells cells'/\∀s∈cells',okSy k s
 |some c=>o= .ret (.bool false)/\CxF letters c L l' env H'
def ChG (k:Knd) (x:Lma) (letters:List Int) (q10 q11 L l' d1 d2 d3 d4 id:Nat) (rest:List (Nat×Bool×AVal)) (j:Nat):Prop:=∀(i:Nat) (cells:List Int) (H:AB) (n:Nat),i+j=x.cs.length->cells.length=x.cs.length->(∀s∈cells,okSy k s)->AN H n->ChC k x letters d1 d2 d3 d4 id l' H->CxL k x letters q10 q11 L l' (eCx q10 q11 rest) H->hget H id=some (.arr 1 (cells.map eI))->
 AO Tryz.prog 71 [.int .i64 i,.ptr d1 0,.ptr d2 0,.ptr d3 0,.ptr d4 0] H n (ChP k letters L l' (eCx q10 q11 rest) id n i H cells ((asgP k.d.syms.length x letters j i cells).find? λc=>A8 (AP k) x letters c))
structure VCx where
 s:Nat
 c:List Int
 H:AB
 n:Nat
structure ICx (k:Knd) (id n0 i:Nat) (H0:AB) (cells:List Int) (r:Option (List Int)) (rest:Nat->Option (List Int)) (v:VCx):Prop where
 hs:v.s<=k.d.syms.length
 fr:AN v.H v.n
 hn:n0<=v.n
 kp:CN id n0 H0 v.H
 ar:hget v.H id=some (.arr 1 (v.c.map eI))
 ag:agree i cells v.c
 ok:∀s∈v.c,okSy k s
 he:r=rest v.s
theorem P1 {i:Nat} {a b:List Int} {s:Int} (h:agree i a b):agree (i+1) (a.set i s) (b.set i s):=⟨by rw[Ye,Ye];exact h.1,λk hk=>by
 rw[Ya,Ya,h.1]
 split
 ·rfl
 ·exact h.2 k (by omega)⟩
theorem KH {k:Knd} {x:Lma} {letters:List Int} (h:PrC k x letters) (q10 q11 L l' d1 d2 d3 d4 id:Nat) (rest:List (Nat×Bool×AVal)) (hl5:5<=L) (j:Nat) (ih:∀j',j=j'+1->ChG k x letters q10 q11 L l' d1 d2 d3 d4 id rest j'):ChG k x letters q10 q11 L l' d1 d2 d3 d4 id rest j:=by
 intro i cells H n hij hcl hok hf hG hX hid
 have hG0:=hG
 obtain⟨h1,h2,h3,h4⟩:=hG0
 have hC:∀c:List Int,c.length=x.cs.length->(∀s∈c,okSy k s)->ClP k x c:=λc e hc=>⟨⟨e,λs hs _=>hc s hs⟩,λs hs=>by have:=(hc s hs).1;omega⟩
 have h3':=h3
 simp only[Ac,AE,AD,AK,AT,Xl,Xo]at h3'
 refine a71 (AF AH.tnil (AG ?_))
 cases j with
 |zero=>
  have hi:((i:Int)=(x.cs.length:Int))=True:=X1 (by omega)
  have hd:decide ((i:Int)=(x.cs.length:Int))=true:=Xz (by omega)
  simp only[eE,eC,eN,reduceCtorEq,Nat.reduceEqDiff,↓reduceIte,Nat.reduceAdd,c71,h1,h2,hi]
  rw[asgP,List.find?_cons,List.find?_nil]
  refine y_cx h (rest:=rest) hf hl5 hX hid (hC _ hcl hok) (λhb H' n' a1 a2 a3=>?_) (λhb H' n' a1=>?_)
  ·simp only[eE,eN,↓reduceIte,yldK]
   rw[hb]
   exact⟨rfl,a1,a2,λz z1 _=>a3 z z1,cells,(a3 id (hf.lt hid)).trans hid,⟨rfl,λ_ _=>rfl⟩,hok⟩
  ·simp only[eE,eN,↓reduceIte,yldK]
   rw[hb]
   exact⟨rfl,a1⟩
 |succ j=>
 have ih:=ih j rfl
 have hi:((i:Int)=(x.cs.length:Int))=False:=X9 (by omega)
 have hsy:=A7 h.ck
 have il:i<x.cs.length:=by omega
 have hx4:=h.ox.cs.2.2.2
 have e1:=AL (k:=i) (by omega)
 have il3:((i:Int)<(x.cs.length:Int))=True:=X1 (by omega)
 obtain⟨G,hG'⟩:∃G:Int->List (List Int),(λs=>asgP k.d.syms.length x letters j (i+1) (cells.set i s))=G:=⟨_,rfl⟩
 obtain⟨p,hp⟩:∃p:Int->Bool,(λs=>decide ((i:Int)≠x.c)||decide (s=at0 letters x.l))=p:=⟨_,rfl⟩
 rw[asgP,hG',hp]
 have hGs:∀s,G s=asgP k.d.syms.length x letters j (i+1) (cells.set i s):=λs=>by rw[<-hG']
 have hps:∀s,p s=(decide ((i:Int)≠x.c)||decide (s=at0 letters x.l)):=λs=>by rw[<-hp]
 simp only[eE,eC,eN,reduceCtorEq,Nat.reduceEqDiff,↓reduceIte,Nat.reduceAdd,Nat.reduceLeDiff,X0,c71,h1,h3',hi]
 refine AU (λv:VCx=>⟨[(0,true,.int .i64 i),(1,true,.ptr d1 0),(3,true,.ptr d3 0),(4,true,.ptr d4 0),(19,true,.int .i64 k.d.syms.length),(20,true,.int .i64 v.s)],v.H,v.n⟩) (ICx k id n i H cells ((((symI k.d.syms.length).filter p).flatMap G).find? λc=>A8 (AP k) x letters c) (λs=>((((symI k.d.syms.length).drop s).filter p).flatMap G).find? λc=>A8 (AP k) x letters c)) (λv=>k.d.syms.length-v.s)
  ⟨0,cells,H,n⟩ rfl ⟨Xh _,hf,Xb _,CN.refl _,hid,⟨rfl,λ_ _=>rfl⟩,hok,rfl⟩ ?_
 rintro⟨s,c,H1,n1⟩ ⟨hs,hf1,hn1,hk1,har,hag,hok1,he⟩
 simp only at hs hf1 hn1 hk1 har hag hok1 he
 rw[he]
 by_cases hlt:s<k.d.syms.length
 case neg=>
  obtain rfl:s=k.d.syms.length:=by omega
  rw[YQ (by unfold symI;simp)]
  simp only[eE,eC,eN,reduceCtorEq,Nat.reduceEqDiff,↓reduceIte,lt_F hlt]
  exact⟨rfl,hf1,hn1,hk1,c,har,hag,hok1⟩
 have e:=AL (k:=s) (by omega)
 have hd:=Mq hlt
 have hG1:=hG.keep ⟨_,hid⟩ hf hk1
 have hX1:=hX.keep ⟨_,hid⟩ hf hk1
 obtain⟨g1,g2,g3,g4⟩:=hG1
 simp only[Ac,AE,AD,AK,AT,Xl,Xo]at g3
 have hxl:=h.ox.l
 rw[<-h.rd.ll]at hxl
 have hgl:=A5 hxl.1 hxl.2
 have w5:(0<=x.l)=True:=X1 hxl.1
 have w6:(x.l<(letters.length:Int))=True:=X1 hxl.2
 have hcl1:c.length=x.cs.length:=by rw[<-hag.1];exact hcl
 have il2:(i<c.length)=True:=X1 (by omega)
 have hps':=hps (s:Int)
 generalize at0 letters x.l=lt at hgl hps'
 by_cases hpv:p (s:Int)=true
 case neg=>
  have hpv':p (s:Int)=false:=by simpa using hpv
  rw[hd,List.filter_cons_of_neg hpv]
  rw[hpv']at hps'
  have hbo:=Z9.1 hps'.symm
  have hic:(i:Int)=x.c:=by simpa using hbo.1
  have hsl:¬(s:Int)=lt:=by simpa using hbo.2
  simp only[eE,eC,eN,reduceCtorEq,Nat.reduceEqDiff,↓reduceIte,Nat.reduceAdd,Nat.reduceLeDiff,Int.reduceEq,Xe,X2,X0,X6,lt_T hlt,g3,X1 hic,w5,w6,hgl,X9 hsl,Xe,e]
  exact .mk ⟨s+1,c,H1,n1⟩ rfl ⟨hlt,hf1,hn1,hk1,har,hag,hok1,rfl⟩ (by simp only[];omega)
 rw[hd,List.filter_cons_of_pos hpv,Zo,List.find?_append]
 have est:(c.map eI).set i (.int .i64 (s:Int))=(c.set i (s:Int)).map eI:=by
  rw[show(.int .i64 (s:Int):AVal)=eI (s:Int)from rfl,<-ZK]
 have y4:(id=d4)=False:=X9 λq=>by rw[q,g4]at har;cases har
 have hbr:¬(i:Int)=x.c\/(i:Int)=x.c/\(s:Int)=lt:=by
  rw[hpv]at hps'
  rcases Bool.or_eq_true_iff.1 hps'.symm with q|q
  ·exact .inl (by simpa using q)
  ·by_cases z:(i:Int)=x.c
   ·exact .inr ⟨z,by simpa using q⟩
   ·exact .inl z
 rcases hbr with hic|⟨hic,hsl⟩
 case' inl=>simp only[eE,eC,eN,reduceCtorEq,Nat.reduceEqDiff,↓reduceIte,Nat.reduceAdd,Nat.reduceLeDiff,Int.reduceEq,X2,X3,X4,X0,X6,lt_T hlt,g3,X9 hic,w5,w6,hgl,g1,har,il2,il3,est,g4,y4,e1]
 case' inr=>simp only[eE,eC,eN,reduceCtorEq,Nat.reduceEqDiff,↓reduceIte,Nat.reduceAdd,Nat.reduceLeDiff,Int.reduceEq,X7,X2,X3,X4,X0,X6,lt_T hlt,g3,X1 hic,w5,w6,hgl,X1 hsl,X7,g1,har,il2,il3,est,g4,y4,e1]
 all_goals
  generalize hH2:hset H1 id (AObj.arr 1 ((c.set i (s:Int)).map eI))=H2
  have hidn:=hf1.lt har
  have hf2:AN H2 n1:=by rw[<-hH2];exact hf1.hset (Xb _) hidn
  have ha2:hget H2 id=some (.arr 1 ((c.set i (s:Int)).map eI)):=by rw[<-hH2,AC]
  have hk2:CN id n H H2:=by rw[<-hH2];exact hk1.set
  have hok2:∀z∈c.set i (s:Int),okSy k z:=λz hz=>by
   rcases Yq hz with q|q
   ·exact hok1 z q
   ·rw[q];exact⟨by omega,by omega⟩
  have hag2:agree (i+1) (cells.set i (s:Int)) (c.set i (s:Int)):=P1 hag
  have hasg:asgP k.d.syms.length x letters j (i+1) (c.set i (s:Int))=G (s:Int):=by
   rw[hGs]
   exact(P0 j (i+1) _ _ (by rw[Ye];omega) hag2).symm
  refine(ih (i+1) (c.set i (s:Int)) H2 n1 (by omega) (by rw[Ye];exact hcl1) hok2 hf2 (hG.keep ⟨_,hid⟩ hf hk2) (hX.keep ⟨_,hid⟩ hf hk2) ha2).mono ?_
  rintro o H3 n3 hr
  rw[hasg]at hr
  cases hfd:(G (s:Int)).find? λc=>A8 (AP k) x letters c with
  |some c2=>
   rw[hfd]at hr
   obtain⟨rfl,hr⟩:=hr
   rw[Option.some_or]
   simp only[eE,eC,eN,reduceCtorEq,Nat.reduceEqDiff,↓reduceIte,Xe,retK,Xe]
   exact⟨rfl,hr⟩
  |none=>
   rw[hfd]at hr
   obtain⟨rfl,r1,r2,r3,c3,r4,r5,r6⟩:=hr
   rw[Option.none_or]
   simp only[eE,eC,eN,reduceCtorEq,Nat.reduceEqDiff,↓reduceIte,Int.reduceEq,X7,retK,X7,e]
   refine .mk ⟨s+1,c3,H3,n3⟩ rfl ⟨hlt,r1,by simp only[];omega,hk2.trans r3 hn1,r4,?_,r6,rfl⟩ (by simp only[];omega)
   refine⟨?_,λz hz=>?_⟩
   ·have:=r5.1
    rw[Ye]at this
    rw[hag.1];exact this
   ·have:=r5.2 z (by omega)
    rw[Ya,Xc (by omega)]at this
    rw[hag.2 z hz];exact this
theorem Ms {k:Knd} {x:Lma} {letters:List Int} (h:PrC k x letters) (q10 q11 L l' d1 d2 d3 d4 id:Nat) (rest:List (Nat×Bool×AVal)) (hl5:5<=L):∀j,ChG k x letters q10 q11 L l' d1 d2 d3 d4 id rest j
 |0=>KH h q10 q11 L l' d1 d2 d3 d4 id rest hl5 0 λj' hj=>by omega
 |j+1=>KH h q10 q11 L l' d1 d2 d3 d4 id rest hl5 (j+1) λj' hj=>by
  obtain rfl:j'=j:=by omega
  exact Ms h q10 q11 L l' d1 d2 d3 d4 id rest hl5 j'
end Go.AM
namespace Go.AM
open Go.Proofs Go.Lib
theorem So {k:Knd} {x:Lma} {letters:List Int} (h:PrC k x letters) {q10 q11 L l' p n:Nat} {rest:List (Nat×Bool×AVal)} {H:AB} (hl5:5<=L) (hf:AN H n) (hp:hget H p=some (.box (Ac k x letters))) (hX:CxL k x letters q10 q11 L l' (eCx q10 q11 rest) H):
  AO Tryz.prog 70 [.fn (.yield l') [] [],.ptr p 0] H n λo H' n'=>o= .ret (.tup [])/\match (asgP k.d.syms.length x letters x.cs.length 0 (List.replicate x.cs.length 0)).find? (λc=>A8 (AP k) x letters c)with
   |none=>AN H' n'/\n<=n'/\∀i,i<n->hget H' i=hget H i
   |some c=>CxF letters c L l' (eCx q10 q11 rest) H':=by
 have hpn:=hf.lt hp
 have hp':=hp
 simp only[Ac,AE,AD,AK,AT,Xl,Xo]at hp'
 have hx4:=h.ox.cs.2.2
 have hsy:=A7 h.ck
 refine a70 (AF AH.tnil (AG ?_))
 have w1:∀a b:Nat,(n+a=n+b)=(a=b):=λa b=>propext ⟨λh=>by omega,λh=>by omega⟩
 have w2:∀b:Nat,(n=n+b)=(b=0):=λb=>propext ⟨λh=>by omega,λh=>by omega⟩
 have w3:∀b:Nat,(n+b=p)=False:=λb=>X9 (by omega)
 have w4:(n=p)=False:=X9 (by omega)
 have w6:((x.cs.length:Int)<=35184372088832)=True:=X1 (by omega)
 have w7:Ap x.cs.length 8=True:=X1 (AX (by omega) (by decide))
 simp only[eE,eN,reduceCtorEq,Nat.reduceEqDiff,↓reduceIte,Nat.reduceAdd,Nat.reduceLeDiff,X3,X4,X0,c70,fr0 hf,fr1 hf,hp',w1,w2,w4,w6,w7,AJ]
 generalize hHb:hset (hset (hset (hset H n _) (n+5) _) (n+6) _) (n+8) _=Hb
 have hfb:AN Hb (n+9):=by
  rw[<-hHb]
  exact(((hf.hset (m:=n+9) (by omega) (by omega)).hset (Xb _) (by omega)).hset (Xb _) (by omega)).hset (Xb _) (by omega)
 have kb:∀i,i<n->hget Hb i=hget H i:=λi hi=>by
  rw[<-hHb,AA _ _ _ _ (by omega),AA _ _ _ _ (by omega),AA _ _ _ _ (by omega),AA _ _ _ _ (by omega)]
 have hG:ChC k x letters (n+6) n p (n+8) (n+5) l' Hb:=by
  refine⟨?_,?_,(kb p hpn).trans hp,?_⟩
  ·rw[<-hHb,AA _ _ _ _ (by omega),AC]
  ·rw[<-hHb,AA _ _ _ _ (by omega),AA _ _ _ _ (by omega),AA _ _ _ _ (by omega),AC]
  ·rw[<-hHb,AC]
 have hid:hget Hb (n+5)=some (.arr 1 ((List.replicate x.cs.length (0:Int)).map eI)):=by
  rw[<-hHb,AA _ _ _ _ (by omega),AA _ _ _ _ (by omega),AC,YU]
 have hX':CxL k x letters q10 q11 L l' (eCx q10 q11 rest) Hb:=by
  obtain⟨a2,a3,a4,a10,a11,aL⟩:=hX
  exact⟨(kb _ (hf.lt a2)).trans a2,(kb _ (hf.lt a3)).trans a3,(kb _ (hf.lt a4)).trans a4,(kb _ (hf.lt a10)).trans a10,(kb _ (hf.lt a11)).trans a11,(kb _ (hf.lt aL)).trans aL⟩
 have hch:=Ms h q10 q11 L l' (n+6) n p (n+8) (n+5) rest hl5 x.cs.length 0 (List.replicate x.cs.length 0) Hb (n+9) (Y5 _) (by simp) (λs hs=>by rw[(Zm.1 hs).2];exact⟨XP _,by omega⟩) hfb hG hX' hid
 rw[c0]at hch
 refine hch.mono ?_
 rintro o H' n' hr
 cases hfd:(asgP k.d.syms.length x letters x.cs.length 0 (List.replicate x.cs.length 0)).find? λc=>A8 (AP k) x letters c with
 |none=>
  rw[hfd]at hr
  obtain⟨rfl,r1,r2,r3,-⟩:=hr
  simp only[eE,eN,retK]
  exact⟨r1,by omega,λi hi=>(r3 i (by omega) (by omega)).trans (kb i hi)⟩
 |some c=>
  rw[hfd]at hr
  obtain⟨rfl,hr⟩:=hr
  simp only[eE,eN,retK]
  exact hr
theorem Vl {H:AB} {n:Nat} {k:Knd} {x:Lma} {letters:List Int} (hf:AN H n):AO Tryz.prog 37 [H8 k x letters] H n λo H' n'=>o= .ret (.fn (.func 70) [] [.ptr n 0])/\H'=hset H n (.box (Ac k x letters))/\n'=n+2:=by
 refine a37 (AF AH.tnil (AG ?_))
 simp only[eE,eN,Nat.reduceEqDiff,↓reduceIte,c37,fr0 hf]
 rfl
def EW (k:Knd) (x:Lma):AVal:=match cexP (AP k) x with
 |some q=>.tup [eIs q.1,eIs q.2,.bool true,.int .i64 0]
 |none=>.tup [.sl .nil [],.sl .nil [],.bool false,.int .i64 0]
def BN (k:Knd) (x:Lma):AVal:=if Ao k x≠0 then .tup [.sl .nil [],.sl .nil [],.bool false,.int .i64 (Ao k x)]else EW k x
structure VPk where
 j:Nat
 H:AB
 n:Nat
structure IPk (k:Knd) (x:Lma) (A:List (List Int)) (F:List Int->Option (List Int×List Int)) (v:VPk):Prop where
 hj:v.j<=A.length
 fr:AN v.H v.n
 hn:6<=v.n
 h0:hget v.H 0=some (.box (AE k))
 h1:hget v.H 1=some (.box (AT x))
 h2:hget v.H 2=some (.box [.sl .nil []])
 h3:hget v.H 3=some (.box [.sl .nil []])
 h4:hget v.H 4=some (.box [.bool false])
 he:A.findSome? F=(A.drop v.j).findSome? F
theorem p14 (k:Knd) (x:Lma) (hk:FewD k.d) (hx:FewL x):Pur Tryz.prog 14 [BF k,encL x] (BN k x):=by
 have u1:dKn.ok (.agg (AE k))=True:=CX k
 have u2:dKn.dec (.agg (AE k))=k:=Bd k
 simp only[AE,AD,AK,Xl,Xo]at u1 u2
 have v1:dX.ok (.agg (AT x))=True:=GY x
 have v2:dX.dec (.agg (AT x))=x:=Dy x
 simp only[AT]at v1 v2
 refine .mk ⟨Ab 0 k,Ah 0 x,trivial⟩ ?_ (a14 (AF Ub (AG ?_)))
 ·unfold BN EW
  split
  ·exact⟨⟨trivial,trivial⟩,⟨trivial,trivial⟩,trivial,trivial,trivial⟩
  ·split
   ·exact⟨AW 0 _,AW 0 _,trivial,trivial,trivial⟩
   ·exact⟨⟨trivial,trivial⟩,⟨trivial,trivial⟩,trivial,trivial,trivial⟩
 unfold BN
 by_cases hv:Ao k x=0
 case neg=>
  have hpv:Ba k x= .tup [.sl .nil [],.int .i64 (Ao k x)]:=by unfold Ba;rw[Xg hv]
  rw[Xg hv]
  simp only[eE,eC,eN,reduceCtorEq,Nat.reduceEqDiff,↓reduceIte,Nat.reduceAdd,Nat.reduceLT,Xe,X2,Bc,Xa,Xd,c14,AE,AD,AK,Sn,s2,u1,u2,v1,v2,X1 hk,X1 hx,hpv,X9 hv]
  exact Wk.refl _
 have hpv:Ba k x= .tup [.sl (.none 1) ((chs k.d.syms.length x.ls.length).map eIs),.int .i64 0]:=by unfold Ba;rw[Xc (by simpa using hv)]
 rw[Xc (by simpa using hv)]
 obtain⟨hck,hox⟩:=JL hk hx hv
 have hsy:=A7 hck
 have hvl:(AP k).length=k.d.syms.length:=by unfold AP;rw[X0]
 have hPr:∀l∈chs k.d.syms.length x.ls.length,PrC k x l:=λl hl=>⟨hck,hk,hx,hox,hl⟩
 have hAl:(chs k.d.syms.length x.ls.length).length<=4096:=by
  refine XT (JI _ _) (XT (ZJ hsy.2 _) (XT (ZE (by decide) (show x.ls.length<=3 from hox.ls.2.2.2)) (by decide)))
 unfold EW cexP
 rw[hvl]
 obtain⟨F,hF⟩:∃F:List Int->Option (List Int×List Int),(λletters=>((asgP k.d.syms.length x letters x.cs.length 0 (List.replicate x.cs.length 0)).find? λc=>A8 (AP k) x letters c).map λc=>(letters,c))=F:=⟨_,rfl⟩
 rw[hF]
 have hFs:∀l,F l=((asgP k.d.syms.length x l x.cs.length 0 (List.replicate x.cs.length 0)).find? λc=>A8 (AP k) x l c).map λc=>(l,c):=λl=>by rw[<-hF]
 simp only[eE,eC,eN,reduceCtorEq,Nat.reduceEqDiff,↓reduceIte,Nat.reduceAdd,Nat.reduceLT,X7,X2,X0,Xa,Xd,c14,AE,AD,AK,Sn,s2,u1,u2,v1,v2,X1 hk,X1 hx,hpv]
 generalize chs k.d.syms.length x.ls.length=A at hPr hAl
 refine AU (λv:VPk=>⟨[(2,true,.ptr 0 0),(3,true,.ptr 1 0),(4,true,.ptr 2 0),(5,true,.ptr 3 0),(6,true,.ptr 4 0),(7,true,.int .i64 0),(22,true,.sl (.none 1) (A.map eIs)),(23,true,.int .i64 A.length),(24,true,.int .i64 v.j)],v.H,v.n⟩) (IPk k x A F) (λv=>A.length-v.j)
  ⟨0,_,6⟩ rfl ⟨Xh _,?_,Xb _,rfl,rfl,rfl,rfl,rfl,rfl⟩ ?_
 ·simp only[]
  repeat' (first|exact AN.nil.hset (m:=6) (Xh _) (by decide)|refine AN.hset ?_ (Xb _) (by decide))
 rintro⟨j,H,n⟩ ⟨hj,hf,hn,h0,h1,h2,h3,h4,he⟩
 simp only at hj hf hn h0 h1 h2 h3 h4 he
 rw[he]
 have h0':=h0
 have h1':=h1
 simp only[AE,AD,AK,Xl,Xo]at h0
 simp only[AT]at h1
 by_cases hlt:j<A.length
 case neg=>
  obtain rfl:j=A.length:=by omega
  rw[Yt,List.findSome?_nil]
  simp only[eE,eC,eN,Nat.reduceEqDiff,↓reduceIte,Nat.reduceAdd,Nat.reduceMul,Nat.reduceLT,Nat.reduceMod,Bc,lt_F hlt,h2,h3,h4]
  exact Wk.refl _
 have e:=AL (k:=j) (by omega)
 have hg:=X5 hlt
 have hpr:=hPr _ (Xk hlt)
 have hdr:=XM hlt
 rw[hdr,List.findSome?_cons]
 generalize A[j]=l at hg hpr hdr
 have y1:∀z,(n+z=0)=False:=λz=>X9 (by omega)
 have y2:∀z,(n+z=1)=False:=λz=>X9 (by omega)
 have w1:∀a b:Nat,(n+a=n+b)=(a=b):=λa b=>propext ⟨λh=>by omega,λh=>by omega⟩
 simp only[eE,eC,eN,Nat.reduceEqDiff,↓reduceIte,Nat.reduceAdd,Nat.reduceLeDiff,X2,X3,X4,X0,X6,lt_T hlt,hg,fr1 hf,h0,h1,y1,y2,w1,AJ]
 obtain⟨Ha,hHa⟩:∃Ha,hset (hset H (n+2) (.box [eIs l])) (n+8) (.box (Ac k x l))=Ha:=⟨_,rfl⟩
 have hfa:AN Ha (n+10):=by rw[<-hHa];exact(hf.hset (m:=n+10) (by omega) (by omega)).hset (Xb _) (by omega)
 have g10:hget Ha (n+2)=some (.box [eIs l]):=by rw[<-hHa,AA _ _ _ _ (by omega),AC]
 have g11:hget Ha (n+8)=some (.box (Ac k x l)):=by rw[<-hHa,AC]
 have ka:∀i,i<n->hget Ha i=hget H i:=λi hi=>by rw[<-hHa,AA _ _ _ _ (by omega),AA _ _ _ _ (by omega)]
 simp only[Ac,AE,AD,AK,AT,Xl,Xo]at hHa
 rw[hHa]
 refine(Vl hfa).mono ?_
 rintro o H1 n1 ⟨rfl,rfl,rfl⟩
 simp only[eE,eN,Nat.reduceEqDiff,↓reduceIte,Nat.reduceAdd,retK,E4]
 intro l'
 generalize hHb:hset (hset Ha (n+10) _) _ (AObj.lp _)=Hb
 have hfb:AN Hb (n+13):=by rw[<-hHb];exact(hfa.hset (m:=n+13) (by omega) (by omega)).hset (Xb _) (by omega)
 have kb:∀i,i<n+10->hget Hb i=hget Ha i:=λi hi=>by rw[<-hHb,AA _ _ _ _ (by omega),AA _ _ _ _ (by omega)]
 have kH:∀i,i<n->hget Hb i=hget H i:=λi hi=>(kb i (by omega)).trans (ka i hi)
 have hp:hget Hb (n+10)=some (.box (Ac k x l)):=by rw[<-hHb,AA _ _ _ _ (by omega),AC]
 have hX:CxL k x l (n+2) (n+8) (n+12) l' (eCx (n+2) (n+8) [(22,true,.sl (.none 1) (A.map eIs)),(23,true,.int .i64 A.length),(24,true,.int .i64 j),(33,true,.fn (.func 70) [] [.ptr (n+10) 0])]) Hb:=
  ⟨(kH 2 (by omega)).trans h2,(kH 3 (by omega)).trans h3,(kH 4 (by omega)).trans h4,(kb _ (by omega)).trans g10,(kb _ (by omega)).trans g11,by rw[<-hHb];exact AC ..⟩
 refine(So hpr (by omega) hfb hp hX).mono ?_
 rintro o H2 n2 ⟨rfl,hr⟩
 have hFl:=hFs l
 cases hfd:(asgP k.d.syms.length x l x.cs.length 0 (List.replicate x.cs.length 0)).find? λc=>A8 (AP k) x l c with
 |none=>
  rw[hfd]at hr hFl
  obtain⟨r1,r2,r3⟩:=hr
  rw[YE]at hFl
  rw[hFl]
  have hL2:=(r3 (n+12) (by omega)).trans hX.hL
  simp only[eE,eN,reduceCtorEq,Nat.reduceEqDiff,↓reduceIte,Int.reduceEq,Ez,hL2,e]
  have kk:∀i,i<n->hget (hset H2 (n+12) .dead) i=hget H i:=λi hi=>by rw[AA _ _ _ _ (by omega),r3 i (by omega)];exact kH i hi
  exact .mk ⟨j+1,hset H2 (n+12) .dead,n2⟩ rfl ⟨hlt,r1.hset (m:=n2) (Xb _) (by omega),by simp only[];omega,(kk 0 (by omega)).trans h0',(kk 1 (by omega)).trans h1',(kk 2 (by omega)).trans h2,(kk 3 (by omega)).trans h3,(kk 4 (by omega)).trans h4,by rw[he,hdr,List.findSome?_cons,hFl]⟩ (by simp only[];omega)
 |some c=>
  rw[hfd]at hr hFl
  obtain⟨r2,r3,r4,rL⟩:=hr
  rw[XU]at hFl
  rw[hFl]
  have z2:(n+12=2)=False:=X9 (by omega)
  have z3:(n+12=3)=False:=X9 (by omega)
  have z4:(n+12=4)=False:=X9 (by omega)
  simp only[eE,eN,reduceCtorEq,Nat.reduceEqDiff,↓reduceIte,Nat.reduceAdd,Nat.reduceMul,Nat.reduceLT,Nat.reduceMod,Bc,Ez,rL,r2,r3,r4,z2,z3,z4]
  exact Wk.refl _
end Go.AM
namespace Go.AM
open Go.Proofs Go.Lib
def CO (k:Knd) (x:Lma) (ts:List (List Cas)):Bool:=decide (Ao k x=0)&&B4 (AP k) x ts
def decC:AVal->Cas
 | .agg [.int _ k,.int _ a]=>⟨k,a⟩
 |_=>⟨0,0⟩
def decCs:AVal->List Cas:=decL decC
def N8:AVal->List (List Cas)
 | .agg [l]=>decL decCs l
 |_=>[]
theorem Sp (c:Cas):decC (encC c)=c:=rfl
theorem P2 (l:List Cas):decCs (eCs l)=l:=Bz Sp l
theorem D7 (t:List (List Cas)):N8 (BY t)=t:=Bz P2 t
def dPf:Dc (List (List Cas)):=dEx BY N8
theorem Mt (t:List (List Cas)):dPf.ok (BY t)=True:=X1 (by show BY t=BY (N8 (BY t));rw[D7])
theorem JM (t:List (List Cas)):dPf.dec (BY t)=t:=D7 t
def CA (t:List (List Cas)):Prop:=few t/\∀l∈t,few l
def Tri:Tab:=tadd 27 (s3 dKn dX dPf (λk x t=>FewD k.d/\FewL x/\CA t) CZ) tnil
theorem Tri_ok:AH Tryz.prog Tri:=AH.tnil.add (q3 λk x t h=>p27 k x t h.1 h.2.1 h.2.2.1 h.2.2.2)
theorem Tri_c (a:List AVal) (H:AB):Tri 27 a H=s3 dKn dX dPf (λk x t=>FewD k.d/\FewL x/\CA t) CZ a H:=rfl
theorem p44 (k:Knd) (x:Lma) (ts:List (List Cas)) (hk:FewD k.d) (hx:FewL x) (ht:CA ts):Pur Tryz.prog 44 [BF k,encL x,BY ts] (.bool (CO k x ts)):=by
 have u1:dKn.ok (.agg (AE k))=True:=CX k
 have u2:dKn.dec (.agg (AE k))=k:=Bd k
 simp only[AE,AD,AK,Xl,Xo]at u1 u2
 have v1:dX.ok (.agg (AT x))=True:=GY x
 have v2:dX.dec (.agg (AT x))=x:=Dy x
 simp only[AT]at v1 v2
 have t1:dPf.ok (.agg [eTr ts])=True:=Mt ts
 have t2:dPf.dec (.agg [eTr ts])=ts:=JM ts
 refine .mk ⟨Ab 0 k,Ah 0 x,A9 0 ts,trivial⟩ trivial (a44 (AF Tri_ok (AG ?_)))
 unfold CO
 by_cases hv:Ao k x=0
 ·have hs:CZ k x ts= .tup [.bool (B4 (AP k) x ts),.int .i64 0]:=by unfold CZ;rw[Xc (by simpa using hv)]
  rw[Xz hv,YM]
  simp only[eE,eC,eN,reduceCtorEq,Nat.reduceEqDiff,↓reduceIte,Nat.reduceAdd,Nat.reduceLT,X2,Xa,Xd,c44,AE,AD,AK,Tri_c,s3,u1,u2,v1,v2,t1,t2,X1 hk,X1 hx,X1 ht,hs]
 ·have hs:CZ k x ts= .tup [.bool false,.int .i64 (Ao k x)]:=by unfold CZ;rw[Xg hv]
  rw[Xr hv,YC]
  simp only[eE,eC,eN,reduceCtorEq,Nat.reduceEqDiff,↓reduceIte,Nat.reduceAdd,Nat.reduceLT,X2,Xa,Xd,c44,AE,AD,AK,Tri_c,s3,u1,u2,v1,v2,t1,t2,X1 hk,X1 hx,X1 ht,hs,X9 hv]
theorem p79 (x:Lma) (s:Bs):Pur Tryz.prog 79 [encL x,.ep [.str s]] (.bool (decide (x.nm=s))):=by
 refine .mk ⟨Ah 0 x,⟨⟨trivial,trivial⟩,trivial⟩⟩ trivial (a79 (AF AH.tnil (AG ?_)))
 simp only[eE,eN,reduceCtorEq,Nat.reduceEqDiff,↓reduceIte,Nat.reduceAdd,Nat.reduceLeDiff,c79]
 rfl
def JN (cap:List AVal) (ok:Lma->Prop) (f:Lma->AVal):List AVal->AB->Prop×AVal:=λa _=>match a with
 |M::c=>(c=cap/\dX.ok M/\ok (dX.dec M),f (dX.dec M))
 |_=>(False,.tup [])
theorem rowLmq {fid:FuncId} {cap:List AVal} {ok:Lma->Prop} {f:Lma->AVal} (h:∀x,ok x->Pur Tryz.prog fid (encL x::cap) (f x)):∀args H n,(JN cap ok f args H).1->Aa Tryz.prog fid args H n (JN cap ok f args H).2:=by
 intro args H n hh
 unfold JN at hh⊢
 split at hh
 ·obtain⟨rfl,h1,h2⟩:=hh
  refine AO.args ((h _ h2).quiet H n) ?_
  rintro g vs ⟨v,r,rfl,k1,k2⟩
  exact⟨v,_,rfl,dX.wk _ h1 _ _ k1,k2⟩
 ·exact hh.elim
theorem p_ifL {g:FuncId} {cap:List AVal} {p:Lma->Bool} (l:List Lma) (hl:few l) (hcap:unders 0 cap) (hq:∀x,x∈l->Pur Tryz.prog g (encL x::cap) (.bool (p x))):
  Pur Tryz.prog 110 [.sl (.none 8) (l.map encL),.fn (.func g) [] cap] (.int .i64 (fIxA l p)):=by
 have hT:AH Tryz.prog (tadd g (JN cap (λx=>x∈l) λx=>.bool (p x)) tnil):=AH.tnil.add (rowLmq hq)
 have hTe:∀a H,tadd g (JN cap (λx=>x∈l) λx=>.bool (p x)) tnil g a H=JN cap (λx=>x∈l) (λx=>.bool (p x)) a H:=λa H=>by unfold tadd;rw[Xg rfl]
 generalize tadd g (JN cap (λx=>x∈l) λx=>.bool (p x)) tnil=T at hT hTe
 refine .mk ⟨⟨trivial,AY (Ah 0) _⟩,⟨trivial,hcap⟩,trivial⟩ trivial (a110 (AF hT (AG ?_)))
 have hll:l.length<1000000000:=hl
 simp only[eE,eN,reduceCtorEq,Nat.reduceEqDiff,↓reduceIte,Nat.reduceAdd,X0,c110]
 refine AU (λi:Nat=>⟨[(0,true,.sl (.none 8) (l.map encL)),(1,true,.fn (.func g) [] cap),(7,true,.int .i64 l.length),(8,true,.int .i64 i)],hnil,0⟩) (λi=>i<=l.length/\∀(j:Nat) x,j<i->l[j]?=some x->p x=false) (λi=>l.length-i) 0 rfl ⟨Xh _,λj x h=>by omega⟩ ?_
 rintro i ⟨hi,he⟩
 by_cases hlt:i<l.length
 case neg=>
  obtain rfl:i=l.length:=by omega
  have:fIxA l p= -1:=by
   unfold fIxA
   rw[Yd.2 λx hx=>by
    obtain⟨j,hj,rfl⟩:=Xx.1 hx
    exact he j _ hj (X5 hj)]
  rw[this]
  simp only[eE,eC,eN,reduceCtorEq,Nat.reduceEqDiff,↓reduceIte,lt_F hlt]
 have hg:=X5 hlt
 have hm:=Xk hlt
 have e:=AL (k:=i) (by omega)
 have hfx:p l[i]=true->fIxA l p=(i:Int):=λhp=>by
  unfold fIxA
  rw[XK.2 ⟨hlt,hp,λj hj=>by
   have:=he j _ hj (X5 (by omega))
   rw[this];decide⟩]
 generalize l[i]=x at hg hm hfx
 have m1:dX.ok (.agg (AT x))=True:=GY x
 have m2:dX.dec (.agg (AT x))=x:=Dy x
 simp only[AT]at m1 m2
 cases hp:p x with
 |true=>
  rw[hfx hp]
  simp only[eE,eC,eN,reduceCtorEq,Nat.reduceEqDiff,↓reduceIte,Nat.reduceAdd,X2,X3,X4,X0,X6,lt_T hlt,hg,hTe,JN,m1,m2,X1 hm,hp]
 |false=>
  simp only[eE,eC,eN,reduceCtorEq,Nat.reduceEqDiff,↓reduceIte,Nat.reduceAdd,Int.reduceEq,X2,X3,X4,X0,X6,lt_T hlt,hg,hTe,JN,m1,m2,X1 hm,hp,e]
  refine .mk (i+1) rfl ⟨hlt,λj y hj hy=>?_⟩ (by omega)
  by_cases q:j<i
  ·exact he j y q hy
  ·obtain rfl:j=i:=by omega
   rw[hg]at hy;cases hy;exact hp
theorem Sq {α:Type} (l:List α) (p:α->Bool):decide (0<=fIxA l p)=l.any p:=by
 unfold fIxA
 cases h:l.findIdx? p with
 |none=>
  rw[Yd]at h
  rw[show l.any p=false from by rw[Z3];intro x hx;rw[h x hx];decide];rfl
 |some i=>
  obtain⟨hi,h1,-⟩:=XK.1 h
  rw[show l.any p=true from YZ.2 ⟨_,Xk hi,h1⟩]
  simp
theorem p_cfL {g:FuncId} {cap:List AVal} {p:Lma->Bool} (l:List Lma) (hl:few l) (hcap:unders 0 cap) (hq:∀x,x∈l->Pur Tryz.prog g (encL x::cap) (.bool (p x))):
  Pur Tryz.prog 78 [.sl (.none 8) (l.map encL),.fn (.func g) [] cap] (.bool (l.any p)):=by
 have hp:=p_ifL l hl hcap hq
 refine .mk ⟨⟨trivial,AY (Ah 0) _⟩,⟨trivial,hcap⟩,trivial⟩ trivial (a78 (AF (T:=tadd 110 (rowX [.sl (.none 8) (l.map encL),.fn (.func g) [] cap] (λ_=>True) (.int .i64 (fIxA l p))) tnil) (AH.tnil.add (Hy λH n _=>hp.quiet H n)) (AG ?_)))
 have hTe:∀a H,tadd 110 (rowX [.sl (.none 8) (l.map encL),.fn (.func g) [] cap] (λ_=>True) (.int .i64 (fIxA l p))) tnil 110 a H=rowX [.sl (.none 8) (l.map encL),.fn (.func g) [] cap] (λ_=>True) (.int .i64 (fIxA l p)) a H:=λa H=>by unfold tadd;rw[Xg rfl]
 simp only[eE,eN,reduceCtorEq,Nat.reduceEqDiff,↓reduceIte,Nat.reduceAdd,c78,rowX]
 rw[Sq]
def F2 (l:List Lma) (s:Bs):List AVal->AB->Prop×AVal:=λa H=>match a with
 |[A,.fn (.func g) [] [.ptr r 0]]=>(A= .sl (.none 8) (l.map encL)/\g=79/\hget H r=some (.box [.str s]),.bool (l.any λx=>decide (x.nm=s)))
 |_=>(False,.tup [])
theorem Vm {l:List Lma} {s:Bs} (hl:few l):∀args H n,(F2 l s args H).1->Aa Tryz.prog 78 args H n (F2 l s args H).2:=by
 intro args H n hh
 unfold F2 at hh⊢
 split at hh
 ·obtain⟨rfl,rfl,h1⟩:=hh
  exact(p_cfL l hl ⟨⟨trivial,trivial⟩,trivial⟩ (p:=λx=>decide (x.nm=s)) (cap:=[.ep [.str s]]) λx _=>p79 x s).view trivial (.cons (.wk (Wk.refl _)) (.cons (.fn .nil (.cons (View.ptr (off:=0) h1) .nil)) .nil)) n
 ·exact hh.elim
def Gu (l:List Lma) (s:Bs):Bool:=l.any λx=>decide (x.nm=s)
theorem p43 (l:List Lma) (s:Bs) (hl:few l):Pur Tryz.prog 43 [.sl (.none 8) (l.map encL),.str s] (.bool (Gu l s)):=by
 have hT:AH Tryz.prog (tadd 78 (F2 l s) tnil):=AH.tnil.add (Vm hl)
 have hTe:∀a H,tadd 78 (F2 l s) tnil 78 a H=F2 l s a H:=λa H=>by unfold tadd;rw[Xg rfl]
 generalize tadd 78 (F2 l s) tnil=T at hT hTe
 refine .mk ⟨⟨trivial,AY (Ah 0) _⟩,trivial,trivial⟩ trivial (a43 (AF hT (AG ?_)))
 simp only[eE,eN,reduceCtorEq,Nat.reduceEqDiff,↓reduceIte,Nat.reduceAdd,c43,hTe,F2]
 rfl
theorem p45 (l:List Lma) (hl:few l):Pur Tryz.prog 45 [.sl (.none 8) (l.map encL)] (.sl (.exact 8) (l.map encL)):=by
 refine .mk ⟨⟨trivial,AY (Ah 0) _⟩,trivial⟩ ⟨trivial,AY (Ah 0) _⟩ (a45 (AF AH.tnil (AG ?_)))
 have hll:l.length<1000000000:=hl
 simp only[eE,eN,reduceCtorEq,Nat.reduceEqDiff,↓reduceIte,XW,XP,X3,X4,X0,c45,X4]
 refine⟨λm hm=>?_,?_⟩
 ·cases hm
  exact⟨XP _,XP _⟩
 ·rw[Y0 (by simp)]
  exact Wk.refl _
theorem p46 (l:List (List (List Cas))) (hl:few l):Pur Tryz.prog 46 [.sl (.none 1) (l.map BY)] (.sl (.exact 1) (l.map BY)):=by
 refine .mk ⟨⟨trivial,AY (A9 0) _⟩,trivial⟩ ⟨trivial,AY (A9 0) _⟩ (a46 (AF AH.tnil (AG ?_)))
 have hll:l.length<1000000000:=hl
 simp only[eE,eN,reduceCtorEq,Nat.reduceEqDiff,↓reduceIte,XW,XP,X3,X4,X0,c46,X4]
 refine⟨λm hm=>?_,?_⟩
 ·cases hm
  exact⟨XP _,XP _⟩
 ·rw[Y0 (by simp)]
  exact Wk.refl _
end Go.AM
namespace Go.AM
open Go.Proofs Go.Lib
structure Lbr where
 ls:List Lma
 pf:List (List (List Cas))
abbrev eLms (l:List Lma):AVal:=.sl (.none 8) (l.map encL)
abbrev ePfs (l:List (List (List Cas))):AVal:=.sl (.none 1) (l.map BY)
abbrev C0 (l:Lbr):AVal:=.agg [eLms l.ls,ePfs l.pf]
structure FewB (l:Lbr):Prop where
 ls:few l.ls
 pf:few l.pf
 lm:∀x∈l.ls,FewL x
 pr:∀p∈l.pf,CA p
theorem Cu (n:Nat) (l:Lbr):(C0 l).under n:=⟨⟨trivial,AY (Ah n) _⟩,⟨trivial,AY (A9 n) _⟩,trivial⟩
def Fm (k:Knd):List Lma->List Lma->List (List (List Cas))->Int
 |prev,x::r,p::q=>if chk x≠0 then chk x else if Gu prev x.nm=true then 161 else if CO k x p=false then 310 else Fm k (prev++[x]) r q
 |_,_,_=>0
theorem KI (k:Knd) (a:List Lma) (p:List (List (List Cas))):Fm k a [] p=0:=by cases p<;>rfl
def BG (k:Knd) (l:Lbr):Int:=if Al k≠0 then Al k else if 16<l.ls.length then 2 else if l.pf.length≠l.ls.length then 310 else Fm k [] l.ls l.pf
def Fo:List AVal->AB->Prop×AVal:=λa _=>match a with
 |[.sl t L,.str s]=>((t.esz=8\/L=[])/\L=(L.map decX).map encL/\few (L.map decX),.bool (Gu (L.map decX) s))
 |_=>(False,.tup [])
theorem Uc:∀args H n,(Fo args H).1->Aa Tryz.prog 43 args H n (Fo args H).2:=by
 intro args H n hh
 unfold Fo at hh⊢
 split at hh
 ·rename_i t L s
  obtain⟨h1,h2,h3⟩:=hh
  refine AO.args ((p43 (L.map decX) s h3).quiet H n) ?_
  rintro g vs ⟨v,r,rfl,k1,k2⟩
  refine⟨v,_,rfl,?_,k2⟩
  have:Wk (.sl t L) (.sl (.none 8) L):=Wk.sl (h1.imp id λq=>by rw[q])
  rw[<-h2]
  exact this _ _ k1
 ·exact hh.elim
def Tvl:Tab:=tadd 50 (s1 dKn (λk=>FewD k.d) λk=>.int .i64 (Al k)) (tadd 42 (s1 dX FewL λx=>eI (chk x)) (tadd 43 Fo (tadd 44 (s3 dKn dX dPf (λk x t=>FewD k.d/\FewL x/\CA t) λk x t=>.bool (CO k x t)) tnil)))
theorem Tvl_ok:AH Tryz.prog Tvl:=(((AH.tnil.add (q3 λk x t h=>p44 k x t h.1 h.2.1 h.2.2)).add Uc).add (q1 λx h=>p42 x h)).add (q1 λk h=>p50 k h)
theorem Sr (a:List AVal) (H:AB):Tvl 50 a H=s1 dKn (λk=>FewD k.d) (λk=>.int .i64 (Al k)) a H:=rfl
theorem Ss (a:List AVal) (H:AB):Tvl 42 a H=s1 dX FewL (λx=>eI (chk x)) a H:=rfl
theorem Vn (a:List AVal) (H:AB):Tvl 43 a H=Fo a H:=rfl
theorem Tvl_r (a:List AVal) (H:AB):Tvl 44 a H=s3 dKn dX dPf (λk x t=>FewD k.d/\FewL x/\CA t) (λk x t=>.bool (CO k x t)) a H:=rfl
structure IVl (k:Knd) (l:Lbr) (v:VPm):Prop where
 hi:v.i<=l.ls.length
 fr:AN v.H v.n
 hn:3<=v.n
 h0:hget v.H 0=some (.box (AE k))
 h1:hget v.H 1=some (.box [eLms l.ls,ePfs l.pf])
 he:Fm k [] l.ls l.pf=Fm k (l.ls.take v.i) (l.ls.drop v.i) (l.pf.drop v.i)
theorem p23 (k:Knd) (l:Lbr) (hk:FewD k.d) (hl:FewB l):Pur Tryz.prog 23 [BF k,C0 l] (.int .i64 (BG k l)):=by
 have u1:dKn.ok (.agg (AE k))=True:=CX k
 have u2:dKn.dec (.agg (AE k))=k:=Bd k
 simp only[AE,AD,AK,Xl,Xo]at u1 u2
 have hll:l.ls.length<1000000000:=hl.ls
 have hpl:l.pf.length<1000000000:=hl.pf
 refine .mk ⟨Ab 0 k,Cu 0 l,trivial⟩ trivial (a23 (AF Tvl_ok (AG ?_)))
 unfold BG
 by_cases hck:Al k=0
 case neg=>
  rw[Xg hck]
  simp only[eE,eC,eN,reduceCtorEq,Nat.reduceEqDiff,↓reduceIte,Nat.reduceAdd,Xe,c23,AE,AD,AK,Sr,s1,u1,u2,X1 hk,X9 hck]
 rw[Xc (by simpa using hck)]
 by_cases h16:16<l.ls.length
 ·have w1:((16:Int)<(l.ls.length:Int))=True:=X1 (by omega)
  have w2:decide ((16:Int)<(l.ls.length:Int))=true:=Xz (by omega)
  rw[Xg h16]
  simp only[eE,eC,eN,reduceCtorEq,Nat.reduceEqDiff,↓reduceIte,Nat.reduceAdd,Nat.reduceLeDiff,X7,X0,c23,AE,AD,AK,Sr,s1,u1,u2,X1 hk,X1 hck,w1]
 have w1:((16:Int)<(l.ls.length:Int))=False:=X9 (by omega)
 have w2:decide ((16:Int)<(l.ls.length:Int))=false:=Xr (by omega)
 rw[Xc h16]
 by_cases hlen:l.pf.length=l.ls.length
 case neg=>
  have w3:((l.pf.length:Int)=(l.ls.length:Int))=False:=X9 (by omega)
  have w4:decide ((l.pf.length:Int)=(l.ls.length:Int))=false:=Xr (by omega)
  rw[Xg hlen]
  simp only[eE,eC,eN,reduceCtorEq,Nat.reduceEqDiff,↓reduceIte,Nat.reduceAdd,Nat.reduceLeDiff,X7,Xe,X0,c23,AE,AD,AK,Sr,s1,u1,u2,X1 hk,X1 hck,w1,w3]
 have w3:((l.pf.length:Int)=(l.ls.length:Int))=True:=X1 (by omega)
 have w4:decide ((l.pf.length:Int)=(l.ls.length:Int))=true:=Xz (by omega)
 rw[Xc (by simpa using hlen)]
 simp only[eE,eC,eN,reduceCtorEq,Nat.reduceEqDiff,↓reduceIte,Nat.reduceAdd,Nat.reduceLeDiff,X7,X0,c23,AE,AD,AK,Sr,s1,u1,u2,X1 hk,X1 hck,w1,w3]
 refine AU (λv:VPm=>⟨[(2,true,.ptr 0 0),(3,true,.ptr 1 0),(24,true,eLms l.ls),(25,true,.int .i64 l.ls.length),(26,true,.int .i64 v.i)],v.H,v.n⟩) (IVl k l) (λv=>l.ls.length-v.i)
  ⟨0,_,3⟩ rfl ⟨Xh _,(AN.nil.hset (m:=3) (Xh _) (by decide)).hset (m:=3) (Xb _) (by decide),Xb _,rfl,rfl,rfl⟩ ?_
 rintro⟨i,H,n⟩ ⟨hi,hf,hn,h0,h1,he⟩
 simp only at hi hf hn h0 h1 he
 have h0':=h0
 have h1':=h1
 simp only[AE,AD,AK,Xl,Xo]at h0
 rw[he]
 by_cases hlt:i<l.ls.length
 case neg=>
  obtain rfl:i=l.ls.length:=by omega
  rw[Yt,KI]
  simp only[eE,eC,eN,Nat.reduceEqDiff,↓reduceIte,lt_F hlt]
 have e:=AL (k:=i) (by omega)
 have hltp:i<l.pf.length:=by omega
 have hg:=X5 hlt
 have hgp:=X5 hltp
 have hfx:=hl.lm _ (Xk hlt)
 have hfp:=hl.pr _ (Xk hltp)
 have htk:l.ls.take (i+1)=l.ls.take i++[l.ls[i]]:=by rw[Y2,hg];rfl
 have hdr1:=XM hlt
 have hdr2:=XM hltp
 rw[hdr1,hdr2,Fm,<-htk]
 generalize l.ls[i]=x at hg hfx hdr1 htk
 generalize l.pf[i]=pf at hgp hfp hdr2
 have v1:dX.ok (.agg (AT x))=True:=GY x
 have v2:dX.dec (.agg (AT x))=x:=Dy x
 simp only[AT]at v1 v2
 have t1:dPf.ok (.agg [eTr pf])=True:=Mt pf
 have t2:dPf.dec (.agg [eTr pf])=pf:=JM pf
 have y1:∀z,(n+z=0)=False:=λz=>X9 (by omega)
 have y2:∀z,(n+z=1)=False:=λz=>X9 (by omega)
 by_cases hc:chk x=0
 case neg=>
  rw[Xg hc]
  simp only[eE,eC,eN,Nat.reduceEqDiff,↓reduceIte,Nat.reduceAdd,Xe,X2,X3,X4,X0,X6,lt_T hlt,hg,AJ,fr1 hf,Ss,s1,v1,v2,X1 hfx,X9 hc]
 rw[Xc (by simpa using hc)]
 have hmt:List.take i (l.ls.map encL)=(l.ls.take i).map encL:=List.map_take.symm
 have hile:((i:Int)<=(l.ls.length:Int))=True:=X1 (by omega)
 have n1:(((l.ls.take i).map encL).map decX)=l.ls.take i:=by rw[Ze];exact(Yf λx _=>Dr x).trans (List.map_id _)
 have n2:few (l.ls.take i):=by show(l.ls.take i).length<_;rw[Xv];omega
 cases hnm:Gu (l.ls.take i) x.nm with
 |true=>
  rw[Xg rfl]
  simp only[eE,eC,eN,reduceCtorEq,Nat.reduceEqDiff,↓reduceIte,Nat.reduceAdd,Nat.reduceLeDiff,X7,X2,XW,XP,X3,X4,X0,X6,lt_T hlt,hg,AJ,fr1 hf,y2,h1,Ss,s1,v1,v2,X1 hfx,X1 hc,hmt,hile,Vn,Fo,n1,X1 n2,hnm,Zl]
 |false=>
 rw[Xc (by decide)]
 cases hr:CO k x pf with
 |false=>
  rw[Xg rfl]
  simp only[eE,eC,eN,reduceCtorEq,Nat.reduceEqDiff,↓reduceIte,Nat.reduceAdd,Nat.reduceLeDiff,X7,Xe,X2,XW,XP,X3,X4,X0,X6,lt_T hlt,hg,AJ,fr1 hf,y1,y2,h0,h1,Ss,s1,v1,v2,X1 hfx,X1 hc,hmt,hile,Vn,Fo,n1,X1 n2,hnm,Zl,Tvl_r,s3,u1,u2,t1,t2,X1 hk,X1 hfp,lt_T hltp,hgp,hr,Xe]
 |true=>
  rw[Xc (by decide)]
  simp only[eE,eC,eN,reduceCtorEq,Nat.reduceEqDiff,↓reduceIte,Nat.reduceAdd,Nat.reduceLeDiff,Int.reduceEq,X7,X2,XW,XP,X3,X4,X0,X6,lt_T hlt,hg,AJ,fr1 hf,y1,y2,h0,h1,Ss,s1,v1,v2,X1 hfx,X1 hc,hmt,hile,Vn,Fo,n1,X1 n2,hnm,Zl,Tvl_r,s3,u1,u2,t1,t2,X1 hk,X1 hfp,lt_T hltp,hgp,hr,X7,e]
  refine .mk ⟨i+1,hset H (n+3) (.box (AT x)),n+6⟩ rfl ⟨hlt,hf.hset (m:=n+6) (by omega) (by omega),by simp only[];omega,?_,?_,?_⟩ (by simp only[];omega)
  ·simp only[];rw[AA _ _ _ _ (by omega)];exact h0'
  ·simp only[];rw[AA _ _ _ _ (by omega)];exact h1'
  ·simp only[]
   rw[he,hdr1,hdr2,Fm,Xc (by simpa using hc),hnm,hr,Xc (by decide),Xc (by decide),htk]
end Go.AM
namespace Go.AM
open Go.Proofs Go.Lib
abbrev noLb:AVal:=.agg [.sl .nil [],.sl .nil []]
def Bm (k:Knd) (l:Lbr) (x:Lma) (p:List (List Cas)):Int:=if BG k l≠0 then BG k l else if chk x≠0 then chk x else if l.ls.length=16 then 2 else if Gu l.ls x.nm=true then 161 else if CO k x p=false then 310 else 0
def Bn (k:Knd) (l:Lbr) (x:Lma) (p:List (List Cas)):AVal:=if Bm k l x p≠0 then .tup [noLb,.int .i64 (Bm k l x p)]else .tup [C0 ⟨l.ls++[x],l.pf++[p]⟩,.int .i64 0]
def Tad (k:Knd) (l:Lbr):Tab:=tadd 23 (rowX [BF k,C0 l] (λ_=>True) (.int .i64 (BG k l))) (tadd 45 (rowX [eLms l.ls] (λ_=>True) (.sl (.exact 8) (l.ls.map encL))) (tadd 46 (rowX [ePfs l.pf] (λ_=>True) (.sl (.exact 1) (l.pf.map BY)))
 (tadd 42 (s1 dX FewL λx=>eI (chk x)) (tadd 43 Fo (tadd 44 (s3 dKn dX dPf (λk x t=>FewD k.d/\FewL x/\CA t) λk x t=>.bool (CO k x t)) tnil)))))
theorem Tad_ok {k:Knd} {l:Lbr} (hk:FewD k.d) (hl:FewB l):AH Tryz.prog (Tad k l):=(((((AH.tnil.add (q3 λk x t h=>p44 k x t h.1 h.2.1 h.2.2)).add Uc).add (q1 λx h=>p42 x h)).add (Hy λH n _=>(p46 l.pf hl.pf).quiet H n)).add (Hy λH n _=>(p45 l.ls hl.ls).quiet H n)).add (Hy λH n _=>(p23 k l hk hl).quiet H n)
theorem N9 (k:Knd) (l:Lbr) (a:List AVal) (H:AB):Tad k l 23 a H=rowX [BF k,C0 l] (λ_=>True) (.int .i64 (BG k l)) a H:=rfl
theorem Tad_cl (k:Knd) (l:Lbr) (a:List AVal) (H:AB):Tad k l 45 a H=rowX [eLms l.ls] (λ_=>True) (.sl (.exact 8) (l.ls.map encL)) a H:=rfl
theorem Tad_cp (k:Knd) (l:Lbr) (a:List AVal) (H:AB):Tad k l 46 a H=rowX [ePfs l.pf] (λ_=>True) (.sl (.exact 1) (l.pf.map BY)) a H:=rfl
theorem P3 (k:Knd) (l:Lbr) (a:List AVal) (H:AB):Tad k l 42 a H=s1 dX FewL (λx=>eI (chk x)) a H:=rfl
theorem Vo (k:Knd) (l:Lbr) (a:List AVal) (H:AB):Tad k l 43 a H=Fo a H:=rfl
theorem Tad_r (k:Knd) (l:Lbr) (a:List AVal) (H:AB):Tad k l 44 a H=s3 dKn dX dPf (λk x t=>FewD k.d/\FewL x/\CA t) (λk x t=>.bool (CO k x t)) a H:=rfl
theorem p20 (k:Knd) (l:Lbr) (x:Lma) (p:List (List Cas)) (hk:FewD k.d) (hl:FewB l) (hx:FewL x) (hp:CA p):Pur Tryz.prog 20 [BF k,C0 l,encL x,BY p] (Bn k l x p):=by
 have u1:dKn.ok (.agg (AE k))=True:=CX k
 have u2:dKn.dec (.agg (AE k))=k:=Bd k
 have u3:([.agg (AE k),C0 l]=[BF k,C0 l])=True:=X1 rfl
 simp only[AE,AD,AK,Xl,Xo]at u1 u2 u3
 have v1:dX.ok (.agg (AT x))=True:=GY x
 have v2:dX.dec (.agg (AT x))=x:=Dy x
 simp only[AT]at v1 v2
 have t1:dPf.ok (.agg [eTr p])=True:=Mt p
 have t2:dPf.dec (.agg [eTr p])=p:=JM p
 have hll:l.ls.length<1000000000:=hl.ls
 have hpl:l.pf.length<1000000000:=hl.pf
 have n1:((l.ls.map encL).map decX)=l.ls:=by rw[Ze];exact(Yf λx _=>Dr x).trans (List.map_id _)
 have n2:few l.ls:=hl.ls
 refine .mk ⟨Ab 0 k,Cu 0 l,Ah 0 x,A9 0 p,trivial⟩ ?_ (a20 (AF (Tad_ok hk hl) (AG ?_)))
 ·unfold Bn
  split
  ·exact⟨⟨⟨trivial,trivial⟩,⟨trivial,trivial⟩,trivial⟩,trivial,trivial⟩
  ·exact⟨Cu 0 _,trivial,trivial⟩
 have none:∀e:Int,e≠0->Bm k l x p=e->Bn k l x p= .tup [noLb,.int .i64 e]:=λe h1 h2=>by unfold Bn;rw[h2,Xg h1]
 by_cases hv:BG k l=0
 case neg=>
  rw[none (BG k l) hv (by unfold Bm;rw[Xg hv])]
  simp only[eE,eC,eN,reduceCtorEq,Nat.reduceEqDiff,↓reduceIte,Nat.reduceAdd,Xe,Bc,c20,AE,AD,AK,N9,rowX,u3,X9 hv]
  exact Wk.refl _
 by_cases hc:chk x=0
 case neg=>
  rw[none (chk x) hc (by unfold Bm;rw[Xc (by simpa using hv),Xg hc])]
  simp only[eE,eC,eN,reduceCtorEq,Nat.reduceEqDiff,↓reduceIte,Nat.reduceAdd,X7,Xe,Bc,c20,AE,AD,AK,N9,rowX,u3,X1 hv,P3,s1,v1,v2,X1 hx,X9 hc]
  exact Wk.refl _
 by_cases h16:l.ls.length=16
 ·have w1:((l.ls.length:Int)=16)=True:=X1 (by omega)
  have w2:decide ((l.ls.length:Int)=16)=true:=Xz (by omega)
  rw[none 2 (by decide) (by unfold Bm;rw[Xc (by simpa using hv),Xc (by simpa using hc),Xg h16])]
  simp only[eE,eC,eN,reduceCtorEq,Nat.reduceEqDiff,↓reduceIte,Nat.reduceAdd,Nat.reduceLeDiff,X7,Bc,X0,c20,AE,AD,AK,N9,rowX,u3,X1 hv,P3,s1,v1,v2,X1 hx,X1 hc,w1]
  exact Wk.refl _
 have w1:((l.ls.length:Int)=16)=False:=X9 (by omega)
 have w2:decide ((l.ls.length:Int)=16)=false:=Xr (by omega)
 cases hnm:Gu l.ls x.nm with
 |true=>
  rw[none 161 (by decide) (by unfold Bm;rw[Xc (by simpa using hv),Xc (by simpa using hc),Xc h16,Xg hnm])]
  simp only[eE,eC,eN,reduceCtorEq,Nat.reduceEqDiff,↓reduceIte,Nat.reduceAdd,Nat.reduceLeDiff,X7,Bc,X0,c20,AE,AD,AK,N9,rowX,u3,X1 hv,P3,s1,v1,v2,X1 hx,X1 hc,w1,Vo,Fo,n1,X1 n2,Zl,hnm]
  exact Wk.refl _
 |false=>
 cases hr:CO k x p with
 |false=>
  rw[none 310 (by decide) (by unfold Bm;rw[Xc (by simpa using hv),Xc (by simpa using hc),Xc h16,Xc (by rw[hnm];decide),Xg hr])]
  simp only[eE,eC,eN,reduceCtorEq,Nat.reduceEqDiff,↓reduceIte,Nat.reduceAdd,Nat.reduceLeDiff,X7,Xe,Bc,X0,c20,AE,AD,AK,N9,rowX,u3,X1 hv,P3,s1,v1,v2,X1 hx,X1 hc,w1,Vo,Fo,n1,X1 n2,Zl,hnm,Tad_r,s3,u1,u2,t1,t2,X1 hk,X1 hp,hr,Xe]
  exact Wk.refl _
 |true=>
  have hz:Bm k l x p=0:=by unfold Bm;rw[Xc (by simpa using hv),Xc (by simpa using hc),Xc h16,Xc (by rw[hnm];decide),Xc (by rw[hr];decide)]
  have q2:(l.ls.length<=35184372088831)=True:=X1 (by omega)
  have q3:Ap (l.ls.length+1) 136=True:=X1 (AX (by omega) (by decide))
  have q5:(l.pf.length<=35184372088831)=True:=X1 (by omega)
  have q6:Ap (l.pf.length+1) 24=True:=X1 (AX (by omega) (by decide))
  unfold Bn
  rw[Xc (by simpa using hz)]
  simp only[eE,eC,eN,reduceCtorEq,Nat.reduceEqDiff,↓reduceIte,Nat.reduceAdd,Nat.reduceLeDiff,Nat.reduceMul,Nat.reduceLT,X7,Bc,X0,c20,AE,AD,AK,N9,rowX,u3,X1 hv,P3,s1,v1,v2,X1 hx,X1 hc,w1,Vo,Fo,n1,X1 n2,Zl,hnm,Tad_r,s3,u1,u2,t1,t2,X1 hk,X1 hp,hr,X7,Tad_cl,Tad_cp,q2,q3,q5,q6]
  have e1:l.ls.map encL++[encL x]=(l.ls++[x]).map encL:=by rw[Xj];rfl
  have e2:l.pf.map BY++[BY p]=(l.pf++[p]).map BY:=by rw[Xj];rfl
  show Wk (.tup [.agg [.sl (.own 11 8) (l.ls.map encL++[encL x]),.sl (.own 17 1) (l.pf.map BY++[BY p])],.int .i64 0]) _
  rw[e1,e2]
  exact Wk.tup (.cons (Wk.agg (.cons (Wk.sl (.inl rfl)) (.cons (Wk.sl (.inl rfl)) .nil))) (.cons (Wk.refl _) .nil))
end Go.AM
namespace Go.AM
open Go.Proofs Go.Lib
def fewQ (q:Cnd):Bool:=!(decide (6<q.cs.length)||decide (6<q.ls.length))
def DH (x:Lma):Bool:=!(decide (4<x.cs.length)||decide (3<x.ls.length)||decide (8<x.qs.length)||decide (6<x.ps.length)||decide (3<x.cs.length)&&decide (2<x.ls.length))&&x.qs.all fewQ&&x.ps.all λp=>!decide (6<p.ls.length)
theorem KJ {n:Nat} (k:Nat) (z:Int) (hz:z=(k:Int)):(z<(n:Int))=(k<n):=by subst hz;exact propext (by omega)
theorem p11 (x:Lma):Pur Tryz.prog 11 [encL x] (.bool (DH x)):=by
 refine .mk ⟨Ah 0 x,trivial⟩ trivial (a11 (AF AH.tnil (AG ?_)))
 have l2:=λn:Nat=>KJ (n:=n) 2 2 rfl
 have l3:=λn:Nat=>KJ (n:=n) 3 3 rfl
 have l4:=λn:Nat=>KJ (n:=n) 4 4 rfl
 have l6:=λn:Nat=>KJ (n:=n) 6 6 rfl
 have l8:=λn:Nat=>KJ (n:=n) 8 8 rfl
 have dn:∀{p:Prop} [Decidable p],¬p->decide p=false:=λh=>Xr h
 have dy:∀{p:Prop} [Decidable p],p->decide p=true:=λh=>Xz h
 unfold DH
 by_cases h1:4<x.cs.length
 ·simp only[eE,eC,eN,reduceCtorEq,Nat.reduceEqDiff,↓reduceIte,Nat.reduceAdd,Nat.reduceLeDiff,X7,X0,c11,X1 (show(4:Int)<(x.cs.length:Int)by omega),dy h1,X7]
 by_cases h2:3<x.ls.length
 ·simp only[eE,eC,eN,reduceCtorEq,Nat.reduceEqDiff,↓reduceIte,Nat.reduceAdd,Nat.reduceLeDiff,X7,X0,c11,X9 (show ¬(4:Int)<(x.cs.length:Int)by omega),X1 (show(3:Int)<(x.ls.length:Int)by omega),dn h1,dy h2,X7]
 by_cases h3:8<x.qs.length
 ·simp only[eE,eC,eN,reduceCtorEq,Nat.reduceEqDiff,↓reduceIte,Nat.reduceAdd,Nat.reduceLeDiff,X7,X0,c11,X9 (show ¬(4:Int)<(x.cs.length:Int)by omega),X9 (show ¬(3:Int)<(x.ls.length:Int)by omega),X1 (show(8:Int)<(x.qs.length:Int)by omega),dn h1,dn h2,dy h3,X7]
 by_cases h4:6<x.ps.length
 ·simp only[eE,eC,eN,reduceCtorEq,Nat.reduceEqDiff,↓reduceIte,Nat.reduceAdd,Nat.reduceLeDiff,X7,X0,c11,X9 (show ¬(4:Int)<(x.cs.length:Int)by omega),X9 (show ¬(3:Int)<(x.ls.length:Int)by omega),X9 (show ¬(8:Int)<(x.qs.length:Int)by omega),X1 (show(6:Int)<(x.ps.length:Int)by omega),dn h1,dn h2,dn h3,dy h4,X7]
 by_cases h5:3<x.cs.length/\2<x.ls.length
 ·simp only[eE,eC,eN,reduceCtorEq,Nat.reduceEqDiff,↓reduceIte,Nat.reduceAdd,Nat.reduceLeDiff,X7,X0,c11,X9 (show ¬(4:Int)<(x.cs.length:Int)by omega),X9 (show ¬(3:Int)<(x.ls.length:Int)by omega),X9 (show ¬(8:Int)<(x.qs.length:Int)by omega),X9 (show ¬(6:Int)<(x.ps.length:Int)by omega),X1 (show(3:Int)<(x.cs.length:Int)by omega),X1 (show(2:Int)<(x.ls.length:Int)by omega),dn h1,dn h2,dn h3,dn h4,dy h5.1,dy h5.2,X7]
 have hg:(!(decide (4<x.cs.length)||decide (3<x.ls.length)||decide (8<x.qs.length)||decide (6<x.ps.length)||decide (3<x.cs.length)&&decide (2<x.ls.length)))=true:=by
  rw[dn h1,dn h2,dn h3,dn h4]
  by_cases h6:3<x.cs.length
  ·rw[dy h6,dn (λq=>h5 ⟨h6,q⟩)];rfl
  ·rw[dn h6];rfl
 rw[hg,YM]
 by_cases h6:3<x.cs.length
 case' pos=>simp only[eE,eC,eN,reduceCtorEq,Nat.reduceEqDiff,↓reduceIte,Nat.reduceAdd,Nat.reduceLeDiff,X0,c11,X9 (show ¬(4:Int)<(x.cs.length:Int)by omega),X9 (show ¬(3:Int)<(x.ls.length:Int)by omega),X9 (show ¬(8:Int)<(x.qs.length:Int)by omega),X9 (show ¬(6:Int)<(x.ps.length:Int)by omega),X1 (show(3:Int)<(x.cs.length:Int)by omega),X9 (show ¬(2:Int)<(x.ls.length:Int)from λq=>h5 ⟨h6,by omega⟩)]
 case' neg=>simp only[eE,eC,eN,Nat.reduceEqDiff,↓reduceIte,Nat.reduceAdd,Nat.reduceLeDiff,X0,c11,X9 (show ¬(4:Int)<(x.cs.length:Int)by omega),X9 (show ¬(3:Int)<(x.ls.length:Int)by omega),X9 (show ¬(8:Int)<(x.qs.length:Int)by omega),X9 (show ¬(6:Int)<(x.ps.length:Int)by omega),X9 (show ¬(3:Int)<(x.cs.length:Int)by omega)]
 all_goals
  refine AU (λi:Nat=>⟨[(1,true,.ptr 0 0),(3,true,.int .i64 i)],hset hnil 0 (.box (AT x)),2⟩) (λi=>i<=x.qs.length/\∀(j:Nat) q,j<i->x.qs[j]?=some q->fewQ q=true) (λi=>x.qs.length-i) 0 rfl ⟨Xh _,λj q h=>by omega⟩ ?_
  rintro i ⟨hi,hall⟩
  by_cases hlt:i<x.qs.length
  ·have e:=AL (k:=i) (by omega)
   have hg:=X5 hlt
   have hm:=Xk hlt
   generalize x.qs[i]=q at hg hm
   by_cases z1:6<q.cs.length
   ·have hq:fewQ q=false:=by unfold fewQ;rw[dy z1];rfl
    have:x.qs.all fewQ=false:=Zc.2 ⟨q,hm,by rw[hq];decide⟩
    rw[this]
    simp only[eE,eC,eN,reduceCtorEq,Nat.reduceEqDiff,↓reduceIte,Nat.reduceAdd,Nat.reduceLeDiff,X7,X2,X3,X4,X0,X6,AT,lt_T hlt,hg,X1 (show(6:Int)<(q.cs.length:Int)by omega)]
    done
   by_cases z2:6<q.ls.length
   ·have hq:fewQ q=false:=by unfold fewQ;rw[dy z2,Bool.or_true];rfl
    have:x.qs.all fewQ=false:=Zc.2 ⟨q,hm,by rw[hq];decide⟩
    rw[this]
    simp only[eE,eC,eN,Nat.reduceEqDiff,↓reduceIte,Nat.reduceAdd,Nat.reduceLeDiff,X2,X3,X4,X0,X6,AT,lt_T hlt,hg,X9 (show ¬(6:Int)<(q.cs.length:Int)by omega),X1 (show(6:Int)<(q.ls.length:Int)by omega)]
    done
   have hq:fewQ q=true:=by unfold fewQ;rw[dn z1,dn z2];rfl
   simp only[eE,eC,eN,Nat.reduceEqDiff,↓reduceIte,Nat.reduceAdd,Nat.reduceLeDiff,Int.reduceEq,X2,X3,X4,X0,X6,AT,lt_T hlt,hg,X9 (show ¬(6:Int)<(q.cs.length:Int)by omega),X9 (show ¬(6:Int)<(q.ls.length:Int)by omega),e]
   refine .mk (i+1) rfl ⟨hlt,λj y hj hy=>?_⟩ (by omega)
   by_cases w:j<i
   ·exact hall j y w hy
   ·obtain rfl:j=i:=by omega
    rw[hg]at hy;cases hy;exact hq
  obtain rfl:i=x.qs.length:=by omega
  have hqs:x.qs.all fewQ=true:=Xi.2 λq hq=>by
   obtain⟨j,hj,rfl⟩:=Xx.1 hq
   exact hall j _ hj (X5 hj)
  rw[hqs,YM]
  simp only[eE,eC,eN,Nat.reduceEqDiff,↓reduceIte,Nat.reduceAdd,Nat.reduceLeDiff,X0,AT,lt_F hlt]
  refine AU (λi:Nat=>⟨[(1,true,.ptr 0 0),(4,true,.int .i64 i)],hset hnil 0 (.box (AT x)),2⟩) (λi=>i<=x.ps.length/\∀(j:Nat) q,j<i->x.ps[j]?=some q->¬6<q.ls.length) (λi=>x.ps.length-i) 0 rfl ⟨Xh _,λj q h=>by omega⟩ ?_
  rintro i ⟨hi,hall⟩
  by_cases hlt:i<x.ps.length
  ·have e:=AL (k:=i) (by omega)
   have hg:=X5 hlt
   have hm:=Xk hlt
   generalize x.ps[i]=q at hg hm
   by_cases z1:6<q.ls.length
   ·have:(x.ps.all λp=>!decide (6<p.ls.length))=false:=Zc.2 ⟨q,hm,by rw[dy z1];decide⟩
    rw[this]
    simp only[eE,eC,eN,Nat.reduceEqDiff,↓reduceIte,Nat.reduceAdd,Nat.reduceLeDiff,X2,X3,X4,X0,X6,AT,lt_T hlt,hg,X1 (show(6:Int)<(q.ls.length:Int)by omega)]
    done
   simp only[eE,eC,eN,Nat.reduceEqDiff,↓reduceIte,Nat.reduceAdd,Nat.reduceLeDiff,Int.reduceEq,X2,X3,X4,X0,X6,AT,lt_T hlt,hg,X9 (show ¬(6:Int)<(q.ls.length:Int)by omega),e]
   refine .mk (i+1) rfl ⟨hlt,λj y hj hy=>?_⟩ (by omega)
   by_cases w:j<i
   ·exact hall j y w hy
   ·obtain rfl:j=i:=by omega
    rw[hg]at hy;cases hy;exact z1
  obtain rfl:i=x.ps.length:=by omega
  have hps:(x.ps.all λp=>!decide (6<p.ls.length))=true:=Xi.2 λq hq=>by
   obtain⟨j,hj,rfl⟩:=Xx.1 hq
   rw[dn (hall j _ hj (X5 hj))];rfl
  rw[hps]
  simp only[eE,eC,eN,Nat.reduceEqDiff,↓reduceIte,Nat.reduceAdd,Nat.reduceLeDiff,X0,AT,lt_F hlt]
  done
theorem Ud {x:Lma} (h:DH x=true):FewL x:=by
 unfold DH at h
 simp only[X8,Yb,Z9,Ym,Xi]at h
 obtain⟨⟨⟨⟨⟨⟨h1,h2⟩,h3⟩,h4⟩,-⟩,h5⟩,h6⟩:=h
 refine⟨?_,?_,?_,?_,λq hq=>?_,λp hp=>?_⟩
 ·show x.cs.length<1000000000;omega
 ·show x.ls.length<1000000000;omega
 ·show x.qs.length<1000000000;omega
 ·show x.ps.length<1000000000;omega
 ·have:=h5 q hq
  unfold fewQ at this
  simp only[Yb,Z9,Ym]at this
  exact⟨by show q.cs.length<1000000000;omega,by show q.ls.length<1000000000;omega⟩
 ·have:=h6 p hp
  show p.ls.length<1000000000;omega
end Go.AM
namespace Go.AM
open Go.Proofs Go.Lib
theorem Mu {α:Type} {a b:List α} (h:a.length=b.length) (k:∀i,i<a.length->a[i]?=b[i]?):a=b:=Zb λi=>by
 by_cases q:i<a.length
 ·exact k i q
 ·rw[Yk (by omega),Yk (by omega)]
theorem P4 (a b:Cas):ceqs [.int .i64 a.k,.int .i64 a.a] [.int .i64 b.k,.int .i64 b.a]=decide (a=b):=by
 obtain⟨k,m⟩:=a
 obtain⟨k',m'⟩:=b
 simp [ceqs,ceq]
abbrev Hsp (a b:List (List Cas)):AB:=hset (hset hnil 0 (.box [eTr a])) 1 (.box [eTr b])
theorem p16 (a b:List (List Cas)) (ha:CA a):Pur Tryz.prog 16 [BY a,BY b] (.bool (decide (a=b))):=by
 refine .mk ⟨A9 0 a,A9 0 b,trivial⟩ trivial (a16 (AF AH.tnil (AG ?_)))
 have hal:a.length<1000000000:=ha.1
 by_cases hl:a.length=b.length
 case neg=>
  have w1:((a.length:Int)=(b.length:Int))=False:=X9 (by omega)
  have w2:decide ((a.length:Int)=(b.length:Int))=false:=Xr (by omega)
  rw[Xr (λe=>hl (by rw[e]))]
  simp only[eE,eC,eN,reduceCtorEq,Nat.reduceEqDiff,↓reduceIte,Nat.reduceAdd,Xe,X0,c16,w1]
 have w1:((a.length:Int)=(b.length:Int))=True:=X1 (by omega)
 have w2:decide ((a.length:Int)=(b.length:Int))=true:=Xz (by omega)
 simp only[eE,eC,eN,reduceCtorEq,Nat.reduceEqDiff,↓reduceIte,Nat.reduceAdd,X7,X0,c16,w1]
 refine AU (λi:Nat=>⟨[(2,true,.ptr 0 0),(3,true,.ptr 1 0),(5,true,.int .i64 i)],Hsp a b,3⟩) (λi=>i<=a.length/\∀j,j<i->a[j]?=b[j]?) (λi=>a.length-i) 0 rfl ⟨Xh _,λj h=>by omega⟩ ?_
 rintro i ⟨hi,hall⟩
 by_cases hlt:i<a.length
 case neg=>
  obtain rfl:i=a.length:=by omega
  rw[Xz (Mu hl hall)]
  simp only[eE,eC,eN,reduceCtorEq,Nat.reduceEqDiff,↓reduceIte,X0,lt_F hlt]
 have hltb:i<b.length:=by omega
 have e:=AL (k:=i) (by omega)
 have hga:=X5 hlt
 have hgb:=X5 hltb
 have hfa:=ha.2 _ (Xk hlt)
 generalize a[i]=la at hga hfa
 generalize b[i]=lb at hgb
 have hlal:la.length<1000000000:=hfa
 have neAB:la≠lb->a≠b:=λq e=>q (by rw[e,hgb]at hga;exact(Option.some.inj hga).symm)
 by_cases hll:la.length=lb.length
 case neg=>
  have w3:((la.length:Int)=(lb.length:Int))=False:=X9 (by omega)
  have w4:decide ((la.length:Int)=(lb.length:Int))=false:=Xr (by omega)
  rw[Xr (neAB λe=>hll (by rw[e]))]
  simp only[eE,eC,eN,reduceCtorEq,Nat.reduceEqDiff,↓reduceIte,Xe,X2,X3,X4,X0,X6,lt_T hlt,lt_T hltb,hga,hgb,w3]
 have w3:((la.length:Int)=(lb.length:Int))=True:=X1 (by omega)
 have w4:decide ((la.length:Int)=(lb.length:Int))=true:=Xz (by omega)
 simp only[eE,eC,eN,reduceCtorEq,Nat.reduceEqDiff,↓reduceIte,X7,X2,X3,X4,X0,X6,lt_T hlt,lt_T hltb,hga,hgb,w3]
 refine AU (λj:Nat=>⟨[(2,true,.ptr 0 0),(3,true,.ptr 1 0),(5,true,.int .i64 i),(6,true,.int .i64 j)],Hsp a b,3⟩) (λj=>j<=la.length/\∀m,m<j->la[m]?=lb[m]?) (λj=>la.length-j) 0 rfl ⟨Xh _,λj h=>by omega⟩ ?_
 rintro j ⟨hj,hallj⟩
 by_cases hlj:j<la.length
 case neg=>
  obtain rfl:j=la.length:=by omega
  have hab:=Mu hll hallj
  simp only[eE,eC,eN,reduceCtorEq,Nat.reduceEqDiff,↓reduceIte,Int.reduceEq,X2,X3,X4,X0,X6,lt_T hlt,hga,lt_F hlj,e]
  refine .mk (i+1) rfl ⟨hlt,λm hm=>?_⟩ (by omega)
  by_cases q:m<i
  ·exact hall m q
  ·obtain rfl:m=i:=by omega
   rw[hga,hgb,hab]
 have hljb:j<lb.length:=by omega
 have ej:=AL (k:=j) (by omega)
 have hgc:=X5 hlj
 have hgd:=X5 hljb
 generalize la[j]=ca at hgc
 generalize lb[j]=cb at hgd
 have neL:ca≠cb->la≠lb:=λq e=>q (by rw[e,hgd]at hgc;exact(Option.some.inj hgc).symm)
 by_cases hc:ca=cb
 ·subst hc
  simp only[eE,eC,eN,reduceCtorEq,Nat.reduceEqDiff,↓reduceIte,Nat.reduceAdd,Int.reduceEq,X7,X2,X3,X4,X0,X6,lt_T hlt,lt_T hltb,hga,hgb,lt_T hlj,lt_T hljb,hgc,hgd,ej,P4,cfit]
  refine .mk (j+1) rfl ⟨hlj,λm hm=>?_⟩ (by omega)
  by_cases q:m<j
  ·exact hallj m q
  ·obtain rfl:m=j:=by omega
   rw[hgc,hgd]
 ·simp only[eE,eC,eN,reduceCtorEq,Nat.reduceEqDiff,↓reduceIte,Nat.reduceAdd,Xe,X2,X3,X4,X0,X6,lt_T hlt,lt_T hltb,hga,hgb,lt_T hlj,lt_T hljb,hgc,hgd,P4,cfit,B2 hc]
  exact(Xr (neAB (neL hc))).symm
end Go.AM
namespace Go.AM
open Go.Proofs Go.Lib
def En (p:List (List Cas)):Bool:=!decide (130<p.length)&&p.all λt=>!decide (400<t.length)
theorem JO {α:Type} {l:List α} {p:α->Bool} (h:∀(j:Nat) q,j<l.length->l[j]?=some q->p q=true):l.all p=true:=Xi.2 λq hq=>by
 obtain⟨j,hj,rfl⟩:=Xx.1 hq
 exact h j _ hj (X5 hj)
theorem p19 (p:List (List Cas)):Pur Tryz.prog 19 [BY p] (.bool (En p)):=by
 refine .mk ⟨A9 0 p,trivial⟩ trivial (a19 (AF AH.tnil (AG ?_)))
 unfold En
 by_cases h1:130<p.length
 ·rw[Xz h1,X7,YC]
  simp only[eE,eC,eN,Nat.reduceEqDiff,↓reduceIte,X0,c19,X1 (show(130:Int)<(p.length:Int)by omega)]
 rw[Xr h1,Xe,YM]
 simp only[eE,eC,eN,Nat.reduceEqDiff,↓reduceIte,X0,c19,X9 (show ¬(130:Int)<(p.length:Int)by omega)]
 refine AU (λi:Nat=>⟨[(1,true,.ptr 0 0),(3,true,.int .i64 i)],hset hnil 0 (.box [eTr p]),2⟩) (λi=>i<=p.length/\∀(j:Nat) q,j<i->p[j]?=some q->¬400<q.length) (λi=>p.length-i) 0 rfl ⟨Xh _,λj q h=>by omega⟩ ?_
 rintro i ⟨hi,hall⟩
 by_cases hlt:i<p.length
 ·have e:=AL (k:=i) (by omega)
  have hg:=X5 hlt
  have hm:=Xk hlt
  generalize p[i]=q at hg hm
  by_cases z1:400<q.length
  ·have:(p.all λt=>!decide (400<t.length))=false:=Zc.2 ⟨q,hm,by rw[Xz z1];decide⟩
   rw[this]
   simp only[eE,eC,eN,Nat.reduceEqDiff,↓reduceIte,X2,X3,X4,X0,X6,lt_T hlt,hg,X1 (show(400:Int)<(q.length:Int)by omega)]
  simp only[eE,eC,eN,Nat.reduceEqDiff,↓reduceIte,Int.reduceEq,X2,X3,X4,X0,X6,lt_T hlt,hg,X9 (show ¬(400:Int)<(q.length:Int)by omega),e]
  refine .mk (i+1) rfl ⟨hlt,λj y hj hy=>?_⟩ (by omega)
  by_cases w:j<i
  ·exact hall j y w hy
  ·obtain rfl:j=i:=by omega
   rw[hg]at hy;cases hy;exact z1
 obtain rfl:i=p.length:=by omega
 have hp:(p.all λt=>!decide (400<t.length))=true:=JO λj q hj hq=>by
  have:=hall j q hj hq
  simp only[this,ZA,Xe]
 rw[hp]
 simp only[eE,eC,eN,Nat.reduceEqDiff,↓reduceIte,X0,lt_F hlt]
theorem few_pf {p:List (List Cas)} (h:En p=true):CA p:=by
 unfold En at h
 simp only[X8,Yb,Ym,Xi]at h
 exact⟨by show p.length<1000000000;omega,λl hl=>by have:=h.2 l hl;show l.length<1000000000;omega⟩
def Gv (l:Lbr):Bool:=!(decide (5<l.ls.length)||decide (6<l.pf.length))&&l.ls.all DH&&l.pf.all En
def Tfb:Tab:=tadd 11 (s1 dX (λ_=>True) λx=>.bool (DH x)) (tadd 19 (s1 dPf (λ_=>True) λp=>.bool (En p)) tnil)
theorem Tfb_ok:AH Tryz.prog Tfb:=(AH.tnil.add (q1 λp _=>p19 p)).add (q1 λx _=>p11 x)
theorem Tfb_l (a:List AVal) (H:AB):Tfb 11 a H=s1 dX (λ_=>True) (λx=>.bool (DH x)) a H:=rfl
theorem Tfb_p (a:List AVal) (H:AB):Tfb 19 a H=s1 dPf (λ_=>True) (λp=>.bool (En p)) a H:=rfl
theorem p18 (l:Lbr):Pur Tryz.prog 18 [C0 l] (.bool (Gv l)):=by
 refine .mk ⟨Cu 0 l,trivial⟩ trivial (a18 (AF Tfb_ok (AG ?_)))
 unfold Gv
 by_cases h1:5<l.ls.length
 ·rw[Xz h1,Bool.true_or,X7,YC,YC]
  simp only[eE,eC,eN,reduceCtorEq,Nat.reduceEqDiff,↓reduceIte,Nat.reduceAdd,Nat.reduceLeDiff,X7,X0,c18,X1 (show(5:Int)<(l.ls.length:Int)by omega)]
 by_cases h2:6<l.pf.length
 ·rw[Xz h2,Bool.or_true,X7,YC,YC]
  simp only[eE,eC,eN,Nat.reduceEqDiff,↓reduceIte,Nat.reduceAdd,Nat.reduceLeDiff,X0,c18,X9 (show ¬(5:Int)<(l.ls.length:Int)by omega),X1 (show(6:Int)<(l.pf.length:Int)by omega)]
 rw[Xr h1,Xr h2,Bool.or_false,Xe,YM]
 simp only[eE,eC,eN,Nat.reduceEqDiff,↓reduceIte,Nat.reduceAdd,Nat.reduceLeDiff,X0,c18,X9 (show ¬(5:Int)<(l.ls.length:Int)by omega),X9 (show ¬(6:Int)<(l.pf.length:Int)by omega)]
 refine AU (λi:Nat=>⟨[(1,true,.ptr 0 0),(3,true,.int .i64 i)],hset hnil 0 (.box [eLms l.ls,ePfs l.pf]),2⟩) (λi=>i<=l.ls.length/\∀(j:Nat) q,j<i->l.ls[j]?=some q->DH q=true) (λi=>l.ls.length-i) 0 rfl ⟨Xh _,λj q h=>by omega⟩ ?_
 rintro i ⟨hi,hall⟩
 by_cases hlt:i<l.ls.length
 ·have e:=AL (k:=i) (by omega)
  have hg:=X5 hlt
  have hm:=Xk hlt
  generalize l.ls[i]=x at hg hm
  have v1:dX.ok (.agg (AT x))=True:=GY x
  have v2:dX.dec (.agg (AT x))=x:=Dy x
  simp only[AT]at v1 v2
  cases hq:DH x with
  |false=>
   have:l.ls.all DH=false:=Zc.2 ⟨x,hm,by rw[hq];decide⟩
   rw[this,YC]
   simp only[eE,eC,eN,Nat.reduceEqDiff,↓reduceIte,Nat.reduceAdd,Nat.reduceLeDiff,Xe,X2,X3,X4,X0,X6,lt_T hlt,hg,Tfb_l,s1,v1,v2,hq,Xe]
  |true=>
   simp only[eE,eC,eN,Nat.reduceEqDiff,↓reduceIte,Nat.reduceAdd,Nat.reduceLeDiff,Int.reduceEq,X7,X2,X3,X4,X0,X6,lt_T hlt,hg,Tfb_l,s1,v1,v2,hq,X7,e]
   refine .mk (i+1) rfl ⟨hlt,λj y hj hy=>?_⟩ (by omega)
   by_cases w:j<i
   ·exact hall j y w hy
   ·obtain rfl:j=i:=by omega
    rw[hg]at hy;cases hy;exact hq
 obtain rfl:i=l.ls.length:=by omega
 rw[JO hall,YM]
 simp only[eE,eC,eN,Nat.reduceEqDiff,↓reduceIte,Nat.reduceAdd,Nat.reduceLeDiff,X0,lt_F hlt]
 refine AU (λi:Nat=>⟨[(1,true,.ptr 0 0),(4,true,.int .i64 i)],hset hnil 0 (.box [eLms l.ls,ePfs l.pf]),2⟩) (λi=>i<=l.pf.length/\∀(j:Nat) q,j<i->l.pf[j]?=some q->En q=true) (λi=>l.pf.length-i) 0 rfl ⟨Xh _,λj q h=>by omega⟩ ?_
 rintro i ⟨hi,hall⟩
 by_cases hlt:i<l.pf.length
 ·have e:=AL (k:=i) (by omega)
  have hg:=X5 hlt
  have hm:=Xk hlt
  generalize l.pf[i]=x at hg hm
  have v1:dPf.ok (.agg [eTr x])=True:=Mt x
  have v2:dPf.dec (.agg [eTr x])=x:=JM x
  cases hq:En x with
  |false=>
   have:l.pf.all En=false:=Zc.2 ⟨x,hm,by rw[hq];decide⟩
   rw[this]
   simp only[eE,eC,eN,Nat.reduceEqDiff,↓reduceIte,Nat.reduceAdd,Xe,X2,X3,X4,X0,X6,lt_T hlt,hg,Tfb_p,s1,v1,v2,hq,Xe]
  |true=>
   simp only[eE,eC,eN,Nat.reduceEqDiff,↓reduceIte,Nat.reduceAdd,Int.reduceEq,X7,X2,X3,X4,X0,X6,lt_T hlt,hg,Tfb_p,s1,v1,v2,hq,X7,e]
   refine .mk (i+1) rfl ⟨hlt,λj y hj hy=>?_⟩ (by omega)
   by_cases w:j<i
   ·exact hall j y w hy
   ·obtain rfl:j=i:=by omega
    rw[hg]at hy;cases hy;exact hq
 obtain rfl:i=l.pf.length:=by omega
 rw[JO hall]
 simp only[eE,eC,eN,Nat.reduceEqDiff,↓reduceIte,Nat.reduceAdd,X0,lt_F hlt]
theorem few_lb {l:Lbr} (h:Gv l=true):FewB l:=by
 unfold Gv at h
 simp only[X8,Yb,Z9,Ym,Xi]at h
 exact⟨by show l.ls.length<1000000000;omega,by show l.pf.length<1000000000;omega,λx hx=>Ud (h.1.2 x hx),λp hp=>few_pf (h.2 p hp)⟩
end Go.AM
namespace Go.AM
open Go.Proofs Go.Lib
structure IPs (l cells:List Int) (v:VPl):Prop where
 hj:v.j<=l.length
 fr:AN v.H v.n
 tok:tkG 1 0 v.H v.tk
 es:v.tk.esz=1\/(l.take v.j).map (at0 cells)=[]
end Go.AM
namespace Go.AM
open Go.Proofs Go.Lib
end Go.AM
namespace Go.AM
open Go.Proofs Go.Lib
end Go.AM
namespace Go.AM
open Go.Proofs Go.Lib
end Go.AM
namespace Go.AM
open Go.Proofs Go.Lib
structure LsG (e:Nat) (Ls:List (List Int)) (E:List AVal) (tk:Tok) (H:AB) (n:Nat):Prop where
 fr:AN H n
 tok:tkG 1 0 H tk
 es:tk.esz=1\/E=[]
 wk:Wks E (Ls.map eIs)
structure VLs where
 i:Nat
 E:List AVal
 tk:Tok
 H:AB
 n:Nat
end Go.AM
namespace Go.AM
open Go.Proofs Go.Lib
end Go.AM
namespace Go.AM
open Go.Proofs Go.Lib
structure KlOK (k:Knd) (q:Cnd) (letters cells:List Int):Prop where
 cl:ClOK k q letters cells
 ge:∀s∈cells,-1<=s
 h3:q.k=3->q.cs.length=2
structure BgC (x:Lma) (letters:List Int):Prop where
 fx:few x.cs
 c:0<=x.c/\x.c<(x.cs.length:Int)
 l:0<=x.l/\x.l<(letters.length:Int)
structure IBg (x:Lma) (v:VPy):Prop where
 hi:v.i<=x.cs.length
 hn:2<=v.n
 fr:AN v.H v.n
 h0:hget v.H 0=some (.box (AT x))
 tok:tkG 1 1 v.H v.tk
 es:v.tk.esz=1\/v.i=0
end Go.AM
