/-
  The program's Prove · The prover's search for a counterexample · The program's Counter · Libraries: a proof that is righ.
  Conditions: none beyond those of its parts.
-/
import Derived.Test.YtepckdbdfhpggaaGreatB14
import Derived.Test.YtepckdbdfhpggaaGreatB7
import Derived.Test.YtepckdbdfhpggaaGreatB12

set_option maxRecDepth 20000
set_option linter.all false
namespace Go.AM
open Go.Proofs Go.Lib
abbrev noPf:AVal:=.agg [.sl .nil []]
def Gz (vals:List Int) (x:Lma):AVal:=match LE vals x with
 | .error e=>.tup [noPf,.int .i64 e]
 | .ok ts=>.tup [Bg ts,.int .i64 0]
def Cv (k:Knd) (x:Lma):AVal:=if At k x≠0 then .tup [noPf,.int .i64 (At k x)]else Gz (AP k) x
def Tpr:Tab:=tadd 30 (s2 dKn dX (λk x=>FewD k.d/\FewL x) Bc) tnil
theorem Uf:AH Tryz.prog Tpr:=AH.tnil.add (q2 λk x h=>p30 k x h.1 h.2)
theorem Sv (a:List AVal) (H:AB):Tpr 30 a H=s2 dKn dX (λk x=>FewD k.d/\FewL x) Bc a H:=rfl
theorem JP {k:Knd} {x:Lma} (hk:FewD k.d) (hx:FewL x) (h:At k x=0):An k=0/\OKL x:=by
 unfold At at h
 by_cases hc:An k=0
 ·rw[Xc (by simpa using hc)]at h
  exact⟨hc,Ue h⟩
 ·rw[Xh hc]at h;exact absurd h hc
theorem N7 {f:Nat} (h:f<=4):D0 f<=70000:=by
 have:f=0\/f=1\/f=2\/f=3\/f=4:=by omega
 rcases this with rfl|rfl|rfl|rfl|rfl<;>simp [D0]
theorem QB (a b:List (List Cas)):Bk (a++b)=Bk a+Bk b:=by unfold Bk;simp
structure VPv where
 j:Nat
 ts:List (List Cas)
 H:AB
 n:Nat
structure IPv (k:Knd) (x:Lma) (A:List (List Int)) (F:List Int->Option (List Cas)) (v:VPv):Prop where
 hj:v.j<=A.length
 fr:AN v.H v.n
 hn:6<=v.n
 h0:hget v.H 0=some (.box (AD k))
 h1:hget v.H 1=some (.box (AQ x))
 h2:∃tp E,hget v.H 2=some (.box [.sl tp E])/\(Bk v.ts<=65536->Wks E (v.ts.map eCs))/\E.length=v.ts.length/\(tp.esz=1\/E=[])/\tkG 1 6 v.H tp
 h4:hget v.H 4=some (.box [.int .i64 (Bk v.ts)])
 he:allT F A=(allT F (A.drop v.j)).map λt=>v.ts++t
 ln:v.ts.length=v.j
 le:Bk v.ts<=v.j*70000
theorem p12 (k:Knd) (x:Lma) (hk:FewD k.d) (hx:FewL x):Pur Tryz.prog 12 [A3 k,encL x] (Cv k x):=by
 have u1:dKn.ok (.agg (AD k))=True:=Bq k
 have u2:dKn.dec (.agg (AD k))=k:=BH k
 simp only[AD,AE,AK,Xl,Xm]at u1 u2
 have v1:dX.ok (.agg (AQ x))=True:=Fk x
 have v2:dX.dec (.agg (AQ x))=x:=DB x
 simp only[AQ]at v1 v2
 refine .mk ⟨AX 0 k,Ac 0 x,trivial⟩ ?_ (a12 (AF Uf (AG ?_)))
 ·unfold Cv Gz
  split
  ·exact⟨⟨⟨trivial,trivial⟩,trivial⟩,trivial,trivial⟩
  ·split
   ·exact⟨⟨⟨trivial,trivial⟩,trivial⟩,trivial,trivial⟩
   ·exact⟨BQ 0 _,trivial,trivial⟩
 unfold Cv
 by_cases hv:At k x=0
 case neg=>
  have hpv:Bc k x= .tup [.sl .nil [],.int .i64 (At k x)]:=by unfold Bc;rw[Xh hv]
  rw[Xh hv]
  simp only[eE,eC,eN,reduceCtorEq,Nat.reduceEqDiff,↓reduceIte,Nat.reduceAdd,Nat.reduceLT,Xe,X2,Be,Xb,Xf,c12,AD,AE,AK,Sv,s2,u1,u2,v1,v2,X1 hk,X1 hx,hpv,X8 hv]
  exact Wk.refl _
 have hpv:Bc k x= .tup [.sl (.none 1) ((chs k.d.syms.length x.ls.length).map eIs),.int .i64 0]:=by unfold Bc;rw[Xc (by simpa using hv)]
 rw[Xc (by simpa using hv)]
 obtain⟨hck,hox⟩:=JP hk hx hv
 have hsy:=BI hck
 have hvl:(AP k).length=k.d.syms.length:=by unfold AP;rw[X0]
 have hPr:∀l∈chs k.d.syms.length x.ls.length,PrC k x l:=λl hl=>⟨hck,hk,hx,hox,hl⟩
 have hAl:(chs k.d.syms.length x.ls.length).length<=4096:=by
  refine Y7 (LS _ _) (Y7 (Nat.pow_le_pow_left hsy.2 _) (Y7 (Nat.pow_le_pow_right (by decide) (show x.ls.length<=3 from hox.ls.2.2.2)) (by decide)))
 obtain⟨F,hF⟩:∃F:List Int->Option (List Cas),(λletters=>B7 (AP k) x letters x.cs.length (begC x letters))=F:=⟨_,rfl⟩
 have hFs:∀l,F l=B7 (AP k) x l x.cs.length (begC x l):=λl=>by rw[<-hF]
 have htp:Fi (AP k) x=allT F (chs k.d.syms.length x.ls.length):=by unfold Fi;rw[hF,hvl]
 unfold Gz LE
 rw[htp]
 simp only[eE,eC,eN,reduceCtorEq,Nat.reduceEqDiff,↓reduceIte,Nat.reduceAdd,Nat.reduceLT,X7,X2,X0,Xb,Xf,c12,AD,AE,AK,Sv,s2,u1,u2,v1,v2,X1 hk,X1 hx,hpv]
 generalize chs k.d.syms.length x.ls.length=A at hPr hAl
 have hx4:=hox.cs.2.2.2
 have hgm:=N7 hx4
 refine AU (λv:VPv=>⟨[(2,true,.ptr 0 0),(3,true,.ptr 1 0),(4,true,.ptr 2 0),(7,true,.ptr 4 0),(22,true,.sl (.none 1) (A.map eIs)),(23,true,.int .i64 A.length),(24,true,.int .i64 v.j)],v.H,v.n⟩) (IPv k x A F) (λv=>A.length-v.j)
  ⟨0,[],_,6⟩ rfl ⟨Xg _,?_,Xa _,rfl,rfl,⟨.nil,[],rfl,λ_=>.nil,rfl,.inr rfl,.inl rfl⟩,rfl,by simp,rfl,by simp [Bk]⟩ ?_
 ·simp only[]
  repeat' (first|exact AN.nil.hset (m:=6) (Xg _) (by decide)|refine AN.hset ?_ (Xa _) (by decide))
 rintro⟨j,ts,H,n⟩ ⟨hj,hf,hn,h0,h1,⟨tp,E,h2,hE,hEl,hEz,htk⟩,h4,he,hln,hle⟩
 simp only at hj hf hn h0 h1 h2 hE hEl hEz htk h4 he hln hle
 have h0':=h0
 have h1':=h1
 simp only[AD,AE,AK,Xl,Xm]at h0
 simp only[AQ]at h1
 by_cases hlt:j<A.length
 case neg=>
  obtain rfl:j=A.length:=by omega
  rw[Yt,allT,Y5,Xz]at he
  rw[he]
  simp only[]
  by_cases hN:65536<Bk ts
  ·have w1:((65536:Int)<(Bk ts:Int))=True:=X1 (by omega)
   have w2:decide ((65536:Int)<(Bk ts:Int))=true:=Xv (by omega)
   rw[Xh hN]
   simp only[eE,eC,eN,Nat.reduceEqDiff,↓reduceIte,Be,lt_F hlt,h4,h2,w1]
   exact Wk.refl _
  ·have w1:((65536:Int)<(Bk ts:Int))=False:=X8 (by omega)
   have w2:decide ((65536:Int)<(Bk ts:Int))=false:=Xr (by omega)
   rw[Xc hN]
   simp only[eE,eC,eN,Nat.reduceEqDiff,↓reduceIte,Be,lt_F hlt,h4,h2,w1]
   exact Wk.tup (.cons (Wk.agg (.cons (Wk.slx hEz (hE (by omega))) .nil)) (.cons (Wk.refl _) .nil))
 have e:=AI (k:=j) (by omega)
 have hg:=X5 hlt
 have hdr:=Xy hlt
 have hpr:=hPr _ (Xi hlt)
 rw[hdr,allT]at he
 generalize A[j]=l at hg hpr he
 have y1:(n=0)=False:=X8 (by omega)
 have y2:(n=1)=False:=X8 (by omega)
 simp only[eE,eC,eN,Nat.reduceEqDiff,↓reduceIte,Nat.reduceAdd,Nat.reduceLeDiff,X2,X3,X4,X0,X6,lt_T hlt,hg,fr0 hf,h0,h1,y1,y2]
 generalize hH1:hset H n (AObj.box [.sl .nil []])=H1
 have hf1:AN H1 (n+1):=by rw[<-hH1];exact hf.hset (by omega) (by omega)
 have k1:∀i,i<n->hget H1 i=hget H i:=λi hi=>by rw[<-hH1,AA _ _ _ _ (by omega)]
 have hP1:NdP 4 n (Bk ts) [] H1 .nil:=⟨(k1 4 (by omega)).trans h4,⟨[],by rw[<-hH1,AC],λ_=>.nil,.inr rfl⟩,.inl rfl,Xg _⟩
 have hjA:j*70000<=4096*70000:=YK _ (by omega)
 refine(Su hpr (by omega) (by omega) hf1 hP1).mono ?_
 rintro o H2 n2 ⟨hf2,hn2,tl,htl,hk2,hres⟩
 rw[<-hFs]at hres
 have k2:∀i,i<n->i≠4->hget H2 i=hget H i:=λi hi hne=>(hk2 i (by omega) hne (by omega) (λe q=>by cases q)).trans (k1 i hi)
 have g2:=(k2 2 (by omega) (by decide)).trans h2
 cases hFl:F l with
 |none=>
  rw[hFl]at hres he
  obtain rfl:o= .ret (.bool false):=hres
  simp only[YP]at he
  rw[he]
  simp only[]
  simp only[eE,eC,eN,Nat.reduceEqDiff,↓reduceIte,Xe,Be,retK,Xe,g2]
  exact Wk.refl _
 |some t=>
  rw[hFl]at hres he
  obtain⟨rfl,hP2⟩:=hres
  rw[Xm]at hP2
  obtain⟨hN2,⟨E2,hT2,hE2,hz2⟩,htk2,-⟩:=hP2
  have htp:tkG 1 6 H2 tp:=by
   rcases htk with rfl|rfl|⟨p,rfl,p1,p2⟩
   ·exact .inl rfl
   ·exact .inr (.inl rfl)
   ·exact .inr (.inr ⟨p,rfl,p1,(k2 p (hf.lt p2) (by omega)).trans p2⟩)
  have q1:Bh H2 1 tp=True:=X1 htp.app
  have q2:(E.length<=35184372088831)=True:=X1 (by omega)
  have q3:Ar (E.length+1) 24=True:=X1 (AY (by omega) (by decide))
  have kk2:hget (AW H2 tp) 2=hget H2 2:=Af htp (.inl (by decide))
  have y3:(n2+4=2)=False:=X8 (by omega)
  simp only[eE,eC,eN,reduceCtorEq,Nat.reduceEqDiff,↓reduceIte,Nat.reduceLeDiff,Nat.reduceMul,Nat.reduceLT,Int.reduceEq,X7,retK,X7,g2,hT2,q1,q2,q3,kk2,y3,fr1 hf2,e]
  have hgl:=JO (vals:=AP k) (x:=x) (letters:=l) (by omega) x.cs.length _ t (by rw[<-hFs];exact hFl)
  have hnd:Bk (ts++[t])=Bk ts+t.length:=by rw[QB];simp [Bk]
  have hlow:∀i,i<2\/i=4->hget (hset (hset (AW H2 tp) (n2+4) .tok) 2 (.box [.sl (.own (n2+4) 1) (E++[.sl tl E2])])) i=hget H2 i:=λi hi=>by
   rw[AA _ _ _ _ (by omega),AA _ _ _ _ (by omega),Af htp (.inl (by omega))]
  refine .mk ⟨j+1,ts++[t],hset (hset (AW H2 tp) (n2+4) .tok) 2 (.box [.sl (.own (n2+4) 1) (E++[.sl tl E2])]),n2+7⟩ rfl ⟨hlt,((Ae htp hf2).hset (m:=n2+7) (by omega) (by omega)).hset (m:=n2+7) (Xa _) (by omega),by simp only[];omega,?_,?_,⟨.own (n2+4) 1,_,AC ..,λhN=>?_,by simp only[Xo,Xn,Yr];omega,.inl rfl,.inr (.inr ⟨n2+4,rfl,by omega,?_⟩)⟩,?_,?_,by simp only[Xo,Xn,Yr];omega,?_⟩ (by simp only[];omega)
  ·rw[hlow 0 (by omega),k2 0 (by omega) (by decide)];exact h0'
  ·rw[hlow 1 (by omega),k2 1 (by omega) (by decide)];exact h1'
  ·simp only[hnd]at hN
   rw[Xk]
   exact(hE (by omega)).app (.cons (Wk.slx hz2 (hE2 (by omega))) .nil)
  ·rw[AA _ _ _ _ (by omega),AC]
  ·rw[hlow 4 (.inr rfl),hN2];simp only[hnd]
  ·simp only[]
   rw[he,Option.map_map]
   congr 1
   funext b
   simp
  ·simp only[hnd];rw[Yi];omega
end Go.AM
namespace Go.AM
open Go.Proofs Go.Lib
def Tyc (k:Knd) (x:Lma) (letters:List Int):Tab:=tadd 38 (Dw k x letters) (tadd 39 H9 tnil)
theorem Tyc_ok {k:Knd} {x:Lma} {letters:List Int} (h:PrC k x letters):AH Tryz.prog (Tyc k x letters):=(AH.tnil.add UT).add (QA h)
theorem Tyc_p (k:Knd) (x:Lma) (letters:List Int) (a:List AVal) (H:AB):Tyc k x letters 38 a H=Dw k x letters a H:=rfl
theorem Tyc_c (k:Knd) (x:Lma) (letters:List Int) (a:List AVal) (H:AB):Tyc k x letters 39 a H=H9 a H:=rfl
structure CxL (k:Knd) (x:Lma) (letters:List Int) (q10 q11 L l':Nat) (env:List (Nat×Bool×AVal)) (H:AB):Prop where
 h2:hget H 2=some (.box [.sl .nil []])
 h3:hget H 3=some (.box [.sl .nil []])
 h4:hget H 4=some (.box [.bool false])
 h10:hget H q10=some (.box [eIs letters])
 h11:hget H q11=some (.box (Ad k x letters))
 hL:hget H L=some (.lp ⟨l',.ready,none,46,env, #[34],HZ,Hc⟩)
def CxF (letters c:List Int) (L l':Nat) (env:List (Nat×Bool×AVal)) (H:AB):Prop:=
 hget H 2=some (.box [eIs letters])/\hget H 3=some (.box [eIs c])/\hget H 4=some (.box [.bool true])/\hget H L=some (.lp ⟨l',.done,some (.exit 0),46,env, #[34],HZ,Hc⟩)
abbrev eCx (q10 q11:Nat) (rest:List (Nat×Bool×AVal)):List (Nat×Bool×AVal):=[(2,true,.ptr 0 0),(3,true,.ptr 1 0),(4,true,.ptr 2 0),(5,true,.ptr 3 0),(6,true,.ptr 4 0),(7,true,.int .i64 0),(10,true,.ptr q10 0),(11,true,.ptr q11 0)]++rest
theorem y_cx {k:Knd} {x:Lma} {letters cells:List Int} (h:PrC k x letters) {q10 q11 L l' n id:Nat} {rest:List (Nat×Bool×AVal)} {H:AB} {R:Bool->AB->Nat->Prop} (hf:AN H n) (hl5:5<=L)
  (hX:CxL k x letters q10 q11 L l' (eCx q10 q11 rest) H) (hid:hget H id=some (.arr 1 (cells.map eI))) (hC:ClP k x cells)
  (hT:A1 (AP k) x letters cells=false->∀H' n',AN H' n'->n<=n'->(∀i,i<n->hget H' i=hget H i)->R true H' n')
  (hF:A1 (AP k) x letters cells=true->∀H' n',CxF letters cells L l' (eCx q10 q11 rest) H'->R false H' n'):
  BX Tryz.prog l' [.ref id 1 0 x.cs.length x.cs.length] H n R:=by
 obtain⟨h2,h3,h4,h10,h11,hL⟩:=hX
 have xL:=hf.lt hL
 have hRI:∀H',hget H' id=hget H id->RdI H' (.ref id 1 0 x.cs.length x.cs.length) cells:=λH' e=>.inr ⟨id,_,[],by rw[hC.cl.len],by rw[e,Xz];exact hid,by rw[hC.cl.len];exact Xa _⟩
 have hneL:∀i ob,hget H i=some ob->(∀z,ob≠ .lp z)->L≠i:=λi ob hi hn e=>by rw[<-e,hL]at hi;cases hi;exact hn _ rfl
 refine y14_0 hL rfl (AF AH.tnil (AG ?_))
 simp only[eE,eN,Nat.reduceEqDiff,↓reduceIte,RZ,renv,Z2,Zj,YG,Zs]
 refine⟨_,hL,rfl,AF (Tyc_ok h) (AG ?_)⟩
 generalize hH1:hset H L _=H1
 have k1:∀i,i≠L->hget H1 i=hget H i:=λi hi=>by rw[<-hH1,AA _ _ _ _ (Ne.symm hi)]
 have hf1:AN H1 n:=by rw[<-hH1];exact hf.hset (Xa _) xL
 have hL1:hget H1 L=some (.lp ⟨l',.busy,none,46,eCx q10 q11 rest, #[34],HZ,Hc⟩):=by rw[<-hH1,AC]
 have n11:=hneL _ _ h11 (λz e=>by cases e)
 have n10:=hneL _ _ h10 (λz e=>by cases e)
 have nid:=hneL _ _ hid (λz e=>by cases e)
 have a11:=(k1 q11 (Ne.symm n11)).trans h11
 have a10:=(k1 q10 (Ne.symm n10)).trans h10
 have aid:=hRI H1 (k1 id (Ne.symm nid))
 have r1:=Gu aid
 have a2:=(k1 2 (by omega)).trans h2
 have a3:=(k1 3 (by omega)).trans h3
 have a4:=(k1 4 (by omega)).trans h4
 simp only[Ad,AD,AE,AK,AQ,Xl,Xm]at a11
 have eP1:(AVal.agg [.str k.d.nm,.int .i64 k.d.ver,.int .i64 k.d.sh,.int .i64 k.d.w,.int .i64 k.d.h,eIs k.d.holes,eSys k.d.syms,eRgs k.d.regs,eCls k.d.clus,eRus k.d.ruls,.int .i64 k.g.sh,.int .i64 k.g.w,.int .i64 k.g.h,eIs k.g.holes,eIs k.g.cells,eLl k.nb,eLLs k.ls,.str x.nm,.int .i64 x.lv,eSs x.cs,eSs x.ls,.sl (.none 4) (x.qs.map encQ),.sl (.none 2) (x.ps.map encM),.int .i64 x.c,.int .i64 x.l,eIs letters]=IA k x letters)=True:=X1 rfl
 have hx4:=h.ox.cs.2.2.2
 have hfew:few cells:=by show cells.length<_;rw[hC.cl.len];omega
 cases hb:A1 (AP k) x letters cells with
 |false=>
  have hcn:∃c:Nat,Dz (AP k) x letters cells=(c:Int):=by
   unfold Dz
   cases hfc:C9 (AP k) x letters cells with
   |none=>rw[Cs.1 hfc]at hb;cases hb
   |some c=>exact⟨c,rfl⟩
  obtain⟨c,hcn⟩:=hcn
  have w1:((c:Int)<0)=False:=X8 (by omega)
  have w2:decide ((c:Int)<0)=false:=Xr (by omega)
  simp only[eE,eC,eN,Nat.reduceEqDiff,↓reduceIte,Nat.reduceAdd,NQ,a11,Tyc_p,Dw,eP1,r1,X1 aid,X1 hC,hcn,w1]
  refine⟨⟨l',.busy,none,46,eCx q10 q11 rest, #[34],HZ,Hc⟩,hL1,hT hb _ _ (hf1.hset (m:=n) (Xa _) xL) (Xa _) λi hi=>?_⟩
  rw[AJ]
  split
  ·rename_i e;rw[<-e];exact hL.symm
  ·rename_i e;exact k1 i (Ne.symm e)
 |true=>
  have hcn:Dz (AP k) x letters cells= -1:=by unfold Dz;rw[Cs.2 hb]
  simp only[eE,eC,eN,reduceCtorEq,Nat.reduceEqDiff,↓reduceIte,Nat.reduceAdd,Int.reduceLT,NQ,a11,a10,a2,a3,a4,Tyc_p,Tyc_c,H9,Dw,eP1,r1,X1 aid,X1 hC,hcn,X1 hfew]
  refine⟨⟨l',.busy,none,46,eCx q10 q11 rest, #[34],HZ,Hc⟩,?_,hF hb _ _ ⟨?_,?_,?_,AC ..⟩⟩
  ·rw[AA _ _ _ _ (by omega),AA _ _ _ _ (by omega),AA _ _ _ _ (by omega)];exact hL1
  ·rw[AA _ _ _ _ (by omega),AA _ _ _ _ (by omega),AA _ _ _ _ (by omega),AC]
  ·rw[AA _ _ _ _ (by omega),AA _ _ _ _ (by omega),AC]
  ·rw[AA _ _ _ _ (by omega),AC]
structure ChC (k:Knd) (x:Lma) (letters:List Int) (d1 d2 d3 d4 id l':Nat) (H:AB):Prop where
 h1:hget H d1=some (.box [.ref id 1 0 x.cs.length x.cs.length])
 h2:hget H d2=some (.box [.fn (.yield l') [] []])
 h3:hget H d3=some (.box (Ad k x letters))
 h4:hget H d4=some (.box [.fn (.func 71) [] [.ptr d1 0,.ptr d2 0,.ptr d3 0,.ptr d4 0]])
theorem ChC.keep {k:Knd} {x:Lma} {letters:List Int} {d1 d2 d3 d4 id l' n:Nat} {H H':AB} (h:ChC k x letters d1 d2 d3 d4 id l' H) (hid:∃L,hget H id=some (.arr 1 L)) (hf:AN H n) (hk:CQ id n H H'):ChC k x letters d1 d2 d3 d4 id l' H':=by
 obtain⟨L,hid⟩:=hid
 have key:∀c cs,hget H c=some (.box cs)->hget H' c=some (.box cs):=λc cs hc=>by
  rw[hk c (hf.lt hc) (λe=>by rw[e,hid]at hc;cases hc)];exact hc
 obtain⟨h1,h2,h3,h4⟩:=h
 exact⟨key _ _ h1,key _ _ h2,key _ _ h3,key _ _ h4⟩
theorem CxL.keep {k:Knd} {x:Lma} {letters:List Int} {q10 q11 L l' n id:Nat} {env:List (Nat×Bool×AVal)} {H H':AB} (h:CxL k x letters q10 q11 L l' env H) (hid:∃L,hget H id=some (.arr 1 L)) (hf:AN H n) (hk:CQ id n H H'):CxL k x letters q10 q11 L l' env H':=by
 obtain⟨A,hid⟩:=hid
 have key:∀c ob,hget H c=some ob->(∀A,ob≠ .arr 1 A)->hget H' c=some ob:=λc ob hc hn=>by
  rw[hk c (hf.lt hc) (λe=>by rw[e,hid]at hc;cases hc;exact hn _ rfl)];exact hc
 obtain⟨h2,h3,h4,h10,h11,hL⟩:=h
 exact⟨key _ _ h2 (λA e=>by cases e),key _ _ h3 (λA e=>by cases e),key _ _ h4 (λA e=>by cases e),key _ _ h10 (λA e=>by cases e),key _ _ h11 (λA e=>by cases e),key _ _ hL (λA e=>by cases e)⟩
def agree (i:Nat) (a b:List Int):Prop:=a.length=b.length/\∀k,k<i->a[k]?=b[k]?
theorem QC {m:Nat} {x:Lma} {letters:List Int}:∀(j i:Nat) (a b:List Int),i+j=a.length->agree i a b->asgP m x letters j i a=asgP m x letters j i b
 |0,i,a,b,hij,h=>by
  have:a=b:=Zk λk=>by
   by_cases q:k<i
   ·exact h.2 k q
   ·rw[Yp (by omega),Yp (by have:=h.1;omega)]
  rw[this]
 |j+1,i,a,b,hij,h=>by
  rw[asgP,asgP]
  congr 1
  funext s
  refine QC j (i+1) _ _ (by rw[Yv];omega) ⟨by rw[Yv,Yv];exact h.1,λk hk=>?_⟩
  rw[Yl,Yl,h.1]
  split
  ·rfl
  ·exact h.2 k (by omega)
def ChP (k:Knd) (letters:List Int) (L l':Nat) (env:List (Nat×Bool×AVal)) (id n i:Nat) (H:AB) (cells:List Int) (r:Option (List Int)):AOut->AB->Nat->Prop:=λo H' n'=>match r with
 |none=>o= .ret (.bool true)/\AN H' n'/\n<=n'/\CQ id n H H'/\∃cells',hget H' id=some (.arr 1 (cells'.map eI))/\agree i cells cells'/\∀s∈cells',okSy k s
 |some c=>o= .ret (.bool false)/\CxF letters c L l' env H'
def ChG (k:Knd) (x:Lma) (letters:List Int) (q10 q11 L l' d1 d2 d3 d4 id:Nat) (rest:List (Nat×Bool×AVal)) (j:Nat):Prop:=∀(i:Nat) (cells:List Int) (H:AB) (n:Nat),i+j=x.cs.length->cells.length=x.cs.length->(∀s∈cells,okSy k s)->AN H n->ChC k x letters d1 d2 d3 d4 id l' H->CxL k x letters q10 q11 L l' (eCx q10 q11 rest) H->hget H id=some (.arr 1 (cells.map eI))->
 AO Tryz.prog 71 [.int .i64 i,.ptr d1 0,.ptr d2 0,.ptr d3 0,.ptr d4 0] H n (ChP k letters L l' (eCx q10 q11 rest) id n i H cells ((asgP k.d.syms.length x letters j i cells).find? λc=>A1 (AP k) x letters c))
structure VCx where
 s:Nat
 c:List Int
 H:AB
 n:Nat
structure ICx (k:Knd) (id n0 i:Nat) (H0:AB) (cells:List Int) (r:Option (List Int)) (rest:Nat->Option (List Int)) (v:VCx):Prop where
 hs:v.s<=k.d.syms.length
 fr:AN v.H v.n
 hn:n0<=v.n
 kp:CQ id n0 H0 v.H
 ar:hget v.H id=some (.arr 1 (v.c.map eI))
 ag:agree i cells v.c
 ok:∀s∈v.c,okSy k s
 he:r=rest v.s
theorem QD {i:Nat} {a b:List Int} {s:Int} (h:agree i a b):agree (i+1) (a.set i s) (b.set i s):=⟨by rw[Yv,Yv];exact h.1,λk hk=>by
 rw[Yl,Yl,h.1]
 split
 ·rfl
 ·exact h.2 k (by omega)⟩
theorem KI {k:Knd} {x:Lma} {letters:List Int} (h:PrC k x letters) (q10 q11 L l' d1 d2 d3 d4 id:Nat) (rest:List (Nat×Bool×AVal)) (hl5:5<=L) (j:Nat) (ih:∀j',j=j'+1->ChG k x letters q10 q11 L l' d1 d2 d3 d4 id rest j'):ChG k x letters q10 q11 L l' d1 d2 d3 d4 id rest j:=by
 intro i cells H n hij hcl hok hf hG hX hid
 have hG0:=hG
 obtain⟨h1,h2,h3,h4⟩:=hG0
 have hC:∀c:List Int,c.length=x.cs.length->(∀s∈c,okSy k s)->ClP k x c:=λc e hc=>⟨⟨e,λs hs _=>hc s hs⟩,λs hs=>by have:=(hc s hs).1;omega⟩
 have h3':=h3
 simp only[Ad,AD,AE,AK,AQ,Xl,Xm]at h3'
 refine a71 (AF AH.tnil (AG ?_))
 cases j with
 |zero=>
  have hi:((i:Int)=(x.cs.length:Int))=True:=X1 (by omega)
  have hd:decide ((i:Int)=(x.cs.length:Int))=true:=Xv (by omega)
  simp only[eE,eC,eN,reduceCtorEq,Nat.reduceEqDiff,↓reduceIte,Nat.reduceAdd,c71,h1,h2,hi]
  rw[asgP,List.find?_cons,List.find?_nil]
  refine y_cx h (rest:=rest) hf hl5 hX hid (hC _ hcl hok) (λhb H' n' a1 a2 a3=>?_) (λhb H' n' a1=>?_)
  ·simp only[eE,eN,↓reduceIte,yldK]
   rw[hb]
   exact⟨rfl,a1,a2,λz z1 _=>a3 z z1,cells,(a3 id (hf.lt hid)).trans hid,⟨rfl,λ_ _=>rfl⟩,hok⟩
  ·simp only[eE,eN,↓reduceIte,yldK]
   rw[hb]
   exact⟨rfl,a1⟩
 |succ j=>
 have ih:=ih j rfl
 have hi:((i:Int)=(x.cs.length:Int))=False:=X8 (by omega)
 have hsy:=BI h.ck
 have il:i<x.cs.length:=by omega
 have hx4:=h.ox.cs.2.2.2
 have e1:=AI (k:=i) (by omega)
 have il3:((i:Int)<(x.cs.length:Int))=True:=X1 (by omega)
 obtain⟨G,hG'⟩:∃G:Int->List (List Int),(λs=>asgP k.d.syms.length x letters j (i+1) (cells.set i s))=G:=⟨_,rfl⟩
 obtain⟨p,hp⟩:∃p:Int->Bool,(λs=>decide ((i:Int)≠x.c)||decide (s=at0 letters x.l))=p:=⟨_,rfl⟩
 rw[asgP,hG',hp]
 have hGs:∀s,G s=asgP k.d.syms.length x letters j (i+1) (cells.set i s):=λs=>by rw[<-hG']
 have hps:∀s,p s=(decide ((i:Int)≠x.c)||decide (s=at0 letters x.l)):=λs=>by rw[<-hp]
 simp only[eE,eC,eN,reduceCtorEq,Nat.reduceEqDiff,↓reduceIte,Nat.reduceAdd,Nat.reduceLeDiff,X0,c71,h1,h3',hi]
 refine AU (λv:VCx=>⟨[(0,true,.int .i64 i),(1,true,.ptr d1 0),(3,true,.ptr d3 0),(4,true,.ptr d4 0),(19,true,.int .i64 k.d.syms.length),(20,true,.int .i64 v.s)],v.H,v.n⟩) (ICx k id n i H cells ((((symI k.d.syms.length).filter p).flatMap G).find? λc=>A1 (AP k) x letters c) (λs=>((((symI k.d.syms.length).drop s).filter p).flatMap G).find? λc=>A1 (AP k) x letters c)) (λv=>k.d.syms.length-v.s)
  ⟨0,cells,H,n⟩ rfl ⟨Xg _,hf,Xa _,CQ.refl _,hid,⟨rfl,λ_ _=>rfl⟩,hok,rfl⟩ ?_
 rintro⟨s,c,H1,n1⟩ ⟨hs,hf1,hn1,hk1,har,hag,hok1,he⟩
 simp only at hs hf1 hn1 hk1 har hag hok1 he
 rw[he]
 by_cases hlt:s<k.d.syms.length
 case neg=>
  obtain rfl:s=k.d.syms.length:=by omega
  rw[YZ (by unfold symI;simp)]
  simp only[eE,eC,eN,reduceCtorEq,Nat.reduceEqDiff,↓reduceIte,lt_F hlt]
  exact⟨rfl,hf1,hn1,hk1,c,har,hag,hok1⟩
 have e:=AI (k:=s) (by omega)
 have hd:=Mm hlt
 have hG1:=hG.keep ⟨_,hid⟩ hf hk1
 have hX1:=hX.keep ⟨_,hid⟩ hf hk1
 obtain⟨g1,g2,g3,g4⟩:=hG1
 simp only[Ad,AD,AE,AK,AQ,Xl,Xm]at g3
 have hxl:=h.ox.l
 rw[<-h.rd.ll]at hxl
 have hgl:=As hxl.1 hxl.2
 have w5:(0<=x.l)=True:=X1 hxl.1
 have w6:(x.l<(letters.length:Int))=True:=X1 hxl.2
 have hcl1:c.length=x.cs.length:=by rw[<-hag.1];exact hcl
 have il2:(i<c.length)=True:=X1 (by omega)
 have hps':=hps (s:Int)
 generalize at0 letters x.l=lt at hgl hps'
 by_cases hpv:p (s:Int)=true
 case neg=>
  have hpv':p (s:Int)=false:=by simpa using hpv
  rw[hd,List.filter_cons_of_neg hpv]
  rw[hpv']at hps'
  have hbo:=Z6.1 hps'.symm
  have hic:(i:Int)=x.c:=by simpa using hbo.1
  have hsl:¬(s:Int)=lt:=by simpa using hbo.2
  simp only[eE,eC,eN,reduceCtorEq,Nat.reduceEqDiff,↓reduceIte,Nat.reduceAdd,Nat.reduceLeDiff,Int.reduceEq,Xe,X2,X0,X6,lt_T hlt,g3,X1 hic,w5,w6,hgl,X8 hsl,Xe,e]
  exact .mk ⟨s+1,c,H1,n1⟩ rfl ⟨hlt,hf1,hn1,hk1,har,hag,hok1,rfl⟩ (by simp only[];omega)
 rw[hd,List.filter_cons_of_pos hpv,Zw,List.find?_append]
 have est:(c.map eI).set i (.int .i64 (s:Int))=(c.set i (s:Int)).map eI:=by
  rw[show(.int .i64 (s:Int):AVal)=eI (s:Int)from rfl,<-List.map_set]
 have y4:(id=d4)=False:=X8 λq=>by rw[q,g4]at har;cases har
 have hbr:¬(i:Int)=x.c\/(i:Int)=x.c/\(s:Int)=lt:=by
  rw[hpv]at hps'
  rcases Bool.or_eq_true_iff.1 hps'.symm with q|q
  ·exact .inl (by simpa using q)
  ·by_cases z:(i:Int)=x.c
   ·exact .inr ⟨z,by simpa using q⟩
   ·exact .inl z
 rcases hbr with hic|⟨hic,hsl⟩
 case' inl=>simp only[eE,eC,eN,reduceCtorEq,Nat.reduceEqDiff,↓reduceIte,Nat.reduceAdd,Nat.reduceLeDiff,Int.reduceEq,X2,X3,X4,X0,X6,lt_T hlt,g3,X8 hic,w5,w6,hgl,g1,har,il2,il3,est,g4,y4,e1]
 case' inr=>simp only[eE,eC,eN,reduceCtorEq,Nat.reduceEqDiff,↓reduceIte,Nat.reduceAdd,Nat.reduceLeDiff,Int.reduceEq,X7,X2,X3,X4,X0,X6,lt_T hlt,g3,X1 hic,w5,w6,hgl,X1 hsl,X7,g1,har,il2,il3,est,g4,y4,e1]
 all_goals
  generalize hH2:hset H1 id (AObj.arr 1 ((c.set i (s:Int)).map eI))=H2
  have hidn:=hf1.lt har
  have hf2:AN H2 n1:=by rw[<-hH2];exact hf1.hset (Xa _) hidn
  have ha2:hget H2 id=some (.arr 1 ((c.set i (s:Int)).map eI)):=by rw[<-hH2,AC]
  have hk2:CQ id n H H2:=by rw[<-hH2];exact hk1.set
  have hok2:∀z∈c.set i (s:Int),okSy k z:=λz hz=>by
   rcases YC hz with q|q
   ·exact hok1 z q
   ·rw[q];exact⟨by omega,by omega⟩
  have hag2:agree (i+1) (cells.set i (s:Int)) (c.set i (s:Int)):=QD hag
  have hasg:asgP k.d.syms.length x letters j (i+1) (c.set i (s:Int))=G (s:Int):=by
   rw[hGs]
   exact(QC j (i+1) _ _ (by rw[Yv];omega) hag2).symm
  refine(ih (i+1) (c.set i (s:Int)) H2 n1 (by omega) (by rw[Yv];exact hcl1) hok2 hf2 (hG.keep ⟨_,hid⟩ hf hk2) (hX.keep ⟨_,hid⟩ hf hk2) ha2).mono ?_
  rintro o H3 n3 hr
  rw[hasg]at hr
  cases hfd:(G (s:Int)).find? λc=>A1 (AP k) x letters c with
  |some c2=>
   rw[hfd]at hr
   obtain⟨rfl,hr⟩:=hr
   rw[Option.some_or]
   simp only[eE,eC,eN,reduceCtorEq,Nat.reduceEqDiff,↓reduceIte,Xe,retK,Xe]
   exact⟨rfl,hr⟩
  |none=>
   rw[hfd]at hr
   obtain⟨rfl,r1,r2,r3,c3,r4,r5,r6⟩:=hr
   rw[Option.none_or]
   simp only[eE,eC,eN,reduceCtorEq,Nat.reduceEqDiff,↓reduceIte,Int.reduceEq,X7,retK,X7,e]
   refine .mk ⟨s+1,c3,H3,n3⟩ rfl ⟨hlt,r1,by simp only[];omega,hk2.trans r3 hn1,r4,?_,r6,rfl⟩ (by simp only[];omega)
   refine⟨?_,λz hz=>?_⟩
   ·have:=r5.1
    rw[Yv]at this
    rw[hag.1];exact this
   ·have:=r5.2 z (by omega)
    rw[Yl,Xc (by omega)]at this
    rw[hag.2 z hz];exact this
theorem Mo {k:Knd} {x:Lma} {letters:List Int} (h:PrC k x letters) (q10 q11 L l' d1 d2 d3 d4 id:Nat) (rest:List (Nat×Bool×AVal)) (hl5:5<=L):∀j,ChG k x letters q10 q11 L l' d1 d2 d3 d4 id rest j
 |0=>KI h q10 q11 L l' d1 d2 d3 d4 id rest hl5 0 λj' hj=>by omega
 |j+1=>KI h q10 q11 L l' d1 d2 d3 d4 id rest hl5 (j+1) λj' hj=>by
  obtain rfl:j'=j:=by omega
  exact Mo h q10 q11 L l' d1 d2 d3 d4 id rest hl5 j'
end Go.AM
namespace Go.AM
open Go.Proofs Go.Lib
theorem Sw {k:Knd} {x:Lma} {letters:List Int} (h:PrC k x letters) {q10 q11 L l' p n:Nat} {rest:List (Nat×Bool×AVal)} {H:AB} (hl5:5<=L) (hf:AN H n) (hp:hget H p=some (.box (Ad k x letters))) (hX:CxL k x letters q10 q11 L l' (eCx q10 q11 rest) H):
  AO Tryz.prog 70 [.fn (.yield l') [] [],.ptr p 0] H n λo H' n'=>o= .ret (.tup [])/\match (asgP k.d.syms.length x letters x.cs.length 0 (List.replicate x.cs.length 0)).find? (λc=>A1 (AP k) x letters c)with
   |none=>AN H' n'/\n<=n'/\∀i,i<n->hget H' i=hget H i
   |some c=>CxF letters c L l' (eCx q10 q11 rest) H':=by
 have hpn:=hf.lt hp
 have hp':=hp
 simp only[Ad,AD,AE,AK,AQ,Xl,Xm]at hp'
 have hx4:=h.ox.cs.2.2
 have hsy:=BI h.ck
 refine a70 (AF AH.tnil (AG ?_))
 have w1:∀a b:Nat,(n+a=n+b)=(a=b):=λa b=>propext ⟨λh=>by omega,λh=>by omega⟩
 have w2:∀b:Nat,(n=n+b)=(b=0):=λb=>propext ⟨λh=>by omega,λh=>by omega⟩
 have w3:∀b:Nat,(n+b=p)=False:=λb=>X8 (by omega)
 have w4:(n=p)=False:=X8 (by omega)
 have w6:((x.cs.length:Int)<=35184372088832)=True:=X1 (by omega)
 have w7:Ar x.cs.length 8=True:=X1 (AY (by omega) (by decide))
 simp only[eE,eN,reduceCtorEq,Nat.reduceEqDiff,↓reduceIte,Nat.reduceAdd,Nat.reduceLeDiff,X3,X4,X0,c70,fr0 hf,fr1 hf,hp',w1,w2,w4,w6,w7,AL]
 generalize hHb:hset (hset (hset (hset H n _) (n+5) _) (n+6) _) (n+8) _=Hb
 have hfb:AN Hb (n+9):=by
  rw[<-hHb]
  exact(((hf.hset (m:=n+9) (by omega) (by omega)).hset (Xa _) (by omega)).hset (Xa _) (by omega)).hset (Xa _) (by omega)
 have kb:∀i,i<n->hget Hb i=hget H i:=λi hi=>by
  rw[<-hHb,AA _ _ _ _ (by omega),AA _ _ _ _ (by omega),AA _ _ _ _ (by omega),AA _ _ _ _ (by omega)]
 have hG:ChC k x letters (n+6) n p (n+8) (n+5) l' Hb:=by
  refine⟨?_,?_,(kb p hpn).trans hp,?_⟩
  ·rw[<-hHb,AA _ _ _ _ (by omega),AC]
  ·rw[<-hHb,AA _ _ _ _ (by omega),AA _ _ _ _ (by omega),AA _ _ _ _ (by omega),AC]
  ·rw[<-hHb,AC]
 have hid:hget Hb (n+5)=some (.arr 1 ((List.replicate x.cs.length (0:Int)).map eI)):=by
  rw[<-hHb,AA _ _ _ _ (by omega),AA _ _ _ _ (by omega),AC,Z3]
 have hX':CxL k x letters q10 q11 L l' (eCx q10 q11 rest) Hb:=by
  obtain⟨a2,a3,a4,a10,a11,aL⟩:=hX
  exact⟨(kb _ (hf.lt a2)).trans a2,(kb _ (hf.lt a3)).trans a3,(kb _ (hf.lt a4)).trans a4,(kb _ (hf.lt a10)).trans a10,(kb _ (hf.lt a11)).trans a11,(kb _ (hf.lt aL)).trans aL⟩
 have hch:=Mo h q10 q11 L l' (n+6) n p (n+8) (n+5) rest hl5 x.cs.length 0 (List.replicate x.cs.length 0) Hb (n+9) (Yg _) (by simp) (λs hs=>by rw[(Zu.1 hs).2];exact⟨XX _,by omega⟩) hfb hG hX' hid
 rw[c0]at hch
 refine hch.mono ?_
 rintro o H' n' hr
 cases hfd:(asgP k.d.syms.length x letters x.cs.length 0 (List.replicate x.cs.length 0)).find? λc=>A1 (AP k) x letters c with
 |none=>
  rw[hfd]at hr
  obtain⟨rfl,r1,r2,r3,-⟩:=hr
  simp only[eE,eN,retK]
  exact⟨r1,by omega,λi hi=>(r3 i (by omega) (by omega)).trans (kb i hi)⟩
 |some c=>
  rw[hfd]at hr
  obtain⟨rfl,hr⟩:=hr
  simp only[eE,eN,retK]
  exact hr
theorem Vo {H:AB} {n:Nat} {k:Knd} {x:Lma} {letters:List Int} (hf:AN H n):AO Tryz.prog 37 [IA k x letters] H n λo H' n'=>o= .ret (.fn (.func 70) [] [.ptr n 0])/\H'=hset H n (.box (Ad k x letters))/\n'=n+2:=by
 refine a37 (AF AH.tnil (AG ?_))
 simp only[eE,eN,Nat.reduceEqDiff,↓reduceIte,c37,fr0 hf]
 rfl
def EZ (k:Knd) (x:Lma):AVal:=match cexP (AP k) x with
 |some q=>.tup [eIs q.1,eIs q.2,.bool true,.int .i64 0]
 |none=>.tup [.sl .nil [],.sl .nil [],.bool false,.int .i64 0]
def A5 (k:Knd) (x:Lma):AVal:=if At k x≠0 then .tup [.sl .nil [],.sl .nil [],.bool false,.int .i64 (At k x)]else EZ k x
structure VPk where
 j:Nat
 H:AB
 n:Nat
structure IPk (k:Knd) (x:Lma) (A:List (List Int)) (F:List Int->Option (List Int×List Int)) (v:VPk):Prop where
 hj:v.j<=A.length
 fr:AN v.H v.n
 hn:6<=v.n
 h0:hget v.H 0=some (.box (AD k))
 h1:hget v.H 1=some (.box (AQ x))
 h2:hget v.H 2=some (.box [.sl .nil []])
 h3:hget v.H 3=some (.box [.sl .nil []])
 h4:hget v.H 4=some (.box [.bool false])
 he:A.findSome? F=(A.drop v.j).findSome? F
theorem p14 (k:Knd) (x:Lma) (hk:FewD k.d) (hx:FewL x):Pur Tryz.prog 14 [A3 k,encL x] (A5 k x):=by
 have u1:dKn.ok (.agg (AD k))=True:=Bq k
 have u2:dKn.dec (.agg (AD k))=k:=BH k
 simp only[AD,AE,AK,Xl,Xm]at u1 u2
 have v1:dX.ok (.agg (AQ x))=True:=Fk x
 have v2:dX.dec (.agg (AQ x))=x:=DB x
 simp only[AQ]at v1 v2
 refine .mk ⟨AX 0 k,Ac 0 x,trivial⟩ ?_ (a14 (AF Uf (AG ?_)))
 ·unfold A5 EZ
  split
  ·exact⟨⟨trivial,trivial⟩,⟨trivial,trivial⟩,trivial,trivial,trivial⟩
  ·split
   ·exact⟨AR 0 _,AR 0 _,trivial,trivial,trivial⟩
   ·exact⟨⟨trivial,trivial⟩,⟨trivial,trivial⟩,trivial,trivial,trivial⟩
 unfold A5
 by_cases hv:At k x=0
 case neg=>
  have hpv:Bc k x= .tup [.sl .nil [],.int .i64 (At k x)]:=by unfold Bc;rw[Xh hv]
  rw[Xh hv]
  simp only[eE,eC,eN,reduceCtorEq,Nat.reduceEqDiff,↓reduceIte,Nat.reduceAdd,Nat.reduceLT,Xe,X2,Be,Xb,Xf,c14,AD,AE,AK,Sv,s2,u1,u2,v1,v2,X1 hk,X1 hx,hpv,X8 hv]
  exact Wk.refl _
 have hpv:Bc k x= .tup [.sl (.none 1) ((chs k.d.syms.length x.ls.length).map eIs),.int .i64 0]:=by unfold Bc;rw[Xc (by simpa using hv)]
 rw[Xc (by simpa using hv)]
 obtain⟨hck,hox⟩:=JP hk hx hv
 have hsy:=BI hck
 have hvl:(AP k).length=k.d.syms.length:=by unfold AP;rw[X0]
 have hPr:∀l∈chs k.d.syms.length x.ls.length,PrC k x l:=λl hl=>⟨hck,hk,hx,hox,hl⟩
 have hAl:(chs k.d.syms.length x.ls.length).length<=4096:=by
  refine Y7 (LS _ _) (Y7 (Nat.pow_le_pow_left hsy.2 _) (Y7 (Nat.pow_le_pow_right (by decide) (show x.ls.length<=3 from hox.ls.2.2.2)) (by decide)))
 unfold EZ cexP
 rw[hvl]
 obtain⟨F,hF⟩:∃F:List Int->Option (List Int×List Int),(λletters=>((asgP k.d.syms.length x letters x.cs.length 0 (List.replicate x.cs.length 0)).find? λc=>A1 (AP k) x letters c).map λc=>(letters,c))=F:=⟨_,rfl⟩
 rw[hF]
 have hFs:∀l,F l=((asgP k.d.syms.length x l x.cs.length 0 (List.replicate x.cs.length 0)).find? λc=>A1 (AP k) x l c).map λc=>(l,c):=λl=>by rw[<-hF]
 simp only[eE,eC,eN,reduceCtorEq,Nat.reduceEqDiff,↓reduceIte,Nat.reduceAdd,Nat.reduceLT,X7,X2,X0,Xb,Xf,c14,AD,AE,AK,Sv,s2,u1,u2,v1,v2,X1 hk,X1 hx,hpv]
 generalize chs k.d.syms.length x.ls.length=A at hPr hAl
 refine AU (λv:VPk=>⟨[(2,true,.ptr 0 0),(3,true,.ptr 1 0),(4,true,.ptr 2 0),(5,true,.ptr 3 0),(6,true,.ptr 4 0),(7,true,.int .i64 0),(22,true,.sl (.none 1) (A.map eIs)),(23,true,.int .i64 A.length),(24,true,.int .i64 v.j)],v.H,v.n⟩) (IPk k x A F) (λv=>A.length-v.j)
  ⟨0,_,6⟩ rfl ⟨Xg _,?_,Xa _,rfl,rfl,rfl,rfl,rfl,rfl⟩ ?_
 ·simp only[]
  repeat' (first|exact AN.nil.hset (m:=6) (Xg _) (by decide)|refine AN.hset ?_ (Xa _) (by decide))
 rintro⟨j,H,n⟩ ⟨hj,hf,hn,h0,h1,h2,h3,h4,he⟩
 simp only at hj hf hn h0 h1 h2 h3 h4 he
 rw[he]
 have h0':=h0
 have h1':=h1
 simp only[AD,AE,AK,Xl,Xm]at h0
 simp only[AQ]at h1
 by_cases hlt:j<A.length
 case neg=>
  obtain rfl:j=A.length:=by omega
  rw[Yt,List.findSome?_nil]
  simp only[eE,eC,eN,Nat.reduceEqDiff,↓reduceIte,Nat.reduceAdd,Nat.reduceMul,Nat.reduceLT,Nat.reduceMod,Be,lt_F hlt,h2,h3,h4]
  exact Wk.refl _
 have e:=AI (k:=j) (by omega)
 have hg:=X5 hlt
 have hpr:=hPr _ (Xi hlt)
 have hdr:=Xy hlt
 rw[hdr,List.findSome?_cons]
 generalize A[j]=l at hg hpr hdr
 have y1:∀z,(n+z=0)=False:=λz=>X8 (by omega)
 have y2:∀z,(n+z=1)=False:=λz=>X8 (by omega)
 have w1:∀a b:Nat,(n+a=n+b)=(a=b):=λa b=>propext ⟨λh=>by omega,λh=>by omega⟩
 simp only[eE,eC,eN,Nat.reduceEqDiff,↓reduceIte,Nat.reduceAdd,Nat.reduceLeDiff,X2,X3,X4,X0,X6,lt_T hlt,hg,fr1 hf,h0,h1,y1,y2,w1,AL]
 obtain⟨Ha,hHa⟩:∃Ha,hset (hset H (n+2) (.box [eIs l])) (n+8) (.box (Ad k x l))=Ha:=⟨_,rfl⟩
 have hfa:AN Ha (n+10):=by rw[<-hHa];exact(hf.hset (m:=n+10) (by omega) (by omega)).hset (Xa _) (by omega)
 have g10:hget Ha (n+2)=some (.box [eIs l]):=by rw[<-hHa,AA _ _ _ _ (by omega),AC]
 have g11:hget Ha (n+8)=some (.box (Ad k x l)):=by rw[<-hHa,AC]
 have ka:∀i,i<n->hget Ha i=hget H i:=λi hi=>by rw[<-hHa,AA _ _ _ _ (by omega),AA _ _ _ _ (by omega)]
 simp only[Ad,AD,AE,AK,AQ,Xl,Xm]at hHa
 rw[hHa]
 refine(Vo hfa).mono ?_
 rintro o H1 n1 ⟨rfl,rfl,rfl⟩
 simp only[eE,eN,Nat.reduceEqDiff,↓reduceIte,Nat.reduceAdd,retK,FB]
 intro l'
 generalize hHb:hset (hset Ha (n+10) _) _ (AObj.lp _)=Hb
 have hfb:AN Hb (n+13):=by rw[<-hHb];exact(hfa.hset (m:=n+13) (by omega) (by omega)).hset (Xa _) (by omega)
 have kb:∀i,i<n+10->hget Hb i=hget Ha i:=λi hi=>by rw[<-hHb,AA _ _ _ _ (by omega),AA _ _ _ _ (by omega)]
 have kH:∀i,i<n->hget Hb i=hget H i:=λi hi=>(kb i (by omega)).trans (ka i hi)
 have hp:hget Hb (n+10)=some (.box (Ad k x l)):=by rw[<-hHb,AA _ _ _ _ (by omega),AC]
 have hX:CxL k x l (n+2) (n+8) (n+12) l' (eCx (n+2) (n+8) [(22,true,.sl (.none 1) (A.map eIs)),(23,true,.int .i64 A.length),(24,true,.int .i64 j),(33,true,.fn (.func 70) [] [.ptr (n+10) 0])]) Hb:=
  ⟨(kH 2 (by omega)).trans h2,(kH 3 (by omega)).trans h3,(kH 4 (by omega)).trans h4,(kb _ (by omega)).trans g10,(kb _ (by omega)).trans g11,by rw[<-hHb];exact AC ..⟩
 refine(Sw hpr (by omega) hfb hp hX).mono ?_
 rintro o H2 n2 ⟨rfl,hr⟩
 have hFl:=hFs l
 cases hfd:(asgP k.d.syms.length x l x.cs.length 0 (List.replicate x.cs.length 0)).find? λc=>A1 (AP k) x l c with
 |none=>
  rw[hfd]at hr hFl
  obtain⟨r1,r2,r3⟩:=hr
  rw[YP]at hFl
  rw[hFl]
  have hL2:=(r3 (n+12) (by omega)).trans hX.hL
  simp only[eE,eN,reduceCtorEq,Nat.reduceEqDiff,↓reduceIte,Int.reduceEq,FA,hL2,e]
  have kk:∀i,i<n->hget (hset H2 (n+12) .dead) i=hget H i:=λi hi=>by rw[AA _ _ _ _ (by omega),r3 i (by omega)];exact kH i hi
  exact .mk ⟨j+1,hset H2 (n+12) .dead,n2⟩ rfl ⟨hlt,r1.hset (m:=n2) (Xa _) (by omega),by simp only[];omega,(kk 0 (by omega)).trans h0',(kk 1 (by omega)).trans h1',(kk 2 (by omega)).trans h2,(kk 3 (by omega)).trans h3,(kk 4 (by omega)).trans h4,by rw[he,hdr,List.findSome?_cons,hFl]⟩ (by simp only[];omega)
 |some c=>
  rw[hfd]at hr hFl
  obtain⟨r2,r3,r4,rL⟩:=hr
  rw[Y5]at hFl
  rw[hFl]
  have z2:(n+12=2)=False:=X8 (by omega)
  have z3:(n+12=3)=False:=X8 (by omega)
  have z4:(n+12=4)=False:=X8 (by omega)
  simp only[eE,eN,reduceCtorEq,Nat.reduceEqDiff,↓reduceIte,Nat.reduceAdd,Nat.reduceMul,Nat.reduceLT,Nat.reduceMod,Be,FA,rL,r2,r3,r4,z2,z3,z4]
  exact Wk.refl _
end Go.AM
namespace Go.AM
open Go.Proofs Go.Lib
def Er (k:Knd) (x:Lma) (ts:List (List Cas)):Bool:=decide (At k x=0)&&CZ (AP k) x ts
def decC:AVal->Cas
 | .agg [.int _ k,.int _ a]=>⟨k,a⟩
 |_=>⟨0,0⟩
def decCs:AVal->List Cas:=decL decC
def N8:AVal->List (List Cas)
 | .agg [l]=>decL decCs l
 |_=>[]
theorem Sx (c:Cas):decC (encC c)=c:=rfl
theorem QE (l:List Cas):decCs (eCs l)=l:=B2 Sx l
theorem D9 (t:List (List Cas)):N8 (Bg t)=t:=B2 QE t
def dPf:Dc (List (List Cas)):=dEx Bg N8
theorem QF (t:List (List Cas)):dPf.ok (Bg t)=True:=X1 (by show Bg t=Bg (N8 (Bg t));rw[D9])
theorem La (t:List (List Cas)):dPf.dec (Bg t)=t:=D9 t
def Em (t:List (List Cas)):Prop:=few t/\∀l∈t,few l
def Tri:Tab:=tadd 27 (s3 dKn dX dPf (λk x t=>FewD k.d/\FewL x/\Em t) Ca) tnil
theorem Tri_ok:AH Tryz.prog Tri:=AH.tnil.add (q3 λk x t h=>p27 k x t h.1 h.2.1 h.2.2.1 h.2.2.2)
theorem Tri_c (a:List AVal) (H:AB):Tri 27 a H=s3 dKn dX dPf (λk x t=>FewD k.d/\FewL x/\Em t) Ca a H:=rfl
theorem p44 (k:Knd) (x:Lma) (ts:List (List Cas)) (hk:FewD k.d) (hx:FewL x) (ht:Em ts):Pur Tryz.prog 44 [A3 k,encL x,Bg ts] (.bool (Er k x ts)):=by
 have u1:dKn.ok (.agg (AD k))=True:=Bq k
 have u2:dKn.dec (.agg (AD k))=k:=BH k
 simp only[AD,AE,AK,Xl,Xm]at u1 u2
 have v1:dX.ok (.agg (AQ x))=True:=Fk x
 have v2:dX.dec (.agg (AQ x))=x:=DB x
 simp only[AQ]at v1 v2
 have t1:dPf.ok (.agg [eTr ts])=True:=QF ts
 have t2:dPf.dec (.agg [eTr ts])=ts:=La ts
 refine .mk ⟨AX 0 k,Ac 0 x,BQ 0 ts,trivial⟩ trivial (a44 (AF Tri_ok (AG ?_)))
 unfold Er
 by_cases hv:At k x=0
 ·have hs:Ca k x ts= .tup [.bool (CZ (AP k) x ts),.int .i64 0]:=by unfold Ca;rw[Xc (by simpa using hv)]
  rw[Xv hv,YD]
  simp only[eE,eC,eN,reduceCtorEq,Nat.reduceEqDiff,↓reduceIte,Nat.reduceAdd,Nat.reduceLT,X2,Xb,Xf,c44,AD,AE,AK,Tri_c,s3,u1,u2,v1,v2,t1,t2,X1 hk,X1 hx,X1 ht,hs]
 ·have hs:Ca k x ts= .tup [.bool false,.int .i64 (At k x)]:=by unfold Ca;rw[Xh hv]
  rw[Xr hv,YH]
  simp only[eE,eC,eN,reduceCtorEq,Nat.reduceEqDiff,↓reduceIte,Nat.reduceAdd,Nat.reduceLT,X2,Xb,Xf,c44,AD,AE,AK,Tri_c,s3,u1,u2,v1,v2,t1,t2,X1 hk,X1 hx,X1 ht,hs,X8 hv]
theorem p79 (x:Lma) (s:Bs):Pur Tryz.prog 79 [encL x,.ep [.str s]] (.bool (decide (x.nm=s))):=by
 refine .mk ⟨Ac 0 x,⟨⟨trivial,trivial⟩,trivial⟩⟩ trivial (a79 (AF AH.tnil (AG ?_)))
 simp only[eE,eN,reduceCtorEq,Nat.reduceEqDiff,↓reduceIte,Nat.reduceAdd,Nat.reduceLeDiff,c79]
 rfl
def JQ (cap:List AVal) (ok:Lma->Prop) (f:Lma->AVal):List AVal->AB->Prop×AVal:=λa _=>match a with
 |M::c=>(c=cap/\dX.ok M/\ok (dX.dec M),f (dX.dec M))
 |_=>(False,.tup [])
theorem rowLmq {fid:FuncId} {cap:List AVal} {ok:Lma->Prop} {f:Lma->AVal} (h:∀x,ok x->Pur Tryz.prog fid (encL x::cap) (f x)):∀args H n,(JQ cap ok f args H).1->Aa Tryz.prog fid args H n (JQ cap ok f args H).2:=by
 intro args H n hh
 unfold JQ at hh⊢
 split at hh
 ·obtain⟨rfl,h1,h2⟩:=hh
  refine AO.args ((h _ h2).quiet H n) ?_
  rintro g vs ⟨v,r,rfl,k1,k2⟩
  exact⟨v,_,rfl,dX.wk _ h1 _ _ k1,k2⟩
 ·exact hh.elim
theorem p_ifL {g:FuncId} {cap:List AVal} {p:Lma->Bool} (l:List Lma) (hl:few l) (hcap:unders 0 cap) (hq:∀x,x∈l->Pur Tryz.prog g (encL x::cap) (.bool (p x))):
  Pur Tryz.prog 110 [.sl (.none 8) (l.map encL),.fn (.func g) [] cap] (.int .i64 (fIxA l p)):=by
 have hT:AH Tryz.prog (tadd g (JQ cap (λx=>x∈l) λx=>.bool (p x)) tnil):=AH.tnil.add (rowLmq hq)
 have hTe:∀a H,tadd g (JQ cap (λx=>x∈l) λx=>.bool (p x)) tnil g a H=JQ cap (λx=>x∈l) (λx=>.bool (p x)) a H:=λa H=>by unfold tadd;rw[Xh rfl]
 generalize tadd g (JQ cap (λx=>x∈l) λx=>.bool (p x)) tnil=T at hT hTe
 refine .mk ⟨⟨trivial,AZ (Ac 0) _⟩,⟨trivial,hcap⟩,trivial⟩ trivial (a110 (AF hT (AG ?_)))
 have hll:l.length<1000000000:=hl
 simp only[eE,eN,reduceCtorEq,Nat.reduceEqDiff,↓reduceIte,Nat.reduceAdd,X0,c110]
 refine AU (λi:Nat=>⟨[(0,true,.sl (.none 8) (l.map encL)),(1,true,.fn (.func g) [] cap),(7,true,.int .i64 l.length),(8,true,.int .i64 i)],hnil,0⟩) (λi=>i<=l.length/\∀(j:Nat) x,j<i->l[j]?=some x->p x=false) (λi=>l.length-i) 0 rfl ⟨Xg _,λj x h=>by omega⟩ ?_
 rintro i ⟨hi,he⟩
 by_cases hlt:i<l.length
 case neg=>
  obtain rfl:i=l.length:=by omega
  have:fIxA l p= -1:=by
   unfold fIxA
   rw[Yj.2 λx hx=>by
    obtain⟨j,hj,rfl⟩:=Xt.1 hx
    exact he j _ hj (X5 hj)]
  rw[this]
  simp only[eE,eC,eN,reduceCtorEq,Nat.reduceEqDiff,↓reduceIte,lt_F hlt]
 have hg:=X5 hlt
 have hm:=Xi hlt
 have e:=AI (k:=i) (by omega)
 have hfx:p l[i]=true->fIxA l p=(i:Int):=λhp=>by
  unfold fIxA
  rw[XU.2 ⟨hlt,hp,λj hj=>by
   have:=he j _ hj (X5 (by omega))
   rw[this];decide⟩]
 generalize l[i]=x at hg hm hfx
 have m1:dX.ok (.agg (AQ x))=True:=Fk x
 have m2:dX.dec (.agg (AQ x))=x:=DB x
 simp only[AQ]at m1 m2
 cases hp:p x with
 |true=>
  rw[hfx hp]
  simp only[eE,eC,eN,reduceCtorEq,Nat.reduceEqDiff,↓reduceIte,Nat.reduceAdd,X2,X3,X4,X0,X6,lt_T hlt,hg,hTe,JQ,m1,m2,X1 hm,hp]
 |false=>
  simp only[eE,eC,eN,reduceCtorEq,Nat.reduceEqDiff,↓reduceIte,Nat.reduceAdd,Int.reduceEq,X2,X3,X4,X0,X6,lt_T hlt,hg,hTe,JQ,m1,m2,X1 hm,hp,e]
  refine .mk (i+1) rfl ⟨hlt,λj y hj hy=>?_⟩ (by omega)
  by_cases q:j<i
  ·exact he j y q hy
  ·obtain rfl:j=i:=by omega
   rw[hg]at hy;cases hy;exact hp
theorem Sy {α:Type} (l:List α) (p:α->Bool):decide (0<=fIxA l p)=l.any p:=by
 unfold fIxA
 cases h:l.findIdx? p with
 |none=>
  rw[Yj]at h
  rw[show l.any p=false from by rw[Zc];intro x hx;rw[h x hx];decide];rfl
 |some i=>
  obtain⟨hi,h1,-⟩:=XU.1 h
  rw[show l.any p=true from Z8.2 ⟨_,Xi hi,h1⟩]
  simp
theorem p_cfL {g:FuncId} {cap:List AVal} {p:Lma->Bool} (l:List Lma) (hl:few l) (hcap:unders 0 cap) (hq:∀x,x∈l->Pur Tryz.prog g (encL x::cap) (.bool (p x))):
  Pur Tryz.prog 78 [.sl (.none 8) (l.map encL),.fn (.func g) [] cap] (.bool (l.any p)):=by
 have hp:=p_ifL l hl hcap hq
 refine .mk ⟨⟨trivial,AZ (Ac 0) _⟩,⟨trivial,hcap⟩,trivial⟩ trivial (a78 (AF (T:=tadd 110 (rowX [.sl (.none 8) (l.map encL),.fn (.func g) [] cap] (λ_=>True) (.int .i64 (fIxA l p))) tnil) (AH.tnil.add (H8 λH n _=>hp.quiet H n)) (AG ?_)))
 have hTe:∀a H,tadd 110 (rowX [.sl (.none 8) (l.map encL),.fn (.func g) [] cap] (λ_=>True) (.int .i64 (fIxA l p))) tnil 110 a H=rowX [.sl (.none 8) (l.map encL),.fn (.func g) [] cap] (λ_=>True) (.int .i64 (fIxA l p)) a H:=λa H=>by unfold tadd;rw[Xh rfl]
 simp only[eE,eN,reduceCtorEq,Nat.reduceEqDiff,↓reduceIte,Nat.reduceAdd,c78,rowX]
 rw[Sy]
def F2 (l:List Lma) (s:Bs):List AVal->AB->Prop×AVal:=λa H=>match a with
 |[A,.fn (.func g) [] [.ptr r 0]]=>(A= .sl (.none 8) (l.map encL)/\g=79/\hget H r=some (.box [.str s]),.bool (l.any λx=>decide (x.nm=s)))
 |_=>(False,.tup [])
theorem Vp {l:List Lma} {s:Bs} (hl:few l):∀args H n,(F2 l s args H).1->Aa Tryz.prog 78 args H n (F2 l s args H).2:=by
 intro args H n hh
 unfold F2 at hh⊢
 split at hh
 ·obtain⟨rfl,rfl,h1⟩:=hh
  exact(p_cfL l hl ⟨⟨trivial,trivial⟩,trivial⟩ (p:=λx=>decide (x.nm=s)) (cap:=[.ep [.str s]]) λx _=>p79 x s).view trivial (.cons (.wk (Wk.refl _)) (.cons (.fn .nil (.cons (View.ptr (off:=0) h1) .nil)) .nil)) n
 ·exact hh.elim
def Ia (l:List Lma) (s:Bs):Bool:=l.any λx=>decide (x.nm=s)
theorem p43 (l:List Lma) (s:Bs) (hl:few l):Pur Tryz.prog 43 [.sl (.none 8) (l.map encL),.str s] (.bool (Ia l s)):=by
 have hT:AH Tryz.prog (tadd 78 (F2 l s) tnil):=AH.tnil.add (Vp hl)
 have hTe:∀a H,tadd 78 (F2 l s) tnil 78 a H=F2 l s a H:=λa H=>by unfold tadd;rw[Xh rfl]
 generalize tadd 78 (F2 l s) tnil=T at hT hTe
 refine .mk ⟨⟨trivial,AZ (Ac 0) _⟩,trivial,trivial⟩ trivial (a43 (AF hT (AG ?_)))
 simp only[eE,eN,reduceCtorEq,Nat.reduceEqDiff,↓reduceIte,Nat.reduceAdd,c43,hTe,F2]
 rfl
theorem p45 (l:List Lma) (hl:few l):Pur Tryz.prog 45 [.sl (.none 8) (l.map encL)] (.sl (.exact 8) (l.map encL)):=by
 refine .mk ⟨⟨trivial,AZ (Ac 0) _⟩,trivial⟩ ⟨trivial,AZ (Ac 0) _⟩ (a45 (AF AH.tnil (AG ?_)))
 have hll:l.length<1000000000:=hl
 simp only[eE,eN,reduceCtorEq,Nat.reduceEqDiff,↓reduceIte,Y2,XX,X3,X4,X0,c45,X4]
 refine⟨λm hm=>?_,?_⟩
 ·cases hm
  exact⟨XX _,XX _⟩
 ·rw[Yb (by simp)]
  exact Wk.refl _
theorem p46 (l:List (List (List Cas))) (hl:few l):Pur Tryz.prog 46 [.sl (.none 1) (l.map Bg)] (.sl (.exact 1) (l.map Bg)):=by
 refine .mk ⟨⟨trivial,AZ (BQ 0) _⟩,trivial⟩ ⟨trivial,AZ (BQ 0) _⟩ (a46 (AF AH.tnil (AG ?_)))
 have hll:l.length<1000000000:=hl
 simp only[eE,eN,reduceCtorEq,Nat.reduceEqDiff,↓reduceIte,Y2,XX,X3,X4,X0,c46,X4]
 refine⟨λm hm=>?_,?_⟩
 ·cases hm
  exact⟨XX _,XX _⟩
 ·rw[Yb (by simp)]
  exact Wk.refl _
end Go.AM
namespace Go.AM
open Go.Proofs Go.Lib
structure Lbr where
 ls:List Lma
 pf:List (List (List Cas))
abbrev eLms (l:List Lma):AVal:=.sl (.none 8) (l.map encL)
abbrev ePfs (l:List (List (List Cas))):AVal:=.sl (.none 1) (l.map Bg)
abbrev E7 (l:Lbr):AVal:=.agg [eLms l.ls,ePfs l.pf]
structure FewB (l:Lbr):Prop where
 ls:few l.ls
 pf:few l.pf
 lm:∀x∈l.ls,FewL x
 pr:∀p∈l.pf,Em p
theorem E8 (n:Nat) (l:Lbr):(E7 l).under n:=⟨⟨trivial,AZ (Ac n) _⟩,⟨trivial,AZ (BQ n) _⟩,trivial⟩
def Lb (k:Knd):List Lma->List Lma->List (List (List Cas))->Int
 |prev,x::r,p::q=>if chk x≠0 then chk x else if Ia prev x.nm=true then 161 else if Er k x p=false then 310 else Lb k (prev++[x]) r q
 |_,_,_=>0
theorem QG (k:Knd) (a:List Lma) (p:List (List (List Cas))):Lb k a [] p=0:=by cases p<;>rfl
def CC (k:Knd) (l:Lbr):Int:=if An k≠0 then An k else if 16<l.ls.length then 2 else if l.pf.length≠l.ls.length then 310 else Lb k [] l.ls l.pf
def Fp:List AVal->AB->Prop×AVal:=λa _=>match a with
 |[.sl t L,.str s]=>((t.esz=8\/L=[])/\L=(L.map decX).map encL/\few (L.map decX),.bool (Ia (L.map decX) s))
 |_=>(False,.tup [])
theorem Ug:∀args H n,(Fp args H).1->Aa Tryz.prog 43 args H n (Fp args H).2:=by
 intro args H n hh
 unfold Fp at hh⊢
 split at hh
 ·rename_i t L s
  obtain⟨h1,h2,h3⟩:=hh
  refine AO.args ((p43 (L.map decX) s h3).quiet H n) ?_
  rintro g vs ⟨v,r,rfl,k1,k2⟩
  refine⟨v,_,rfl,?_,k2⟩
  have:Wk (.sl t L) (.sl (.none 8) L):=Wk.sl (h1.imp id λq=>by rw[q])
  rw[<-h2]
  exact this _ _ k1
 ·exact hh.elim
def Tvl:Tab:=tadd 50 (s1 dKn (λk=>FewD k.d) λk=>.int .i64 (An k)) (tadd 42 (s1 dX FewL λx=>eI (chk x)) (tadd 43 Fp (tadd 44 (s3 dKn dX dPf (λk x t=>FewD k.d/\FewL x/\Em t) λk x t=>.bool (Er k x t)) tnil)))
theorem Tvl_ok:AH Tryz.prog Tvl:=(((AH.tnil.add (q3 λk x t h=>p44 k x t h.1 h.2.1 h.2.2)).add Ug).add (q1 λx h=>p42 x h)).add (q1 λk h=>p50 k h)
theorem Sz (a:List AVal) (H:AB):Tvl 50 a H=s1 dKn (λk=>FewD k.d) (λk=>.int .i64 (An k)) a H:=rfl
theorem S0 (a:List AVal) (H:AB):Tvl 42 a H=s1 dX FewL (λx=>eI (chk x)) a H:=rfl
theorem Vq (a:List AVal) (H:AB):Tvl 43 a H=Fp a H:=rfl
theorem Tvl_r (a:List AVal) (H:AB):Tvl 44 a H=s3 dKn dX dPf (λk x t=>FewD k.d/\FewL x/\Em t) (λk x t=>.bool (Er k x t)) a H:=rfl
structure IVl (k:Knd) (l:Lbr) (v:VPm):Prop where
 hi:v.i<=l.ls.length
 fr:AN v.H v.n
 hn:3<=v.n
 h0:hget v.H 0=some (.box (AD k))
 h1:hget v.H 1=some (.box [eLms l.ls,ePfs l.pf])
 he:Lb k [] l.ls l.pf=Lb k (l.ls.take v.i) (l.ls.drop v.i) (l.pf.drop v.i)
theorem p23 (k:Knd) (l:Lbr) (hk:FewD k.d) (hl:FewB l):Pur Tryz.prog 23 [A3 k,E7 l] (.int .i64 (CC k l)):=by
 have u1:dKn.ok (.agg (AD k))=True:=Bq k
 have u2:dKn.dec (.agg (AD k))=k:=BH k
 simp only[AD,AE,AK,Xl,Xm]at u1 u2
 have hll:l.ls.length<1000000000:=hl.ls
 have hpl:l.pf.length<1000000000:=hl.pf
 refine .mk ⟨AX 0 k,E8 0 l,trivial⟩ trivial (a23 (AF Tvl_ok (AG ?_)))
 unfold CC
 by_cases hck:An k=0
 case neg=>
  rw[Xh hck]
  simp only[eE,eC,eN,reduceCtorEq,Nat.reduceEqDiff,↓reduceIte,Nat.reduceAdd,Xe,c23,AD,AE,AK,Sz,s1,u1,u2,X1 hk,X8 hck]
 rw[Xc (by simpa using hck)]
 by_cases h16:16<l.ls.length
 ·have w1:((16:Int)<(l.ls.length:Int))=True:=X1 (by omega)
  have w2:decide ((16:Int)<(l.ls.length:Int))=true:=Xv (by omega)
  rw[Xh h16]
  simp only[eE,eC,eN,reduceCtorEq,Nat.reduceEqDiff,↓reduceIte,Nat.reduceAdd,Nat.reduceLeDiff,X7,X0,c23,AD,AE,AK,Sz,s1,u1,u2,X1 hk,X1 hck,w1]
 have w1:((16:Int)<(l.ls.length:Int))=False:=X8 (by omega)
 have w2:decide ((16:Int)<(l.ls.length:Int))=false:=Xr (by omega)
 rw[Xc h16]
 by_cases hlen:l.pf.length=l.ls.length
 case neg=>
  have w3:((l.pf.length:Int)=(l.ls.length:Int))=False:=X8 (by omega)
  have w4:decide ((l.pf.length:Int)=(l.ls.length:Int))=false:=Xr (by omega)
  rw[Xh hlen]
  simp only[eE,eC,eN,reduceCtorEq,Nat.reduceEqDiff,↓reduceIte,Nat.reduceAdd,Nat.reduceLeDiff,X7,Xe,X0,c23,AD,AE,AK,Sz,s1,u1,u2,X1 hk,X1 hck,w1,w3]
 have w3:((l.pf.length:Int)=(l.ls.length:Int))=True:=X1 (by omega)
 have w4:decide ((l.pf.length:Int)=(l.ls.length:Int))=true:=Xv (by omega)
 rw[Xc (by simpa using hlen)]
 simp only[eE,eC,eN,reduceCtorEq,Nat.reduceEqDiff,↓reduceIte,Nat.reduceAdd,Nat.reduceLeDiff,X7,X0,c23,AD,AE,AK,Sz,s1,u1,u2,X1 hk,X1 hck,w1,w3]
 refine AU (λv:VPm=>⟨[(2,true,.ptr 0 0),(3,true,.ptr 1 0),(24,true,eLms l.ls),(25,true,.int .i64 l.ls.length),(26,true,.int .i64 v.i)],v.H,v.n⟩) (IVl k l) (λv=>l.ls.length-v.i)
  ⟨0,_,3⟩ rfl ⟨Xg _,(AN.nil.hset (m:=3) (Xg _) (by decide)).hset (m:=3) (Xa _) (by decide),Xa _,rfl,rfl,rfl⟩ ?_
 rintro⟨i,H,n⟩ ⟨hi,hf,hn,h0,h1,he⟩
 simp only at hi hf hn h0 h1 he
 have h0':=h0
 have h1':=h1
 simp only[AD,AE,AK,Xl,Xm]at h0
 rw[he]
 by_cases hlt:i<l.ls.length
 case neg=>
  obtain rfl:i=l.ls.length:=by omega
  rw[Yt,QG]
  simp only[eE,eC,eN,Nat.reduceEqDiff,↓reduceIte,lt_F hlt]
 have e:=AI (k:=i) (by omega)
 have hltp:i<l.pf.length:=by omega
 have hg:=X5 hlt
 have hgp:=X5 hltp
 have hfx:=hl.lm _ (Xi hlt)
 have hfp:=hl.pr _ (Xi hltp)
 have htk:l.ls.take (i+1)=l.ls.take i++[l.ls[i]]:=by rw[Y3,hg];rfl
 have hdr1:=Xy hlt
 have hdr2:=Xy hltp
 rw[hdr1,hdr2,Lb,<-htk]
 generalize l.ls[i]=x at hg hfx hdr1 htk
 generalize l.pf[i]=pf at hgp hfp hdr2
 have v1:dX.ok (.agg (AQ x))=True:=Fk x
 have v2:dX.dec (.agg (AQ x))=x:=DB x
 simp only[AQ]at v1 v2
 have t1:dPf.ok (.agg [eTr pf])=True:=QF pf
 have t2:dPf.dec (.agg [eTr pf])=pf:=La pf
 have y1:∀z,(n+z=0)=False:=λz=>X8 (by omega)
 have y2:∀z,(n+z=1)=False:=λz=>X8 (by omega)
 by_cases hc:chk x=0
 case neg=>
  rw[Xh hc]
  simp only[eE,eC,eN,Nat.reduceEqDiff,↓reduceIte,Nat.reduceAdd,Xe,X2,X3,X4,X0,X6,lt_T hlt,hg,AL,fr1 hf,S0,s1,v1,v2,X1 hfx,X8 hc]
 rw[Xc (by simpa using hc)]
 have hmt:List.take i (l.ls.map encL)=(l.ls.take i).map encL:=List.map_take.symm
 have hile:((i:Int)<=(l.ls.length:Int))=True:=X1 (by omega)
 have n1:(((l.ls.take i).map encL).map decX)=l.ls.take i:=by rw[Zm];exact(Yk λx _=>Dt x).trans (List.map_id _)
 have n2:few (l.ls.take i):=by show(l.ls.take i).length<_;rw[Xw];omega
 cases hnm:Ia (l.ls.take i) x.nm with
 |true=>
  rw[Xh rfl]
  simp only[eE,eC,eN,reduceCtorEq,Nat.reduceEqDiff,↓reduceIte,Nat.reduceAdd,Nat.reduceLeDiff,X7,X2,Y2,XX,X3,X4,X0,X6,lt_T hlt,hg,AL,fr1 hf,y2,h1,S0,s1,v1,v2,X1 hfx,X1 hc,hmt,hile,Vq,Fp,n1,X1 n2,hnm,Zt]
 |false=>
 rw[Xc (by decide)]
 cases hr:Er k x pf with
 |false=>
  rw[Xh rfl]
  simp only[eE,eC,eN,reduceCtorEq,Nat.reduceEqDiff,↓reduceIte,Nat.reduceAdd,Nat.reduceLeDiff,X7,Xe,X2,Y2,XX,X3,X4,X0,X6,lt_T hlt,hg,AL,fr1 hf,y1,y2,h0,h1,S0,s1,v1,v2,X1 hfx,X1 hc,hmt,hile,Vq,Fp,n1,X1 n2,hnm,Zt,Tvl_r,s3,u1,u2,t1,t2,X1 hk,X1 hfp,lt_T hltp,hgp,hr,Xe]
 |true=>
  rw[Xc (by decide)]
  simp only[eE,eC,eN,reduceCtorEq,Nat.reduceEqDiff,↓reduceIte,Nat.reduceAdd,Nat.reduceLeDiff,Int.reduceEq,X7,X2,Y2,XX,X3,X4,X0,X6,lt_T hlt,hg,AL,fr1 hf,y1,y2,h0,h1,S0,s1,v1,v2,X1 hfx,X1 hc,hmt,hile,Vq,Fp,n1,X1 n2,hnm,Zt,Tvl_r,s3,u1,u2,t1,t2,X1 hk,X1 hfp,lt_T hltp,hgp,hr,X7,e]
  refine .mk ⟨i+1,hset H (n+3) (.box (AQ x)),n+6⟩ rfl ⟨hlt,hf.hset (m:=n+6) (by omega) (by omega),by simp only[];omega,?_,?_,?_⟩ (by simp only[];omega)
  ·simp only[];rw[AA _ _ _ _ (by omega)];exact h0'
  ·simp only[];rw[AA _ _ _ _ (by omega)];exact h1'
  ·simp only[]
   rw[he,hdr1,hdr2,Lb,Xc (by simpa using hc),hnm,hr,Xc (by decide),Xc (by decide),htk]
end Go.AM
namespace Go.AM
open Go.Proofs Go.Lib
abbrev noLb:AVal:=.agg [.sl .nil [],.sl .nil []]
def Es (k:Knd) (l:Lbr) (x:Lma) (p:List (List Cas)):Int:=if CC k l≠0 then CC k l else if chk x≠0 then chk x else if l.ls.length=16 then 2 else if Ia l.ls x.nm=true then 161 else if Er k x p=false then 310 else 0
def Et (k:Knd) (l:Lbr) (x:Lma) (p:List (List Cas)):AVal:=if Es k l x p≠0 then .tup [noLb,.int .i64 (Es k l x p)]else .tup [E7 ⟨l.ls++[x],l.pf++[p]⟩,.int .i64 0]
def Tad (k:Knd) (l:Lbr):Tab:=tadd 23 (rowX [A3 k,E7 l] (λ_=>True) (.int .i64 (CC k l))) (tadd 45 (rowX [eLms l.ls] (λ_=>True) (.sl (.exact 8) (l.ls.map encL))) (tadd 46 (rowX [ePfs l.pf] (λ_=>True) (.sl (.exact 1) (l.pf.map Bg)))
 (tadd 42 (s1 dX FewL λx=>eI (chk x)) (tadd 43 Fp (tadd 44 (s3 dKn dX dPf (λk x t=>FewD k.d/\FewL x/\Em t) λk x t=>.bool (Er k x t)) tnil)))))
theorem Tad_ok {k:Knd} {l:Lbr} (hk:FewD k.d) (hl:FewB l):AH Tryz.prog (Tad k l):=(((((AH.tnil.add (q3 λk x t h=>p44 k x t h.1 h.2.1 h.2.2)).add Ug).add (q1 λx h=>p42 x h)).add (H8 λH n _=>(p46 l.pf hl.pf).quiet H n)).add (H8 λH n _=>(p45 l.ls hl.ls).quiet H n)).add (H8 λH n _=>(p23 k l hk hl).quiet H n)
theorem N9 (k:Knd) (l:Lbr) (a:List AVal) (H:AB):Tad k l 23 a H=rowX [A3 k,E7 l] (λ_=>True) (.int .i64 (CC k l)) a H:=rfl
theorem Tad_cl (k:Knd) (l:Lbr) (a:List AVal) (H:AB):Tad k l 45 a H=rowX [eLms l.ls] (λ_=>True) (.sl (.exact 8) (l.ls.map encL)) a H:=rfl
theorem Tad_cp (k:Knd) (l:Lbr) (a:List AVal) (H:AB):Tad k l 46 a H=rowX [ePfs l.pf] (λ_=>True) (.sl (.exact 1) (l.pf.map Bg)) a H:=rfl
theorem QH (k:Knd) (l:Lbr) (a:List AVal) (H:AB):Tad k l 42 a H=s1 dX FewL (λx=>eI (chk x)) a H:=rfl
theorem Vr (k:Knd) (l:Lbr) (a:List AVal) (H:AB):Tad k l 43 a H=Fp a H:=rfl
theorem Tad_r (k:Knd) (l:Lbr) (a:List AVal) (H:AB):Tad k l 44 a H=s3 dKn dX dPf (λk x t=>FewD k.d/\FewL x/\Em t) (λk x t=>.bool (Er k x t)) a H:=rfl
theorem p20 (k:Knd) (l:Lbr) (x:Lma) (p:List (List Cas)) (hk:FewD k.d) (hl:FewB l) (hx:FewL x) (hp:Em p):Pur Tryz.prog 20 [A3 k,E7 l,encL x,Bg p] (Et k l x p):=by
 have u1:dKn.ok (.agg (AD k))=True:=Bq k
 have u2:dKn.dec (.agg (AD k))=k:=BH k
 have u3:([.agg (AD k),E7 l]=[A3 k,E7 l])=True:=X1 rfl
 simp only[AD,AE,AK,Xl,Xm]at u1 u2 u3
 have v1:dX.ok (.agg (AQ x))=True:=Fk x
 have v2:dX.dec (.agg (AQ x))=x:=DB x
 simp only[AQ]at v1 v2
 have t1:dPf.ok (.agg [eTr p])=True:=QF p
 have t2:dPf.dec (.agg [eTr p])=p:=La p
 have hll:l.ls.length<1000000000:=hl.ls
 have hpl:l.pf.length<1000000000:=hl.pf
 have n1:((l.ls.map encL).map decX)=l.ls:=by rw[Zm];exact(Yk λx _=>Dt x).trans (List.map_id _)
 have n2:few l.ls:=hl.ls
 refine .mk ⟨AX 0 k,E8 0 l,Ac 0 x,BQ 0 p,trivial⟩ ?_ (a20 (AF (Tad_ok hk hl) (AG ?_)))
 ·unfold Et
  split
  ·exact⟨⟨⟨trivial,trivial⟩,⟨trivial,trivial⟩,trivial⟩,trivial,trivial⟩
  ·exact⟨E8 0 _,trivial,trivial⟩
 have none:∀e:Int,e≠0->Es k l x p=e->Et k l x p= .tup [noLb,.int .i64 e]:=λe h1 h2=>by unfold Et;rw[h2,Xh h1]
 by_cases hv:CC k l=0
 case neg=>
  rw[none (CC k l) hv (by unfold Es;rw[Xh hv])]
  simp only[eE,eC,eN,reduceCtorEq,Nat.reduceEqDiff,↓reduceIte,Nat.reduceAdd,Xe,Be,c20,AD,AE,AK,N9,rowX,u3,X8 hv]
  exact Wk.refl _
 by_cases hc:chk x=0
 case neg=>
  rw[none (chk x) hc (by unfold Es;rw[Xc (by simpa using hv),Xh hc])]
  simp only[eE,eC,eN,reduceCtorEq,Nat.reduceEqDiff,↓reduceIte,Nat.reduceAdd,X7,Xe,Be,c20,AD,AE,AK,N9,rowX,u3,X1 hv,QH,s1,v1,v2,X1 hx,X8 hc]
  exact Wk.refl _
 by_cases h16:l.ls.length=16
 ·have w1:((l.ls.length:Int)=16)=True:=X1 (by omega)
  have w2:decide ((l.ls.length:Int)=16)=true:=Xv (by omega)
  rw[none 2 (by decide) (by unfold Es;rw[Xc (by simpa using hv),Xc (by simpa using hc),Xh h16])]
  simp only[eE,eC,eN,reduceCtorEq,Nat.reduceEqDiff,↓reduceIte,Nat.reduceAdd,Nat.reduceLeDiff,X7,Be,X0,c20,AD,AE,AK,N9,rowX,u3,X1 hv,QH,s1,v1,v2,X1 hx,X1 hc,w1]
  exact Wk.refl _
 have w1:((l.ls.length:Int)=16)=False:=X8 (by omega)
 have w2:decide ((l.ls.length:Int)=16)=false:=Xr (by omega)
 cases hnm:Ia l.ls x.nm with
 |true=>
  rw[none 161 (by decide) (by unfold Es;rw[Xc (by simpa using hv),Xc (by simpa using hc),Xc h16,Xh hnm])]
  simp only[eE,eC,eN,reduceCtorEq,Nat.reduceEqDiff,↓reduceIte,Nat.reduceAdd,Nat.reduceLeDiff,X7,Be,X0,c20,AD,AE,AK,N9,rowX,u3,X1 hv,QH,s1,v1,v2,X1 hx,X1 hc,w1,Vr,Fp,n1,X1 n2,Zt,hnm]
  exact Wk.refl _
 |false=>
 cases hr:Er k x p with
 |false=>
  rw[none 310 (by decide) (by unfold Es;rw[Xc (by simpa using hv),Xc (by simpa using hc),Xc h16,Xc (by rw[hnm];decide),Xh hr])]
  simp only[eE,eC,eN,reduceCtorEq,Nat.reduceEqDiff,↓reduceIte,Nat.reduceAdd,Nat.reduceLeDiff,X7,Xe,Be,X0,c20,AD,AE,AK,N9,rowX,u3,X1 hv,QH,s1,v1,v2,X1 hx,X1 hc,w1,Vr,Fp,n1,X1 n2,Zt,hnm,Tad_r,s3,u1,u2,t1,t2,X1 hk,X1 hp,hr,Xe]
  exact Wk.refl _
 |true=>
  have hz:Es k l x p=0:=by unfold Es;rw[Xc (by simpa using hv),Xc (by simpa using hc),Xc h16,Xc (by rw[hnm];decide),Xc (by rw[hr];decide)]
  have q2:(l.ls.length<=35184372088831)=True:=X1 (by omega)
  have q3:Ar (l.ls.length+1) 136=True:=X1 (AY (by omega) (by decide))
  have q5:(l.pf.length<=35184372088831)=True:=X1 (by omega)
  have q6:Ar (l.pf.length+1) 24=True:=X1 (AY (by omega) (by decide))
  unfold Et
  rw[Xc (by simpa using hz)]
  simp only[eE,eC,eN,reduceCtorEq,Nat.reduceEqDiff,↓reduceIte,Nat.reduceAdd,Nat.reduceLeDiff,Nat.reduceMul,Nat.reduceLT,X7,Be,X0,c20,AD,AE,AK,N9,rowX,u3,X1 hv,QH,s1,v1,v2,X1 hx,X1 hc,w1,Vr,Fp,n1,X1 n2,Zt,hnm,Tad_r,s3,u1,u2,t1,t2,X1 hk,X1 hp,hr,X7,Tad_cl,Tad_cp,q2,q3,q5,q6]
  have e1:l.ls.map encL++[encL x]=(l.ls++[x]).map encL:=by rw[Xk];rfl
  have e2:l.pf.map Bg++[Bg p]=(l.pf++[p]).map Bg:=by rw[Xk];rfl
  show Wk (.tup [.agg [.sl (.own 11 8) (l.ls.map encL++[encL x]),.sl (.own 17 1) (l.pf.map Bg++[Bg p])],.int .i64 0]) _
  rw[e1,e2]
  exact Wk.tup (.cons (Wk.agg (.cons (Wk.sl (.inl rfl)) (.cons (Wk.sl (.inl rfl)) .nil))) (.cons (Wk.refl _) .nil))
end Go.AM
namespace Go.AM
open Go.Proofs Go.Lib
def fewQ (q:Cnd):Bool:=!(decide (6<q.cs.length)||decide (6<q.ls.length))
def G0 (x:Lma):Bool:=!(decide (4<x.cs.length)||decide (3<x.ls.length)||decide (8<x.qs.length)||decide (6<x.ps.length)||decide (3<x.cs.length)&&decide (2<x.ls.length))&&x.qs.all fewQ&&x.ps.all λp=>!decide (6<p.ls.length)
theorem KJ {n:Nat} (k:Nat) (z:Int) (hz:z=(k:Int)):(z<(n:Int))=(k<n):=by subst hz;exact propext (by omega)
theorem p11 (x:Lma):Pur Tryz.prog 11 [encL x] (.bool (G0 x)):=by
 refine .mk ⟨Ac 0 x,trivial⟩ trivial (a11 (AF AH.tnil (AG ?_)))
 have l2:=λn:Nat=>KJ (n:=n) 2 2 rfl
 have l3:=λn:Nat=>KJ (n:=n) 3 3 rfl
 have l4:=λn:Nat=>KJ (n:=n) 4 4 rfl
 have l6:=λn:Nat=>KJ (n:=n) 6 6 rfl
 have l8:=λn:Nat=>KJ (n:=n) 8 8 rfl
 have dn:∀{p:Prop} [Decidable p],¬p->decide p=false:=λh=>Xr h
 have dy:∀{p:Prop} [Decidable p],p->decide p=true:=λh=>Xv h
 unfold G0
 by_cases h1:4<x.cs.length
 ·simp only[eE,eC,eN,reduceCtorEq,Nat.reduceEqDiff,↓reduceIte,Nat.reduceAdd,Nat.reduceLeDiff,X7,X0,c11,X1 (show(4:Int)<(x.cs.length:Int)by omega),dy h1,X7]
 by_cases h2:3<x.ls.length
 ·simp only[eE,eC,eN,reduceCtorEq,Nat.reduceEqDiff,↓reduceIte,Nat.reduceAdd,Nat.reduceLeDiff,X7,X0,c11,X8 (show ¬(4:Int)<(x.cs.length:Int)by omega),X1 (show(3:Int)<(x.ls.length:Int)by omega),dn h1,dy h2,X7]
 by_cases h3:8<x.qs.length
 ·simp only[eE,eC,eN,reduceCtorEq,Nat.reduceEqDiff,↓reduceIte,Nat.reduceAdd,Nat.reduceLeDiff,X7,X0,c11,X8 (show ¬(4:Int)<(x.cs.length:Int)by omega),X8 (show ¬(3:Int)<(x.ls.length:Int)by omega),X1 (show(8:Int)<(x.qs.length:Int)by omega),dn h1,dn h2,dy h3,X7]
 by_cases h4:6<x.ps.length
 ·simp only[eE,eC,eN,reduceCtorEq,Nat.reduceEqDiff,↓reduceIte,Nat.reduceAdd,Nat.reduceLeDiff,X7,X0,c11,X8 (show ¬(4:Int)<(x.cs.length:Int)by omega),X8 (show ¬(3:Int)<(x.ls.length:Int)by omega),X8 (show ¬(8:Int)<(x.qs.length:Int)by omega),X1 (show(6:Int)<(x.ps.length:Int)by omega),dn h1,dn h2,dn h3,dy h4,X7]
 by_cases h5:3<x.cs.length/\2<x.ls.length
 ·simp only[eE,eC,eN,reduceCtorEq,Nat.reduceEqDiff,↓reduceIte,Nat.reduceAdd,Nat.reduceLeDiff,X7,X0,c11,X8 (show ¬(4:Int)<(x.cs.length:Int)by omega),X8 (show ¬(3:Int)<(x.ls.length:Int)by omega),X8 (show ¬(8:Int)<(x.qs.length:Int)by omega),X8 (show ¬(6:Int)<(x.ps.length:Int)by omega),X1 (show(3:Int)<(x.cs.length:Int)by omega),X1 (show(2:Int)<(x.ls.length:Int)by omega),dn h1,dn h2,dn h3,dn h4,dy h5.1,dy h5.2,X7]
 have hg:(!(decide (4<x.cs.length)||decide (3<x.ls.length)||decide (8<x.qs.length)||decide (6<x.ps.length)||decide (3<x.cs.length)&&decide (2<x.ls.length)))=true:=by
  rw[dn h1,dn h2,dn h3,dn h4]
  by_cases h6:3<x.cs.length
  ·rw[dy h6,dn (λq=>h5 ⟨h6,q⟩)];rfl
  ·rw[dn h6];rfl
 rw[hg,YD]
 by_cases h6:3<x.cs.length
 case' pos=>simp only[eE,eC,eN,reduceCtorEq,Nat.reduceEqDiff,↓reduceIte,Nat.reduceAdd,Nat.reduceLeDiff,X0,c11,X8 (show ¬(4:Int)<(x.cs.length:Int)by omega),X8 (show ¬(3:Int)<(x.ls.length:Int)by omega),X8 (show ¬(8:Int)<(x.qs.length:Int)by omega),X8 (show ¬(6:Int)<(x.ps.length:Int)by omega),X1 (show(3:Int)<(x.cs.length:Int)by omega),X8 (show ¬(2:Int)<(x.ls.length:Int)from λq=>h5 ⟨h6,by omega⟩)]
 case' neg=>simp only[eE,eC,eN,Nat.reduceEqDiff,↓reduceIte,Nat.reduceAdd,Nat.reduceLeDiff,X0,c11,X8 (show ¬(4:Int)<(x.cs.length:Int)by omega),X8 (show ¬(3:Int)<(x.ls.length:Int)by omega),X8 (show ¬(8:Int)<(x.qs.length:Int)by omega),X8 (show ¬(6:Int)<(x.ps.length:Int)by omega),X8 (show ¬(3:Int)<(x.cs.length:Int)by omega)]
 all_goals
  refine AU (λi:Nat=>⟨[(1,true,.ptr 0 0),(3,true,.int .i64 i)],hset hnil 0 (.box (AQ x)),2⟩) (λi=>i<=x.qs.length/\∀(j:Nat) q,j<i->x.qs[j]?=some q->fewQ q=true) (λi=>x.qs.length-i) 0 rfl ⟨Xg _,λj q h=>by omega⟩ ?_
  rintro i ⟨hi,hall⟩
  by_cases hlt:i<x.qs.length
  ·have e:=AI (k:=i) (by omega)
   have hg:=X5 hlt
   have hm:=Xi hlt
   generalize x.qs[i]=q at hg hm
   by_cases z1:6<q.cs.length
   ·have hq:fewQ q=false:=by unfold fewQ;rw[dy z1];rfl
    have:x.qs.all fewQ=false:=Zl.2 ⟨q,hm,by rw[hq];decide⟩
    rw[this]
    simp only[eE,eC,eN,reduceCtorEq,Nat.reduceEqDiff,↓reduceIte,Nat.reduceAdd,Nat.reduceLeDiff,X7,X2,X3,X4,X0,X6,AQ,lt_T hlt,hg,X1 (show(6:Int)<(q.cs.length:Int)by omega)]
    done
   by_cases z2:6<q.ls.length
   ·have hq:fewQ q=false:=by unfold fewQ;rw[dy z2,Bool.or_true];rfl
    have:x.qs.all fewQ=false:=Zl.2 ⟨q,hm,by rw[hq];decide⟩
    rw[this]
    simp only[eE,eC,eN,Nat.reduceEqDiff,↓reduceIte,Nat.reduceAdd,Nat.reduceLeDiff,X2,X3,X4,X0,X6,AQ,lt_T hlt,hg,X8 (show ¬(6:Int)<(q.cs.length:Int)by omega),X1 (show(6:Int)<(q.ls.length:Int)by omega)]
    done
   have hq:fewQ q=true:=by unfold fewQ;rw[dn z1,dn z2];rfl
   simp only[eE,eC,eN,Nat.reduceEqDiff,↓reduceIte,Nat.reduceAdd,Nat.reduceLeDiff,Int.reduceEq,X2,X3,X4,X0,X6,AQ,lt_T hlt,hg,X8 (show ¬(6:Int)<(q.cs.length:Int)by omega),X8 (show ¬(6:Int)<(q.ls.length:Int)by omega),e]
   refine .mk (i+1) rfl ⟨hlt,λj y hj hy=>?_⟩ (by omega)
   by_cases w:j<i
   ·exact hall j y w hy
   ·obtain rfl:j=i:=by omega
    rw[hg]at hy;cases hy;exact hq
  obtain rfl:i=x.qs.length:=by omega
  have hqs:x.qs.all fewQ=true:=Xj.2 λq hq=>by
   obtain⟨j,hj,rfl⟩:=Xt.1 hq
   exact hall j _ hj (X5 hj)
  rw[hqs,YD]
  simp only[eE,eC,eN,Nat.reduceEqDiff,↓reduceIte,Nat.reduceAdd,Nat.reduceLeDiff,X0,AQ,lt_F hlt]
  refine AU (λi:Nat=>⟨[(1,true,.ptr 0 0),(4,true,.int .i64 i)],hset hnil 0 (.box (AQ x)),2⟩) (λi=>i<=x.ps.length/\∀(j:Nat) q,j<i->x.ps[j]?=some q->¬6<q.ls.length) (λi=>x.ps.length-i) 0 rfl ⟨Xg _,λj q h=>by omega⟩ ?_
  rintro i ⟨hi,hall⟩
  by_cases hlt:i<x.ps.length
  ·have e:=AI (k:=i) (by omega)
   have hg:=X5 hlt
   have hm:=Xi hlt
   generalize x.ps[i]=q at hg hm
   by_cases z1:6<q.ls.length
   ·have:(x.ps.all λp=>!decide (6<p.ls.length))=false:=Zl.2 ⟨q,hm,by rw[dy z1];decide⟩
    rw[this]
    simp only[eE,eC,eN,Nat.reduceEqDiff,↓reduceIte,Nat.reduceAdd,Nat.reduceLeDiff,X2,X3,X4,X0,X6,AQ,lt_T hlt,hg,X1 (show(6:Int)<(q.ls.length:Int)by omega)]
    done
   simp only[eE,eC,eN,Nat.reduceEqDiff,↓reduceIte,Nat.reduceAdd,Nat.reduceLeDiff,Int.reduceEq,X2,X3,X4,X0,X6,AQ,lt_T hlt,hg,X8 (show ¬(6:Int)<(q.ls.length:Int)by omega),e]
   refine .mk (i+1) rfl ⟨hlt,λj y hj hy=>?_⟩ (by omega)
   by_cases w:j<i
   ·exact hall j y w hy
   ·obtain rfl:j=i:=by omega
    rw[hg]at hy;cases hy;exact z1
  obtain rfl:i=x.ps.length:=by omega
  have hps:(x.ps.all λp=>!decide (6<p.ls.length))=true:=Xj.2 λq hq=>by
   obtain⟨j,hj,rfl⟩:=Xt.1 hq
   rw[dn (hall j _ hj (X5 hj))];rfl
  rw[hps]
  simp only[eE,eC,eN,Nat.reduceEqDiff,↓reduceIte,Nat.reduceAdd,Nat.reduceLeDiff,X0,AQ,lt_F hlt]
  done
theorem few_lm {x:Lma} (h:G0 x=true):FewL x:=by
 unfold G0 at h
 simp only[X9,Yc,Z6,Ye,Xj]at h
 obtain⟨⟨⟨⟨⟨⟨h1,h2⟩,h3⟩,h4⟩,-⟩,h5⟩,h6⟩:=h
 refine⟨?_,?_,?_,?_,λq hq=>?_,λp hp=>?_⟩
 ·show x.cs.length<1000000000;omega
 ·show x.ls.length<1000000000;omega
 ·show x.qs.length<1000000000;omega
 ·show x.ps.length<1000000000;omega
 ·have:=h5 q hq
  unfold fewQ at this
  simp only[Yc,Z6,Ye]at this
  exact⟨by show q.cs.length<1000000000;omega,by show q.ls.length<1000000000;omega⟩
 ·have:=h6 p hp
  show p.ls.length<1000000000;omega
end Go.AM
namespace Go.AM
open Go.Proofs Go.Lib
theorem Mp {α:Type} {a b:List α} (h:a.length=b.length) (k:∀i,i<a.length->a[i]?=b[i]?):a=b:=Zk λi=>by
 by_cases q:i<a.length
 ·exact k i q
 ·rw[Yp (by omega),Yp (by omega)]
theorem QI (a b:Cas):ceqs [.int .i64 a.k,.int .i64 a.a] [.int .i64 b.k,.int .i64 b.a]=decide (a=b):=by
 obtain⟨k,m⟩:=a
 obtain⟨k',m'⟩:=b
 simp [ceqs,ceq]
abbrev Hsp (a b:List (List Cas)):AB:=hset (hset hnil 0 (.box [eTr a])) 1 (.box [eTr b])
theorem p16 (a b:List (List Cas)) (ha:Em a):Pur Tryz.prog 16 [Bg a,Bg b] (.bool (decide (a=b))):=by
 refine .mk ⟨BQ 0 a,BQ 0 b,trivial⟩ trivial (a16 (AF AH.tnil (AG ?_)))
 have hal:a.length<1000000000:=ha.1
 by_cases hl:a.length=b.length
 case neg=>
  have w1:((a.length:Int)=(b.length:Int))=False:=X8 (by omega)
  have w2:decide ((a.length:Int)=(b.length:Int))=false:=Xr (by omega)
  rw[Xr (λe=>hl (by rw[e]))]
  simp only[eE,eC,eN,reduceCtorEq,Nat.reduceEqDiff,↓reduceIte,Nat.reduceAdd,Xe,X0,c16,w1]
 have w1:((a.length:Int)=(b.length:Int))=True:=X1 (by omega)
 have w2:decide ((a.length:Int)=(b.length:Int))=true:=Xv (by omega)
 simp only[eE,eC,eN,reduceCtorEq,Nat.reduceEqDiff,↓reduceIte,Nat.reduceAdd,X7,X0,c16,w1]
 refine AU (λi:Nat=>⟨[(2,true,.ptr 0 0),(3,true,.ptr 1 0),(5,true,.int .i64 i)],Hsp a b,3⟩) (λi=>i<=a.length/\∀j,j<i->a[j]?=b[j]?) (λi=>a.length-i) 0 rfl ⟨Xg _,λj h=>by omega⟩ ?_
 rintro i ⟨hi,hall⟩
 by_cases hlt:i<a.length
 case neg=>
  obtain rfl:i=a.length:=by omega
  rw[Xv (Mp hl hall)]
  simp only[eE,eC,eN,reduceCtorEq,Nat.reduceEqDiff,↓reduceIte,X0,lt_F hlt]
 have hltb:i<b.length:=by omega
 have e:=AI (k:=i) (by omega)
 have hga:=X5 hlt
 have hgb:=X5 hltb
 have hfa:=ha.2 _ (Xi hlt)
 generalize a[i]=la at hga hfa
 generalize b[i]=lb at hgb
 have hlal:la.length<1000000000:=hfa
 have neAB:la≠lb->a≠b:=λq e=>q (by rw[e,hgb]at hga;exact(Option.some.inj hga).symm)
 by_cases hll:la.length=lb.length
 case neg=>
  have w3:((la.length:Int)=(lb.length:Int))=False:=X8 (by omega)
  have w4:decide ((la.length:Int)=(lb.length:Int))=false:=Xr (by omega)
  rw[Xr (neAB λe=>hll (by rw[e]))]
  simp only[eE,eC,eN,reduceCtorEq,Nat.reduceEqDiff,↓reduceIte,Xe,X2,X3,X4,X0,X6,lt_T hlt,lt_T hltb,hga,hgb,w3]
 have w3:((la.length:Int)=(lb.length:Int))=True:=X1 (by omega)
 have w4:decide ((la.length:Int)=(lb.length:Int))=true:=Xv (by omega)
 simp only[eE,eC,eN,reduceCtorEq,Nat.reduceEqDiff,↓reduceIte,X7,X2,X3,X4,X0,X6,lt_T hlt,lt_T hltb,hga,hgb,w3]
 refine AU (λj:Nat=>⟨[(2,true,.ptr 0 0),(3,true,.ptr 1 0),(5,true,.int .i64 i),(6,true,.int .i64 j)],Hsp a b,3⟩) (λj=>j<=la.length/\∀m,m<j->la[m]?=lb[m]?) (λj=>la.length-j) 0 rfl ⟨Xg _,λj h=>by omega⟩ ?_
 rintro j ⟨hj,hallj⟩
 by_cases hlj:j<la.length
 case neg=>
  obtain rfl:j=la.length:=by omega
  have hab:=Mp hll hallj
  simp only[eE,eC,eN,reduceCtorEq,Nat.reduceEqDiff,↓reduceIte,Int.reduceEq,X2,X3,X4,X0,X6,lt_T hlt,hga,lt_F hlj,e]
  refine .mk (i+1) rfl ⟨hlt,λm hm=>?_⟩ (by omega)
  by_cases q:m<i
  ·exact hall m q
  ·obtain rfl:m=i:=by omega
   rw[hga,hgb,hab]
 have hljb:j<lb.length:=by omega
 have ej:=AI (k:=j) (by omega)
 have hgc:=X5 hlj
 have hgd:=X5 hljb
 generalize la[j]=ca at hgc
 generalize lb[j]=cb at hgd
 have neL:ca≠cb->la≠lb:=λq e=>q (by rw[e,hgd]at hgc;exact(Option.some.inj hgc).symm)
 by_cases hc:ca=cb
 ·subst hc
  simp only[eE,eC,eN,reduceCtorEq,Nat.reduceEqDiff,↓reduceIte,Nat.reduceAdd,Int.reduceEq,X7,X2,X3,X4,X0,X6,lt_T hlt,lt_T hltb,hga,hgb,lt_T hlj,lt_T hljb,hgc,hgd,ej,QI,cfit]
  refine .mk (j+1) rfl ⟨hlj,λm hm=>?_⟩ (by omega)
  by_cases q:m<j
  ·exact hallj m q
  ·obtain rfl:m=j:=by omega
   rw[hgc,hgd]
 ·simp only[eE,eC,eN,reduceCtorEq,Nat.reduceEqDiff,↓reduceIte,Nat.reduceAdd,Xe,X2,X3,X4,X0,X6,lt_T hlt,lt_T hltb,hga,hgb,lt_T hlj,lt_T hljb,hgc,hgd,QI,cfit,B5 hc]
  exact(Xr (neAB (neL hc))).symm
end Go.AM
namespace Go.AM
open Go.Proofs Go.Lib
theorem S1 {α:Type} {l:List α} {p:α->Bool} (h:∀(j:Nat) q,j<l.length->l[j]?=some q->p q=true):l.all p=true:=Xj.2 λq hq=>by
 obtain⟨j,hj,rfl⟩:=Xt.1 hq
 exact h j _ hj (X5 hj)
end Go.AM
namespace Go.AM
open Go.Proofs Go.Lib
theorem p105 (l:List Int) (s:Int) (hl:few l):Pur Tryz.prog 105 [eIs l,eI s] (.bool (l.contains s)):=by
 refine .mk ⟨AR 0 l,trivial,trivial⟩ trivial (a105 (AF AH.tnil (AG ?_)))
 have hll:l.length<1000000000:=hl
 simp only[eE,eN,reduceCtorEq,Nat.reduceEqDiff,↓reduceIte,Nat.reduceAdd,c105]
 refine AU (λi:Nat=>⟨[(0,true,eIs l),(1,true,eI s),(5,true,.int .i64 i)],hnil,0⟩) (λi=>i<=l.length/\∀(j:Nat) q,j<i->l[j]?=some q->q≠s) (λi=>l.length-i) 0 rfl ⟨Xg _,λj q h=>by omega⟩ ?_
 rintro i ⟨hi,hall⟩
 by_cases hlt:i<l.length
 ·have e:=AI (k:=i) (by omega)
  have hg:=X5 hlt
  have hm:=Xi hlt
  generalize l[i]=q at hg hm
  by_cases hq:q=s
  ·rw[show l.contains s=true from Y4.2 (hq▸hm)]
   simp only[eE,eC,eN,reduceCtorEq,Nat.reduceEqDiff,↓reduceIte,X2,X3,X4,X0,X6,lt_T hlt,hg,X1 hq]
  simp only[eE,eC,eN,reduceCtorEq,Nat.reduceEqDiff,↓reduceIte,Int.reduceEq,X2,X3,X4,X0,X6,lt_T hlt,hg,X8 hq,e]
  refine .mk (i+1) rfl ⟨hlt,λj y hj hy=>?_⟩ (by omega)
  by_cases w:j<i
  ·exact hall j y w hy
  ·obtain rfl:j=i:=by omega
   rw[hg]at hy;cases hy;exact hq
 obtain rfl:i=l.length:=by omega
 have:l.contains s=false:=by
  rw[Zd]
  intro hc
  obtain⟨j,hj,hjs⟩:=Xt.1 (Y4.1 hc)
  exact hall j _ hj (X5 hj) hjs
 rw[this]
 simp only[eE,eC,eN,reduceCtorEq,Nat.reduceEqDiff,↓reduceIte,X0,lt_F hlt]
structure IPs (l cells:List Int) (v:VPl):Prop where
 hj:v.j<=l.length
 fr:AN v.H v.n
 tok:tkG 1 0 v.H v.tk
 es:v.tk.esz=1\/(l.take v.j).map (at0 cells)=[]
theorem p128 (l cells:List Int) (hl:few l) (hc:∀c∈l,0<=c/\c<(cells.length:Int)):Pur Tryz.prog 128 [eIs l,eIs cells] (eIs (l.map (at0 cells))):=by
 refine .mk ⟨AR 0 l,AR 0 cells,trivial⟩ (AR 0 _) (a128 (AF AH.tnil (AG ?_)))
 have hll:l.length<1000000000:=hl
 simp only[eE,eN,reduceCtorEq,Nat.reduceEqDiff,↓reduceIte,Nat.reduceAdd,Nat.reduceLeDiff,Nat.reduceMul,c128]
 refine AU (λv:VPl=>⟨[(0,true,eIs l),(1,true,eIs cells),(5,true,.sl v.tk (((l.take v.j).map (at0 cells)).map eI)),(6,true,.int .i64 v.j)],v.H,v.n⟩) (IPs l cells) (λv=>l.length-v.j) ⟨0,.exact 1,hnil,0⟩ rfl ⟨Xg _,AN.nil,.inr (.inl rfl),.inl rfl⟩ ?_
 rintro⟨j,tk,H,n⟩ ⟨hj,hf,htk,hes⟩
 simp only at hj hf htk hes
 by_cases hlj:j<l.length
 case neg=>
  obtain rfl:j=l.length:=by omega
  rw[Y0]at hes
  simp only[eE,eC,eN,reduceCtorEq,Nat.reduceEqDiff,↓reduceIte,X0,lt_F hlj]
  rw[Y0]
  exact Wk.sl (hes.imp id λq=>by rw[q];rfl)
 have hg:=X5 hlj
 have e:=AI (k:=j) (by omega)
 have hci:=hc _ (Xi hlj)
 have htake:l.take (j+1)=l.take j++[l[j]]:=by rw[Y3,hg];rfl
 generalize l[j]=y at hg hci htake
 have hgx:=As hci.1 hci.2
 have hX:((l.take j).map (at0 cells)).length<=j:=by simp;omega
 have q1:Bh H 1 tk=True:=X1 htk.app
 have q2:(((l.take j).map (at0 cells)).length<=35184372088831)=True:=X1 (by omega)
 have q3:Ar (((l.take j).map (at0 cells)).length+1) 8=True:=X1 (AY (by omega) (by decide))
 generalize hXd:(l.take j).map (at0 cells)=X at hX q2 q3 hes
 simp only[eE,eC,eN,reduceCtorEq,Nat.reduceEqDiff,↓reduceIte,Nat.reduceLeDiff,Nat.reduceMul,Nat.reduceLT,Int.reduceEq,X2,X3,X4,X0,X6,lt_T hlj,hg,X1 hci.1,X1 hci.2,hgx,q1,q2,q3,fr1 hf,e]
 refine .mk ⟨j+1,.own (n+9) 1,hset (AW H tk) (n+9) .tok,n+11⟩ ?_ ⟨hlj,(Ae htk hf).hset (m:=n+11) (by omega) (by omega),.inr (.inr ⟨n+9,rfl,Xg _,AC ..⟩),.inl rfl⟩ (by simp only[];omega)
 simp only[htake,Xk,Xu,Y9,hXd]
end Go.AM
namespace Go.AM
open Go.Proofs Go.Lib
theorem p129 (k:Knd) (s:Int) (h:okSy k s):Pur Tryz.prog 129 [A3 k,eI s] (eI (at0 (AP k) s)):=by
 refine .mk ⟨AX 0 k,trivial,trivial⟩ trivial (a129 (AF AH.tnil (AG ?_)))
 have hlt:s.toNat<k.d.syms.length:=by have:=h.1;have:=h.2;omega
 have hg:=X5 hlt
 rw[Gb hg]
 generalize k.d.syms[s.toNat]=y at hg
 simp only[eE,eN,reduceCtorEq,Nat.reduceEqDiff,↓reduceIte,Nat.reduceAdd,Nat.reduceLeDiff,X2,X0,X6,c129,AD,AE,AK,X1 h.1,X1 h.2,hg]
def ID (k:Knd):List AVal->AB->Prop×AVal:=λa _=>match a with
 |[K,.int .i64 s]=>(dKn.ok K/\dKn.dec K=k/\okSy k s,eI (at0 (AP k) s))
 |_=>(False,.tup [])
theorem Uh (k:Knd):∀args H n,(ID k args H).1->Aa Tryz.prog 129 args H n (ID k args H).2:=by
 intro args H n hh
 unfold ID at hh⊢
 split at hh
 ·obtain⟨h1,h2,h3⟩:=hh
  have w1:=dKn.wk _ h1
  rw[h2]at w1
  refine AO.args ((p129 k _ h3).quiet H n) ?_
  rintro g vs ⟨v,r,rfl,k1,k2⟩
  exact⟨v,_,rfl,w1 _ _ k1,k2⟩
 ·exact hh.elim
def Tva (k:Knd):Tab:=tadd 129 (ID k) tnil
theorem Tva_ok (k:Knd):AH Tryz.prog (Tva k):=AH.tnil.add (Uh k)
theorem Tva_v (k:Knd) (a:List AVal) (H:AB):Tva k 129 a H=ID k a H:=rfl
theorem Mq {k:Knd} (hv:∀y∈k.d.syms,0<=y.v/\y.v<=99) {s:Int} (h:okSy k s):0<=at0 (AP k) s/\at0 (AP k) s<=99:=by
 have hlt:s.toNat<k.d.syms.length:=by have:=h.1;have:=h.2;omega
 rw[Gb (X5 hlt)]
 exact hv _ (Xi hlt)
theorem p130 (k:Knd) (s t:Int) (hv:∀y∈k.d.syms,0<=y.v/\y.v<=99) (hs:okSy k s) (ht:okSy k t):Pur Tryz.prog 130 [A3 k,eI s,eI t] (eI (J7 (AP k) s t)):=by
 have u1:dKn.ok (.agg (AD k))=True:=Bq k
 have u2:dKn.dec (.agg (AD k))=k:=BH k
 simp only[AD,AE,AK,Xl,Xm]at u1 u2
 refine .mk ⟨AX 0 k,trivial,trivial,trivial⟩ trivial (a130 (AF (Tva_ok k) (AG ?_)))
 have r1:=Mq hv hs
 have r2:=Mq hv ht
 unfold J7
 generalize hx:at0 (AP k) s=x at r1
 generalize hy:at0 (AP k) t=y at r2
 have w1:IntKind.wrap .i64 (x-y)=x-y:=Az (by omega) (by omega)
 have w2:IntKind.wrap .i64 (y-x)=y-x:=Az (by omega) (by omega)
 simp only[eE,eN,reduceCtorEq,Nat.reduceEqDiff,↓reduceIte,Nat.reduceAdd,c130,AD,AE,AK,Tva_v,ID,u1,u2,X1 hs,X1 ht,hx,hy,w1,w2]
 done
end Go.AM
namespace Go.AM
open Go.Proofs Go.Lib
end Go.AM
namespace Go.AM
open Go.Proofs Go.Lib
def OA (k:Knd):List AVal->AB->Prop×AVal:=λa _=>match a with
 |[K,.int .i64 s,.int .i64 t]=>(dKn.ok K/\dKn.dec K=k/\okSy k s/\okSy k t,eI (J7 (AP k) s t))
 |_=>(False,.tup [])
theorem rowApq {k:Knd} (hv:∀y∈k.d.syms,0<=y.v/\y.v<=99):∀args H n,(OA k args H).1->Aa Tryz.prog 130 args H n (OA k args H).2:=by
 intro args H n hh
 unfold OA at hh⊢
 split at hh
 ·obtain⟨h1,h2,h3,h4⟩:=hh
  have w1:=dKn.wk _ h1
  rw[h2]at w1
  refine AO.args ((p130 k _ _ hv h3 h4).quiet H n) ?_
  rintro g vs ⟨v,r,rfl,k1,k2⟩
  exact⟨v,_,rfl,w1 _ _ k1,k2⟩
 ·exact hh.elim
def rowSm:List AVal->AB->Prop×AVal:=s2 dIs dIs (λl cells=>few l/\∀c∈l,0<=c/\c<(cells.length:Int)) λl cells=>eIs (l.map (at0 cells))
def rowHs:List AVal->AB->Prop×AVal:=s2 dIs dI (λl _=>few l) λl s=>.bool (l.contains s)
def Tks' (k:Knd):Tab:=tadd 128 rowSm (tadd 105 rowHs (tadd 129 (ID k) (tadd 130 (OA k) tnil)))
theorem Vs {k:Knd} (hv:∀y∈k.d.syms,0<=y.v/\y.v<=99):AH Tryz.prog (Tks' k):=(((AH.tnil.add (rowApq hv)).add (Uh k)).add (q2 λl s h=>p105 l s h)).add (q2 λl c h=>p128 l c h.1 h.2)
theorem QJ (k:Knd) (a:List AVal) (H:AB):Tks' k 128 a H=s2 dIs dIs (λl cells=>few l/\∀c∈l,0<=c/\c<(cells.length:Int)) (λl cells=>eIs (l.map (at0 cells))) a H:=rfl
theorem QK (k:Knd) (a:List AVal) (H:AB):Tks' k 105 a H=s2 dIs dI (λl _=>few l) (λl s=>.bool (l.contains s)) a H:=rfl
theorem Ui (k:Knd) (a:List AVal) (H:AB):Tks' k 129 a H=ID k a H:=rfl
theorem Tks'_a (k:Knd) (a:List AVal) (H:AB):Tks' k 130 a H=OA k a H:=rfl
theorem OB {bad:Int->Int->Bool} {l:List Int} {i:Nat} (h:i<l.length):Av bad (l.drop i)=(((l.drop (i+1)).any λb=>decide (0<=l[i])&&decide (0<=b)&&bad l[i] b)||Av bad (l.drop (i+1))):=by
 rw[Xy h,Av]
theorem badR_k {vals:List Int} {k a b:Int} (h1:k≠1) (h4:k≠4):badR vals k a b=false:=by unfold badR;simp [h1,h4]
theorem S2 {ls l:List Int} {i:Nat} {s:Int} (h:l[i]?=some s):cOwn ls (l.take (i+1))=cOwn ls (l.take i)+if(decide (0<=s)&&ls.contains s)=true then 1 else 0:=by
 rw[Y3,h];exact Po ..
theorem S3 {ls l:List Int} {i:Nat} {s:Int} (h:l[i]?=some s):cOth ls (l.take (i+1))=cOth ls (l.take i)+if(decide (0<=s)&& !ls.contains s)=true then 1 else 0:=by
 rw[Y3,h];exact Pp ..
abbrev Hcq (k:Knd) (q:Cnd):AB:=hset (hset hnil 0 (.box (AD k))) 1 (.box (Ps q))
abbrev eCq (letters l:List Int) (all:Bool) (ow ot:Nat) (rest:List (Nat×Bool×AVal)):List (Nat×Bool×AVal):=[(2,true,eIs letters),(4,true,.ptr 0 0),(5,true,.ptr 1 0),(9,true,eIs l),(10,true,.bool all),(11,true,.int .i64 ow),(12,true,.int .i64 ot)]++rest
set_option maxHeartbeats 1000000 in
theorem p88R (k:Knd) (q:Cnd) (letters cells:List Int) (h:ClOK k q letters cells) (hge:∀s∈cells,-1<=s) (h3:q.k=3->q.cs.length=2):
  Pur Tryz.prog 88 [A3 k,encQ q,eIs letters,eIs cells] (.bool (IS (AP k) q.k q.n (q.ls.map (at0 letters)) (q.cs.map (at0 cells)))):=by
 have u1:dKn.ok (.agg (AD k))=True:=Bq k
 have u2:dKn.dec (.agg (AD k))=k:=BH k
 simp only[AD,AE,AK,Xl,Xm]at u1 u2
 refine .mk ⟨AX 0 k,Ct 0 q,AR 0 _,AR 0 _,trivial⟩ trivial (a88 (AF (Vs h.vl) (AG ?_)))
 have hcs:q.cs.length<1000000000:=h.cs
 have f1:(few q.cs/\∀c∈q.cs,0<=c/\c<(cells.length:Int))=True:=X1 ⟨h.cs,h.ci⟩
 have f2:(few q.ls/\∀c∈q.ls,0<=c/\c<(letters.length:Int))=True:=X1 ⟨h.ls,h.li⟩
 have f3:few (q.cs.map (at0 cells))=True:=X1 (by show(q.cs.map (at0 cells)).length<_;rw[X0];exact hcs)
 have f4:few (q.ls.map (at0 letters))=True:=X1 (by show(q.ls.map (at0 letters)).length<_;rw[X0];exact h.ls)
 have hok:∀s∈q.cs.map (at0 cells),0<=s->okSy k s:=λs hs h0=>by
  obtain⟨c,hc,rfl⟩:=Xx.1 hs
  have:=h.ci c hc
  exact h.sy _ (XW (As this.1 this.2)) h0
 have hml:∀s∈q.cs.map (at0 cells),-1<=s:=λs hs=>by
  obtain⟨c,hc,rfl⟩:=Xx.1 hs
  have:=h.ci c hc
  exact hge _ (XW (As this.1 this.2))
 have hln:(q.cs.map (at0 cells)).length=q.cs.length:=X0 ..
 have hk:=h.kind
 have hn:=h.n
 simp only[eE,eN,reduceCtorEq,Nat.reduceEqDiff,↓reduceIte,Nat.reduceAdd,Nat.reduceLeDiff,c88,QJ,QK,s2,Ap,Ak,Bv,A8,f1,f3]
 generalize q.cs.map (at0 cells)=l at f3 hok hml hln
 generalize hls:q.ls.map (at0 letters)=ls at f4
 have hll:l.length<1000000000:=by omega
 obtain⟨bad,hbad⟩:∃bad,badR (AP k) q.k=bad:=⟨_,rfl⟩
 refine AU (λi:Nat=>⟨eCq letters l (!l.contains (-1)) (cOwn ls (l.take i)) (cOth ls (l.take i)) [(13,true,.int .i64 i)],Hcq k q,3⟩) (λi=>i<=l.length/\Av bad l=Av bad (l.drop i)) (λi=>l.length-i) 0 rfl ⟨Xg _,rfl⟩ ?_
 rintro i ⟨hi,hp⟩
 by_cases hlt:i<l.length
 case neg=>
  obtain rfl:i=l.length:=by omega
  rw[Yt,Av]at hp
  rw[Y0]
  unfold IS
  rw[hbad,hp,YL]
  unfold endR
  have lo:=Pq ls l
  by_cases k2:q.k=2
  ·rw[Xh k2]
   cases hc:l.contains (-1)with
   |true=>simp only[eE,eC,eN,Nat.reduceEqDiff,↓reduceIte,Nat.reduceAdd,Nat.reduceLeDiff,X7,X0,lt_F hlt,X1 k2,X7]
   |false=>
    simp only[eE,eC,eN,reduceCtorEq,Nat.reduceEqDiff,↓reduceIte,Nat.reduceAdd,Nat.reduceLeDiff,Xe,X0,lt_F hlt,X1 k2,Xe]
    exact decide_eq_decide.2 (by omega)
  rw[Xc k2]
  by_cases k3:q.k=3
  ·rw[Xh k3]
   cases hc:l.contains (-1)with
   |true=>simp only[eE,eC,eN,reduceCtorEq,Nat.reduceEqDiff,↓reduceIte,Nat.reduceAdd,Nat.reduceLeDiff,Int.reduceLE,X7,Y2,YM,XX,X0,X6,lt_F hlt,X8 k2,X1 k3,X7]
   |false=>
    have hge':∀s∈l,okSy k s:=λs hs=>hok s hs (by
     have hnc:¬(-1:Int)∈l:=λq=>by rw[Y4.2 q]at hc;cases hc
     have hm1:=hml s hs
     by_cases e:s= -1
     ·subst e;exact absurd hs hnc
     ·omega)
    have hl2:l.length=2:=by have:=h3 k3;omega
    obtain⟨a,hg0⟩:∃a,l[0]?=some a:=⟨_,X5 (by omega)⟩
    obtain⟨b,hg1⟩:∃b,l[1]?=some b:=⟨_,X5 (by omega)⟩
    have ha:=hge' a (XW hg0)
    have hb:=hge' b (XW hg1)
    have i0:((0:Int)<(l.length:Int))=True:=X1 (by omega)
    have i1:((1:Int)<(l.length:Int))=True:=X1 (by omega)
    have j0:(0<l.length)=True:=X1 (by omega)
    have j1:(1<l.length)=True:=X1 (by omega)
    rw[hg0,hg1,X2,X2,Xe,YD]
    simp only[eE,eC,eN,reduceCtorEq,Nat.reduceEqDiff,↓reduceIte,Nat.reduceAdd,Nat.reduceLeDiff,Int.reduceLE,X2,Y2,YM,XX,X0,X6,lt_F hlt,X8 k2,X1 k3,i0,i1,hg0,hg1,AD,AE,AK,Tks'_a,OA,u1,u2,X1 ha,X1 hb]
  rw[Xc k3]
  by_cases k6:q.k=6
  ·rw[Xh k6]
   have w:=Az (x:=(l.length:Int)-q.n) (by omega) (by omega)
   by_cases c1':q.n<(cOwn ls l:Int)
   ·rw[Xv c1',ZQ]
    simp only[eE,eC,eN,reduceCtorEq,Nat.reduceEqDiff,↓reduceIte,Nat.reduceAdd,Nat.reduceLeDiff,X7,X0,lt_F hlt,X8 k2,X8 k3,X1 k6,X1 c1']
   ·rw[Xr c1',YL]
    simp only[eE,eC,eN,Nat.reduceEqDiff,↓reduceIte,Nat.reduceAdd,Nat.reduceLeDiff,X0,lt_F hlt,X8 k2,X8 k3,X1 k6,X8 c1',w]
  ·rw[Xc k6]
   simp only[eE,eC,eN,Nat.reduceEqDiff,↓reduceIte,Nat.reduceAdd,Nat.reduceLeDiff,X0,lt_F hlt,X8 k2,X8 k3,X8 k6]
 have hg:=X5 hlt
 have hd:=OB (bad:=bad) hlt
 have hsy:=hok _ (Xi hlt)
 generalize l[i]=a at hg hd hsy
 have ho1:=S2 (ls:=ls) hg
 have ho2:=S3 (ls:=ls) hg
 have e0:=AI (k:=i) (by omega)
 have lo1:=Pq ls (l.take i)
 have lo2:=US ls (l.take i)
 rw[Xw]at lo1 lo2
 have eo1:=AI (k:=cOwn ls (l.take i)) (by omega)
 have eo2:=AI (k:=cOth ls (l.take i)) (by omega)
 obtain⟨P,hP⟩:∃P:Int->Bool,(λb=>decide (0<=a)&&decide (0<=b)&&bad a b)=P:=⟨_,rfl⟩
 have hPb:∀b,P b=(decide (0<=a)&&decide (0<=b)&&bad a b):=λb=>by rw[<-hP]
 rw[hP]at hd
 simp only[eE,eC,eN,Nat.reduceEqDiff,↓reduceIte,Int.reduceEq,X0,lt_T hlt,e0]
 refine AU (λj:Nat=>⟨eCq letters l (!l.contains (-1)) (cOwn ls (l.take i)) (cOth ls (l.take i)) [(13,true,.int .i64 i),(14,true,.int .i64 j)],Hcq k q,3⟩) (λj=>i+1<=j/\j<=l.length/\((l.drop (i+1)).any P)=((l.drop j).any P)) (λj=>l.length-j) (i+1) rfl ⟨Xa _,hlt,rfl⟩ ?_
 rintro j ⟨hj1,hj2,hany⟩
 by_cases hlj:j<l.length
 case neg=>
  obtain rfl:j=l.length:=by omega
  rw[Yt,List.any_nil]at hany
  rw[hany,YL]at hd
  have fin:i+1<=l.length/\Av bad l=Av bad (l.drop (i+1)):=⟨hlt,hp.trans hd⟩
  by_cases h0:0<=a
  ·rw[Xv h0,YD]at ho1 ho2
   cases hc:ls.contains a with
   |true=>
    simp only[hc,X7,YB,XT,Xp,YO]at ho1 ho2
    simp only[eE,eC,eN,reduceCtorEq,Nat.reduceEqDiff,↓reduceIte,Nat.reduceAdd,Nat.reduceLeDiff,Int.reduceEq,X2,X3,X4,X0,X6,lt_F hlj,hg,lt_T hlt,X1 h0,QJ,QK,s2,Ap,Ak,Bv,A8,f2,f4,hls,hc,e0,eo1]
    exact .mk (i+1) (by simp only[ho1,ho2]) fin (by omega)
   |false=>
    simp only[hc,Xe,YB,XT,Xp,YO]at ho1 ho2
    simp only[eE,eC,eN,reduceCtorEq,Nat.reduceEqDiff,↓reduceIte,Nat.reduceAdd,Nat.reduceLeDiff,Int.reduceEq,X2,X3,X4,X0,X6,lt_F hlj,hg,lt_T hlt,X1 h0,QJ,QK,s2,Ap,Ak,Bv,A8,f2,f4,hls,hc,e0,eo2]
    exact .mk (i+1) (by simp only[ho1,ho2]) fin (by omega)
  ·simp only[Xr h0,YH,XT,Xp,YO]at ho1 ho2
   simp only[eE,eC,eN,Nat.reduceEqDiff,↓reduceIte,Nat.reduceAdd,Nat.reduceLeDiff,Int.reduceEq,X2,X3,X4,X0,X6,lt_F hlj,hg,lt_T hlt,X8 h0,e0]
   exact .mk (i+1) (by simp only[ho1,ho2]) fin (by omega)
 have hgj:=X5 hlj
 have hdj:=Xy hlj
 have hsj:=hok _ (Xi hlj)
 generalize l[j]=b at hgj hdj hsj
 rw[hdj,ZN]at hany
 have ej:=AI (k:=j) (by omega)
 have fin:P b=false->(i+1<=j+1/\j+1<=l.length/\((l.drop (i+1)).any P)=((l.drop (j+1)).any P)):=λhf=>by
  rw[hf,YL]at hany
  exact⟨by omega,hlj,hany⟩
 have res:P b=true->IS (AP k) q.k q.n ls l=true:=λhf=>by
  rw[hf,ZQ]at hany
  unfold IS
  rw[hbad,hp,hd,hany,ZQ,ZQ]
 by_cases h0a:0<=a
 case neg=>
  have hf:=fin (by rw[hPb,Xr h0a];rfl)
  by_cases k1:q.k=1
  ·simp only[eE,eC,eN,reduceCtorEq,Nat.reduceEqDiff,↓reduceIte,Nat.reduceAdd,Nat.reduceLeDiff,Int.reduceEq,X2,X3,X4,X0,X6,lt_T hlj,hgj,lt_T hlt,hg,X8 h0a,X1 k1,show(q.k=4)=False from X8 (by omega),ej]
   exact .mk (j+1) rfl hf (by omega)
  by_cases k4:q.k=4
  ·simp only[eE,eC,eN,reduceCtorEq,Nat.reduceEqDiff,↓reduceIte,Nat.reduceAdd,Nat.reduceLeDiff,Int.reduceEq,X2,X3,X4,X0,X6,lt_T hlj,hgj,lt_T hlt,hg,X8 h0a,X8 k1,X1 k4,ej]
   exact .mk (j+1) rfl hf (by omega)
  ·simp only[eE,eC,eN,reduceCtorEq,Nat.reduceEqDiff,↓reduceIte,Nat.reduceAdd,Nat.reduceLeDiff,Int.reduceEq,X2,X3,X4,X0,X6,lt_T hlj,hgj,lt_T hlt,hg,X8 h0a,X8 k1,X8 k4,ej]
   exact .mk (j+1) rfl hf (by omega)
 by_cases h0b:0<=b
 case neg=>
  have hf:=fin (by rw[hPb,Xr h0b,ZA];rfl)
  by_cases k1:q.k=1
  ·simp only[eE,eC,eN,reduceCtorEq,Nat.reduceEqDiff,↓reduceIte,Nat.reduceAdd,Nat.reduceLeDiff,Int.reduceEq,X2,X3,X4,X0,X6,lt_T hlj,hgj,lt_T hlt,hg,X1 h0a,X8 h0b,X1 k1,show(q.k=4)=False from X8 (by omega),ej]
   exact .mk (j+1) rfl hf (by omega)
  by_cases k4:q.k=4
  ·simp only[eE,eC,eN,reduceCtorEq,Nat.reduceEqDiff,↓reduceIte,Nat.reduceAdd,Nat.reduceLeDiff,Int.reduceEq,X2,X3,X4,X0,X6,lt_T hlj,hgj,lt_T hlt,hg,X1 h0a,X8 h0b,X8 k1,X1 k4,ej]
   exact .mk (j+1) rfl hf (by omega)
  ·simp only[eE,eC,eN,reduceCtorEq,Nat.reduceEqDiff,↓reduceIte,Nat.reduceAdd,Nat.reduceLeDiff,Int.reduceEq,X2,X3,X4,X0,X6,lt_T hlj,hgj,lt_T hlt,hg,X1 h0a,X8 h0b,X8 k1,X8 k4,ej]
   exact .mk (j+1) rfl hf (by omega)
 have oa:=hsy h0a
 have ob:=hsj h0b
 by_cases k1:q.k=1
 ·by_cases hab:a=b
  ·rw[res (by rw[hPb,Xv h0a,Xv h0b,<-hbad];unfold badR;simp [k1,hab])]
   simp only[eE,eC,eN,reduceCtorEq,Nat.reduceEqDiff,↓reduceIte,Nat.reduceAdd,Nat.reduceLeDiff,X2,X3,X4,X0,X6,lt_T hlj,hgj,lt_T hlt,hg,X1 h0a,X1 h0b,X1 k1,X1 hab]
  ·have hf:=fin (by rw[hPb,<-hbad];unfold badR;simp [k1,hab])
   simp only[eE,eC,eN,reduceCtorEq,Nat.reduceEqDiff,↓reduceIte,Nat.reduceAdd,Nat.reduceLeDiff,Int.reduceEq,X2,X3,X4,X0,X6,lt_T hlj,hgj,lt_T hlt,hg,X1 h0a,X1 h0b,X1 k1,X8 hab,show(q.k=4)=False from X8 (by omega),ej]
   exact .mk (j+1) rfl hf (by omega)
 by_cases k4:q.k=4
 ·by_cases hab:at0 (AP k) b<=at0 (AP k) a
  ·rw[res (by rw[hPb,Xv h0a,Xv h0b,<-hbad];unfold badR;simp [k4,hab])]
   simp only[eE,eC,eN,reduceCtorEq,Nat.reduceEqDiff,↓reduceIte,Nat.reduceAdd,Nat.reduceLeDiff,X2,X3,X4,X0,X6,lt_T hlj,hgj,lt_T hlt,hg,X1 h0a,X1 h0b,X8 k1,X1 k4,AD,AE,AK,Ui,ID,u1,u2,X1 oa,X1 ob,X1 hab]
  ·have hf:=fin (by rw[hPb,<-hbad];unfold badR;simp [k4,hab])
   simp only[eE,eC,eN,reduceCtorEq,Nat.reduceEqDiff,↓reduceIte,Nat.reduceAdd,Nat.reduceLeDiff,Int.reduceEq,X2,X3,X4,X0,X6,lt_T hlj,hgj,lt_T hlt,hg,X1 h0a,X1 h0b,X8 k1,X1 k4,AD,AE,AK,Ui,ID,u1,u2,X1 oa,X1 ob,X8 hab,ej]
   exact .mk (j+1) rfl hf (by omega)
 ·have hf:=fin (by rw[hPb,<-hbad,badR_k k1 k4,ZA])
  simp only[eE,eC,eN,reduceCtorEq,Nat.reduceEqDiff,↓reduceIte,Nat.reduceAdd,Nat.reduceLeDiff,Int.reduceEq,X2,X3,X4,X0,X6,lt_T hlj,hgj,lt_T hlt,hg,X1 h0a,X1 h0b,X8 k1,X8 k4,ej]
  exact .mk (j+1) rfl hf (by omega)
theorem p88 (k:Knd) (q:Cnd) (letters cells:List Int) (h:ClOK k q letters cells) (hge:∀s∈cells,-1<=s) (h3:q.k=3->q.cs.length=2):
  Pur Tryz.prog 88 [A3 k,encQ q,eIs letters,eIs cells] (.bool (DS (AP k) q letters cells)):=by
 refine(p88R k q letters cells h hge h3).all ?_
 unfold DS
 rw[PS]
 ·intro s hs
  obtain⟨c,hc,rfl⟩:=Xx.1 hs
  have:=h.ci c hc
  exact hge _ (XW (As this.1 this.2))
 ·intro hk
  rw[X0];exact h3 hk
end Go.AM
namespace Go.AM
open Go.Proofs Go.Lib
structure LsG (e:Nat) (Ls:List (List Int)) (E:List AVal) (tk:Tok) (H:AB) (n:Nat):Prop where
 fr:AN H n
 tok:tkG 1 0 H tk
 es:tk.esz=1\/E=[]
 wk:Wks E (Ls.map eIs)
structure VLs where
 i:Nat
 E:List AVal
 tk:Tok
 H:AB
 n:Nat
end Go.AM
namespace Go.AM
open Go.Proofs Go.Lib
theorem p68 (p:Prm) (letters:List Int) (s:Int) (hl:few p.ls) (hi:∀c∈p.ls,0<=c/\c<(letters.length:Int)):Pur Tryz.prog 68 [encM p,eIs letters,eI s] (.bool ((p.ls.map (at0 letters)).contains s)):=by
 refine .mk ⟨El 0 p,AR 0 _,trivial,trivial⟩ trivial (a68 (AF AH.tnil (AG ?_)))
 have hll:p.ls.length<1000000000:=hl
 simp only[eE,eN,reduceCtorEq,Nat.reduceEqDiff,↓reduceIte,Nat.reduceAdd,c68]
 refine AU (λi:Nat=>⟨[(1,true,eIs letters),(2,true,eI s),(3,true,.ptr 0 0),(7,true,.int .i64 i)],hset hnil 0 (.box [.int .i64 p.c,eIs p.ls]),2⟩) (λi=>i<=p.ls.length/\∀(j:Nat) q,j<i->p.ls[j]?=some q->at0 letters q≠s) (λi=>p.ls.length-i) 0 rfl ⟨Xg _,λj q h=>by omega⟩ ?_
 rintro i ⟨hi',hall⟩
 by_cases hlt:i<p.ls.length
 ·have e:=AI (k:=i) (by omega)
  have hg:=X5 hlt
  have hm:=Xi hlt
  generalize p.ls[i]=q at hg hm
  obtain⟨h1,h2⟩:=hi q hm
  have hgx:=As h1 h2
  by_cases hq:at0 letters q=s
  ·rw[show(p.ls.map (at0 letters)).contains s=true from Y4.2 (Xx.2 ⟨q,hm,hq⟩)]
   simp only[eE,eC,eN,Nat.reduceEqDiff,↓reduceIte,Nat.reduceAdd,X2,X3,X4,X0,X6,lt_T hlt,hg,X1 h1,X1 h2,hgx,X1 hq]
  simp only[eE,eC,eN,Nat.reduceEqDiff,↓reduceIte,Nat.reduceAdd,Int.reduceEq,X2,X3,X4,X0,X6,lt_T hlt,hg,X1 h1,X1 h2,hgx,X8 hq,e]
  refine .mk (i+1) rfl ⟨hlt,λj y hj hy=>?_⟩ (by omega)
  by_cases w:j<i
  ·exact hall j y w hy
  ·obtain rfl:j=i:=by omega
   rw[hg]at hy;cases hy;exact hq
 obtain rfl:i=p.ls.length:=by omega
 have:(p.ls.map (at0 letters)).contains s=false:=by
  rw[Zd]
  intro hc
  obtain⟨q,hq,hqs⟩:=Xx.1 (Y4.1 hc)
  obtain⟨j,hj,rfl⟩:=Xt.1 hq
  exact hall j _ hj (X5 hj) hqs
 rw[this]
 simp only[eE,eC,eN,Nat.reduceEqDiff,↓reduceIte,Nat.reduceAdd,X0,lt_F hlt]
def okSs (k:Knd) (l:List Int) (n:Int):Bool:=(l.all λs=>decide (0<=s)&&decide (s<(k.d.syms.length:Int)))&&decide ((l.length:Int)=n)
theorem p52 (k:Knd) (l:List Int) (n:Int) (hl:few l):Pur Tryz.prog 52 [A3 k,eIs l,eI n] (.bool (okSs k l n)):=by
 refine .mk ⟨AX 0 k,AR 0 _,trivial,trivial⟩ trivial (a52 (AF AH.tnil (AG ?_)))
 have hll:l.length<1000000000:=hl
 unfold okSs
 simp only[eE,eN,reduceCtorEq,Nat.reduceEqDiff,↓reduceIte,Nat.reduceAdd,c52,AD,AE,AK]
 refine AU (λi:Nat=>⟨[(1,true,eIs l),(2,true,eI n),(3,true,.ptr 0 0),(7,true,.int .i64 i)],hset hnil 0 (.box (AD k)),2⟩) (λi=>i<=l.length/\∀(j:Nat) s,j<i->l[j]?=some s->0<=s/\s<(k.d.syms.length:Int)) (λi=>l.length-i) 0 rfl ⟨Xg _,λj q h=>by omega⟩ ?_
 rintro i ⟨hi',hall⟩
 by_cases hlt:i<l.length
 ·have e:=AI (k:=i) (by omega)
  have hg:=X5 hlt
  have hm:=Xi hlt
  generalize l[i]=q at hg hm
  by_cases h0:q<0
  ·have:(l.all λs=>decide (0<=s)&&decide (s<(k.d.syms.length:Int)))=false:=Zl.2 ⟨q,hm,by simp;omega⟩
   rw[this,YH]
   simp only[eE,eC,eN,reduceCtorEq,Nat.reduceEqDiff,↓reduceIte,Nat.reduceAdd,Nat.reduceLeDiff,X7,X2,X3,X4,X0,X6,lt_T hlt,hg,X1 h0,AD,AE,AK]
  by_cases hk:(k.d.syms.length:Int)<=q
  ·have:(l.all λs=>decide (0<=s)&&decide (s<(k.d.syms.length:Int)))=false:=Zl.2 ⟨q,hm,by simp;omega⟩
   rw[this,YH]
   simp only[eE,eC,eN,Nat.reduceEqDiff,↓reduceIte,Nat.reduceAdd,Nat.reduceLeDiff,X2,X3,X4,X0,X6,lt_T hlt,hg,X8 h0,X1 hk,AD,AE,AK]
  simp only[eE,eC,eN,Nat.reduceEqDiff,↓reduceIte,Nat.reduceAdd,Nat.reduceLeDiff,Int.reduceEq,X2,X3,X4,X0,X6,lt_T hlt,hg,X8 h0,X8 hk,e,AD,AE,AK]
  refine .mk (i+1) rfl ⟨hlt,λj y hj hy=>?_⟩ (by omega)
  by_cases w:j<i
  ·exact hall j y w hy
  ·obtain rfl:j=i:=by omega
   rw[hg]at hy;cases hy
   exact⟨by omega,by omega⟩
 obtain rfl:i=l.length:=by omega
 rw[S1 λj s hj hs=>by rw[Xv (hall j s hj hs).1,Xv (hall j s hj hs).2];rfl,YD]
 simp only[eE,eC,eN,Nat.reduceEqDiff,↓reduceIte,X0,lt_F hlt]
end Go.AM
namespace Go.AM
open Go.Proofs Go.Lib
structure KlOK (k:Knd) (q:Cnd) (letters cells:List Int):Prop where
 cl:ClOK k q letters cells
 ge:∀s∈cells,-1<=s
 h3:q.k=3->q.cs.length=2
def Lc (k:Knd):List AVal->AB->Prop×AVal:=λa _=>match a with
 |[K,Q,a1,a2]=>(dKn.ok K/\dKn.dec K=k/\dQ.ok Q/\dIs.ok a1/\dIs.ok a2/\KlOK k (dQ.dec Q) (dIs.dec a1) (dIs.dec a2),.bool (DS (AP k) (dQ.dec Q) (dIs.dec a1) (dIs.dec a2)))
 |_=>(False,.tup [])
theorem rowKlq (k:Knd):∀args H n,(Lc k args H).1->Aa Tryz.prog 88 args H n (Lc k args H).2:=by
 intro args H n hh
 unfold Lc at hh⊢
 split at hh
 ·obtain⟨h1,h2,h3,h4,h5,h6⟩:=hh
  have w1:=dKn.wk _ h1
  rw[h2]at w1
  refine AO.args ((p88 k _ _ _ h6.cl h6.ge h6.h3).quiet H n) ?_
  rintro g vs ⟨v1,r1,rfl,k1,v2,r2,rfl,k2,v3,r3,rfl,k3,v4,r4,rfl,k4,k5⟩
  exact⟨v1,_,rfl,w1 _ _ k1,v2,_,rfl,dQ.wk _ h3 _ _ k2,v3,_,rfl,dIs.wk _ h4 _ _ k3,v4,_,rfl,dIs.wk _ h5 _ _ k4,k5⟩
 ·exact hh.elim
theorem kl_ok {k:Knd} {x:Lma} {letters cells:List Int} (h:RdC k x letters) (hc:ClP k x cells) {q:Cnd} (hq:q∈x.qs):KlOK k q letters cells:=by
 refine⟨cl_ok h hc.cl hq,hc.ge,λh3=>?_⟩
 rcases(NV (h.ox.qs q hq)).kind with⟨z,-⟩|⟨z,-⟩|⟨-,z,-⟩|⟨z,-⟩|⟨z,-⟩<;>first|exact z|omega
def rowAl:List AVal->AB->Prop×AVal:=s3 dM dIs dI (λp letters _=>few p.ls/\∀c∈p.ls,0<=c/\c<(letters.length:Int)) λp letters s=>.bool ((p.ls.map (at0 letters)).contains s)
def Trc (k:Knd):Tab:=tadd 88 (Lc k) (tadd 68 rowAl tnil)
theorem Trc_ok (k:Knd):AH Tryz.prog (Trc k):=(AH.tnil.add (q3 λp l s h=>p68 p l s h.1 h.2)).add (rowKlq k)
theorem Trc_c (k:Knd) (a:List AVal) (H:AB):Trc k 88 a H=Lc k a H:=rfl
theorem Trc_a (k:Knd) (a:List AVal) (H:AB):Trc k 68 a H=s3 dM dIs dI (λp letters _=>few p.ls/\∀c∈p.ls,0<=c/\c<(letters.length:Int)) (λp letters s=>.bool ((p.ls.map (at0 letters)).contains s)) a H:=rfl
abbrev Hkx (k:Knd) (x:Lma):AB:=hset (hset hnil 0 (.box (AD k))) 1 (.box (AQ x))
theorem p53 (k:Knd) (x:Lma) (letters cells:List Int) (h:PrC k x letters) (hc:ClP k x cells):Pur Tryz.prog 53 [A3 k,encL x,eIs letters,eIs cells] (eI (Dz (AP k) x letters cells)):=by
 have u1:dKn.ok (.agg (AD k))=True:=Bq k
 have u2:dKn.dec (.agg (AD k))=k:=BH k
 simp only[AD,AE,AK,Xl,Xm]at u1 u2
 have hnq:x.qs.length<1000000000:=h.fx.qs
 have hnp:x.ps.length<1000000000:=h.fx.ps
 refine .mk ⟨AX 0 k,Ac 0 x,AR 0 _,AR 0 _,trivial⟩ trivial (a53 (AF (Trc_ok k) (AG ?_)))
 simp only[eE,eN,reduceCtorEq,Nat.reduceEqDiff,↓reduceIte,Nat.reduceAdd,c53]
 refine AU (λi:Nat=>⟨[(2,true,eIs letters),(3,true,eIs cells),(4,true,.ptr 0 0),(5,true,.ptr 1 0),(9,true,.int .i64 i)],Hkx k x,3⟩) (λi=>i<=x.qs.length/\∀j:Nat,j<i->A0 (AP k) x letters cells (j:Int)=false) (λi=>x.qs.length-i) 0 rfl ⟨Xg _,λj h=>by omega⟩ ?_
 rintro i ⟨hi,hno⟩
 by_cases hlt:i<x.qs.length
 ·have hg:=X5 hlt
  have hm:=Xi hlt
  have e:=AI (k:=i) (by omega)
  generalize x.qs[i]=q at hg hm
  have hkl:=kl_ok h.rd hc hm
  have hcq:=Px (vals:=AP k) (letters:=letters) (cells:=cells) hg
  cases hb:DS (AP k) q letters cells with
  |true=>
   rw[hb]at hcq
   rw[Gc hno hcq]
   simp only[eE,eC,eN,reduceCtorEq,Nat.reduceEqDiff,↓reduceIte,Nat.reduceAdd,Nat.reduceLeDiff,X2,X3,X4,X0,X6,lt_T hlt,hg,AD,AE,AK,AQ,Trc_c,Lc,u1,u2,LH,GM,Ap,Ak,X1 hkl,hb]
  |false=>
   rw[hb]at hcq
   simp only[eE,eC,eN,reduceCtorEq,Nat.reduceEqDiff,↓reduceIte,Nat.reduceAdd,Nat.reduceLeDiff,Int.reduceEq,X2,X3,X4,X0,X6,lt_T hlt,hg,AD,AE,AK,AQ,Trc_c,Lc,u1,u2,LH,GM,Ap,Ak,X1 hkl,hb,e]
   refine .mk (i+1) rfl ⟨hlt,λj hj=>?_⟩ (by omega)
   by_cases w:j<i
   ·exact hno j w
   ·obtain rfl:j=i:=by omega
    exact hcq
 obtain rfl:i=x.qs.length:=by omega
 simp only[eE,eC,eN,Nat.reduceEqDiff,↓reduceIte,Nat.reduceAdd,Nat.reduceLeDiff,X0,lt_F hlt,AQ]
 refine AU (λi:Nat=>⟨[(2,true,eIs letters),(3,true,eIs cells),(5,true,.ptr 1 0),(10,true,.int .i64 i)],Hkx k x,3⟩) (λi=>i<=x.ps.length/\∀j:Nat,j<x.qs.length+i->A0 (AP k) x letters cells (j:Int)=false) (λi=>x.ps.length-i) 0 rfl ⟨Xg _,hno⟩ ?_
 clear hno
 rintro i ⟨hi,hno⟩
 by_cases hlp:i<x.ps.length
 case neg=>
  obtain rfl:i=x.ps.length:=by omega
  rw[Mn hno]
  simp only[eE,eC,eN,Nat.reduceEqDiff,↓reduceIte,Nat.reduceAdd,Nat.reduceLeDiff,X0,lt_F hlp,AQ]
 have hg:=X5 hlp
 have hm:=Xi hlp
 have e:=AI (k:=i) (by omega)
 have e2:IntKind.wrap .i64 ((x.qs.length:Int)+(i:Int))=((x.qs.length+i:Nat):Int):=by rw[Az (by omega) (by omega)];omega
 generalize x.ps[i]=p at hg hm
 have hpc:=Gx h.ox hm
 have hpr:=JM h.rd p hm
 have hcp:=Py (vals:=AP k) (letters:=letters) (cells:=cells) hg
 rw[<-hc.cl.len]at hpc
 have hgx:=As hpc.1 hpc.2
 have next:CY p letters cells=false->(i+1<=x.ps.length/\∀j:Nat,j<x.qs.length+(i+1)->A0 (AP k) x letters cells (j:Int)=false):=λhd=>by
  refine⟨hlp,λj hj=>?_⟩
  by_cases w:j<x.qs.length+i
  ·exact hno j w
  ·obtain rfl:j=x.qs.length+i:=by omega
   rw[hcp,hd]
 by_cases h0:0<=at0 cells p.c
 case neg=>
  have hd:CY p letters cells=false:=by unfold CY;rw[Xr h0];rfl
  simp only[eE,eC,eN,Nat.reduceEqDiff,↓reduceIte,Nat.reduceAdd,Nat.reduceLeDiff,Int.reduceEq,X2,X3,X4,X0,X6,lt_T hlp,hg,AQ,X1 hpc.1,X1 hpc.2,hgx,X8 h0,e]
  exact .mk (i+1) rfl (next hd) (by omega)
 cases hb:(p.ls.map (at0 letters)).contains (at0 cells p.c)with
 |true=>
  have hd:CY p letters cells=false:=by unfold CY;rw[hb];simp
  simp only[eE,eC,eN,reduceCtorEq,Nat.reduceEqDiff,↓reduceIte,Nat.reduceAdd,Nat.reduceLeDiff,Int.reduceEq,X7,X2,X3,X4,X0,X6,lt_T hlp,hg,AQ,X1 hpc.1,X1 hpc.2,hgx,X1 h0,e,Trc_a,s3,Vc,P7,Ap,Ak,Bv,A8,X1 hpr,hb,X7]
  exact .mk (i+1) rfl (next hd) (by omega)
 |false=>
  have hd:CY p letters cells=true:=by unfold CY;rw[hb,Xv h0];rfl
  rw[hd]at hcp
  rw[Gc hno hcp]
  simp only[eE,eC,eN,reduceCtorEq,Nat.reduceEqDiff,↓reduceIte,Nat.reduceAdd,Nat.reduceLeDiff,Xe,X2,X3,X4,X0,X6,lt_T hlp,hg,AQ,X1 hpc.1,X1 hpc.2,hgx,X1 h0,e2,Trc_a,s3,Vc,P7,Ap,Ak,Bv,A8,X1 hpr,hb,Xe]
structure BgC (x:Lma) (letters:List Int):Prop where
 fx:few x.cs
 c:0<=x.c/\x.c<(x.cs.length:Int)
 l:0<=x.l/\x.l<(letters.length:Int)
structure IBg (x:Lma) (v:VPy):Prop where
 hi:v.i<=x.cs.length
 hn:2<=v.n
 fr:AN v.H v.n
 h0:hget v.H 0=some (.box (AQ x))
 tok:tkG 1 1 v.H v.tk
 es:v.tk.esz=1\/v.i=0
end Go.AM
