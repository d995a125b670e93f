/-
  Parts of the proof. Conditions: none.
-/
import Derived.Test.YtabcmhkkohbdeaaGreatB14
set_option maxRecDepth 20000
set_option linter.all false
namespace Go.AM
open Go.Lib Go.Proofs Go.Proofs.Tryz
abbrev Tj:Fs:=.agg [.sl .nil []]
def mR(vals:List Int)(x:zy):Fs:=match qu vals x with
 | .error e=>.tup [Tj,.int .i64 e]
 | .ok ts=>.tup [Bn ts,.int .i64 0]
def JL(k:zx)(x:zy):Fs:=if BT k x≠0 then .tup [Tj,.int .i64 (BT k x)]else mR (AW k) x
def Tpr:Bc:=AG 23 (s2 B2 dX (λk x=>zk k.d/\xw x) FJ) tnil
def mS:AH prog Tpr:=AH.tnil.add (q2 λk x h=>p23 k x h.1 h.2)
def Rr{k:zx}{x:zy}(hk:zk k.d)(hx:xw x)(h:BT k x=0):BM k=0/\OKL x:=by
 unfold BT at h;by_cases hc:BM k=0
 ·rw[rj (by simpa using hc)]at h;exact⟨hc,ZP h⟩
 ·rw[rt hc]at h;exact absurd h hc
structure VPv where
 j:Nat
 ts:List (List x9)
 H:AB
 n:Nat
structure IPv(k:zx)(x:zy)(A:List (List Int))(F:List Int->Option (List x9))(v:VPv):Prop where
 hj:v.j<=A.length
 fr:AP v.H v.n
 hn:6<=v.n
 h0:AD v.H 0=some (.box (AF k))
 h1:AD v.H 1=some (.box (AY x))
 h2:∃tp E,AD v.H 2=some (.box [.sl tp E])/\(La v.ts<=65536->Wks E (v.ts.map MZ))/\E.length=v.ts.length/\(tp.esz=1\/E=[])/\DA 1 6 v.H tp
 h4:AD v.H 4=some (.box [.int .i64 (La v.ts)])
 he:Xy F A=(Xy F (A.drop v.j)).map λt=>v.ts++t
 ln:v.ts.length=v.j
 le:La v.ts<=v.j*70000
section
def Tyc(k:zx)(x:zy)(letters:List Int):Bc:=AG 31 (Kw k x letters) (AG 32 Lk tnil)
variable {H:AB} {k:zx} {letters:List Int} {x:zy} {l' n id:Nat}
theorem mT(h:PrC k x letters):AH prog (Tyc k x letters):=(AH.tnil.add Y3).add (dt h)
structure CxL(k:zx)(x:zy)(letters:List Int)(q10 q11 L l':Nat)(env:List (Nat×Bool×Fs))(H:AB):Prop where
 h2:AD H 2=some (.box [.sl .nil []])
 h3:AD H 3=some (.box [.sl .nil []])
 h4:AD H 4=some (.box [.bool false])
 h10:AD H q10=some (.box [Am letters])
 h11:AD H q11=some (.box (BQ k x letters))
 hL:AD H L=some (.lp ⟨l',.ready,none,46,env, #[34],Ja,Jb⟩)
def CxF(letters c:List Int)(L l':Nat)(env:List (Nat×Bool×Fs))(H:AB):Prop:=
 AD H 2=some (.box [Am letters])/\AD H 3=some (.box [Am c])/\AD H 4=some (.box [.bool true])/\AD H L=some (.lp ⟨l',.done,some (.exit 0),46,env, #[34],Ja,Jb⟩)
abbrev ZQ(q10 q11:Nat)(rest:List (Nat×Bool×Fs)):List (Nat×Bool×Fs):=[(2,true,.ptr 0 0),(3,true,.ptr 1 0),(4,true,.ptr 2 0),(5,true,.ptr 3 0),(6,true,.ptr 4 0),(7,true,.int .i64 0),(10,true,.ptr q10 0),(11,true,.ptr q11 0)]++rest
theorem y_cx{cells:List Int}(h:PrC k x letters){q10 q11 L:Nat}{rest:List (Nat×Bool×Fs)}{R:Bool->AB->Nat->Prop}(hf:AP H n)(hl5:5<=L)
  (hX:CxL k x letters q10 q11 L l' (ZQ q10 q11 rest) H) (p9:AD H id=some (.arr 1 (cells.map eI))) (hC:ClP k x cells)
  (hT:DH (AW k) x letters cells=false->∀H' n',AP H' n'->n<=n'->(∀i,i<n->AD H' i=AD H i)->R true H' n')
  (hF:DH (AW k) x letters cells=true->∀H' n',CxF letters cells L l' (ZQ q10 q11 rest) H'->R false H' n'):
  CV prog l' [.ref id 1 0 x.cs.length x.cs.length] H n R:=by
 obtain⟨h2,h3,h4,h10,h11,hL⟩:=hX;have xL:=hf.lt hL;have hRI:∀H',AD H' id=AD H id->O2 H' (.ref id 1 0 x.cs.length x.cs.length) cells:=λH' e=>.inr ⟨id,_,[],by rw[hC.cl.len],by rw[e,sE];exact p9,by rw[hC.cl.len];exact rq _⟩
 have hneL:∀i ob,AD H i=some ob->(∀z,ob≠ .lp z)->L≠i:=λi ob hi hn e=>by rw[<-e,hL]at hi;cases hi;exact hn _ rfl
 refine y10_0 hL rfl (AI AH.tnil (AJ ?_));simp only[eE,eN,seval,Uh,Gl,um,uu,tM,uO];refine⟨_,hL,rfl,AI (mT h) (AJ ?_)⟩;generalize hH1:hset H L _=H1;have k1:∀i,i≠L->AD H1 i=AD H i:=λi hi=>by rw[<-hH1,AA _ _ _ _ (Ne.symm hi)]
 have hf1:AP H1 n:=by rw[<-hH1];exact hf.hset (rq _) xL
 have hL1:AD H1 L=some (.lp ⟨l',.busy,none,46,ZQ q10 q11 rest, #[34],Ja,Jb⟩):=by rw[<-hH1,AC]
 have n11:=hneL _ _ h11 (λz e=>by cases e);have n10:=hneL _ _ h10 (λz e=>by cases e);have nid:=hneL _ _ p9 (λz e=>by cases e);have a11:=(k1 q11 (Ne.symm n11)).trans h11;have gQ:=(k1 q10 (Ne.symm n10)).trans h10;have aid:=hRI H1 (k1 id (Ne.symm nid));have r1:=I6 aid;have a2:=(k1 2 zo).trans h2;have a3:=(k1 3 zo).trans h3;have a4:=(k1 4 zo).trans h4;simp only[BQ,AF,AE,AL,AY,si,sj]at a11;have eP1:(Fs.agg [.str k.d.nm,.int .i64 k.d.ver,.int .i64 k.d.sh,.int .i64 k.d.w,.int .i64 k.d.h,Am k.d.holes,IW k.d.syms,HP k.d.regs,E6 k.d.clus,Dr k.d.ruls,.int .i64 k.g.sh,.int .i64 k.g.w,.int .i64 k.g.h,Am k.g.holes,Am k.g.cells,Bv k.nb,ML k.ls,.str x.nm,.int .i64 x.lv,FH x.cs,FH x.ls,.sl (.none 4) (x.qs.map GK),.sl (.none 2) (x.ps.map GP),.int .i64 x.c,.int .i64 x.l,Am letters]=O9 k x letters)=True:=ra rfl;have hx4:=h.ox.cs.2.2.2;have hfew:An cells:=by show cells.length<_;rw[hC.cl.len];omega
 cases hb:DH (AW k) x letters cells with
 |false=>
  have hcn:∃c:Nat,I8 (AW k) x letters cells=(c:Int):=by grind [I8,Ji]
  obtain⟨c,hcn⟩:=hcn;have w1:((c:Int)<0)=False:=ri zo;have w2:decide ((c:Int)<0)=false:=sa zo;simp only[eZ,seval,Qz,a11,Tyc,Kw,eP1,r1,ra aid,ra hC,hcn,w1,AG];refine⟨⟨l',.busy,none,46,ZQ q10 q11 rest, #[34],Ja,Jb⟩,hL1,hT hb _ _ (hf1.hset (m:=n) (rq _) xL) (rq _) λi hi=>?_⟩;rw[AT];split
  ·rename_i e;rw[<-e];exact hL.symm
  ·rename_i e;exact k1 i (Ne.symm e)
 |true=>
  have hcn:I8 (AW k) x letters cells= -1:=by unfold I8;rw[Ji.2 hb]
  simp only[eZ,seval,Qz,a11,gQ,a2,a3,a4,Tyc,Lk,Kw,eP1,r1,ra aid,ra hC,hcn,ra hfew,AG];refine⟨⟨l',.busy,none,46,ZQ q10 q11 rest, #[34],Ja,Jb⟩,?_,hF hb _ _ ⟨?_,?_,?_,AC ..⟩⟩
  ·grind [AA]
  ·simp_all [AA,AC]
  ·simp_all [AA,AC]
  ·rw[AA _ _ _ _ zo,AC]
structure ChC(k:zx)(x:zy)(letters:List Int)(d1 d2 d3 d4 id l':Nat)(H:AB):Prop where
 h1:AD H d1=some (.box [.ref id 1 0 x.cs.length x.cs.length])
 h2:AD H d2=some (.box [.fn (.yield l') [] []])
 h3:AD H d3=some (.box (BQ k x letters))
 h4:AD H d4=some (.box [.fn (.func 58) [] [.ptr d1 0,.ptr d2 0,.ptr d3 0,.ptr d4 0]])
theorem ChC.keep{d1 d2 d3 d4:Nat}{H':AB}(h:ChC k x letters d1 d2 d3 d4 id l' H)(p9:∃L,AD H id=some (.arr 1 L))(hf:AP H n)(hk:DL id n H H'):ChC k x letters d1 d2 d3 d4 id l' H':=by
 obtain⟨L,p9⟩:=p9;have key:∀c cs,AD H c=some (.box cs)->AD H' c=some (.box cs):=λc cs hc=>by
  rw[hk c (hf.lt hc) (λe=>by rw[e,p9]at hc;cases hc)];exact hc
 obtain⟨h1,h2,h3,h4⟩:=h;exact⟨key _ _ h1,key _ _ h2,key _ _ h3,key _ _ h4⟩
theorem CxL.keep{q10 q11 L:Nat}{env:List (Nat×Bool×Fs)}{H':AB}(h:CxL k x letters q10 q11 L l' env H)(p9:∃L,AD H id=some (.arr 1 L))(hf:AP H n)(hk:DL id n H H'):CxL k x letters q10 q11 L l' env H':=by
 obtain⟨A,p9⟩:=p9;have key:∀c ob,AD H c=some ob->(∀A,ob≠ .arr 1 A)->AD H' c=some ob:=λc ob hc hn=>by
  rw[hk c (hf.lt hc) (λe=>by rw[e,p9]at hc;cases hc;exact hn _ rfl)];exact hc
 obtain⟨h2,h3,h4,h10,h11,hL⟩:=h;exact⟨key _ _ h2 (λA e=>by cases e),key _ _ h3 (λA e=>by cases e),key _ _ h4 (λA e=>by cases e),key _ _ h10 (λA e=>by cases e),key _ _ h11 (λA e=>by cases e),key _ _ hL (λA e=>by cases e)⟩
def agree(i:Nat)(a b:List Int):Prop:=a.length=b.length/\∀k,k<i->a[k]?=b[k]?
theorem VZ{m:Nat}:∀(j i:Nat) (a b:List Int),i+j=a.length->agree i a b->Ie m x letters j i a=Ie m x letters j i b
 |0,i,a,b,hij,h=>by
  have:a=b:=uR λk=>by
   by_cases q:k<i
   ·exact h.2 k q
   ·rw[uj zo,uj (by have:=h.1;omega)]
  rw[this]
 |j+1,i,a,b,hij,h=>by
  rw[Ie,Ie];congr 1;funext s;refine VZ j (i+1) _ _ (by rw[tS];omega) ⟨by rw[tS,tS];exact h.1,λk hk=>?_⟩;rw[uS,uS,h.1];split
  ·rfl
  ·exact h.2 k zo
def ChP(k:zx)(letters:List Int)(L l':Nat)(env:List (Nat×Bool×Fs))(id n i:Nat)(H:AB)(cells:List Int)(r:Option (List Int)):v8->AB->Nat->Prop:=λo H' n'=>match r with
 |none=>o= .ret (.bool true)/\AP H' n'/\n<=n'/\DL id n H H'/\∃cells',AD H' id=some (.arr 1 (cells'.map eI))/\agree i cells cells'/\∀s∈cells',DZ k s
 |some c=>o= .ret (.bool false)/\CxF letters c L l' env H'
def ChG(k:zx)(x:zy)(letters:List Int)(q10 q11 L l' d1 d2 d3 d4 id:Nat)(rest:List (Nat×Bool×Fs))(j:Nat):Prop:=∀(i:Nat) (cells:List Int) (H:AB) (n:Nat),i+j=x.cs.length->cells.length=x.cs.length->(∀s∈cells,DZ k s)->AP H n->ChC k x letters d1 d2 d3 d4 id l' H->CxL k x letters q10 q11 L l' (ZQ q10 q11 rest) H->AD H id=some (.arr 1 (cells.map eI))->
 AV prog 58 [.int .i64 i,.ptr d1 0,.ptr d2 0,.ptr d3 0,.ptr d4 0] H n (ChP k letters L l' (ZQ q10 q11 rest) id n i H cells ((Ie k.d.syms.length x letters j i cells).find? λc=>DH (AW k) x letters c))
structure VCx where
 s:Nat
 c:List Int
 H:AB
 n:Nat
structure ICx(k:zx)(id n0 i:Nat)(H0:AB)(cells:List Int)(r:Option (List Int))(rest:Nat->Option (List Int))(v:VCx):Prop where
 hs:v.s<=k.d.syms.length
 fr:AP v.H v.n
 hn:n0<=v.n
 kp:DL id n0 H0 v.H
 ar:AD v.H id=some (.arr 1 (v.c.map eI))
 ag:agree i cells v.c
 ok:∀s∈v.c,DZ k s
 he:r=rest v.s
theorem Wu{i:Nat}{a b:List Int}{s:Int}(h:agree i a b):agree (i+1) (a.set i s) (b.set i s):=⟨by rw[tS,tS];exact h.1,λk hk=>by
 rw[uS,uS,h.1];split
 ·rfl
 ·exact h.2 k zo⟩
theorem PD(h:PrC k x letters)(q10 q11 L l' d1 d2 d3 d4 id:Nat)(rest:List (Nat×Bool×Fs))(hl5:5<=L)(j:Nat)(ih:∀j',j=j'+1->ChG k x letters q10 q11 L l' d1 d2 d3 d4 id rest j'):ChG k x letters q10 q11 L l' d1 d2 d3 d4 id rest j:=by
 intro i cells H n hij wo s7 hf hG hX p9;have hG0:=hG;obtain⟨h1,h2,h3,h4⟩:=hG0;have hC:∀c:List Int,c.length=x.cs.length->(∀s∈c,DZ k s)->ClP k x c:=λc e hc=>⟨⟨e,λs hs _=>hc s hs⟩,λs hs=>by have:=(hc s hs).1;omega⟩
 have h3':=h3;simp only[BQ,AF,AE,AL,AY,si,sj]at h3';refine c58.a (AI AH.tnil (AJ ?_));cases j with
 |zero=>
  have hi:((i:Int)=(x.cs.length:Int))=True:=ra zo;have hd:decide ((i:Int)=(x.cs.length:Int))=true:=sk zo;simp only[eZ,seval,c58,h1,h2,hi];rw[Ie,List.find?_cons,List.find?_nil];refine y_cx h (rest:=rest) hf hl5 hX p9 (hC _ wo s7) (λhb H' n' a1 a2 a3=>?_) (λhb H' n' a1=>?_)
  ·simp only[eE,eN,seval,Og];rw[hb];exact⟨rfl,a1,a2,λz z1 _=>a3 z z1,cells,(a3 id (hf.lt p9)).trans p9,⟨rfl,λ_ _=>rfl⟩,s7⟩
  ·simp only[eE,eN,seval,Og];rw[hb];exact⟨rfl,a1⟩
 |succ j=>
 have ih:=ih j rfl;have hi:((i:Int)=(x.cs.length:Int))=False:=ri zo;have hsy:=CP h.ck;have il:i<x.cs.length:=zo
 have hx4:=h.ox.cs.2.2.2;have e1:=AK (k:=i) zo;have il3:((i:Int)<(x.cs.length:Int))=True:=ra zo;obtain⟨G,hG'⟩:∃G:Int->List (List Int),(λs=>Ie k.d.syms.length x letters j (i+1) (cells.set i s))=G:=⟨_,rfl⟩;obtain⟨p,hp⟩:∃p:Int->Bool,(λs=>decide ((i:Int)≠x.c)||decide (s=BW letters x.l))=p:=⟨_,rfl⟩;rw[Ie,hG',hp];have hGs:∀s,G s=Ie k.d.syms.length x letters j (i+1) (cells.set i s):=λs=>by rw[<-hG']
 have hps:∀s,p s=(decide ((i:Int)≠x.c)||decide (s=BW letters x.l)):=λs=>by rw[<-hp]
 simp only[eZ,seval,r9,c58,h1,h3',hi];refine AO (λv:VCx=>⟨[(0,true,.int .i64 i),(1,true,.ptr d1 0),(3,true,.ptr d3 0),(4,true,.ptr d4 0),(19,true,.int .i64 k.d.syms.length),(20,true,.int .i64 v.s)],v.H,v.n⟩) (ICx k id n i H cells ((((B7 k.d.syms.length).filter p).flatMap G).find? λc=>DH (AW k) x letters c) (λs=>((((B7 k.d.syms.length).drop s).filter p).flatMap G).find? λc=>DH (AW k) x letters c)) (λv=>k.d.syms.length-v.s)
  ⟨0,cells,H,n⟩ rfl ⟨rm _,hf,rq _,DL.refl _,p9,⟨rfl,λ_ _=>rfl⟩,s7,rfl⟩ ?_
 rintro⟨s,c,H1,n1⟩ ⟨hs,hf1,me,hk1,har,hag,hok1,he⟩;simp only at hs hf1 me hk1 har hag hok1 he;rw[he];by_cases c9:s<k.d.syms.length;case neg=>
  obtain rfl:s=k.d.syms.length:=zo
  rw[ut (by unfold B7;simp)];simp only[eZ,seval,Ad c9];exact⟨rfl,hf1,me,hk1,c,har,hag,hok1⟩
 have e:=AK (k:=s) zo;have hd:=Ro c9;have hG1:=hG.keep ⟨_,p9⟩ hf hk1;have hX1:=hX.keep ⟨_,p9⟩ hf hk1;obtain⟨g1,g2,g3,g4⟩:=hG1;simp only[BQ,AF,AE,AL,AY,si,sj]at g3;have hxl:=h.ox.l;rw[<-h.rd.ll]at hxl;have hgl:=CZ hxl.1 hxl.2;have w5:(0<=x.l)=True:=ra hxl.1;have w6:(x.l<(letters.length:Int))=True:=ra hxl.2;have hcl1:c.length=x.cs.length:=by rw[<-hag.1];exact wo
 have il2:(i<c.length)=True:=ra zo;have hps':=hps (s:Int);generalize BW letters x.l=lt at hgl hps';by_cases hpv:p (s:Int)=true;case neg=>
  have hpv':p (s:Int)=false:=by simpa using hpv
  rw[hd,uK hpv];rw[hpv']at hps';have hbo:=tv.1 hps'.symm;have hic:(i:Int)=x.c:=by simpa using hbo.1
  have ye:¬(s:Int)=lt:=by simpa using hbo.2
  simp only[eZ,seval,rf,eY,AN c9,g3,ra hic,w5,w6,hgl,ri ye,rf,e];exact .mk ⟨s+1,c,H1,n1⟩ rfl ⟨c9,hf1,me,hk1,har,hag,hok1,rfl⟩ zp
 rw[hd,uL hpv,uJ,List.find?_append];have est:(c.map eI).set i (.int .i64 (s:Int))=(c.set i (s:Int)).map eI:=by simp_all
 have y4:(id=d4)=False:=ri λq=>by rw[q,g4]at har;cases har
 have hbr:¬(i:Int)=x.c\/(i:Int)=x.c/\(s:Int)=lt:=by grind
 rcases hbr with hic|⟨hic,ye⟩
 case' inl=>simp only[eZ,seval,eY,AN c9,g3,ri hic,w5,w6,hgl,g1,har,il2,il3,est,g4,y4,e1]
 case' inr=>simp only[eZ,seval,re,eY,AN c9,g3,ra hic,w5,w6,hgl,ra ye,re,g1,har,il2,il3,est,g4,y4,e1]
 all_goals
  generalize hH2:hset H1 id (xq.arr 1 ((c.set i (s:Int)).map eI))=H2;have hidn:=hf1.lt har;have wp:AP H2 n1:=by rw[<-hH2];exact hf1.hset (rq _) hidn
  have ha2:AD H2 id=some (.arr 1 ((c.set i (s:Int)).map eI)):=by rw[<-hH2,AC]
  have my:DL id n H H2:=by rw[<-hH2];exact hk1.set
  have hok2:∀z∈c.set i (s:Int),DZ k z:=λz hz=>by
   rcases uH hz with q|q
   ·exact hok1 z q
   ·rw[q];exact⟨zo,zo⟩
  have hag2:agree (i+1) (cells.set i (s:Int)) (c.set i (s:Int)):=Wu hag;have hasg:Ie k.d.syms.length x letters j (i+1) (c.set i (s:Int))=G (s:Int):=by
   rw[hGs];exact(VZ j (i+1) _ _ (by rw[tS];omega) hag2).symm
  refine(ih (i+1) (c.set i (s:Int)) H2 n1 zo (by rw[tS];exact hcl1) hok2 wp (hG.keep ⟨_,p9⟩ hf my) (hX.keep ⟨_,p9⟩ hf my) ha2).mono ?_;rintro o H3 n3 hr;rw[hasg]at hr;cases hfd:(G (s:Int)).find? λc=>DH (AW k) x letters c with
  |some c2=>
   rw[hfd]at hr;obtain⟨rfl,hr⟩:=hr;rw[Option.some_or];simp only[eZ,seval,rf,BV,rf];exact⟨rfl,hr⟩
  |none=>
   rw[hfd]at hr;obtain⟨rfl,r1,r2,r3,c3,r4,r5,r6⟩:=hr;rw[Option.none_or];simp only[eZ,seval,re,BV,re,e];refine .mk ⟨s+1,c3,H3,n3⟩ rfl ⟨c9,r1,zp,my.trans r3 me,r4,?_,r6,rfl⟩ zp;refine⟨?_,λz hz=>?_⟩
   ·have:=r5.1;rw[tS]at this;rw[hag.1];exact this
   ·have:=r5.2 z zo;rw[uS,rj zo]at this;rw[hag.2 z hz];exact this
theorem Rs(h:PrC k x letters)(q10 q11 L l' d1 d2 d3 d4 id:Nat)(rest:List (Nat×Bool×Fs))(hl5:5<=L):∀j,ChG k x letters q10 q11 L l' d1 d2 d3 d4 id rest j
 |0=>PD h q10 q11 L l' d1 d2 d3 d4 id rest hl5 0 λj' hj=>zo
 |j+1=>PD h q10 q11 L l' d1 d2 d3 d4 id rest hl5 (j+1) λj' hj=>by
  obtain rfl:j'=j:=zo
  exact Rs h q10 q11 L l' d1 d2 d3 d4 id rest hl5 j'
end
theorem ZR{k:zx}{x:zy}{letters:List Int}(h:PrC k x letters){q10 q11 L l' p n:Nat}{rest:List (Nat×Bool×Fs)}{H:AB}(hl5:5<=L)(hf:AP H n)(hp:AD H p=some (.box (BQ k x letters)))(hX:CxL k x letters q10 q11 L l' (ZQ q10 q11 rest) H):
  AV prog 57 [.fn (.yield l') [] [],.ptr p 0] H n λo H' n'=>o= .ret (.tup [])/\match (Ie k.d.syms.length x letters x.cs.length 0 (List.replicate x.cs.length 0)).find? (λc=>DH (AW k) x letters c)with
   |none=>AP H' n'/\n<=n'/\∀i,i<n->AD H' i=AD H i
   |some c=>CxF letters c L l' (ZQ q10 q11 rest) H':=by
 have hpn:=hf.lt hp;have hp':=hp;simp only[BQ,AF,AE,AL,AY,si,sj]at hp';have hx4:=h.ox.cs.2.2;have hsy:=CP h.ck;refine c57.a (AI AH.tnil (AJ ?_));have w1:∀a b:Nat,(n+a=n+b)=(a=b):=λa b=>propext ⟨λh=>zo,λh=>zo⟩
 have w2:∀b:Nat,(n=n+b)=(b=0):=λb=>propext ⟨λh=>zo,λh=>zo⟩
 have w3:∀b:Nat,(n+b=p)=False:=λb=>ri zo
 have w4:(n=p)=False:=ri zo;have w6:((x.cs.length:Int)<=35184372088832)=True:=ra zo;have w7:Al x.cs.length 8=True:=ra (Ac zo zd);simp only[eE,eN,seval,eY,c57,S1 hf,Bq hf,hp',w1,w2,w4,w6,w7,AQ];generalize hHb:hset (hset (hset (hset H n _) (n+5) _) (n+6) _) (n+8) _=Hb;have hfb:AP Hb (n+9):=by
  rw[<-hHb];exact(((hf.hset (m:=n+9) zo zo).hset (rq _) zo).hset (rq _) zo).hset (rq _) zo
 have kb:∀i,i<n->AD Hb i=AD H i:=λi hi=>by
  rw[<-hHb,AA _ _ _ _ zo,AA _ _ _ _ zo,AA _ _ _ _ zo,AA _ _ _ _ zo]
 have hG:ChC k x letters (n+6) n p (n+8) (n+5) l' Hb:=by
  refine⟨?_,?_,(kb p hpn).trans hp,?_⟩
  ·rw[<-hHb,AA _ _ _ _ zo,AC]
  ·grind [AA,AC]
  ·rw[<-hHb,AC]
 have p9:AD Hb (n+5)=some (.arr 1 ((List.replicate x.cs.length (0:Int)).map eI)):=by grind [AA,AC,List.map_replicate]
 have hX':CxL k x letters q10 q11 L l' (ZQ q10 q11 rest) Hb:=by
  obtain⟨a2,a3,a4,gQ,a11,aL⟩:=hX;exact⟨(kb _ (hf.lt a2)).trans a2,(kb _ (hf.lt a3)).trans a3,(kb _ (hf.lt a4)).trans a4,(kb _ (hf.lt gQ)).trans gQ,(kb _ (hf.lt a11)).trans a11,(kb _ (hf.lt aL)).trans aL⟩
 have hch:=Rs h q10 q11 L l' (n+6) n p (n+8) (n+5) rest hl5 x.cs.length 0 (List.replicate x.cs.length 0) Hb (n+9) (th _) zw (λs hs=>by rw[(List.mem_replicate.1 hs).2];exact⟨uC _,zo⟩) hfb hG hX' p9;rw[c0]at hch;refine hch.mono ?_;rintro o H' n' hr;cases hfd:(Ie k.d.syms.length x letters x.cs.length 0 (List.replicate x.cs.length 0)).find? λc=>DH (AW k) x letters c with
 |none=>
  rw[hfd]at hr;obtain⟨rfl,r1,r2,r3,-⟩:=hr;simp only[eE,eN,BV];exact⟨r1,zo,λi hi=>(r3 i zo zo).trans (kb i hi)⟩
 |some c=>
  rw[hfd]at hr;obtain⟨rfl,hr⟩:=hr;simp only[eE,eN,BV];exact hr
def dw{H:AB}{n:Nat}{k:zx}{x:zy}{letters:List Int}(hf:AP H n):AV prog 30 [O9 k x letters] H n λo H' n'=>o= .ret (.fn (.func 57) [] [.ptr n 0])/\H'=hset H n (.box (BQ k x letters))/\n'=n+2:=by
 refine c30.a (AI AH.tnil (AJ ?_));simp only[eE,eN,seval,c30,S1 hf];rfl
def M9(k:zx)(x:zy):Fs:=match cexP (AW k) x with
 |some q=>.tup [Am q.1,Am q.2,.bool true,.int .i64 0]
 |none=>.tup [.sl .nil [],.sl .nil [],.bool false,.int .i64 0]
def Ea(k:zx)(x:zy):Fs:=if BT k x≠0 then .tup [.sl .nil [],.sl .nil [],.bool false,.int .i64 (BT k x)]else M9 k x
structure VPk where
 j:Nat
 H:AB
 n:Nat
structure IPk(k:zx)(x:zy)(A:List (List Int))(F:List Int->Option (List Int×List Int))(v:VPk):Prop where
 hj:v.j<=A.length
 fr:AP v.H v.n
 hn:6<=v.n
 h0:AD v.H 0=some (.box (AF k))
 h1:AD v.H 1=some (.box (AY x))
 h2:AD v.H 2=some (.box [.sl .nil []])
 h3:AD v.H 3=some (.box [.sl .nil []])
 h4:AD v.H 4=some (.box [.bool false])
 he:A.findSome? F=(A.drop v.j).findSome? F
def p10(k:zx)(x:zy)(hk:zk k.d)(hx:xw x):Aw prog 10 [A5 k,BZ x] (Ea k x):=by
 have u1:B2.ok (.agg (AF k))=True:=CC k;have u2:B2.dec (.agg (AF k))=k:=Bm k;simp only[AF,AE,AL,si,sj]at u1 u2;have v1:dX.ok (.agg (AY x))=True:=D5 x;have v2:dX.dec (.agg (AY x))=x:=C4 x;simp only[AY]at v1 v2;refine .mk ⟨Aj 0 k,At 0 x,zt⟩ ?_ (gQ (AI mS (AJ ?_)))
 ·unfold Ea M9;split
  ·exact⟨⟨zt,zt⟩,⟨zt,zt⟩,zt,zt,zt⟩
  ·split
   ·exact⟨AZ 0 _,AZ 0 _,zt,zt,zt⟩
   ·exact⟨⟨zt,zt⟩,⟨zt,zt⟩,zt,zt,zt⟩
 unfold Ea;by_cases hv:BT k x=0;case neg=>
  have hpv:FJ k x= .tup [.sl .nil [],.int .i64 (BT k x)]:=by unfold FJ;rw[rt hv]
  rw[rt hv];simp only[eZ,seval,rf,eY,BG,rT,AF,AE,AL,Tpr,s2,u1,u2,v1,v2,ra hk,ra hx,hpv,ri hv,AG];exact Wk.refl _
 have hpv:FJ k x= .tup [.sl (.none 1) ((Gs k.d.syms.length x.ls.length).map Am),.int .i64 0]:=by unfold FJ;rw[rj (by simpa using hv)]
 rw[rj (by simpa using hv)];obtain⟨hck,hox⟩:=Rr hk hx hv;have hsy:=CP hck;have hvl:(AW k).length=k.d.syms.length:=by unfold AW;rw[r9]
 have hPr:∀l∈Gs k.d.syms.length x.ls.length,PrC k x l:=λl hl=>⟨hck,hk,hx,hox,hl⟩
 have hAl:(Gs k.d.syms.length x.ls.length).length<=4096:=by
  refine sO (VT _ _) (sO (Nat.pow_le_pow_left hsy.2 _) (sO (Nat.pow_le_pow_right zd (show x.ls.length<=3 from hox.ls.2.2.2)) zd))
 unfold M9 cexP;rw[hvl];obtain⟨F,hF⟩:∃F:List Int->Option (List Int×List Int),(λletters=>((Ie k.d.syms.length x letters x.cs.length 0 (List.replicate x.cs.length 0)).find? λc=>DH (AW k) x letters c).map λc=>(letters,c))=F:=⟨_,rfl⟩;rw[hF];have hFs:∀l,F l=((Ie k.d.syms.length x l x.cs.length 0 (List.replicate x.cs.length 0)).find? λc=>DH (AW k) x l c).map λc=>(l,c):=λl=>by rw[<-hF]
 simp only[eZ,seval,re,eY,rT,AF,AE,AL,Tpr,s2,u1,u2,v1,v2,ra hk,ra hx,hpv,AG];generalize Gs k.d.syms.length x.ls.length=A at hPr hAl;refine AO (λv:VPk=>⟨[(2,true,.ptr 0 0),(3,true,.ptr 1 0),(4,true,.ptr 2 0),(5,true,.ptr 3 0),(6,true,.ptr 4 0),(7,true,.int .i64 0),(22,true,.sl (.none 1) (A.map Am)),(23,true,.int .i64 A.length),(24,true,.int .i64 v.j)],v.H,v.n⟩) (IPk k x A F) (λv=>A.length-v.j)
  ⟨0,_,6⟩ rfl ⟨rm _,?_,rq _,rfl,rfl,rfl,rfl,rfl,rfl⟩ ?_
 ·simp only[];repeat' (first|exact AP.nil.hset (m:=6) (rm _) zd|refine AP.hset ?_ (rq _) zd)
 rintro⟨j,H,n⟩ ⟨hj,hf,hn,h0,h1,h2,h3,h4,he⟩;simp only at hj hf hn h0 h1 h2 h3 h4 he;rw[he];have wj:=h0;have h1':=h1;simp only[AF,AE,AL,si,sj]at h0;simp only[AY]at h1;by_cases c9:j<A.length;case neg=>
  obtain rfl:j=A.length:=zo
  rw[sK,List.findSome?_nil];simp only[eZ,seval,BG,Ad c9,h2,h3,h4];exact Wk.refl _
 have e:=AK (k:=j) zo;have hg:=rc c9;have hpr:=hPr _ (rY c9);have hdr:=sn c9;rw[hdr,List.findSome?_cons];generalize A[j]=l at hg hpr hdr;have y1:∀z,(n+z=0)=False:=λz=>ri zo
 have y2:∀z,(n+z=1)=False:=λz=>ri zo
 have w1:∀a b:Nat,(n+a=n+b)=(a=b):=λa b=>propext ⟨λh=>zo,λh=>zo⟩
 simp only[eZ,seval,eY,AN c9,hg,Bq hf,h0,h1,y1,y2,w1,AQ];obtain⟨Ha,hHa⟩:∃Ha,hset (hset H (n+2) (.box [Am l])) (n+8) (.box (BQ k x l))=Ha:=⟨_,rfl⟩;have hfa:AP Ha (n+10):=by rw[<-hHa];exact(hf.hset (m:=n+10) zo zo).hset (rq _) zo
 have g10:AD Ha (n+2)=some (.box [Am l]):=by rw[<-hHa,AA _ _ _ _ zo,AC]
 have g11:AD Ha (n+8)=some (.box (BQ k x l)):=by rw[<-hHa,AC]
 have ka:∀i,i<n->AD Ha i=AD H i:=λi hi=>by rw[<-hHa,AA _ _ _ _ zo,AA _ _ _ _ zo]
 simp only[BQ,AF,AE,AL,AY,si,sj]at hHa;rw[hHa];refine(dw hfa).mono ?_;rintro o H1 n1 ⟨rfl,rfl,rfl⟩;simp only[eE,eN,seval,BV,GB];intro l';generalize hHb:hset (hset Ha (n+10) _) _ (xq.lp _)=Hb;have hfb:AP Hb (n+13):=by rw[<-hHb];exact(hfa.hset (m:=n+13) zo zo).hset (rq _) zo
 have kb:∀i,i<n+10->AD Hb i=AD Ha i:=λi hi=>by rw[<-hHb,AA _ _ _ _ zo,AA _ _ _ _ zo]
 have kH:∀i,i<n->AD Hb i=AD H i:=λi hi=>(kb i zo).trans (ka i hi)
 have hp:AD Hb (n+10)=some (.box (BQ k x l)):=by rw[<-hHb,AA _ _ _ _ zo,AC]
 have hX:CxL k x l (n+2) (n+8) (n+12) l' (ZQ (n+2) (n+8) [(22,true,.sl (.none 1) (A.map Am)),(23,true,.int .i64 A.length),(24,true,.int .i64 j),(33,true,.fn (.func 57) [] [.ptr (n+10) 0])]) Hb:=
  ⟨(kH 2 zo).trans h2,(kH 3 zo).trans h3,(kH 4 zo).trans h4,(kb _ zo).trans g10,(kb _ zo).trans g11,by rw[<-hHb];exact AC ..⟩
 refine(ZR hpr zo hfb hp hX).mono ?_;rintro o H2 n2 ⟨rfl,hr⟩;have hFl:=hFs l;cases hfd:(Ie k.d.syms.length x l x.cs.length 0 (List.replicate x.cs.length 0)).find? λc=>DH (AW k) x l c with
 |none=>
  rw[hfd]at hr hFl;obtain⟨r1,r2,r3⟩:=hr;rw[tR]at hFl;rw[hFl];have hL2:=(r3 (n+12) zo).trans hX.hL;simp only[eE,eN,seval,GA,hL2,e];have kk:∀i,i<n->AD (hset H2 (n+12) .dead) i=AD H i:=λi hi=>by rw[AA _ _ _ _ zo,r3 i zo];exact kH i hi
  exact .mk ⟨j+1,hset H2 (n+12) .dead,n2⟩ rfl ⟨c9,r1.hset (m:=n2) (rq _) zo,zp,(kk 0 zo).trans wj,(kk 1 zo).trans h1',(kk 2 zo).trans h2,(kk 3 zo).trans h3,(kk 4 zo).trans h4,by rw[he,hdr,List.findSome?_cons,hFl]⟩ zp
 |some c=>
  rw[hfd]at hr hFl;obtain⟨r2,r3,r4,rL⟩:=hr;rw[sU]at hFl;rw[hFl];have z2:(n+12=2)=False:=ri zo;have z3:(n+12=3)=False:=ri zo;have z4:(n+12=4)=False:=ri zo;simp only[eE,eN,seval,BG,GA,rL,r2,r3,r4,z2,z3,z4];exact Wk.refl _
section
def Dq(k:zx)(x:zy)(ts:List (List x9)):Bool:=decide (BT k x=0)&&Dt (AW k) x ts
def mU:Fs->x9
 | .agg [.int _ k,.int _ a]=>⟨k,a⟩
 |_=>⟨0,0⟩
def ZS:Fs->List x9:=Ct mU
def PE:Fs->List (List x9)
 | .agg [l]=>Ct ZS l
 |_=>[]
theorem Rt(c:x9):mU (OQ c)=c:=rfl
def PF(l:List x9):ZS (MZ l)=l:=DF Rt l
def Gx(t:List (List x9)):PE (Bn t)=t:=DF PF t
def JM:Dc (List (List x9)):=dEx Bn PE
def HD(t:List (List x9)):JM.ok (Bn t)=True:=ra (by show Bn t=Bn (PE (Bn t));rw[Gx])
def Fm(t:List (List x9)):JM.dec (Bn t)=t:=Gx t
def DU(t:List (List x9)):Prop:=An t/\∀l∈t,An l
def Tri:Bc:=AG 67 (s3 B2 dX JM (λk x t=>zk k.d/\xw x/\DU t) CR) tnil
def mV:AH prog Tri:=AH.tnil.add (q3 λk x t h=>p67 k x t h.1 h.2.1 h.2.2.1 h.2.2.2)
def p37(k:zx)(x:zy)(ts:List (List x9))(hk:zk k.d)(hx:xw x)(ht:DU ts):Aw prog 37 [A5 k,BZ x,Bn ts] (.bool (Dq k x ts)):=by
 have u1:B2.ok (.agg (AF k))=True:=CC k;have u2:B2.dec (.agg (AF k))=k:=Bm k;simp only[AF,AE,AL,si,sj]at u1 u2;have v1:dX.ok (.agg (AY x))=True:=D5 x;have v2:dX.dec (.agg (AY x))=x:=C4 x;simp only[AY]at v1 v2;have t1:JM.ok (.agg [Kj ts])=True:=HD ts;have t2:JM.dec (.agg [Kj ts])=ts:=Fm ts;refine .mk ⟨Aj 0 k,At 0 x,Bo 0 ts,zt⟩ zt (c37.a (AI mV (AJ ?_)));unfold Dq;by_cases hv:BT k x=0
 ·have hs:CR k x ts= .tup [.bool (Dt (AW k) x ts),.int .i64 0]:=by unfold CR;rw[rj (by simpa using hv)]
  rw[sk hv,sS];simp only[eZ,seval,eY,c37,AF,AE,AL,Tri,s3,u1,u2,v1,v2,t1,t2,ra hk,ra hx,ra ht,hs,AG]
 ·have hs:CR k x ts= .tup [.bool false,.int .i64 (BT k x)]:=by unfold CR;rw[rt hv]
  rw[sa hv,sV];simp only[eZ,seval,eY,c37,AF,AE,AL,Tri,s3,u1,u2,v1,v2,t1,t2,ra hk,ra hx,ra ht,hs,ri hv,AG]
def p66(x:zy)(s:Bs):Aw prog 66 [BZ x,.ep [.str s]] (.bool (decide (x.nm=s))):=by
 refine .mk ⟨At 0 x,⟨⟨zt,zt⟩,zt⟩⟩ zt (c66.a (AI AH.tnil (AJ ?_)));simp only[eE,eN,seval,c66];rfl
def Jw(cap:List Fs)(ok:zy->Prop)(f:zy->Fs):List Fs->AB->Prop×Fs:=λa _=>match a with
 |M::c=>(c=cap/\dX.ok M/\ok (dX.dec M),f (dX.dec M))
 |_=>(False,.tup [])
variable {cap:List Fs}
theorem mW{s9:FuncId}{ok:zy->Prop}{f:zy->Fs}(h:∀x,ok x->Aw prog s9 (BZ x::cap) (f x)):∀args H n,(Jw cap ok f args H).1->Ao prog s9 args H n (Jw cap ok f args H).2:=by
 intro args H n hh;unfold Jw at hh⊢;split at hh
 ·obtain⟨rfl,h1,h2⟩:=hh;refine AV.args ((h _ h2).quiet H n) ?_;rintro g vs ⟨v,r,rfl,k1,k2⟩;exact⟨v,_,rfl,dX.wk _ h1 _ _ k1,k2⟩
 ·exact hh.elim
theorem p_ifL{g:FuncId}{p:zy->Bool}(l:List zy)(hl:An l)(hcap:unders 0 cap)(hq:∀x,x∈l->Aw prog g (BZ x::cap) (.bool (p x))):
  Aw prog 96 [.sl (.none 8) (l.map BZ),.fn (.func g) [] cap] (.int .i64 (Gw l p)):=by
 have hT:AH prog (AG g (Jw cap (λx=>x∈l) λx=>.bool (p x)) tnil):=AH.tnil.add (mW hq);have hTe:∀a H,AG g (Jw cap (λx=>x∈l) λx=>.bool (p x)) tnil g a H=Jw cap (λx=>x∈l) (λx=>.bool (p x)) a H:=λa H=>by unfold AG;rw[rt rfl]
 generalize AG g (Jw cap (λx=>x∈l) λx=>.bool (p x)) tnil=T at hT hTe;refine .mk ⟨⟨zt,Ay (At 0) _⟩,⟨zt,hcap⟩,zt⟩ zt (c96.a (AI hT (AJ ?_)));have am:l.length<1000000000:=hl;simp only[eE,eN,seval,r9,c96];refine AO (λi:Nat=>⟨[(0,true,.sl (.none 8) (l.map BZ)),(1,true,.fn (.func g) [] cap),(7,true,.int .i64 l.length),(8,true,.int .i64 i)],Ai,0⟩) (λi=>i<=l.length/\∀(j:Nat) x,j<i->l[j]?=some x->p x=false) (λi=>l.length-i) 0 rfl ⟨rm _,λj x h=>zo⟩ ?_;rintro i ⟨hi,he⟩;by_cases c9:i<l.length;case neg=>
  obtain rfl:i=l.length:=zo
  have:Gw l p= -1:=by
   unfold Gw;rw[tT.2 λx hx=>by
    obtain⟨j,hj,rfl⟩:=sH.1 hx;exact he j _ hj (rc hj)]
  rw[this];simp only[eZ,seval,Ad c9]
 have hg:=rc c9;have hm:=rY c9;have e:=AK (k:=i) zo;have hfx:p l[i]=true->Gw l p=(i:Int):=λhp=>by
  unfold Gw;rw[sM.2 ⟨c9,hp,λj hj=>by
   have:=he j _ hj (rc zo);rw[this];decide⟩]
 generalize l[i]=x at hg hm hfx;have m1:dX.ok (.agg (AY x))=True:=D5 x;have m2:dX.dec (.agg (AY x))=x:=C4 x;simp only[AY]at m1 m2;cases hp:p x with
 |true=>
  rw[hfx hp];simp only[eZ,seval,eY,AN c9,hg,hTe,Jw,m1,m2,ra hm,hp]
 |false=>
  simp only[eZ,seval,eY,AN c9,hg,hTe,Jw,m1,m2,ra hm,hp,e];refine .mk (i+1) rfl ⟨c9,λj y hj hy=>?_⟩ zo;by_cases q:j<i
  ·exact he j y q hy
  ·obtain rfl:j=i:=zo
   rw[hg]at hy;cases hy;exact hp
theorem ZT{α:Type}(l:List α)(p:α->Bool):decide (0<=Gw l p)=l.any p:=by
 unfold Gw;cases h:l.findIdx? p with
 |none=>simp_all
 |some i=>
  obtain⟨hi,h1,-⟩:=sM.1 h;rw[show l.any p=true from uF.2 ⟨_,rY hi,h1⟩];simp
theorem p_cfL{g:FuncId}{p:zy->Bool}(l:List zy)(hl:An l)(hcap:unders 0 cap)(hq:∀x,x∈l->Aw prog g (BZ x::cap) (.bool (p x))):
  Aw prog 65 [.sl (.none 8) (l.map BZ),.fn (.func g) [] cap] (.bool (l.any p)):=by
 have hp:=p_ifL l hl hcap hq;refine .mk ⟨⟨zt,Ay (At 0) _⟩,⟨zt,hcap⟩,zt⟩ zt (c65.a (AI (T:=AG 96 (DS [.sl (.none 8) (l.map BZ),.fn (.func g) [] cap] (λ_=>True) (.int .i64 (Gw l p))) tnil) (AH.tnil.add (Hf λH n _=>hp.quiet H n)) (AJ ?_)));have hTe:∀a H,AG 96 (DS [.sl (.none 8) (l.map BZ),.fn (.func g) [] cap] (λ_=>True) (.int .i64 (Gw l p))) tnil 96 a H=DS [.sl (.none 8) (l.map BZ),.fn (.func g) [] cap] (λ_=>True) (.int .i64 (Gw l p)) a H:=λa H=>by unfold AG;rw[rt rfl]
 simp only[eE,eN,seval,c65,DS];rw[ZT]
def H9(l:List zy)(s:Bs):List Fs->AB->Prop×Fs:=λa H=>match a with
 |[A,.fn (.func g) [] [.ptr r 0]]=>(A= .sl (.none 8) (l.map BZ)/\g=66/\AD H r=some (.box [.str s]),.bool (l.any λx=>decide (x.nm=s)))
 |_=>(False,.tup [])
theorem dz{l:List zy}{s:Bs}(hl:An l):∀args H n,(H9 l s args H).1->Ao prog 65 args H n (H9 l s args H).2:=by
 intro args H n hh;unfold H9 at hh⊢;split at hh
 ·obtain⟨rfl,rfl,h1⟩:=hh;exact(p_cfL l hl ⟨⟨zt,zt⟩,zt⟩ (p:=λx=>decide (x.nm=s)) (cap:=[.ep [.str s]]) λx _=>p66 x s).view zt (.cons (.wk (Wk.refl _)) (.cons (.fn .nil (.cons (View.ptr (off:=0) h1) .nil)) .nil)) n
 ·exact hh.elim
def Es(l:List zy)(s:Bs):Bool:=l.any λx=>decide (x.nm=s)
theorem p36(l:List zy)(s:Bs)(hl:An l):Aw prog 36 [.sl (.none 8) (l.map BZ),.str s] (.bool (Es l s)):=by
 have hT:AH prog (AG 65 (H9 l s) tnil):=AH.tnil.add (dz hl);have hTe:∀a H,AG 65 (H9 l s) tnil 65 a H=H9 l s a H:=λa H=>by unfold AG;rw[rt rfl]
 generalize AG 65 (H9 l s) tnil=T at hT hTe;refine .mk ⟨⟨zt,Ay (At 0) _⟩,zt,zt⟩ zt (c36.a (AI hT (AJ ?_)));simp only[eE,eN,seval,c36,hTe,H9];rfl
theorem p38(l:List zy)(hl:An l):Aw prog 38 [.sl (.none 8) (l.map BZ)] (.sl (.exact 8) (l.map BZ)):=by
 refine .mk ⟨⟨zt,Ay (At 0) _⟩,zt⟩ ⟨zt,Ay (At 0) _⟩ (c38.a (AI AH.tnil (AJ ?_)));have am:l.length<1000000000:=hl;simp only[eE,eN,seval,eY,c38];refine⟨λm hm=>?_,?_⟩
 ·cases hm;exact⟨uC _,uC _⟩
 ·rw[sQ zw];exact Wk.refl _
theorem p39(l:List (List (List x9)))(hl:An l):Aw prog 39 [.sl (.none 1) (l.map Bn)] (.sl (.exact 1) (l.map Bn)):=by
 refine .mk ⟨⟨zt,Ay (Bo 0) _⟩,zt⟩ ⟨zt,Ay (Bo 0) _⟩ (c39.a (AI AH.tnil (AJ ?_)));have am:l.length<1000000000:=hl;simp only[eE,eN,seval,eY,c39];refine⟨λm hm=>?_,?_⟩
 ·cases hm;exact⟨uC _,uC _⟩
 ·rw[sQ zw];exact Wk.refl _
end
structure Lbr where
 ls:List zy
 pf:List (List (List x9))
abbrev JN(l:List zy):Fs:=.sl (.none 8) (l.map BZ)
abbrev Jx(l:List (List (List x9))):Fs:=.sl (.none 1) (l.map Bn)
abbrev Ca(l:Lbr):Fs:=.agg [JN l.ls,Jx l.pf]
structure FewB(l:Lbr):Prop where
 ls:An l.ls
 pf:An l.pf
 lm:∀x∈l.ls,xw x
 pr:∀p∈l.pf,DU p
def Cb(n:Nat)(l:Lbr):(Ca l).under n:=⟨⟨zt,Ay (At n) _⟩,⟨zt,Ay (Bo n) _⟩,zt⟩
def Ff(k:zx):List zy->List zy->List (List (List x9))->Int
 |prev,x::r,p::q=>if Gt x≠0 then Gt x else if Es prev x.nm=true then 161 else if Dq k x p=false then 310 else Ff k (prev++[x]) r q
 |_,_,_=>0
def Kx(k:zx)(a:List zy)(p:List (List (List x9))):Ff k a [] p=0:=by cases p<;>rfl
def Co(k:zx)(l:Lbr):Int:=if BM k≠0 then BM k else if 16<l.ls.length then 2 else if l.pf.length≠l.ls.length then 310 else Ff k [] l.ls l.pf
def IA:List Fs->AB->Prop×Fs:=λa _=>match a with
 |[.sl t L,.str s]=>((t.esz=8\/L=[])/\L=(L.map MT).map BZ/\An (L.map MT),.bool (Es (L.map MT) s))
 |_=>(False,.tup [])
def ZU:∀args H n,(IA args H).1->Ao prog 36 args H n (IA args H).2:=by
 intro args H n hh;unfold IA at hh⊢;split at hh
 ·rename_i t L s;obtain⟨h1,h2,h3⟩:=hh;refine AV.args ((p36 (L.map MT) s h3).quiet H n) ?_;rintro g vs ⟨v,r,rfl,k1,k2⟩;refine⟨v,_,rfl,?_,k2⟩;have:Wk (.sl t L) (.sl (.none 8) L):=Wk.sl (h1.imp id λq=>by rw[q]);rw[<-h2];exact this _ _ k1
 ·exact hh.elim
def d5:Bc:=AG 43 (s1 B2 (λk=>zk k.d) λk=>.int .i64 (BM k)) (AG 35 (s1 dX xw λx=>eI (Gt x)) (AG 36 IA (AG 37 (s3 B2 dX JM (λk x t=>zk k.d/\xw x/\DU t) λk x t=>.bool (Dq k x t)) tnil)))
def mX:AH prog d5:=(((AH.tnil.add (q3 λk x t h=>p37 k x t h.1 h.2.1 h.2.2)).add ZU).add (q1 λx h=>p35 x h)).add (q1 λk h=>p43 k h)
structure IVl(k:zx)(l:Lbr)(v:VPm):Prop where
 hi:v.i<=l.ls.length
 fr:AP v.H v.n
 hn:3<=v.n
 h0:AD v.H 0=some (.box (AF k))
 h1:AD v.H 1=some (.box [JN l.ls,Jx l.pf])
 he:Ff k [] l.ls l.pf=Ff k (l.ls.take v.i) (l.ls.drop v.i) (l.pf.drop v.i)
def p19(k:zx)(l:Lbr)(hk:zk k.d)(hl:FewB l):Aw prog 19 [A5 k,Ca l] (.int .i64 (Co k l)):=by
 have u1:B2.ok (.agg (AF k))=True:=CC k;have u2:B2.dec (.agg (AF k))=k:=Bm k;simp only[AF,AE,AL,si,sj]at u1 u2;have am:l.ls.length<1000000000:=hl.ls;have wu:l.pf.length<1000000000:=hl.pf;refine .mk ⟨Aj 0 k,Cb 0 l,zt⟩ zt (rU.a (AI mX (AJ ?_)));unfold Co;by_cases hck:BM k=0;case neg=>
  rw[rt hck];simp only[eZ,seval,rf,rU,AF,AE,AL,d5,s1,u1,u2,ra hk,ri hck,AG]
 rw[rj (by simpa using hck)];by_cases wh:16<l.ls.length
 ·have w1:((16:Int)<(l.ls.length:Int))=True:=ra zo;have w2:decide ((16:Int)<(l.ls.length:Int))=true:=sk zo;rw[rt wh];simp only[eZ,seval,re,r9,rU,AF,AE,AL,d5,s1,u1,u2,ra hk,ra hck,w1,AG]
 have w1:((16:Int)<(l.ls.length:Int))=False:=ri zo;have w2:decide ((16:Int)<(l.ls.length:Int))=false:=sa zo;rw[rj wh];by_cases hlen:l.pf.length=l.ls.length;case neg=>
  have w3:((l.pf.length:Int)=(l.ls.length:Int))=False:=ri zo;have w4:decide ((l.pf.length:Int)=(l.ls.length:Int))=false:=sa zo;rw[rt hlen];simp only[eZ,seval,re,rf,r9,rU,AF,AE,AL,d5,s1,u1,u2,ra hk,ra hck,w1,w3,AG]
 have w3:((l.pf.length:Int)=(l.ls.length:Int))=True:=ra zo;have w4:decide ((l.pf.length:Int)=(l.ls.length:Int))=true:=sk zo;rw[rj (by simpa using hlen)];simp only[eZ,seval,re,r9,rU,AF,AE,AL,d5,s1,u1,u2,ra hk,ra hck,w1,w3,AG];refine AO (λv:VPm=>⟨[(2,true,.ptr 0 0),(3,true,.ptr 1 0),(24,true,JN l.ls),(25,true,.int .i64 l.ls.length),(26,true,.int .i64 v.i)],v.H,v.n⟩) (IVl k l) (λv=>l.ls.length-v.i)
  ⟨0,_,3⟩ rfl ⟨rm _,(AP.nil.hset (m:=3) (rm _) zd).hset (m:=3) (rq _) zd,rq _,rfl,rfl,rfl⟩ ?_
 rintro⟨i,H,n⟩ ⟨hi,hf,hn,h0,h1,he⟩;simp only at hi hf hn h0 h1 he;have wj:=h0;have h1':=h1;simp only[AF,AE,AL,si,sj]at h0;rw[he];by_cases c9:i<l.ls.length;case neg=>
  obtain rfl:i=l.ls.length:=zo
  rw[sK,Kx];simp only[eZ,seval,Ad c9]
 have e:=AK (k:=i) zo;have hltp:i<l.pf.length:=zo
 have hg:=rc c9;have hgp:=rc hltp;have hfx:=hl.lm _ (rY c9);have hfp:=hl.pr _ (rY hltp);have l5:l.ls.take (i+1)=l.ls.take i++[l.ls[i]]:=by rw[sf,hg];rfl
 have hdr1:=sn c9;have hdr2:=sn hltp;rw[hdr1,hdr2,Ff,<-l5];generalize l.ls[i]=x at hg hfx hdr1 l5;generalize l.pf[i]=pf at hgp hfp hdr2;have v1:dX.ok (.agg (AY x))=True:=D5 x;have v2:dX.dec (.agg (AY x))=x:=C4 x;simp only[AY]at v1 v2;have t1:JM.ok (.agg [Kj pf])=True:=HD pf;have t2:JM.dec (.agg [Kj pf])=pf:=Fm pf;have y1:∀z,(n+z=0)=False:=λz=>ri zo
 have y2:∀z,(n+z=1)=False:=λz=>ri zo
 by_cases hc:Gt x=0;case neg=>
  rw[rt hc];simp only[eZ,seval,rf,eY,AN c9,hg,AQ,Bq hf,d5,s1,v1,v2,ra hfx,ri hc,AG]
 rw[rj (by simpa using hc)];have hmt:List.take i (l.ls.map BZ)=(l.ls.take i).map BZ:=List.map_take.symm;have hile:((i:Int)<=(l.ls.length:Int))=True:=ra zo;have n1:(((l.ls.take i).map BZ).map MT)=l.ls.take i:=by rw[ui];exact(sY λx _=>If x).trans (vg _)
 have n2:An (l.ls.take i):=by show(l.ls.take i).length<_;rw[sD];omega
 cases so:Es (l.ls.take i) x.nm with
 |true=>
  rw[rt rfl];simp only[eZ,seval,re,eY,AN c9,hg,AQ,Bq hf,y2,h1,d5,s1,v1,v2,ra hfx,ra hc,hmt,hile,IA,n1,ra n2,so,uk,AG]
 |false=>
 rw[rj zd];cases hr:Dq k x pf with
 |false=>
  rw[rt rfl];simp only[eZ,seval,re,rf,eY,AN c9,hg,AQ,Bq hf,y1,y2,h0,h1,d5,s1,v1,v2,ra hfx,ra hc,hmt,hile,IA,n1,ra n2,so,uk,s3,u1,u2,t1,t2,ra hk,ra hfp,AN hltp,hgp,hr,rf,AG]
 |true=>
  rw[rj zd];simp only[eZ,seval,re,eY,AN c9,hg,AQ,Bq hf,y1,y2,h0,h1,d5,s1,v1,v2,ra hfx,ra hc,hmt,hile,IA,n1,ra n2,so,uk,s3,u1,u2,t1,t2,ra hk,ra hfp,AN hltp,hgp,hr,re,e,AG];refine .mk ⟨i+1,hset H (n+3) (.box (AY x)),n+6⟩ rfl ⟨c9,hf.hset (m:=n+6) zo zo,zp,?_,?_,?_⟩ zp
  ·simp only[];rw[AA _ _ _ _ zo];exact wj
  ·simp only[];rw[AA _ _ _ _ zo];exact h1'
  ·simp only[];rw[he,hdr1,hdr2,Ff,rj (by simpa using hc),so,hr,rj zd,rj zd,l5]
abbrev Tk:Fs:=.agg [.sl .nil [],.sl .nil []]
def Cg(k:zx)(l:Lbr)(x:zy)(p:List (List x9)):Int:=if Co k l≠0 then Co k l else if Gt x≠0 then Gt x else if l.ls.length=16 then 2 else if Es l.ls x.nm=true then 161 else if Dq k x p=false then 310 else 0
def DD(k:zx)(l:Lbr)(x:zy)(p:List (List x9)):Fs:=if Cg k l x p≠0 then .tup [Tk,.int .i64 (Cg k l x p)]else .tup [Ca ⟨l.ls++[x],l.pf++[p]⟩,.int .i64 0]
def mY(k:zx)(l:Lbr):Bc:=AG 19 (DS [A5 k,Ca l] (λ_=>True) (.int .i64 (Co k l))) (AG 38 (DS [JN l.ls] (λ_=>True) (.sl (.exact 8) (l.ls.map BZ))) (AG 39 (DS [Jx l.pf] (λ_=>True) (.sl (.exact 1) (l.pf.map Bn)))
 (AG 35 (s1 dX xw λx=>eI (Gt x)) (AG 36 IA (AG 37 (s3 B2 dX JM (λk x t=>zk k.d/\xw x/\DU t) λk x t=>.bool (Dq k x t)) tnil)))))
def mZ{k:zx}{l:Lbr}(hk:zk k.d)(hl:FewB l):AH prog (mY k l):=(((((AH.tnil.add (q3 λk x t h=>p37 k x t h.1 h.2.1 h.2.2)).add ZU).add (q1 λx h=>p35 x h)).add (Hf λH n _=>(p39 l.pf hl.pf).quiet H n)).add (Hf λH n _=>(p38 l.ls hl.ls).quiet H n)).add (Hf λH n _=>(p19 k l hk hl).quiet H n)
def p16(k:zx)(l:Lbr)(x:zy)(p:List (List x9))(hk:zk k.d)(hl:FewB l)(hx:xw x)(hp:DU p):Aw prog 16 [A5 k,Ca l,BZ x,Bn p] (DD k l x p):=by
 have u1:B2.ok (.agg (AF k))=True:=CC k;have u2:B2.dec (.agg (AF k))=k:=Bm k;have u3:([.agg (AF k),Ca l]=[A5 k,Ca l])=True:=ra rfl;simp only[AF,AE,AL,si,sj]at u1 u2 u3;have v1:dX.ok (.agg (AY x))=True:=D5 x;have v2:dX.dec (.agg (AY x))=x:=C4 x;simp only[AY]at v1 v2;have t1:JM.ok (.agg [Kj p])=True:=HD p;have t2:JM.dec (.agg [Kj p])=p:=Fm p;have am:l.ls.length<1000000000:=hl.ls;have wu:l.pf.length<1000000000:=hl.pf;have n1:((l.ls.map BZ).map MT)=l.ls:=by rw[ui];exact(sY λx _=>If x).trans (vg _)
 have n2:An l.ls:=hl.ls;refine .mk ⟨Aj 0 k,Cb 0 l,At 0 x,Bo 0 p,zt⟩ ?_ (je.a (AI (mZ hk hl) (AJ ?_)))
 ·unfold DD;split
  ·exact⟨⟨⟨zt,zt⟩,⟨zt,zt⟩,zt⟩,zt,zt⟩
  ·exact⟨Cb 0 _,zt,zt⟩
 have none:∀e:Int,e≠0->Cg k l x p=e->DD k l x p= .tup [Tk,.int .i64 e]:=λe h1 h2=>by unfold DD;rw[h2,rt h1]
 by_cases hv:Co k l=0;case neg=>
  rw[none (Co k l) hv (by unfold Cg;rw[rt hv])];simp only[eZ,seval,rf,BG,je,AF,AE,AL,mY,DS,u3,ri hv,AG];exact Wk.refl _
 by_cases hc:Gt x=0;case neg=>
  rw[none (Gt x) hc (by unfold Cg;rw[rj (by simpa using hv),rt hc])];simp only[eZ,seval,re,rf,BG,je,AF,AE,AL,mY,DS,u3,ra hv,s1,v1,v2,ra hx,ri hc,AG];exact Wk.refl _
 by_cases wh:l.ls.length=16
 ·have w1:((l.ls.length:Int)=16)=True:=ra zo;have w2:decide ((l.ls.length:Int)=16)=true:=sk zo;rw[none 2 zd (by unfold Cg;rw[rj (by simpa using hv),rj (by simpa using hc),rt wh])];simp only[eZ,seval,re,BG,r9,je,AF,AE,AL,mY,DS,u3,ra hv,s1,v1,v2,ra hx,ra hc,w1,AG];exact Wk.refl _
 have w1:((l.ls.length:Int)=16)=False:=ri zo;have w2:decide ((l.ls.length:Int)=16)=false:=sa zo;cases so:Es l.ls x.nm with
 |true=>
  rw[none 161 zd (by unfold Cg;rw[rj (by simpa using hv),rj (by simpa using hc),rj wh,rt so])];simp only[eZ,seval,re,BG,r9,je,AF,AE,AL,mY,DS,u3,ra hv,s1,v1,v2,ra hx,ra hc,w1,IA,n1,ra n2,uk,so,AG];exact Wk.refl _
 |false=>
 cases hr:Dq k x p with
 |false=>
  rw[none 310 zd (by unfold Cg;rw[rj (by simpa using hv),rj (by simpa using hc),rj wh,rj (by rw[so];decide),rt hr])];simp only[eZ,seval,re,rf,BG,r9,je,AF,AE,AL,mY,DS,u3,ra hv,s1,v1,v2,ra hx,ra hc,w1,IA,n1,ra n2,uk,so,s3,u1,u2,t1,t2,ra hk,ra hp,hr,rf,AG];exact Wk.refl _
 |true=>
  have hz:Cg k l x p=0:=by unfold Cg;rw[rj (by simpa using hv),rj (by simpa using hc),rj wh,rj (by rw[so];decide),rj (by rw[hr];decide)]
  have q2:(l.ls.length<=35184372088831)=True:=ra zo;have q3:Al (l.ls.length+1) 136=True:=ra (Ac zo zd);have q5:(l.pf.length<=35184372088831)=True:=ra zo;have q6:Al (l.pf.length+1) 24=True:=ra (Ac zo zd);unfold DD;rw[rj (by simpa using hz)];simp only[eZ,seval,re,BG,r9,je,AF,AE,AL,mY,DS,u3,ra hv,s1,v1,v2,ra hx,ra hc,w1,IA,n1,ra n2,uk,so,s3,u1,u2,t1,t2,ra hk,ra hp,hr,re,q2,q3,q5,q6,AG];have e1:l.ls.map BZ++[BZ x]=(l.ls++[x]).map BZ:=by rw[rz];rfl
  have e2:l.pf.map Bn++[Bn p]=(l.pf++[p]).map Bn:=by rw[rz];rfl
  show Wk (.tup [.agg [.sl (.own 11 8) (l.ls.map BZ++[BZ x]),.sl (.own 17 1) (l.pf.map Bn++[Bn p])],.int .i64 0]) _;rw[e1,e2];exact Wk.tup (.cons (Wk.agg (.cons (Wk.sl (.inl rfl)) (.cons (Wk.sl (.inl rfl)) .nil))) (.cons (Wk.refl _) .nil))
def MP(q:Cnd):Bool:=!(decide (6<q.cs.length)||decide (6<q.ls.length))
def F5(x:zy):Bool:=!(decide (4<x.cs.length)||decide (3<x.ls.length)||decide (8<x.qs.length)||decide (6<x.ps.length)||decide (3<x.cs.length)&&decide (2<x.ls.length))&&x.qs.all MP&&x.ps.all λp=>!decide (6<p.ls.length)
def NA{n:Nat}(k:Nat)(z:Int)(hz:z=(k:Int)):(z<(n:Int))=(k<n):=by subst hz;exact propext zo
def p7(x:zy):Aw prog 7 [BZ x] (.bool (F5 x)):=by
 refine .mk ⟨At 0 x,zt⟩ zt (c7.a (AI AH.tnil (AJ ?_)));have l2:=λn:Nat=>NA (n:=n) 2 2 rfl
 have l3:=λn:Nat=>NA (n:=n) 3 3 rfl
 have l4:=λn:Nat=>NA (n:=n) 4 4 rfl
 have l6:=λn:Nat=>NA (n:=n) 6 6 rfl
 have l8:=λn:Nat=>NA (n:=n) 8 8 rfl
 have dn:∀{p:Prop} [Decidable p],¬p->decide p=false:=λh=>sa h
 have dy:∀{p:Prop} [Decidable p],p->decide p=true:=λh=>sk h
 unfold F5;by_cases h1:4<x.cs.length
 ·simp only[eZ,seval,re,r9,c7,ra (show(4:Int)<(x.cs.length:Int)by omega),dy h1,re]
 by_cases h2:3<x.ls.length
 ·simp only[eZ,seval,re,r9,c7,ri (show ¬(4:Int)<(x.cs.length:Int)by omega),ra (show(3:Int)<(x.ls.length:Int)by omega),dn h1,dy h2,re]
 by_cases h3:8<x.qs.length
 ·simp only[eZ,seval,re,r9,c7,ri (show ¬(4:Int)<(x.cs.length:Int)by omega),ri (show ¬(3:Int)<(x.ls.length:Int)by omega),ra (show(8:Int)<(x.qs.length:Int)by omega),dn h1,dn h2,dy h3,re]
 by_cases h4:6<x.ps.length
 ·simp only[eZ,seval,re,r9,c7,ri (show ¬(4:Int)<(x.cs.length:Int)by omega),ri (show ¬(3:Int)<(x.ls.length:Int)by omega),ri (show ¬(8:Int)<(x.qs.length:Int)by omega),ra (show(6:Int)<(x.ps.length:Int)by omega),dn h1,dn h2,dn h3,dy h4,re]
 by_cases h5:3<x.cs.length/\2<x.ls.length
 ·simp only[eZ,seval,re,r9,c7,ri (show ¬(4:Int)<(x.cs.length:Int)by omega),ri (show ¬(3:Int)<(x.ls.length:Int)by omega),ri (show ¬(8:Int)<(x.qs.length:Int)by omega),ri (show ¬(6:Int)<(x.ps.length:Int)by omega),ra (show(3:Int)<(x.cs.length:Int)by omega),ra (show(2:Int)<(x.ls.length:Int)by omega),dn h1,dn h2,dn h3,dn h4,dy h5.1,dy h5.2,re]
 have hg:(!(decide (4<x.cs.length)||decide (3<x.ls.length)||decide (8<x.qs.length)||decide (6<x.ps.length)||decide (3<x.cs.length)&&decide (2<x.ls.length)))=true:=by grind
 rw[hg,sS];by_cases h6:3<x.cs.length;case' pos=>simp only[eZ,seval,r9,c7,ri (show ¬(4:Int)<(x.cs.length:Int)by omega),ri (show ¬(3:Int)<(x.ls.length:Int)by omega),ri (show ¬(8:Int)<(x.qs.length:Int)by omega),ri (show ¬(6:Int)<(x.ps.length:Int)by omega),ra (show(3:Int)<(x.cs.length:Int)by omega),ri (show ¬(2:Int)<(x.ls.length:Int)from λq=>h5 ⟨h6,zo⟩)]
 case' neg=>simp only[eZ,seval,r9,c7,ri (show ¬(4:Int)<(x.cs.length:Int)by omega),ri (show ¬(3:Int)<(x.ls.length:Int)by omega),ri (show ¬(8:Int)<(x.qs.length:Int)by omega),ri (show ¬(6:Int)<(x.ps.length:Int)by omega),ri (show ¬(3:Int)<(x.cs.length:Int)by omega)]
 all_goals
  refine AO (λi:Nat=>⟨[(1,true,.ptr 0 0),(3,true,.int .i64 i)],hset Ai 0 (.box (AY x)),2⟩) (λi=>i<=x.qs.length/\∀(j:Nat) q,j<i->x.qs[j]?=some q->MP q=true) (λi=>x.qs.length-i) 0 rfl ⟨rm _,λj q h=>zo⟩ ?_;rintro i ⟨hi,e9⟩;by_cases c9:i<x.qs.length
  ·have e:=AK (k:=i) zo;have hg:=rc c9;have hm:=rY c9;generalize x.qs[i]=q at hg hm;by_cases z1:6<q.cs.length
   ·have hq:MP q=false:=by unfold MP;rw[dy z1];rfl
    have:x.qs.all MP=false:=uw.2 ⟨q,hm,by rw[hq];decide⟩;rw[this];simp only[eZ,seval,re,eY,AY,AN c9,hg,ra (show(6:Int)<(q.cs.length:Int)by omega)]
    done
   by_cases z2:6<q.ls.length
   ·have hq:MP q=false:=by unfold MP;rw[dy z2,Bool.or_true];rfl
    have:x.qs.all MP=false:=uw.2 ⟨q,hm,by rw[hq];decide⟩;rw[this];simp only[eZ,seval,eY,AY,AN c9,hg,ri (show ¬(6:Int)<(q.cs.length:Int)by omega),ra (show(6:Int)<(q.ls.length:Int)by omega)]
    done
   have hq:MP q=true:=by unfold MP;rw[dn z1,dn z2];rfl
   simp only[eZ,seval,eY,AY,AN c9,hg,ri (show ¬(6:Int)<(q.cs.length:Int)by omega),ri (show ¬(6:Int)<(q.ls.length:Int)by omega),e];refine .mk (i+1) rfl ⟨c9,λj y hj hy=>?_⟩ zo;by_cases w:j<i
   ·exact e9 j y w hy
   ·obtain rfl:j=i:=zo
    rw[hg]at hy;cases hy;exact hq
  obtain rfl:i=x.qs.length:=zo
  have hqs:x.qs.all MP=true:=sg.2 λq hq=>by
   obtain⟨j,hj,rfl⟩:=sH.1 hq;exact e9 j _ hj (rc hj)
  rw[hqs,sS];simp only[eZ,seval,r9,AY,Ad c9];refine AO (λi:Nat=>⟨[(1,true,.ptr 0 0),(4,true,.int .i64 i)],hset Ai 0 (.box (AY x)),2⟩) (λi=>i<=x.ps.length/\∀(j:Nat) q,j<i->x.ps[j]?=some q->¬6<q.ls.length) (λi=>x.ps.length-i) 0 rfl ⟨rm _,λj q h=>zo⟩ ?_;rintro i ⟨hi,e9⟩;by_cases c9:i<x.ps.length
  ·have e:=AK (k:=i) zo;have hg:=rc c9;have hm:=rY c9;generalize x.ps[i]=q at hg hm;by_cases z1:6<q.ls.length
   ·have:(x.ps.all λp=>!decide (6<p.ls.length))=false:=uw.2 ⟨q,hm,by rw[dy z1];decide⟩;rw[this];simp only[eZ,seval,eY,AY,AN c9,hg,ra (show(6:Int)<(q.ls.length:Int)by omega)]
    done
   simp only[eZ,seval,eY,AY,AN c9,hg,ri (show ¬(6:Int)<(q.ls.length:Int)by omega),e];refine .mk (i+1) rfl ⟨c9,λj y hj hy=>?_⟩ zo;by_cases w:j<i
   ·exact e9 j y w hy
   ·obtain rfl:j=i:=zo
    rw[hg]at hy;cases hy;exact z1
  obtain rfl:i=x.ps.length:=zo
  have hps:(x.ps.all λp=>!decide (6<p.ls.length))=true:=sg.2 λq hq=>by
   obtain⟨j,hj,rfl⟩:=sH.1 hq;rw[dn (e9 j _ hj (rc hj))];rfl
  rw[hps];simp only[eZ,seval,r9,AY,Ad c9]
  done
def ZV{x:zy}(h:F5 x=true):xw x:=by
 unfold F5 at h;simp only[rl,tq,tv,sR,sg]at h;obtain⟨⟨⟨⟨⟨⟨h1,h2⟩,h3⟩,h4⟩,-⟩,h5⟩,h6⟩:=h;refine⟨?_,?_,?_,?_,λq hq=>?_,λp hp=>?_⟩
 ·show x.cs.length<1000000000;omega
 ·show x.ls.length<1000000000;omega
 ·show x.qs.length<1000000000;omega
 ·show x.ps.length<1000000000;omega
 ·grind [MP,Bool.not_eq_true',Bool.or_eq_false_iff,decide_eq_false_iff_not]
 ·have:=h6 p hp;show p.ls.length<1000000000;omega
def Ru{α:Type}{a b:List α}(h:a.length=b.length)(k:∀i,i<a.length->a[i]?=b[i]?):a=b:=uR λi=>by
 by_cases q:i<a.length
 ·exact k i q
 ·simp_all
def Va(a b:x9):ceqs [.int .i64 a.k,.int .i64 a.a] [.int .i64 b.k,.int .i64 b.a]=decide (a=b):=by
 obtain⟨k,m⟩:=a;obtain⟨k',m'⟩:=b;simp [ceqs,Ht]
abbrev Hsp(a b:List (List x9)):AB:=hset (hset Ai 0 (.box [Kj a])) 1 (.box [Kj b])
def p12(a b:List (List x9))(ha:DU a):Aw prog 12 [Bn a,Bn b] (.bool (decide (a=b))):=by
 refine .mk ⟨Bo 0 a,Bo 0 b,zt⟩ zt (a12 (AI AH.tnil (AJ ?_)));have wm:a.length<1000000000:=ha.1;by_cases hl:a.length=b.length;case neg=>
  have w1:((a.length:Int)=(b.length:Int))=False:=ri zo;have w2:decide ((a.length:Int)=(b.length:Int))=false:=sa zo;rw[sa (λe=>hl (by rw[e]))];simp only[eZ,seval,rf,r9,c12,w1]
 have w1:((a.length:Int)=(b.length:Int))=True:=ra zo;have w2:decide ((a.length:Int)=(b.length:Int))=true:=sk zo;simp only[eZ,seval,re,r9,c12,w1];refine AO (λi:Nat=>⟨[(2,true,.ptr 0 0),(3,true,.ptr 1 0),(5,true,.int .i64 i)],Hsp a b,3⟩) (λi=>i<=a.length/\∀j,j<i->a[j]?=b[j]?) (λi=>a.length-i) 0 rfl ⟨rm _,λj h=>zo⟩ ?_;rintro i ⟨hi,e9⟩;by_cases c9:i<a.length;case neg=>
  obtain rfl:i=a.length:=zo
  rw[sk (Ru hl e9)];simp only[eZ,seval,r9,Ad c9]
 have hltb:i<b.length:=zo
 have e:=AK (k:=i) zo;have hga:=rc c9;have hgb:=rc hltb;have hfa:=ha.2 _ (rY c9);generalize a[i]=la at hga hfa;generalize b[i]=lb at hgb;have hlal:la.length<1000000000:=hfa;have neAB:la≠lb->a≠b:=λq e=>q (by rw[e,hgb]at hga;exact(Option.some.inj hga).symm)
 by_cases am:la.length=lb.length;case neg=>
  have w3:((la.length:Int)=(lb.length:Int))=False:=ri zo;have w4:decide ((la.length:Int)=(lb.length:Int))=false:=sa zo;rw[sa (neAB λe=>am (by rw[e]))];simp only[eZ,seval,rf,eY,AN c9,AN hltb,hga,hgb,w3]
 have w3:((la.length:Int)=(lb.length:Int))=True:=ra zo;have w4:decide ((la.length:Int)=(lb.length:Int))=true:=sk zo;simp only[eZ,seval,re,eY,AN c9,AN hltb,hga,hgb,w3];refine AO (λj:Nat=>⟨[(2,true,.ptr 0 0),(3,true,.ptr 1 0),(5,true,.int .i64 i),(6,true,.int .i64 j)],Hsp a b,3⟩) (λj=>j<=la.length/\∀m,m<j->la[m]?=lb[m]?) (λj=>la.length-j) 0 rfl ⟨rm _,λj h=>zo⟩ ?_;rintro j ⟨hj,hallj⟩;by_cases l9:j<la.length;case neg=>
  obtain rfl:j=la.length:=zo
  have wv:=Ru am hallj;simp only[eZ,seval,eY,AN c9,hga,Ad l9,e];refine .mk (i+1) rfl ⟨c9,λm hm=>?_⟩ zo;by_cases q:m<i
  ·exact e9 m q
  ·obtain rfl:m=i:=zo
   rw[hga,hgb,wv]
 have hljb:j<lb.length:=zo
 have ej:=AK (k:=j) zo;have hgc:=rc l9;have hgd:=rc hljb;generalize la[j]=ca at hgc;generalize lb[j]=cb at hgd;have neL:ca≠cb->la≠lb:=λq e=>q (by rw[e,hgd]at hgc;exact(Option.some.inj hgc).symm)
 by_cases hc:ca=cb
 ·subst hc;simp only[eZ,seval,re,eY,AN c9,AN hltb,hga,hgb,AN l9,AN hljb,hgc,hgd,ej,Va,EB];refine .mk (j+1) rfl ⟨l9,λm hm=>?_⟩ zo;by_cases q:m<j
  ·exact hallj m q
  ·obtain rfl:m=j:=zo
   rw[hgc,hgd]
 ·simp only[eZ,seval,rf,eY,AN c9,AN hltb,hga,hgb,AN l9,AN hljb,hgc,hgd,Va,EB,A3 hc];exact(sa (neAB (neL hc))).symm
def F6(p:List (List x9)):Bool:=!decide (130<p.length)&&p.all λt=>!decide (400<t.length)
def NC{α:Type}{l:List α}{p:α->Bool}(h:∀(j:Nat) q,j<l.length->l[j]?=some q->p q=true):l.all p=true:=sg.2 λq hq=>by
 obtain⟨j,hj,rfl⟩:=sH.1 hq;exact h j _ hj (rc hj)
def p15(p:List (List x9)):Aw prog 15 [Bn p] (.bool (F6 p)):=by
 refine .mk ⟨Bo 0 p,zt⟩ zt (rV.a (AI AH.tnil (AJ ?_)));unfold F6;by_cases h1:130<p.length
 ·rw[sk h1,re,sV];simp only[eZ,seval,r9,rV,ra (show(130:Int)<(p.length:Int)by omega)]
 rw[sa h1,rf,sS];simp only[eZ,seval,r9,rV,ri (show ¬(130:Int)<(p.length:Int)by omega)];refine AO (λi:Nat=>⟨[(1,true,.ptr 0 0),(3,true,.int .i64 i)],hset Ai 0 (.box [Kj p]),2⟩) (λi=>i<=p.length/\∀(j:Nat) q,j<i->p[j]?=some q->¬400<q.length) (λi=>p.length-i) 0 rfl ⟨rm _,λj q h=>zo⟩ ?_;rintro i ⟨hi,e9⟩;by_cases c9:i<p.length
 ·have e:=AK (k:=i) zo;have hg:=rc c9;have hm:=rY c9;generalize p[i]=q at hg hm;by_cases z1:400<q.length
  ·have:(p.all λt=>!decide (400<t.length))=false:=uw.2 ⟨q,hm,by rw[sk z1];decide⟩;rw[this];simp only[eZ,seval,eY,AN c9,hg,ra (show(400:Int)<(q.length:Int)by omega)]
  simp only[eZ,seval,eY,AN c9,hg,ri (show ¬(400:Int)<(q.length:Int)by omega),e];refine .mk (i+1) rfl ⟨c9,λj y hj hy=>?_⟩ zo;by_cases w:j<i
  ·exact e9 j y w hy
  ·obtain rfl:j=i:=zo
   rw[hg]at hy;cases hy;exact z1
 obtain rfl:i=p.length:=zo
 have hp:(p.all λt=>!decide (400<t.length))=true:=NC λj q hj hq=>by
  have:=e9 j q hj hq;simp only[this,vm,rf]
 rw[hp];simp only[eZ,seval,r9,Ad c9]
def ZW{p:List (List x9)}(h:F6 p=true):DU p:=by
 unfold F6 at h;simp only[rl,tq,sR,sg]at h;exact⟨by show p.length<1000000000;omega,λl hl=>by have:=h.2 l hl;show l.length<1000000000;omega⟩
def Kz(l:Lbr):Bool:=!(decide (5<l.ls.length)||decide (6<l.pf.length))&&l.ls.all F5&&l.pf.all F6
def Tfb:Bc:=AG 7 (s1 dX (λ_=>True) λx=>.bool (F5 x)) (AG 15 (s1 JM (λ_=>True) λp=>.bool (F6 p)) tnil)
def ma:AH prog Tfb:=(AH.tnil.add (q1 λp _=>p15 p)).add (q1 λx _=>p7 x)
def p14(l:Lbr):Aw prog 14 [Ca l] (.bool (Kz l)):=by
 refine .mk ⟨Cb 0 l,zt⟩ zt (qS.a (AI ma (AJ ?_)));unfold Kz;by_cases h1:5<l.ls.length
 ·rw[sk h1,uZ,re,sV,sV];simp only[eZ,seval,re,r9,qS,ra (show(5:Int)<(l.ls.length:Int)by omega)]
 by_cases h2:6<l.pf.length
 ·rw[sk h2,Bool.or_true,re,sV,sV];simp only[eZ,seval,r9,qS,ri (show ¬(5:Int)<(l.ls.length:Int)by omega),ra (show(6:Int)<(l.pf.length:Int)by omega)]
 rw[sa h1,sa h2,vv,rf,sS];simp only[eZ,seval,r9,qS,ri (show ¬(5:Int)<(l.ls.length:Int)by omega),ri (show ¬(6:Int)<(l.pf.length:Int)by omega)];refine AO (λi:Nat=>⟨[(1,true,.ptr 0 0),(3,true,.int .i64 i)],hset Ai 0 (.box [JN l.ls,Jx l.pf]),2⟩) (λi=>i<=l.ls.length/\∀(j:Nat) q,j<i->l.ls[j]?=some q->F5 q=true) (λi=>l.ls.length-i) 0 rfl ⟨rm _,λj q h=>zo⟩ ?_;rintro i ⟨hi,e9⟩;by_cases c9:i<l.ls.length
 ·have e:=AK (k:=i) zo;have hg:=rc c9;have hm:=rY c9;generalize l.ls[i]=x at hg hm;have v1:dX.ok (.agg (AY x))=True:=D5 x;have v2:dX.dec (.agg (AY x))=x:=C4 x;simp only[AY]at v1 v2;cases hq:F5 x with
  |false=>
   have:l.ls.all F5=false:=uw.2 ⟨x,hm,by rw[hq];decide⟩;rw[this,sV];simp only[eZ,seval,rf,eY,AN c9,hg,Tfb,s1,v1,v2,hq,rf,AG]
  |true=>
   simp only[eZ,seval,re,eY,AN c9,hg,Tfb,s1,v1,v2,hq,re,e,AG];refine .mk (i+1) rfl ⟨c9,λj y hj hy=>?_⟩ zo;by_cases w:j<i
   ·exact e9 j y w hy
   ·obtain rfl:j=i:=zo
    rw[hg]at hy;cases hy;exact hq
 obtain rfl:i=l.ls.length:=zo
 rw[NC e9,sS];simp only[eZ,seval,r9,Ad c9];refine AO (λi:Nat=>⟨[(1,true,.ptr 0 0),(4,true,.int .i64 i)],hset Ai 0 (.box [JN l.ls,Jx l.pf]),2⟩) (λi=>i<=l.pf.length/\∀(j:Nat) q,j<i->l.pf[j]?=some q->F6 q=true) (λi=>l.pf.length-i) 0 rfl ⟨rm _,λj q h=>zo⟩ ?_;rintro i ⟨hi,e9⟩;by_cases c9:i<l.pf.length
 ·have e:=AK (k:=i) zo;have hg:=rc c9;have hm:=rY c9;generalize l.pf[i]=x at hg hm;have v1:JM.ok (.agg [Kj x])=True:=HD x;have v2:JM.dec (.agg [Kj x])=x:=Fm x;cases hq:F6 x with
  |false=>
   have:l.pf.all F6=false:=uw.2 ⟨x,hm,by rw[hq];decide⟩;rw[this];simp only[eZ,seval,rf,eY,AN c9,hg,Tfb,s1,v1,v2,hq,rf,AG]
  |true=>
   simp only[eZ,seval,re,eY,AN c9,hg,Tfb,s1,v1,v2,hq,re,e,AG];refine .mk (i+1) rfl ⟨c9,λj y hj hy=>?_⟩ zo;by_cases w:j<i
   ·exact e9 j y w hy
   ·obtain rfl:j=i:=zo
    rw[hg]at hy;cases hy;exact hq
 obtain rfl:i=l.pf.length:=zo
 rw[NC e9];simp only[eZ,seval,r9,Ad c9]
def mb{l:Lbr}(h:Kz l=true):FewB l:=by
 unfold Kz at h;simp only[rl,tq,tv,sR,sg]at h;exact⟨by show l.ls.length<1000000000;omega,by show l.pf.length<1000000000;omega,λx hx=>ZV (h.1.2 x hx),λp hp=>ZW (h.2 p hp)⟩
def p89(l:List Int)(s:Int)(hl:An l):Aw prog 89 [Am l,eI s] (.bool (l.contains s)):=by
 refine .mk ⟨AZ 0 l,zt,zt⟩ zt (c89.a (AI AH.tnil (AJ ?_)));have am:l.length<1000000000:=hl;simp only[eE,eN,seval,c89];refine AO (λi:Nat=>⟨[(0,true,Am l),(1,true,eI s),(5,true,.int .i64 i)],Ai,0⟩) (λi=>i<=l.length/\∀(j:Nat) q,j<i->l[j]?=some q->q≠s) (λi=>l.length-i) 0 rfl ⟨rm _,λj q h=>zo⟩ ?_;rintro i ⟨hi,e9⟩;by_cases c9:i<l.length
 ·have e:=AK (k:=i) zo;have hg:=rc c9;have hm:=rY c9;generalize l[i]=q at hg hm;by_cases hq:q=s
  ·rw[show l.contains s=true from sN.2 (hq▸hm)];simp only[eZ,seval,eY,AN c9,hg,ra hq]
  simp only[eZ,seval,eY,AN c9,hg,ri hq,e];refine .mk (i+1) rfl ⟨c9,λj y hj hy=>?_⟩ zo;by_cases w:j<i
  ·exact e9 j y w hy
  ·obtain rfl:j=i:=zo
   rw[hg]at hy;cases hy;exact hq
 obtain rfl:i=l.length:=zo
 have:l.contains s=false:=by
  rw[uv];intro hc;obtain⟨j,hj,hjs⟩:=sH.1 (sN.1 hc);exact e9 j _ hj (rc hj) hjs
 rw[this];simp only[eZ,seval,r9,Ad c9]
structure IPs(l cells:List Int)(v:VPl):Prop where
 hj:v.j<=l.length
 fr:AP v.H v.n
 tok:DA 1 0 v.H v.tk
 es:v.tk.esz=1\/(l.take v.j).map (BW cells)=[]
def p135(l cells:List Int)(hl:An l)(hc:∀c∈l,0<=c/\c<(cells.length:Int)):Aw prog 135 [Am l,Am cells] (Am (l.map (BW cells))):=by
 refine .mk ⟨AZ 0 l,AZ 0 cells,zt⟩ (AZ 0 _) (c135.a (AI AH.tnil (AJ ?_)));have am:l.length<1000000000:=hl;simp only[eE,eN,seval,c135];refine AO (λv:VPl=>⟨[(0,true,Am l),(1,true,Am cells),(5,true,.sl v.tk (((l.take v.j).map (BW cells)).map eI)),(6,true,.int .i64 v.j)],v.H,v.n⟩) (IPs l cells) (λv=>l.length-v.j) ⟨0,.exact 1,Ai,0⟩ rfl ⟨rm _,AP.nil,.inr (.inl rfl),.inl rfl⟩ ?_;rintro⟨j,tk,H,n⟩ ⟨hj,hf,l5,s5⟩;simp only at hj hf l5 s5;by_cases l9:j<l.length;case neg=>
  obtain rfl:j=l.length:=zo
  rw[se]at s5;simp only[eZ,seval,r9,Ad l9];rw[se];exact Wk.sl (s5.imp id λq=>by rw[q];rfl)
 have hg:=rc l9;have e:=AK (k:=j) zo;have hci:=hc _ (rY l9);have htake:l.take (j+1)=l.take j++[l[j]]:=by rw[sf,hg];rfl
 generalize l[j]=y at hg hci htake;have hgx:=CZ hci.1 hci.2;have hX:((l.take j).map (BW cells)).length<=j:=by simp;omega
 have q1:BH H 1 tk=True:=ra l5.app;have q2:(((l.take j).map (BW cells)).length<=35184372088831)=True:=ra zo;have q3:Al (((l.take j).map (BW cells)).length+1) 8=True:=ra (Ac zo zd);generalize hXd:(l.take j).map (BW cells)=X at hX q2 q3 s5;simp only[eZ,seval,eY,AN l9,hg,ra hci.1,ra hci.2,hgx,q1,q2,q3,Bq hf,e];refine .mk ⟨j+1,.own (n+9) 1,hset (AU H tk) (n+9) .tok,n+11⟩ ?_ ⟨l9,(Ab l5 hf).hset (m:=n+11) zo zo,.inr (.inr ⟨n+9,rfl,rm _,AC ..⟩),.inl rfl⟩ zp;simp only[htake,rz,sw,sI,hXd]
def p136(k:zx)(s:Int)(h:DZ k s):Aw prog 136 [A5 k,eI s] (eI (BW (AW k) s)):=by
 refine .mk ⟨Aj 0 k,zt,zt⟩ zt (c136.a (AI AH.tnil (AJ ?_)));have c9:s.toNat<k.d.syms.length:=by have:=h.1;have:=h.2;omega
 have hg:=rc c9;rw[Jt hg];generalize k.d.syms[s.toNat]=y at hg;simp only[eE,eN,seval,eY,c136,AF,AE,AL,ra h.1,ra h.2,hg]
def Jy(k:zx):List Fs->AB->Prop×Fs:=λa _=>match a with
 |[K,.int .i64 s]=>(B2.ok K/\B2.dec K=k/\DZ k s,eI (BW (AW k) s))
 |_=>(False,.tup [])
def ZX(k:zx):∀args H n,(Jy k args H).1->Ao prog 136 args H n (Jy k args H).2:=by
 intro args H n hh;unfold Jy at hh⊢;split at hh
 ·obtain⟨h1,h2,h3⟩:=hh;have w1:=B2.wk _ h1;rw[h2]at w1;refine AV.args ((p136 k _ h3).quiet H n) ?_;rintro g vs ⟨v,r,rfl,k1,k2⟩;exact⟨v,_,rfl,w1 _ _ k1,k2⟩
 ·exact hh.elim
def Tva(k:zx):Bc:=AG 136 (Jy k) tnil
def mc(k:zx):AH prog (Tva k):=AH.tnil.add (ZX k)
def Rv{k:zx}(hv:∀y∈k.d.syms,0<=y.v/\y.v<=99){s:Int}(h:DZ k s):0<=BW (AW k) s/\BW (AW k) s<=99:=by
 have c9:s.toNat<k.d.syms.length:=by have:=h.1;have:=h.2;omega
 rw[Jt (rc c9)];exact hv _ (rY c9)
def p137(k:zx)(s t:Int)(hv:∀y∈k.d.syms,0<=y.v/\y.v<=99)(hs:DZ k s)(ht:DZ k t):Aw prog 137 [A5 k,eI s,eI t] (eI (Mw (AW k) s t)):=by
 have u1:B2.ok (.agg (AF k))=True:=CC k;have u2:B2.dec (.agg (AF k))=k:=Bm k;simp only[AF,AE,AL,si,sj]at u1 u2;refine .mk ⟨Aj 0 k,zt,zt,zt⟩ zt (c137.a (AI (mc k) (AJ ?_)));have r1:=Rv hv hs;have r2:=Rv hv ht;unfold Mw;generalize hx:BW (AW k) s=x at r1;generalize hy:BW (AW k) t=y at r2;have w1:IntKind.wrap .i64 (x-y)=x-y:=A6 zo zo;have w2:IntKind.wrap .i64 (y-x)=y-x:=A6 zo zo;simp only[eE,eN,seval,c137,AF,AE,AL,Tva,Jy,u1,u2,ra hs,ra ht,hx,hy,w1,w2,AG]
 done
abbrev fwQ(q:Cnd):Prop:=An q.cs/\An q.ls
abbrev fwP(p:Prm):Prop:=An p.ls
def d6{a b:Cnd}:a=b↔a.k=b.k/\a.n=b.n/\a.cs=b.cs/\a.ls=b.ls:=by
 cases a;cases b;simp only[Cnd.mk.injEq];exact⟨λ⟨h1,h2,h3,h4⟩=>⟨h1,h4,h2,h3⟩,λ⟨h1,h2,h3,h4⟩=>⟨h1,h3,h4,h2⟩⟩
def d7{a b:Prm}:a=b↔a.c=b.c/\a.ls=b.ls:=by cases a;cases b;simp only[Prm.mk.injEq]
def d8{a b:zy}:a=b↔a.nm=b.nm/\a.lv=b.lv/\a.cs=b.cs/\a.ls=b.ls/\a.qs=b.qs/\a.ps=b.ps/\a.c=b.c/\a.l=b.l:=by cases a;cases b;simp only[zy.mk.injEq]
def p72(a b:List Int)(ha:An a):Aw prog 72 [Am a,Am b] (.bool (decide (a=b))):=by
 refine .mk ⟨⟨zt,Dy 0 a⟩,⟨zt,Dy 0 b⟩,zt⟩ zt (c72.a (AI AH.tnil (AJ ?_)));by_cases hl:a.length=b.length;case neg=>
  simp only[eZ,seval,rf,r9,c72,Gp hl,rf];exact(sa λe=>hl (by rw[e])).symm
 simp only[eZ,seval,re,r9,c72,Gq hl];refine AO (λi:Nat=>⟨[(0,true,Am a),(1,true,Am b),(5,true,.int .i64 i)],Ai,0⟩) (λi=>i<=a.length/\∀j,j<i->a[j]?=b[j]?) (λi=>a.length-i) 0 rfl ⟨rm _,λj hj=>zo⟩ ?_;rintro i ⟨hi,e9⟩;by_cases c9:i<a.length;case neg=>
  simp only[eZ,seval,r9,Ad c9];exact(sk (DO hl λj hj=>e9 j zo)).symm
 have hltb:i<b.length:=zo
 have hga:=rc c9;have hgb:=rc hltb;have e:=AK (k:=i) zo;by_cases hs:a[i]=b[i]
 ·simp only[eZ,seval,re,rZ,rr,ry,r9,sb,AN c9,AN hltb,hga,hgb,hs,e];refine .mk (i+1) rfl ⟨c9,λj h=>?_⟩ zo;by_cases q:j=i
  ·subst q;rw[hga,hgb,hs]
  ·exact e9 j zo
 ·simp only[eZ,seval,rf,rZ,rr,ry,r9,sb,AN c9,AN hltb,hga,hgb,hs];exact(sa λq=>hs (by simp [q])).symm
def p70(a b:List Bs)(ha:An a):Aw prog 70 [FH a,FH b] (.bool (decide (a=b))):=by
 refine .mk ⟨⟨zt,DE 0 a⟩,⟨zt,DE 0 b⟩,zt⟩ zt (c70.a (AI AH.tnil (AJ ?_)));by_cases hl:a.length=b.length;case neg=>
  simp only[eZ,seval,rf,r9,c70,Gp hl,rf];exact(sa λe=>hl (by rw[e])).symm
 simp only[eZ,seval,re,r9,c70,Gq hl];refine AO (λi:Nat=>⟨[(0,true,FH a),(1,true,FH b),(5,true,.int .i64 i)],Ai,0⟩) (λi=>i<=a.length/\∀j,j<i->a[j]?=b[j]?) (λi=>a.length-i) 0 rfl ⟨rm _,λj hj=>zo⟩ ?_;rintro i ⟨hi,e9⟩;by_cases c9:i<a.length;case neg=>
  simp only[eZ,seval,r9,Ad c9];exact(sk (DO hl λj hj=>e9 j zo)).symm
 have hltb:i<b.length:=zo
 have hga:=rc c9;have hgb:=rc hltb;have e:=AK (k:=i) zo;by_cases hs:a[i]=b[i]
 ·simp only[eZ,seval,re,rZ,rr,ry,r9,sb,AN c9,AN hltb,hga,hgb,hs,e,A0];refine .mk (i+1) rfl ⟨c9,λj h=>?_⟩ zo;by_cases q:j=i
  ·subst q;rw[hga,hgb,hs]
  ·exact e9 j zo
 ·simp only[eZ,seval,rf,rZ,rr,ry,r9,sb,AN c9,AN hltb,hga,hgb,hs,A0];exact(sa λq=>hs (by simp [q])).symm
def Tzi:Bc:=AG 72 (s2 BA BA (λa _=>An a) λa b=>.bool (decide (a=b))) tnil
def md:AH prog Tzi:=AH.tnil.add (q2 p72)
def p71(a b:Cnd)(ha:fwQ a):Aw prog 71 [GK a,GK b] (.bool (same a b)):=by
 refine .mk ⟨Dl 0 a,Dl 0 b,zt⟩ zt (c71.a (AI md (AJ ?_)));have h1:=ha.1;have h2:=ha.2;simp only[eZ,seval,c71,Tzi,s2,BA,GN,Ct,Ax,h1,h2,AG];refine gY ?_;rw[d6];simp only[rl,rn,ud]
noncomputable def Tzs:Bc:=AG 70 (s2 I1 I1 (λa _=>An a) λa b=>.bool (decide (a=b))) (AG 72 (s2 BA BA (λa _=>An a) λa b=>.bool (decide (a=b))) (AG 71 (s2 dQ dQ (λa _=>fwQ a) λa b=>.bool (same a b)) tnil))
def mf:AH prog Tzs:=((AH.tnil.add (q2 p71)).add (q2 p72)).add (q2 p70)
theorem Tzs_s(a:List Fs)(H:AB):Tzs 70 a H=s2 I1 I1 (λa _=>An a) (λa b=>.bool (decide (a=b))) a H:=rfl
theorem jL(a:List Fs)(H:AB):Tzs 72 a H=s2 BA BA (λa _=>An a) (λa b=>.bool (decide (a=b))) a H:=rfl
theorem jM(a:List Fs)(H:AB):Tzs 71 a H=s2 dQ dQ (λa _=>fwQ a) (λa b=>.bool (same a b)) a H:=rfl
def p42(a b:zy)(ha:xw a):Aw prog 42 [BZ a,BZ b] (.bool (same a b)):=by
 refine .mk ⟨At 0 a,At 0 b,zt⟩ zt (c42.a (AI mf (AJ ?_)));have hqn:=ha.qs;have hpn:=ha.ps;simp only[eZ,seval,r9,c42,Tzs_s,s2,I1,GN,Ct,Cm,ha.cs,ha.ls,A0];rw[oq];refine⟨λhB=>?_,λhB=>?_⟩
 ·simp only[eE,eN,seval];refine(KS λe=>?_).symm;subst e;simp at hB
 simp only[tv,uG,rn]at hB;obtain⟨⟨⟨⟨⟨⟨⟨h1,h2⟩,h3⟩,h4⟩,h5⟩,h6⟩,h7⟩,h8⟩:=hB;have h5':a.qs.length=b.qs.length:=zo
 have h6':a.ps.length=b.ps.length:=zo
 simp only[eE,eN,seval];refine AO (λi:Nat=>⟨[(2,true,.ptr 0 0),(3,true,.ptr 1 0),(5,true,.int .i64 i)],hset (hset Ai 0 (.box (AY a))) 1 (.box (AY b)),3⟩) (λi=>i<=a.qs.length/\∀j,j<i->a.qs[j]?=b.qs[j]?) (λi=>a.qs.length-i) 0 rfl ⟨rm _,λj hj=>zo⟩ ?_;rintro i ⟨hi,e9⟩;by_cases c9:i<a.qs.length
 ·have hltb:i<b.qs.length:=zo
  have hga:=rc c9;have hgb:=rc hltb;have e:=AK (k:=i) zo;have hf:fwQ a.qs[i]:=ha.q _ (rY c9);cases hs:same a.qs[i] b.qs[i]with
  |true=>
   simp only[eZ,seval,re,rZ,rr,ry,r9,sb,AN c9,AN hltb,hga,hgb,e,jM,s2,Ke,Hd,ra hf,hs];refine .mk (i+1) rfl ⟨c9,λj h=>?_⟩ zo;by_cases q:j=i
   ·subst q;rw[hga,hgb,IQ.1 hs]
   ·exact e9 j zo
  |false=>
   simp only[eZ,seval,rf,rZ,rr,ry,r9,sb,AN c9,AN hltb,hga,hgb,jM,s2,Ke,Hd,ra hf,hs];refine(KS λq=>?_).symm;subst q;rw[S3]at hs;cases hs
 have hqe:a.qs=b.qs:=DO h5' λj hj=>e9 j zo
 simp only[eZ,seval,r9,Ad c9];clear c9 e9 hi;refine AO (λi:Nat=>⟨[(2,true,.ptr 0 0),(3,true,.ptr 1 0),(6,true,.int .i64 i)],hset (hset Ai 0 (.box (AY a))) 1 (.box (AY b)),3⟩) (λi=>i<=a.ps.length/\∀j,j<i->a.ps[j]?=b.ps[j]?) (λi=>a.ps.length-i) 0 rfl ⟨rm _,λj hj=>zo⟩ ?_;rintro i ⟨hi,e9⟩;by_cases c9:i<a.ps.length
 ·have hltb:i<b.ps.length:=zo
  have hga:=rc c9;have hgb:=rc hltb;have e:=AK (k:=i) zo;have hf:fwP a.ps[i]:=ha.p _ (rY c9);by_cases hc:a.ps[i].c=b.ps[i].c
  ·by_cases hs:a.ps[i].ls=b.ps[i].ls
   ·have wp:An b.ps[i].ls:=hs▸hf;simp only[eZ,seval,re,rZ,rr,ry,r9,sb,AN c9,AN hltb,hga,hgb,e,jL,s2,BA,GN,Ct,Ax,wp,hc,hs];refine .mk (i+1) rfl ⟨c9,λj h=>?_⟩ zo;by_cases q:j=i
    ·subst q;rw[hga,hgb,d7.2 ⟨hc,hs⟩]
    ·exact e9 j zo
   ·simp only[eZ,seval,re,rf,rZ,rr,ry,r9,sb,AN c9,AN hltb,hga,hgb,jL,s2,BA,GN,Ct,Ax,hf,hc,hs];refine(KS λq=>hs ?_).symm;subst q;rfl
  ·simp only[eZ,seval,re,rf,rZ,rr,ry,r9,sb,AN c9,AN hltb,hga,hgb,hc];refine(KS λq=>hc ?_).symm;subst q;rfl
 have hpe:a.ps=b.ps:=DO h6' λj hj=>e9 j zo
 simp only[eZ,seval,r9,Ad c9];exact(IQ.2 (d8.2 ⟨h1,h2,h3,h4,hqe,hpe,h7,h8⟩)).symm
section
def PG(k:zx):List Fs->AB->Prop×Fs:=λa _=>match a with
 |[K,.int .i64 s,.int .i64 t]=>(B2.ok K/\B2.dec K=k/\DZ k s/\DZ k t,eI (Mw (AW k) s t))
 |_=>(False,.tup [])
def mg{k:zx}(hv:∀y∈k.d.syms,0<=y.v/\y.v<=99):∀args H n,(PG k args H).1->Ao prog 137 args H n (PG k args H).2:=by
 intro args H n hh;unfold PG at hh⊢;split at hh
 ·obtain⟨h1,h2,h3,h4⟩:=hh;have w1:=B2.wk _ h1;rw[h2]at w1;refine AV.args ((p137 k _ _ hv h3 h4).quiet H n) ?_;rintro g vs ⟨v,r,rfl,k1,k2⟩;exact⟨v,_,rfl,w1 _ _ k1,k2⟩
 ·exact hh.elim
def jN:List Fs->AB->Prop×Fs:=s2 BA BA (λl cells=>An l/\∀c∈l,0<=c/\c<(cells.length:Int)) λl cells=>Am (l.map (BW cells))
def PH:List Fs->AB->Prop×Fs:=s2 BA dI (λl _=>An l) λl s=>.bool (l.contains s)
def ZY(k:zx):Bc:=AG 135 jN (AG 89 PH (AG 136 (Jy k) (AG 137 (PG k) tnil)))
def d9{k:zx}(hv:∀y∈k.d.syms,0<=y.v/\y.v<=99):AH prog (ZY k):=(((AH.tnil.add (mg hv)).add (ZX k)).add (q2 λl s h=>p89 l s h)).add (q2 λl c h=>p135 l c h.1 h.2)
theorem Tl(k:zx)(a:List Fs)(H:AB):ZY k 135 a H=s2 BA BA (λl cells=>An l/\∀c∈l,0<=c/\c<(cells.length:Int)) (λl cells=>Am (l.map (BW cells))) a H:=rfl
theorem Tm(k:zx)(a:List Fs)(H:AB):ZY k 89 a H=s2 BA dI (λl _=>An l) (λl s=>.bool (l.contains s)) a H:=rfl
theorem ZZ(k:zx)(a:List Fs)(H:AB):ZY k 136 a H=Jy k a H:=rfl
theorem mh(k:zx)(a:List Fs)(H:AB):ZY k 137 a H=PG k a H:=rfl
variable {l:List Int} {i:Nat}
theorem Tn{bad:Int->Int->Bool}(h:i<l.length):Ba bad (l.drop i)=(((l.drop (i+1)).any λb=>decide (0<=l[i])&&decide (0<=b)&&bad l[i] b)||Ba bad (l.drop (i+1))):=by
 rw[sn h,Ba]
theorem mj{vals:List Int}{k a b:Int}(h1:k≠1)(h4:k≠4):Ko vals k a b=false:=by unfold Ko;simp [h1,h4]
theorem Za{ls:List Int}{s:Int}(h:l[i]?=some s):GJ ls (l.take (i+1))=GJ ls (l.take i)+if(decide (0<=s)&&ls.contains s)=true then 1 else 0:=by
 rw[sf,h];exact VL ..
theorem Zb{ls:List Int}{s:Int}(h:l[i]?=some s):Jg ls (l.take (i+1))=Jg ls (l.take i)+if(decide (0<=s)&& !ls.contains s)=true then 1 else 0:=by
 rw[sf,h];exact VN ..
abbrev Hcq(k:zx)(q:Cnd):AB:=hset (hset Ai 0 (.box (AF k))) 1 (.box (Tf q))
abbrev eCq(letters l:List Int)(all:Bool)(ow ot:Nat)(rest:List (Nat×Bool×Fs)):List (Nat×Bool×Fs):=[(2,true,Am letters),(4,true,.ptr 0 0),(5,true,.ptr 1 0),(9,true,Am l),(10,true,.bool all),(11,true,.int .i64 ow),(12,true,.int .i64 ot)]++rest
set_option maxHeartbeats 1000000 in
theorem p90R(k:zx)(q:Cnd)(letters cells:List Int)(h:ClOK k q letters cells)(hge:∀s∈cells,-1<=s)(h3:q.k=3->q.cs.length=2):
  Aw prog 90 [A5 k,GK q,Am letters,Am cells] (.bool (Kp (AW k) q.k q.n (q.ls.map (BW letters)) (q.cs.map (BW cells)))):=by
 have u1:B2.ok (.agg (AF k))=True:=CC k;have u2:B2.dec (.agg (AF k))=k:=Bm k;simp only[AF,AE,AL,si,sj]at u1 u2;refine .mk ⟨Aj 0 k,Dl 0 q,AZ 0 _,AZ 0 _,zt⟩ zt (c90.a (AI (d9 h.vl) (AJ ?_)));have wz:q.cs.length<1000000000:=h.cs;have f1:(An q.cs/\∀c∈q.cs,0<=c/\c<(cells.length:Int))=True:=ra ⟨h.cs,h.ci⟩;have f2:(An q.ls/\∀c∈q.ls,0<=c/\c<(letters.length:Int))=True:=ra ⟨h.ls,h.li⟩;have f3:An (q.cs.map (BW cells))=True:=ra (by show(q.cs.map (BW cells)).length<_;rw[r9];exact wz);have f4:An (q.ls.map (BW letters))=True:=ra (by show(q.ls.map (BW letters)).length<_;rw[r9];exact h.ls);have s7:∀s∈q.cs.map (BW cells),0<=s->DZ k s:=λs hs h0=>by
  obtain⟨c,hc,rfl⟩:=t7.1 hs;have:=h.ci c hc;exact h.sy _ (te (CZ this.1 this.2)) h0
 have hml:∀s∈q.cs.map (BW cells),-1<=s:=λs hs=>by
  obtain⟨c,hc,rfl⟩:=t7.1 hs;have:=h.ci c hc;exact hge _ (te (CZ this.1 this.2))
 have ww:(q.cs.map (BW cells)).length=q.cs.length:=r9 ..;have hk:=h.kind;have hn:=h.n;simp only[eE,eN,seval,c90,Tl,Tm,s2,Ak,Ag,BD,Au,f1,f3];generalize q.cs.map (BW cells)=l at f3 s7 hml ww;generalize xa:q.ls.map (BW letters)=ls at f4;have am:l.length<1000000000:=zo
 obtain⟨bad,v9⟩:∃bad,Ko (AW k) q.k=bad:=⟨_,rfl⟩;refine AO (λi:Nat=>⟨eCq letters l (!l.contains (-1)) (GJ ls (l.take i)) (Jg ls (l.take i)) [(13,true,.int .i64 i)],Hcq k q,3⟩) (λi=>i<=l.length/\Ba bad l=Ba bad (l.drop i)) (λi=>l.length-i) 0 rfl ⟨rm _,rfl⟩ ?_;rintro i ⟨hi,hp⟩;by_cases c9:i<l.length;case neg=>
  obtain rfl:i=l.length:=zo
  rw[sK,Ba]at hp;rw[se];unfold Kp;rw[v9,hp,tH];unfold lH;have lo:=Td ls l;by_cases k2:q.k=2
  ·rw[rt k2];cases hc:l.contains (-1)with
   |true=>simp only[eZ,seval,re,r9,Ad c9,ra k2,re]
   |false=>
    simp only[eZ,seval,rf,r9,Ad c9,ra k2,rf];exact decide_eq_decide.2 zo
  rw[rj k2];by_cases k3:q.k=3
  ·rw[rt k3];cases hc:l.contains (-1)with
   |true=>simp only[eZ,seval,re,eY,Ad c9,ri k2,ra k3,re]
   |false=>
    have hge':∀s∈l,DZ k s:=λs hs=>s7 s hs (by
     have hnc:¬(-1:Int)∈l:=λq=>by rw[sN.2 q]at hc;cases hc
     have hm1:=hml s hs;by_cases e:s= -1
     ·subst e;exact absurd hs hnc
     ·omega)
    have hl2:l.length=2:=by have:=h3 k3;omega
    obtain⟨a,hg0⟩:∃a,l[0]?=some a:=⟨_,rc zo⟩;obtain⟨b,hg1⟩:∃b,l[1]?=some b:=⟨_,rc zo⟩;have ha:=hge' a (te hg0);have hb:=hge' b (te hg1);have i0:((0:Int)<(l.length:Int))=True:=ra zo;have i1:((1:Int)<(l.length:Int))=True:=ra zo;have j0:(0<l.length)=True:=ra zo;have j1:(1<l.length)=True:=ra zo;rw[hg0,hg1,rZ,rZ,rf,sS];simp only[eZ,seval,eY,Ad c9,ri k2,ra k3,i0,i1,hg0,hg1,AF,AE,AL,mh,PG,u1,u2,ra ha,ra hb]
  rw[rj k3];by_cases k6:q.k=6
  ·rw[rt k6];have w:=A6 (x:=(l.length:Int)-q.n) zo zo;by_cases c1':q.n<(GJ ls l:Int)
   ·rw[sk c1',uZ];simp only[eZ,seval,re,r9,Ad c9,ri k2,ri k3,ra k6,ra c1']
   ·rw[sa c1',tH];simp only[eZ,seval,r9,Ad c9,ri k2,ri k3,ra k6,ri c1',w]
  ·rw[rj k6];simp only[eZ,seval,r9,Ad c9,ri k2,ri k3,ri k6]
 have hg:=rc c9;have hd:=Tn (bad:=bad) c9;have hsy:=s7 _ (rY c9);generalize l[i]=a at hg hd hsy;have ho1:=Za (ls:=ls) hg;have ho2:=Zb (ls:=ls) hg;have e0:=AK (k:=i) zo;have lo1:=Td ls (l.take i);have lo2:=Yy ls (l.take i);rw[sD]at lo1 lo2;have eo1:=AK (k:=GJ ls (l.take i)) zo;have eo2:=AK (k:=Jg ls (l.take i)) zo;obtain⟨P,hP⟩:∃P:Int->Bool,(λb=>decide (0<=a)&&decide (0<=b)&&bad a b)=P:=⟨_,rfl⟩;have hPb:∀b,P b=(decide (0<=a)&&decide (0<=b)&&bad a b):=λb=>by rw[<-hP]
 rw[hP]at hd;simp only[eZ,seval,r9,AN c9,e0];refine AO (λj:Nat=>⟨eCq letters l (!l.contains (-1)) (GJ ls (l.take i)) (Jg ls (l.take i)) [(13,true,.int .i64 i),(14,true,.int .i64 j)],Hcq k q,3⟩) (λj=>i+1<=j/\j<=l.length/\((l.drop (i+1)).any P)=((l.drop j).any P)) (λj=>l.length-j) (i+1) rfl ⟨rq _,c9,rfl⟩ ?_;rintro j ⟨hj1,hj2,hany⟩;by_cases l9:j<l.length;case neg=>
  obtain rfl:j=l.length:=zo
  rw[sK,List.any_nil]at hany;rw[hany,tH]at hd;have fin:i+1<=l.length/\Ba bad l=Ba bad (l.drop (i+1)):=⟨c9,hp.trans hd⟩;by_cases h0:0<=a
  ·rw[sk h0,sS]at ho1 ho2;cases hc:ls.contains a with
   |true=>
    simp only[hc,re,t8,sG,sr,tW]at ho1 ho2;simp only[eZ,seval,eY,Ad l9,hg,AN c9,ra h0,Tl,Tm,s2,Ak,Ag,BD,Au,f2,f4,xa,hc,e0,eo1];exact .mk (i+1) (by simp only[ho1,ho2]) fin zo
   |false=>
    simp only[hc,rf,t8,sG,sr,tW]at ho1 ho2;simp only[eZ,seval,eY,Ad l9,hg,AN c9,ra h0,Tl,Tm,s2,Ak,Ag,BD,Au,f2,f4,xa,hc,e0,eo2];exact .mk (i+1) (by simp only[ho1,ho2]) fin zo
  ·simp only[sa h0,sV,sG,sr,tW]at ho1 ho2;simp only[eZ,seval,eY,Ad l9,hg,AN c9,ri h0,e0];exact .mk (i+1) (by simp only[ho1,ho2]) fin zo
 have hgj:=rc l9;have hdj:=sn l9;have hsj:=s7 _ (rY l9);generalize l[j]=b at hgj hdj hsj;rw[hdj,vz]at hany;have ej:=AK (k:=j) zo;have fin:P b=false->(i+1<=j+1/\j+1<=l.length/\((l.drop (i+1)).any P)=((l.drop (j+1)).any P)):=λhf=>by
  rw[hf,tH]at hany;exact⟨zo,l9,hany⟩
 have res:P b=true->Kp (AW k) q.k q.n ls l=true:=λhf=>by
  rw[hf,uZ]at hany;unfold Kp;rw[v9,hp,hd,hany,uZ,uZ]
 by_cases h0a:0<=a;case neg=>
  have hf:=fin (by rw[hPb,sa h0a];rfl);by_cases k1:q.k=1
  ·simp only[eZ,seval,eY,AN l9,hgj,AN c9,hg,ri h0a,ra k1,show(q.k=4)=False from ri zo,ej];exact .mk (j+1) rfl hf zo
  by_cases k4:q.k=4
  ·simp only[eZ,seval,eY,AN l9,hgj,AN c9,hg,ri h0a,ri k1,ra k4,ej];exact .mk (j+1) rfl hf zo
  ·simp only[eZ,seval,eY,AN l9,hgj,AN c9,hg,ri h0a,ri k1,ri k4,ej];exact .mk (j+1) rfl hf zo
 by_cases h0b:0<=b;case neg=>
  have hf:=fin (by rw[hPb,sa h0b,uP];rfl);by_cases k1:q.k=1
  ·simp only[eZ,seval,eY,AN l9,hgj,AN c9,hg,ra h0a,ri h0b,ra k1,show(q.k=4)=False from ri zo,ej];exact .mk (j+1) rfl hf zo
  by_cases k4:q.k=4
  ·simp only[eZ,seval,eY,AN l9,hgj,AN c9,hg,ra h0a,ri h0b,ri k1,ra k4,ej];exact .mk (j+1) rfl hf zo
  ·simp only[eZ,seval,eY,AN l9,hgj,AN c9,hg,ra h0a,ri h0b,ri k1,ri k4,ej];exact .mk (j+1) rfl hf zo
 have oa:=hsy h0a;have ob:=hsj h0b;by_cases k1:q.k=1
 ·by_cases wv:a=b
  ·rw[res (by rw[hPb,sk h0a,sk h0b,<-v9];unfold Ko;simp [k1,wv])];simp only[eZ,seval,eY,AN l9,hgj,AN c9,hg,ra h0a,ra h0b,ra k1,ra wv]
  ·have hf:=fin (by rw[hPb,<-v9];unfold Ko;simp [k1,wv]);simp only[eZ,seval,eY,AN l9,hgj,AN c9,hg,ra h0a,ra h0b,ra k1,ri wv,show(q.k=4)=False from ri zo,ej];exact .mk (j+1) rfl hf zo
 by_cases k4:q.k=4
 ·by_cases wv:BW (AW k) b<=BW (AW k) a
  ·rw[res (by rw[hPb,sk h0a,sk h0b,<-v9];unfold Ko;simp [k4,wv])];simp only[eZ,seval,eY,AN l9,hgj,AN c9,hg,ra h0a,ra h0b,ri k1,ra k4,AF,AE,AL,ZZ,Jy,u1,u2,ra oa,ra ob,ra wv]
  ·have hf:=fin (by rw[hPb,<-v9];unfold Ko;simp [k4,wv]);simp only[eZ,seval,eY,AN l9,hgj,AN c9,hg,ra h0a,ra h0b,ri k1,ra k4,AF,AE,AL,ZZ,Jy,u1,u2,ra oa,ra ob,ri wv,ej];exact .mk (j+1) rfl hf zo
 ·have hf:=fin (by rw[hPb,<-v9,mj k1 k4,uP]);simp only[eZ,seval,eY,AN l9,hgj,AN c9,hg,ra h0a,ra h0b,ri k1,ri k4,ej];exact .mk (j+1) rfl hf zo
theorem p90(k:zx)(q:Cnd)(letters cells:List Int)(h:ClOK k q letters cells)(hge:∀s∈cells,-1<=s)(h3:q.k=3->q.cs.length=2):
  Aw prog 90 [A5 k,GK q,Am letters,Am cells] (.bool (Fd (AW k) q letters cells)):=by
 refine(p90R k q letters cells h hge h3).all ?_;unfold Fd;rw[Wc]
 ·intro s hs;obtain⟨c,hc,rfl⟩:=t7.1 hs;have:=h.ci c hc;exact hge _ (te (CZ this.1 this.2))
 ·intro hk;rw[r9];exact h3 hk
end
def DA.low{e lo n:Nat}{H H':AB}{tk:w8}(h:DA e lo H tk)(hf:AP H n)(hk:∀i,i<n->AD H' i=AD H i):DA e lo H' tk:=by
 rcases h with rfl|rfl|⟨id,rfl,h1,h2⟩
 ·exact .inl rfl
 ·exact .inr (.inl rfl)
 ·exact .inr (.inr ⟨id,rfl,h1,(hk id (hf.lt h2)).trans h2⟩)
structure LsG(e:Nat)(Ls:List (List Int))(E:List Fs)(tk:w8)(H:AB)(n:Nat):Prop where
 fr:AP H n
 tok:DA 1 0 H tk
 es:tk.esz=1\/E=[]
 wk:Wks E (Ls.map Am)
def LsG.fin{e:Nat}{Ls:List (List Int)}{E:List Fs}{tk:w8}{H:AB}{n:Nat}(h:LsG e Ls E tk H n):Wk (.sl tk E) (Bv Ls):=Wk.slx h.es h.wk
structure VLs where
 i:Nat
 E:List Fs
 tk:w8
 H:AB
 n:Nat
def jO(m:Nat)(l:List Int):List (List Int):=(MI m l).map λs=>l++[s]
def cS(m:Nat)(l:List Int)(i:Nat):List (List Int):=(((B7 m).take i).filter λs=>!l.contains s).map λs=>l++[s]
def eA(m:Nat)(l:List Int):cS m l m=jO m l:=by
 unfold cS jO MI;rw[sQ (by unfold B7;simp)]
def chT_T{m i:Nat}{l:List Int}(h:i<m)(hc:l.contains (i:Int)=false):cS m l (i+1)=cS m l i++[l++[(i:Int)]]:=by
 unfold cS;rw[Jv h,tD,uL (by rw[hc];rfl),uA,rz];rfl
def chT_F{m i:Nat}{l:List Int}(h:i<m)(hc:l.contains (i:Int)=true):cS m l (i+1)=cS m l i:=by
 unfold cS;rw[Jv h,tD,uK (by rw[hc];decide),uA,sE]
def eB(m:Nat):∀n,∀l∈Kb m n,l.length=n:=λn l hl=>by
 rw[<-Ml]at hl;exact(Iw hl).1
def Vb(m n:Nat):List Fs->AB->Prop×Fs:=DS [.int .i64 m,.int .i64 n] (λ_=>True) (Bv (Kb m n))
theorem p51(m:Nat)(hm:m<=16):∀n:Nat,n<=3->Aw prog 51 [.int .i64 (m:Int),.int .i64 (n:Int)] (Bv (Kb m n))
 |0,_=>by
  refine .mk ⟨zt,zt,zt⟩ ⟨zt,Ay (λl=>AZ 0 l) _⟩ (c51.a (AI AH.tnil (AJ ?_)));simp only[eZ,seval,c0,c51];exact Wk.slx (.inl rfl) (.cons (Wk.sl (.inr rfl)) .nil)
 |n+1,hn=>by
  have ih:=p51 m hm n zo;have hT:AH prog (AG 51 (Vb m n) (AG 89 PH tnil)):=(AH.tnil.add (q2 λl s h=>p89 l s h)).add (Hf λH k _=>ih.quiet H k);have t1:∀a H,AG 51 (Vb m n) (AG 89 PH tnil) 51 a H=DS [.int .i64 m,.int .i64 n] (λ_=>True) (Bv (Kb m n)) a H:=λ_ _=>rfl
  have t2:∀a H,AG 51 (Vb m n) (AG 89 PH tnil) 89 a H=s2 BA dI (λl _=>An l) (λl s=>.bool (l.contains s)) a H:=λ_ _=>rfl
  generalize AG 51 (Vb m n) (AG 89 PH tnil)=T at hT t1 t2;refine .mk ⟨zt,zt,zt⟩ ⟨zt,Ay (λl=>AZ 0 l) _⟩ (c51.a (AI hT (AJ ?_)));have hn0:(((n+1:Nat):Int)=0)=False:=ri zo;have hsub:IntKind.wrap .i64 (((n+1:Nat):Int)-1)=(n:Int):=by rw[A6 zo zo];omega
  simp only[eZ,seval,c51,hn0,hsub,t1,DS,uk];have hA:(Kb m n).length<=4096:=sO (M6 m n) (sO (Nat.pow_le_pow_left hm _) (sO (Nat.pow_le_pow_right zd (show n<=3 by omega)) zd));have hR:Kb m (n+1)=(Kb m n).flatMap (jO m):=rfl;have am:=eB m n;rw[hR];generalize Kb m n=A at hA am;refine AO (λv:VLs=>⟨[(0,true,.int .i64 m),(5,true,.sl v.tk v.E),(6,true,Bv A),(7,true,.int .i64 v.i)],v.H,v.n⟩) (λv=>v.i<=A.length/\v.E.length<=v.i*16/\LsG 0 ((A.take v.i).flatMap (jO m)) v.E v.tk v.H v.n) (λv=>A.length-v.i) ⟨0,[],.exact 1,Ai,0⟩ rfl ⟨rm _,rm _,AP.nil,.inr (.inl rfl),.inl rfl,.nil⟩ ?_;rintro⟨i,E,tk,H,k⟩ ⟨hi,hel,hG⟩;simp only at hi hel hG;by_cases c9:i<A.length;case neg=>
   obtain rfl:i=A.length:=zo
   rw[se]at hG;simp only[eZ,seval,r9,Ad c9];exact hG.fin
  have hg:=rc c9;have hlen:=am _ (rY c9);have l5:(A.take (i+1)).flatMap (jO m)=(A.take i).flatMap (jO m)++jO m A[i]:=by rw[sf,hg,uM];simp
  generalize A[i]=l at hg hlen l5;have e0:=AK (k:=i) zo;have hfl:An l:=by show l.length<_;omega
  simp only[eZ,seval,r9,AN c9];refine AO (λv:VLs=>⟨[(0,true,.int .i64 m),(5,true,.sl v.tk v.E),(6,true,Bv A),(7,true,.int .i64 i),(8,true,.int .i64 v.i)],v.H,v.n⟩) (λv=>v.i<=m/\v.E.length<=i*16+v.i/\LsG 0 ((A.take i).flatMap (jO m)++cS m l v.i) v.E v.tk v.H v.n) (λv=>m-v.i) ⟨0,E,tk,H,k⟩ rfl ⟨rm _,hel,by
   rw[show cS m l 0=[]from rfl,sE];exact hG⟩ ?_
  clear hG hel;rintro⟨j,E,tk,H,k⟩ ⟨hj,hel,hG⟩;simp only at hj hel hG;by_cases l9:j<m;case neg=>
   obtain rfl:j=m:=zo
   rw[eA,<-l5]at hG;simp only[eZ,seval,Ad l9,e0];exact .mk ⟨i+1,E,tk,H,k⟩ rfl ⟨c9,zp,hG⟩ zp
  have ej:=AK (k:=j) zo;cases hc:l.contains (j:Int)with
  |true=>
   rw[<-chT_F l9 hc]at hG;simp only[eZ,seval,re,eY,AN l9,AN c9,hg,t2,s2,Ak,Ag,BD,Au,ra hfl,hc,re,ej];exact .mk ⟨j+1,E,tk,H,k⟩ rfl ⟨l9,zp,hG⟩ zp
  |false=>
   obtain⟨hf,htok,s5,hwk⟩:=hG;have hiA:i*16<=4096*16:=u9 _ zo;have kp:∀x,x<k->AD (hset (hset H (k+6) .dead) (k+9) .tok) x=AD H x:=λx hx=>by rw[AA _ _ _ _ zo,AA _ _ _ _ zo]
   have wp:AP (hset (hset H (k+6) .dead) (k+9) .tok) (k+11):=(hf.hset (m:=k+11) zo zo).hset (rq _) zo;have htok2:DA 1 0 (hset (hset H (k+6) .dead) (k+9) .tok) tk:=htok.low hf kp;have q1:BH (hset (hset H (k+6) .dead) (k+9) .tok) 1 tk=True:=ra htok2.app;have q2:(E.length<=35184372088831)=True:=ra zo;have q3:Al (E.length+1) 24=True:=ra (Ac zo zd);have q4:(l.length<=35184372088832)=True:=ra zo;have q5:(l.length<=35184372088831)=True:=ra zo;have q6:Al (l.length+1) 8=True:=ra (Ac zo zd);have q7:Al l.length 8=True:=ra (Ac zo zd);simp only[eZ,seval,rf,eY,AN l9,AN c9,hg,t2,s2,Ak,Ag,BD,Au,ra hfl,hc,rf,ej,Bq hf,AQ,q1,q2,q3,q4,q5,q6,q7];refine .mk ⟨j+1,E++[.sl (.own (k+9) 1) (l.map eI++[eI j])],.own (k+11) 1,hset (AU (hset (hset H (k+6) .dead) (k+9) .tok) tk) (k+11) .tok,k+13⟩ rfl ⟨l9,by simp only[sm,sC,tn];omega,(Ab htok2 wp).hset (m:=k+13) zo zo,.inr (.inr ⟨k+11,rfl,rm _,AC ..⟩),.inl rfl,?_⟩ zp;simp only[];rw[chT_T l9 hc,<-sJ,rz];refine hwk.app (.cons ?_ .nil);show Wk _ (.sl (.none 1) ((l++[(j:Int)]).map eI));rw[rz];exact Wk.sl (.inl rfl)
def Zc{cells:List Int}{n:Nat}{s:Int}{R:List Fs}(hn:n<cells.length):List.take cells.length ((cells.map eI++R).set n (eI s))=(cells.set n s).map eI:=by simp_all
def p195(cells:List Int)(c s:Int)(hc:0<=c/\c<(cells.length:Int))(hl:An cells):Aw prog 195 [Am cells,eI c,eI s] (Am (cells.set c.toNat s)):=by
 refine .mk ⟨AZ 0 _,zt,zt,zt⟩ (AZ 0 _) (c195.a (AI AH.tnil (AJ ?_)));have am:cells.length<1000000000:=hl;have s6:cells.map eI≠[]:=λe=>by rw[List.map_eq_nil_iff]at e;rw[e]at hc;simp at hc;omega
 simp only[eE,eN,seval,eY,c195,Df];refine⟨Ac zo zd,zo,λq=>absurd q s6,λ_ cap hcap=>?_⟩;obtain⟨n,rfl⟩:=tQ hc.1;have hn:n<cells.length:=zo
 have z1:((n:Int)<(cells.length:Int))=True:=ra hc.2;simp only[eZ,seval,eY,FY,z1];refine⟨by rw[sm,r9];omega,⟨by rw[tS,sm,r9];omega,hcap⟩,?_⟩;rw[Zc hn];exact Wk.sl (.inl (by split<;>rfl))
structure KlOK(k:zx)(q:Cnd)(letters cells:List Int):Prop where
 cl:ClOK k q letters cells
 ge:∀s∈cells,-1<=s
 h3:q.k=3->q.cs.length=2
def Rw(k:zx):List Fs->AB->Prop×Fs:=λa _=>match a with
 |[K,Q,a1,a2]=>(B2.ok K/\B2.dec K=k/\dQ.ok Q/\BA.ok a1/\BA.ok a2/\KlOK k (dQ.dec Q) (BA.dec a1) (BA.dec a2),.bool (Fd (AW k) (dQ.dec Q) (BA.dec a1) (BA.dec a2)))
 |_=>(False,.tup [])
def mn(k:zx):∀args H n,(Rw k args H).1->Ao prog 90 args H n (Rw k args H).2:=by
 intro args H n hh;unfold Rw at hh⊢;split at hh
 ·obtain⟨h1,h2,h3,h4,h5,h6⟩:=hh;have w1:=B2.wk _ h1;rw[h2]at w1;refine AV.args ((p90 k _ _ _ h6.cl h6.ge h6.h3).quiet H n) ?_;rintro g vs ⟨v1,r1,rfl,k1,v2,r2,rfl,k2,v3,r3,rfl,k3,v4,r4,rfl,k4,k5⟩;exact⟨v1,_,rfl,w1 _ _ k1,v2,_,rfl,dQ.wk _ h3 _ _ k2,v3,_,rfl,BA.wk _ h4 _ _ k3,v4,_,rfl,BA.wk _ h5 _ _ k4,k5⟩
 ·exact hh.elim
def kl_ok{k:zx}{x:zy}{letters cells:List Int}(h:RdC k x letters)(hc:ClP k x cells){q:Cnd}(hq:q∈x.qs):KlOK k q letters cells:=by
 refine⟨jC h hc.cl hq,hc.ge,λh3=>?_⟩;rcases(Ui (h.ox.qs q hq)).kind with⟨z,-⟩|⟨z,-⟩|⟨-,z,-⟩|⟨z,-⟩|⟨z,-⟩<;>first|exact z|omega
abbrev rP(k:zx)(x:zy):AB:=hset (hset Ai 0 (.box (AF k))) 1 (.box (AY x))
structure BgC(x:zy)(letters:List Int):Prop where
 fx:An x.cs
 c:0<=x.c/\x.c<(x.cs.length:Int)
 l:0<=x.l/\x.l<(letters.length:Int)
def PrC.bg{k:zx}{x:zy}{letters:List Int}(h:PrC k x letters):BgC x letters:=⟨h.fx.cs,h.ox.c,by rw[h.rd.ll];exact h.ox.l⟩
structure IBg(x:zy)(v:VPy):Prop where
 hi:v.i<=x.cs.length
 hn:2<=v.n
 fr:AP v.H v.n
 h0:AD v.H 0=some (.box (AY x))
 tok:DA 1 1 v.H v.tk
 es:v.tk.esz=1\/v.i=0
def jP:List Fs->AB->Prop×Fs:=s3 BA dI dI (λl c _=>An l/\0<=c/\c<(l.length:Int)) λl c s=>Am (l.set c.toNat s)
def Zd(n:Nat)(v:Fs):List.replicate (n+1) v=List.replicate n v++[v]:=List.replicate_succ'
end Go.AM
