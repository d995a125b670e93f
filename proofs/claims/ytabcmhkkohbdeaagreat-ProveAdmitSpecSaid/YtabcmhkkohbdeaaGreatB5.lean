/-
  Parts of the proof. Conditions: none.
-/
import Derived.Test.YtabcmhkkohbdeaaGreatB4
import Derived.RangeFuncLeaves
import Derived.RecoverIn
import Derived.KernelRfl
import Derived.SizedLaws
import Derived.ChangeSame
import Derived.ReadAgain
import Derived.RowKit
import Derived.ProofKit
import Derived.Lib.SmallJoins
import Derived.LaidMore
import Derived.OpenShut
import Derived.Stop.Joined
import Derived.MakeChecks
import Derived.Below
import Derived.Lib.AtoiErrMem
import Derived.Lib.LaidTab
set_option maxRecDepth 20000
set_option linter.all false
namespace Go.AM
def G5:Nat->List Fs->List (Nat×Bool×Fs)
 |_,[]=>[]
 |i,a::as=>(i,true,a)::G5 (i+1) as
theorem KL{g:q8}:∀(as:List Fs) (vs pre:List Value) (rest:Array Value),VRels g as vs->Bz g (G5 pre.length as) ((pre++vs).toArray++rest)
 |[],vs,pre,rest,_=>λt gd v h=>by simp [G5,BI]at h
 |a::as,vs,pre,rest,h=>by
  obtain⟨v,vs',rfl,h1,h2⟩:=h;intro t gd x hg;simp only[G5,BI]at hg;split at hg
  ·grind
  ·have:=KL as vs' (pre++[v]) rest h2 t gd x (by simpa using hg);simpa using this
def Qo{g:q8}{env:List (Nat×Bool×Fs)}{tmps:Array Value}(he:Bz g env tmps){t:Nat}(s7:(lk env (.t t)).1=true):AR g (AX env (.t t)) (tmps.getD t undef):=by
 simp only[lk,AX]at s7⊢;cases hg:BI env t with
 |none=>simp [hg]at s7
 |some gv=>
  obtain⟨gd,v⟩:=gv;simp only[hg]at s7⊢;obtain⟨x,h1,h2,_⟩:=he t gd v hg;have:tmps.getD t undef=x:=by simp [Array.getD_eq_getD_getElem?,h1]
  rw[this];exact h2 s7
theorem AV.forget{P:Program}{f:FuncId}{args:List Fs}{H:AB}{n:Nat}{R R':v8->AB->Nat->Prop}(h:AV P f args H n R)
  (hr:∀o H' n',R o H' n'->∃o2 H2,R' o2 H2 n/\IB n H H' H2/\match o,o2 with
   | .ret v,.ret v2=>Wk v v2/\v2.under n
   | .pan v,.pan v2=>Wk v v2/\v2.under n
   |_,_=>False):AV P f args H n R':=by
 refine⟨h.1,λg w vs r v=>(h.2 g w vs r v).mono ?_⟩;rintro e w' ⟨g',out,H',n',q,he,hR',hn,ht⟩;obtain⟨o2,H2,q1,q2,q3⟩:=hr _ _ _ q;obtain⟨r2,t2,ag⟩:=AM.forget r hR' ht q2;refine⟨⟨g.β,g'.σ⟩,o2,H2,n,q1,?_,r2,rq _,t2⟩;cases out with
 |ret a=>cases o2 with
  |pan b=>exact q3.elim
  |ret b=>
   cases e with
   |returned x=>exact AR.agree ag b x q3.2 (q3.1 _ _ he)
   |panicked c=>exact he.elim
   |outgrown=>exact he.elim
 |pan a=>cases o2 with
  |ret b=>exact q3.elim
  |pan b=>
   cases e with
   |returned x=>exact he.elim
   |outgrown=>exact he.elim
   |panicked c=>obtain⟨x,rfl,k⟩:=he;exact⟨x,rfl,AR.agree ag b x q3.2 (q3.1 _ _ k)⟩
section
inductive RC where
 |t (i:Nat)
 |c (i sz:Nat) (ag:Bool)
def OK(P:Program):List ResultVar->Option (List RC)
 |[]=>some []
 | .tmp i::r=>(OK P r).map (RC.t i:: ·)
 | .cell i t::r=>match Fi P t,OK P r with
  |some sz,some l=>some (.c i sz (Hr P t)::l)
  |_,_=>none
def BG(H:AB)(sz:Nat)(ag:Bool):Fs->Prop×Fs
 | .ptr id off=>match AD H id with
  |some (.box cs)=>(off=0/\cs.length=sz,mk ag cs)
  |_=>(False,.tup [])
 |_=>(False,.tup [])
def oA(s:AS):RC->Prop×Fs
 | .t i=>((lk s.env (.t i)).1=true,AX s.env (.t i))
 | .c i sz ag=>((lk s.env (.t i)).1=true/\(BG s.H sz ag (AX s.env (.t i))).1,(BG s.H sz ag (AX s.env (.t i))).2)
def L5(s:AS):List RC->Prop×List Fs
 |[]=>(True,[])
 |r::l=>((oA s r).1/\(L5 s l).1,(oA s r).2::(L5 s l).2)
def X5(vs:List Fs):Fs:=match vs with
 |[v]=>v
 |vs=>.tup vs
def Dp(rs:List RC)(R:v8->AB->Nat->Prop):x6->AS->Prop
 | .ret,s=>(L5 s rs).1/\R (.ret (X5 (L5 s rs).2)) s.H s.n
 | .normal,s=>(L5 s rs).1/\R (.ret (X5 (L5 s rs).2)) s.H s.n
 | .pan v,s=>R (.pan v) s.H s.n
 | .exit _,_=>False
def aX(tmps:Array Value):ResultVar->Sem Value
 | .tmp t=>pure (tmps.getD t undef)
 | .cell a t=>do loadVar t (<-asAddr (tmps.getD a undef))
def UW(fn:Func)(tmps:Array Value):results fn tmps=(do
  let vs<-fn.results.mapM (aX tmps)
  pure (if h:vs.size=1 then vs[0]else .tuple vs)):=by
 unfold results;congr 1
variable {tmps:Array Value} {fn:Func} {g:q8} {P:Program}
theorem Xf{s:AS}{w:World}(hR:x7 g s.H s.n w)(he:Bz g s.env tmps){r:ResultVar}{x:RC}(hx:OK P [r]=some [x])(s7:(oA s x).1):
  ∃v,(aX tmps r).run P w= .ok v w/\AR g (oA s x).2 v:=by
 cases r with
 |tmp t=>
  simp [OK]at hx;subst hx;exact⟨_,rfl,Qo he s7⟩
 |cell a t=>
  simp only[OK]at hx;cases hz:Fi P t with
  |none=>simp [hz]at hx
  |some sz=>
   simp [hz]at hx;subst hx;obtain⟨h1,h2⟩:=s7;have hv:=Qo he h1;simp only[oA];generalize AX s.env (.t a)=av at h2 hv⊢;cases av<;>simp only[BG]at h2⊢ <;>first|exact h2.elim|skip
   rename_i id off;obtain⟨L,p1,p2,p3⟩:=hv;cases ho:AD s.H id with
   |none=>simp [ho]at h2
   |some ob=>
    cases ob<;>simp only[ho]at h2⊢ <;>first|exact h2.elim|skip
    rename_i cs;obtain⟨rfl,hl⟩:=h2;obtain⟨L',c,e,k1,k2,k3,k4,k5,k6⟩:=hR.obj id _ ho;rw[p1]at k1;cases k1;have hp:PStab g (λo=>w.cell? ⟨L.blk,o,none⟩) 0 cs:=PStab.cell k4 k6;obtain⟨v,q1,q2⟩:=Lv hz hp hl;exact⟨v,by simp [aX,p3,asAddr,q1],q2⟩
theorem aY{r:ResultVar}{l:List ResultVar}{xs:List RC}(h:OK P (r::l)=some xs):∃x l',xs=x::l'/\OK P [r]=some [x]/\OK P l=some l':=by
 cases r with
 |tmp t=>
  simp only[OK]at h;cases h1:OK P l with
  |none=>simp [h1]at h
  |some l'=>simp [h1]at h;subst h;exact⟨_,_,rfl,by simp [OK],rfl⟩
 |cell a t=>
  simp only[OK]at h;split at h
  ·rename_i sz l' h1 h2;cases h;exact⟨_,_,rfl,by simp [OK,h1],h2⟩
  ·cases h
theorem FG{s:AS}{w:World}(hR:x7 g s.H s.n w)(he:Bz g s.env tmps){rs:List RC}(hrs:OK P fn.results.toList=some rs)(s7:(L5 s rs).1):
  ∃v,(results fn tmps).run P w= .ok v w/\AR g (X5 (L5 s rs).2) v:=by
 have key:∀(l:List ResultVar) (xs:List RC),OK P l=some xs->(L5 s xs).1->∃vs:List Value,(l.mapM (aX tmps)).run P w= .ok vs w/\VRels g (L5 s xs).2 vs:=by
  intro l;induction l with
  |nil=>intro xs h _;simp [OK]at h;subst h;exact⟨[],rfl,rfl⟩
  |cons r l ih=>
   intro xs h hk;obtain⟨x,l',rfl,h1,h2⟩:=aY h;obtain⟨v,q1,q2⟩:=Xf hR he h1 hk.1;obtain⟨vs,q3,q4⟩:=ih l' h2 hk.2;refine⟨v::vs,?_,⟨v,vs,rfl,q2,q4⟩⟩;rw[List.mapM_cons,Sem.run_bind,q1];simp only[Result.andThen_ok,Sem.run_bind,q3];rfl
 obtain⟨vs,h1,h2⟩:=key _ _ hrs s7;have hrun:(fn.results.mapM (aX tmps)).run P w= .ok vs.toArray w:=by
  rw[<-uX (xs:=fn.results),List.mapM_toArray];simp only[map_eq_pure_bind,Sem.run_bind,h1,Result.andThen_ok];rfl
 rw[UW,Sem.run_bind,hrun];simp only[Result.andThen_ok];refine⟨_,rfl,?_⟩;generalize (L5 s rs).2=as at h2
 match as,vs,h2 with
 |[],_,h2=>simp only[VRels]at h2;subst h2;exact⟨#[],rfl,rfl⟩
 |[a],_,h2=>
  obtain⟨v,r,rfl,k1,k2⟩:=h2;simp only[VRels]at k2;subst k2;exact k1
 |a::b::l,_,h2=>
  obtain⟨v,r,rfl,k1,k2⟩:=h2;obtain⟨u,r',rfl,k3,k4⟩:=k2;have:¬((v::u::r').toArray.size=1):=zw
  rw[dif_neg this];exact⟨_,rfl,⟨_,_,rfl,k1,_,_,rfl,k3,k4⟩⟩
theorem HJ{F:Fence}{nn m fl:Nat}{R:Ending->World->Prop}{base:List Deferred}{u:FrameMode}{g0:q8}{H0 H:AB}{n:Nat}{w0:World}(hfl:w0.heap.size<=fl)(hu:u≠ .run)
  (h:∀w',x7 g H n w'->q9 m g0 H0 w0 g H w'->LeavesInM F nn P fn tmps R base u w'):∀(ms:List Deferred) (w:World),x7 g H n w->q9 m g0 H0 w0 g H w->OI fl g H ms w->LeavesInM F nn P fn tmps R (ms++base) u w
 |[],w,r,t,_=>h w r t
 |d::ms,w,r,t,⟨⟨b,h1,h2,h3,h4,h5⟩,hm⟩=>by
  refine⟨hu,.inl ⟨b,_,h1,run_takeDeferred h3,HJ hfl hu h ms _ (r.dblk h3) ?_ ?_⟩⟩
  ·refine⟨t.le,t.βn,t.os,t.tape,t.output,by simpa [World.putObj]using t.size,λk ob hk=>?_,t.now,t.nσ⟩;have c9:k<w0.heap.size:=(sF.1 hk).1;have:(w.putObj b (.deferred none)).heap[k]?=w.heap[k]?:=by grind [World.putObj,Array.getElem?_setIfInBounds_ne]
   rw[this];exact t.kept k ob hk
  ·have:∀(l:List Deferred),(∀d'∈l,d'.target≠ .collected b)->OI fl g H l w->OI fl g H l (w.putObj b (.deferred none)):=by
    intro l;induction l with
    |nil=>intro _ _;trivial
    |cons d' l ih=>
     rintro s6 ⟨⟨b',p1,p2,p3,p4,p5⟩,hl⟩;have hbb:b≠b':=by rintro rfl;exact s6 d' (sX ..) p1
     exact⟨⟨b',p1,p2,by simp only[World.putObj];rw[tN hbb];exact p3,p4,p5⟩,ih (λx hx=>s6 x (tB _ hx)) hl⟩
   exact this ms h5 hm
theorem Nk{f:FuncId}{c:Code}{ac:z8}{fz im:List (Nat×Nat)}{kp:Nat->List Nat}{rs:List RC}{args:List Fs}{H:AB}{n:Nat}{R:v8->AB->Nat->Prop}
  (hf:P.funcs[f]?=some fn) (hb:fn.body=some c) (hname:(fn.name== "runtime.NumGoroutine")=false) (hc:BO P fn.ntmps fz im kp c=some ac) (hr:OK P fn.results.toList=some rs)
  (h:Hu P ac (Dp rs R) ⟨G5 0 args,H,n⟩):AV P f args H n R:=by
 refine⟨⟨fn,hf,by simp [hb],hname⟩,λg w vs hR hV=>?_⟩;have hsim:En n g H w fn.ntmps ⟨w.heap.size,[],false,0, #[]⟩ ⟨G5 0 args,H,n⟩ {tmps:=vs.toArray++Array.replicate (fn.ntmps-vs.toArray.size) undef,defers:=[]} w:=
  ⟨g,hR,KL args vs [] _ hV,q9.refl _ _ _ _,rq _,by simp;omega,Kk.nil zw⟩
 refine(callsIn_wide (n:=0)).1 (callsIn_of_wp_marks (F:=FR none) hf hb zt (wpIn_mono (Ce c hc (.inl ⟨rfl,rfl⟩) ⟨rq _,rm _⟩ h hsim) λe a' w' hq=>?_) rfl);have ret:∀s,(L5 s rs).1/\R (.ret (X5 (L5 s rs).2)) s.H s.n->En n g H w fn.ntmps ⟨w.heap.size,[],false,0, #[]⟩ s a' w'->
   LeavesInM (FR none) 0 P fn a'.tmps (λe w'=>∃g' out H' n',R out H' n'/\W5 g' out e/\x7 g' H' n' w'/\n<=n'/\q9 n g H w g' H' w') a'.defers .returning w':=by
  rintro s ⟨q1,q2⟩ ⟨g',p1,p2,p3,p4,p5,ms,p6,p7,-⟩;rw[p6];refine HJ (m:=n) (g0:=g) (H0:=H) (w0:=w) (rq _) zw (λw2 r2 t2=>?_) ms w' p1 p3 p7;obtain⟨v,k1,k2⟩:=FG r2 p2 hr q1;exact⟨v,k1,g',_,_,_,q2,k2,r2,p4,t2⟩
 cases e with
 |normal=>obtain⟨s,q,hs⟩:=hq;exact ret s q hs
 |ret=>obtain⟨s,q,hs⟩:=hq;exact ret s q hs
 |exit i=>obtain⟨s,q,hs⟩:=hq;exact q.elim
 |goto l=>exact hq
 |outgrown=>exact hq.elim
 |panic chain=>
  obtain⟨v,H',n',q,⟨g',x,p1,p2,p3,rfl,p5,ms,p6,p7,-⟩⟩:=hq;show LeavesInM _ _ _ _ _ _ a'.defers _ _;rw[p6];refine HJ (m:=n) (g0:=g) (H0:=H) (w0:=w) (rq _) zw (λw2 r2 t2=>?_) ms w' p1 p2 p7;exact⟨g',.pan v,H',n',q,⟨x,rfl,p5⟩,r2,p3,t2⟩
end
def Sq:Code->List (Array Tmp×Code×Code)
 | .seq a b| .cond _ a b=>Sq a++Sq b
 | .block _ c| .loop c| .scope c=>Sq c
 | .rangeFunc _ ps a b=>[(ps,a,b)]
 |_=>[]
def Gl(ps:List Nat)(args:List Fs)(env:List (Nat×Bool×Fs)):List (Nat×Bool×Fs):=(ps.zip args).foldl (λenv (t,a)=>(t,true,a)::env) env
theorem Sr{g:q8}:∀(ps:List Nat) (args:List Fs) (vs:List Value) (env:List (Nat×Bool×Fs)) (tmps:Array Value),Bz g env tmps->VRels g args vs->(∀p∈ps,p<tmps.size)->
  Bz g (Gl ps args env) ((ps.zip vs).foldl (λtmps (t,a)=>tmps.setIfInBounds t a) tmps)/\((ps.zip vs).foldl (λtmps (t,a)=>tmps.setIfInBounds t a) tmps).size=tmps.size
 |[],args,vs,env,tmps,he,hv,hp=>⟨by simpa [Gl]using he,zw⟩
 |p::ps,[],vs,env,tmps,he,hv,hp=>by
  simp only[VRels]at hv;subst hv;exact⟨by simpa [Gl]using he,zw⟩
 |p::ps,a::args,vs,env,tmps,he,hv,hp=>by
  obtain⟨v,vs',rfl,h1,h2⟩:=hv;have wu:=hp p (sX ..);have he':Bz g ((p,true,a)::env) (tmps.setIfInBounds p v):=by
   intro t gd x hg;simp only[BI]at hg;split at hg
   ·simp_all
   ·rename_i e;obtain⟨y,q1,q2,q3⟩:=he t gd x hg;exact⟨y,by rw[tN e];exact q1,q2,q3⟩
  obtain⟨k1,k2⟩:=Sr ps args vs' ((p,true,a)::env) (tmps.setIfInBounds p v) he' h2 (λq hq=>by simpa using hp q (tB _ hq));exact⟨by simpa [Gl]using k1,by simpa using k2⟩
def Ss{P:Program}{g:q8}{H:AB}{n m id:Nat}{w:World}{x:LoopA}(hR:x7 g H n w)(ho:AD H id=some (.lp x))(st:LoopState)(pend:Option Code):
  ∃r:Loop,∃w',(Instr.getLoop x.l).run P w= .ok r w/\r.state=x.st/\r.pending=x.pend/\(setObj x.l (.loop {r with state:=st,pending:=pend})).run P w= .ok () w'/\
   x7 g (hset H id (.lp {x with st:=st,pend:=pend})) n w'/\q9 m g H w g (hset H id (.lp {x with st:=st,pend:=pend})) w':=by
 obtain⟨L,h1,h2,h3,h4,r,k1,k2,k3,k4,k5,k6,k7,k8⟩:=hR.obj id _ ho;rw[h4]at k1;have c9:x.l<w.heap.size:=(sF.1 k1).1;refine⟨r,{w with heap:=w.heap.setIfInBounds x.l (.loop {r with state:=st,pending:=pend})},?_,k2,k3,?_,?_⟩
 ·simp [Instr.getLoop,getObj,Sem.run,k1]
 ·simp [setObj,Sem.run,k1]
 ·refine hR.upd ho rfl h1 rfl rfl rfl zw (λb hb=>?_) (.inr ⟨h2,h3,_,by rw[h4];exact k1,zw⟩) ?_
  ·grind
  ·exact⟨L,h1,h2,h3,h4,{r with state:=st,pending:=pend},by rw[h4];simp [c9],rfl,rfl,k4,k5,k6,k7,k8⟩
def aZ(id:Nat)(R:Bool->AB->Nat->Prop):x6->AS->Prop
 | .normal,s=>∃x,AD s.H id=some (.lp x)/\R true (hset s.H id (.lp {x with st:=.ready,pend:=none})) s.n
 | .ret,s=>∃x,AD s.H id=some (.lp x)/\R false (hset s.H id (.lp {x with st:=.done,pend:=some .ret})) s.n
 | .exit i,s=>∃x,AD s.H id=some (.lp x)/\R false (hset s.H id (.lp {x with st:=.done,pend:=some (.exit i)})) s.n
 | .pan _,_=>False
def IK(P:Program)(id:Nat)(ab:z8)(R:Bool->AB->Nat->Prop):x6->AS->Prop
 | .normal,s=>∃x,AD s.H id=some (.lp x)/\x.st= .ready/\Hu P ab (aZ id R) {s with H:=hset s.H id (.lp {x with st:=.busy,pend:=x.pend})}
 |_,_=>False
theorem C3{P:Program}{l id:Nat}{x:LoopA}{aa ab:z8}{fz im fz2 im2:List (Nat×Nat)}{kp kp2:Nat->List Nat}{args:List Fs}{H:AB}{n:Nat}{R:Bool->AB->Nat->Prop}
  (ho:AD H id=some (.lp x)) (hl:x.l=l) (hps:args.length=x.ps.size) (hpn0:(x.ps.toList.all λp=>Nat.ble (p+1) x.nt)=true) (hca:BO P x.nt fz im kp x.asg=some aa) (wq:BO P x.nt fz2 im2 kp2 x.body=some ab) (hpa:aa.plain=true) (hpb:ab.plain=true)
  (h:Hu P aa (IK P id ab R) ⟨Gl x.ps.toList args x.env,H,n⟩):CV P l args H n R:=by
 intro r g w vs hR hV;subst hl;have hpn:∀p∈x.ps.toList,p<x.nt:=λp hp=>Nat.le_of_ble_eq_true ((sg.1 hpn0) p hp)
 obtain⟨L,h1,h2,h3,h4,r0,k1,k2,k3,k4,k5,k6,k7,k8⟩:=hR.obj id _ ho;rw[h4]at k1;have hlen:=VRels.length _ _ hV;obtain⟨e1,e2⟩:=Sr x.ps.toList args vs x.env r0.tmps k7 hV (λp hp=>ub (hpn p hp) k8);have hfold:(r0.params.zip vs.toArray).foldl (λtmps (t,a)=>tmps.setIfInBounds t a) r0.tmps=(x.ps.toList.zip vs).foldl (λtmps (t,a)=>tmps.setIfInBounds t a) r0.tmps:=by
  rw[k4,<-Array.foldl_toList,Array.toList_zip]
 have hsim:En n g H w x.nt ⟨w.heap.size,[],false,0, #[]⟩ ⟨Gl x.ps.toList args x.env,H,n⟩ {tmps:=(r0.params.zip vs.toArray).foldl (λtmps (t,a)=>tmps.setIfInBounds t a) r0.tmps,defers:=[]} w:=by
  refine⟨g,hR,?_,q9.refl _ _ _ _,rq _,?_,Kk.nil zw⟩
  ·simp only[hfold];exact e1
  ·simp only[hfold,e2];exact k8
 have hβ:∀{g':q8} {H':AB} {w':World} {n':Nat} {x':LoopA},x7 g' H' n' w'->q9 n g H w g' H' w'->AD H' id=some (.lp x')->x'.l=x.l:=by
  intro g' H' w' n' x' r1 t1 h';obtain⟨L',q1,_,_,q4,_⟩:=r1.obj id _ h';have:=t1.le.β _ _ h1;rw[q1]at this;cases this;rw[<-q4,h4]
 refine⟨r0.fn,(r0.params.zip vs.toArray).foldl (λtmps (t,a)=>tmps.setIfInBounds t a) r0.tmps,r0.assign,r0.body,?_,roundIn_of_wpIn (F:=FR r) (n:=0) zt ?_⟩
 ·simp_all [Instr.yield,Instr.getLoop,getObj,Sem.run]
 rw[k5,k6];refine wpIn_mono (Ce (r:=some x.l) x.asg hca (.inr hpa) ⟨rq _,rm _⟩ h hsim) λe a1 w1 hq=>?_
 cases e with
 |exit i=>obtain⟨s1,q,_⟩:=hq;exact q.elim
 |ret=>obtain⟨s1,q,_⟩:=hq;exact q.elim
 |panic c=>obtain⟨v,H1,n1,q,_⟩:=hq;exact q.elim
 |goto l=>exact hq.elim
 |outgrown=>exact hq.elim
 |normal=>
  obtain⟨s1,⟨x1,p1,p2,p3⟩,g1,R1,E1,T1,m1,N1,D1⟩:=hq;have hx1:=hβ R1 T1 p1;obtain⟨r1,w2,q1,q2,q3,q4,R2,T2⟩:=Ss (P:=P) (m:=n) R1 p1 .busy x1.pend;rw[hx1]at q1 q4;refine⟨w2,?_,?_⟩
  ·simp_all [Instr.beginRound,Sem.run_bind,Result.andThen_ok]
  ·have xi:En n g H w x.nt ⟨w.heap.size,[],false,0, #[]⟩ {s1 with H:=hset s1.H id (.lp {x1 with st:=.busy,pend:=x1.pend})} a1 w2:=⟨g1,R2,E1.mono T2.le,T1.trans T2,m1,N1,D1.step T2⟩;refine wpIn_mono (Ce (r:=some x.l) x.body wq (.inr hpb) ⟨rq _,rm _⟩ p3 xi) λe a3 w3 hq=>?_
   have fin:∀(s3:AS) (jump:Option Code) (x3:LoopA),AD s3.H id=some (.lp x3)->R jump.isNone (hset s3.H id (.lp {x3 with st:=if jump.isNone then .ready else .done,pend:=jump})) s3.n->En n g H w x.nt ⟨w.heap.size,[],false,0, #[]⟩ s3 a3 w3->
     ∃v w',(Instr.endRound x.l jump).run P w3= .ok v w'/\∃b g' H' n',Ending.returned v= .returned (.bool b)/\R b H' n'/\x7 g' H' n' w'/\n<=n'/\q9 n g H w g' H' w':=by
    rintro s3 jump x3 u1 u2 ⟨g3,R3,E3,T3,m3,N3,D3⟩;have hx3:=hβ R3 T3 u1;obtain⟨r3,w4,v1,v2,v3,v4,R4,T4⟩:=Ss (P:=P) (m:=n) R3 u1 (if jump.isNone then .ready else .done) jump;rw[hx3]at v1 v4;refine⟨.bool jump.isNone,w4,?_,_,g3,_,_,rfl,u2,R4,m3,T3.trans T4⟩;simp only[Instr.endRound,Sem.run_bind,v1,Result.andThen_ok,v4];rfl
   cases e with
   |normal=>obtain⟨s3,⟨x3,u1,u2⟩,hs3⟩:=hq;exact fin s3 none x3 u1 u2 hs3
   |ret=>obtain⟨s3,⟨x3,u1,u2⟩,hs3⟩:=hq;exact fin s3 (some .ret) x3 u1 u2 hs3
   |exit i=>obtain⟨s3,⟨x3,u1,u2⟩,hs3⟩:=hq;exact fin s3 (some (.exit i)) x3 u1 u2 hs3
   |panic c=>obtain⟨v,H1,n1,q,_⟩:=hq;exact q.elim
   |goto l=>exact hq.elim
   |outgrown=>exact hq.elim
section
def EG(P:Program)(s9:FuncId)(args:List Fs)(rv:Fs)(H:AB)(n:Nat)(Rc:AB->Nat->Prop):Prop:=
 ∀g w vs u,x7 g H n w->VRels g args vs->((u= .returning/\rv= .nilifc)\/∃x,AR g rv x/\u= .panicking [{v:=x,recovered:=false}])->
  CallsDIn (FR none) 0 P s9 vs.toArray u w λe u' w'=>(∃v,e= .returned v)/\settle u'= .returning/\∃g' H' n',Rc H' n'/\x7 g' H' n' w'/\n<=n'/\q9 n g H w g' H' w'
variable {y:z8} {H:AB} {ops:Array Oper} {X:Code} {fn:Func} {fz im:List (Nat×Nat)} {args:List Fs} {t s9 id n:Nat} {kp:Nat->List Nat} {o0 o1:Oper} {P:Program}
theorem Nl{g:q8}{env:List (Nat×Bool×Fs)}{tmps:Array Value}(h:Bz g env tmps){v:Fs}{x:Value}(ht:t<tmps.size)(hv:AR g v x):Bz g ((t,true,v)::env) (tmps.setIfInBounds t x):=by
 intro i gd u hu;rw[Iq]at hu;by_cases e:t=i
 ·simp_all
 ·rw[rj e]at hu;obtain⟨y,h1,h2⟩:=h i gd u hu;exact⟨y,by rw[tN e];exact h1,h2⟩
theorem Pt{rv:Fs}{Rc:AB->Nat->Prop}{t3 t4:Nat}{ty:TypeId}{cl:Call}
  (hf:P.funcs[s9]?=some fn) (hb:fn.body=some (.seq (.region id ops false) X)) (hs:ops.size=2) (h0:ops[0]?=some o0) (h1:ops[1]?=some o1) (hg0:o0.guard=none) (hg1:o1.guard=none)
  (hop0:o0.op= .call cl) (wo:cl.callee= .builtin .recover) (hd0:o0.dst=some t4) (hop1:o1.op= .move (.tmp t4)\/o1.op= .assign (.tmp t4)) (hd1:o1.dst=some t3) (yc:t3<fn.ntmps) (ht4:t4<fn.ntmps) (hca:cl.args= #[])
  (hX:BO P fn.ntmps fz im kp X=some y) (wu:y.plain=true) (hr:fn.results= #[])
  (h:Hu P y (Dp [] λo H' n'=>o= .ret (.tup [])/\Rc H' n') ⟨(t3,true,rv)::(t4,true,rv)::G5 0 args,H,n⟩):EG P s9 args rv H n Rc:=by
 intro g w vs u hR hV hu;refine callsDIn_of_wpSIn hf hb zt λc₀ cs yf=>wpSIn_seq (wpSIn_region ?_)
 have hsz:(vs.toArray++Array.replicate (fn.ntmps-vs.toArray.size) undef).size≥fn.ntmps:=by simp;omega
 have hE0:Bz g (G5 0 args) (vs.toArray++Array.replicate (fn.ntmps-vs.toArray.size) undef):=KL args vs [] _ hV;generalize vs.toArray++Array.replicate (fn.ntmps-vs.toArray.size) undef=tm at hsz hE0;rw[hs]
 have key:∀(x:Value) (cs':List Frame) (u':FrameMode),AR g rv x->cs'={c₀ with mode:=u'}::cs->settle u'= .returning->
   wpOpsSIn (FR none) 0 P ops (Exit.thenS (X.wpSIn (FR none) 0 P (bodyPostS P fn c₀ cs λe u' w'=>(∃v,e= .returned v)/\settle u'= .returning/\∃g' H' n',Rc H' n'/\x7 g' H' n' w'/\n<=n'/\q9 n g H w g' H' w')) (bodyPostS P fn c₀ cs λe u' w'=>(∃v,e= .returned v)/\settle u'= .returning/\∃g' H' n',Rc H' n'/\x7 g' H' n' w'/\n<=n'/\q9 n g H w g' H' w')) [1] (({tmps:=tm,defers:=[]}:Act).put o0.dst x) cs' w:=by
  intro x cs' u' hx hcs' hset;have hev:(({tmps:=tm,defers:=[]}:Act).put o0.dst x).eval (.tmp t4)=x:=by
   rw[hd0];simp [Act.put,Act.eval,Array.getD,show t4<tm.size by omega]
  have hrun1:(execOp (({tmps:=tm,defers:=[]}:Act).put o0.dst x).eval o1).run P w= .ok (.value x) w:=by
   rcases hop1 with hop1|hop1<;>simp [execOp,hop1,hev]
  simp only[wpOpsSIn,h1,Region.wanted,hg1,t8,hrun1];refine⟨λ_ _=>zt,?_⟩;show X.wpSIn _ _ _ _ _ _ _;refine wpSIn_of_wpIn rfl ?_;have hsim:En n g H w fn.ntmps ⟨w.heap.size,[],true,0, #[]⟩ ⟨(t3,true,rv)::(t4,true,rv)::G5 0 args,H,n⟩ ((({tmps:=tm,defers:=[]}:Act).put o0.dst x).put o1.dst x) w:=by
   rw[hd0,hd1];refine⟨g,hR,?_,q9.refl _ _ _ _,rq _,by simp [Act.put];omega,Kk.nil zw⟩;exact Nl (Nl hE0 zo hx) (by simp;omega) hx
  refine wpIn_mono (Ce (r:=none) X hX (.inr wu) ⟨rq _,rm _⟩ h hsim) λe a' w' hq=>?_
  have ret:∀s,(L5 s []).1/\(v8.ret (X5 (L5 s []).2)= .ret (.tup [])/\Rc s.H s.n)->En n g H w fn.ntmps ⟨w.heap.size,[],true,0, #[]⟩ s a' w'->
    a'.defers=[]/\∃u',cs'={c₀ with mode:=u'}::cs/\∃v,(results fn a'.tmps).run P w'= .ok v w'/\((∃v',Ending.returned v= .returned v')/\settle u'= .returning/\∃g' H' n',Rc H' n'/\x7 g' H' n' w'/\n<=n'/\q9 n g H w g' H' w'):=by
   rintro s ⟨q1,q2,q3⟩ ⟨g',p1,p2,p3,p4,p5,ms,p6,p7,p8⟩;obtain⟨v,k1,k2⟩:=FG (rs:=[]) p1 p2 (by rw[hr];rfl) q1;refine⟨by rw[p6,(p8 rfl).1];rfl,u',hcs',v,k1,⟨v,rfl⟩,hset,g',_,_,q3,p1,p4,p3⟩
  cases e with
  |normal=>obtain⟨s,q,hs'⟩:=hq;exact ret s q hs'
  |ret=>obtain⟨s,q,hs'⟩:=hq;exact ret s q hs'
  |exit i=>obtain⟨s,q,hs'⟩:=hq;exact q.elim
  |goto l=>exact hq
  |outgrown=>exact hq.elim
  |panic chain=>obtain⟨v,H',n',q,_⟩:=hq;cases q.1
 have hrun0:(execOp ({tmps:=tm,defers:=[]}:Act).eval o0).run P w= .ok .recover w:=by
  simp [execOp,hop0,resolve,wo,invoke,builtin]
 show wpOpsSIn _ _ _ _ _ [0,1] _ _ _;rw[wpOpsSIn];simp only[h0,Region.wanted,hg0,t8,hrun0];refine⟨λ_ _=>zt,?_⟩;rcases hu with⟨rfl,rfl⟩|⟨x,hx,rfl⟩
 ·have hrec:recoverD (c₀::cs)=none:=by simp [recoverD,yf]
  rw[hrec];exact key .nilIface _ .returning rfl (by rw[<-yf]) rfl
 ·have hrec:recoverD (c₀::cs)=some (x,{c₀ with mode:=.panicking ({v:=x,recovered:=true}::[])}::cs):=by simp [recoverD,yf]
  rw[hrec];exact key x _ _ hx rfl rfl
def V4:List Code->Code->Code
 |[],c=>c
 |x::l,c=>.seq x (V4 l c)
def JY:List z8->z8
 |[]=>.skip
 |y::l=>.seq y (JY l)
def Pu(P:Program)(N:Nat)(fz im:List (Nat×Nat))(kp:Nat->List Nat):List Code->Option (List z8)
 |[]=>some []
 |c::l=>match BO P N fz im kp c,Pu P N fz im kp l with
  |some y,some ys=>some (y::ys)
  |_,_=>none
theorem L6{N:Nat}{D:DP}{m:Nat}{g0:q8}{H0:AB}{w0:World}{rest:Code}{Q:x6->AS->Prop}{QQ:Exit->Act->World->Prop}
  (hDw:D.fl<=w0.heap.size/\D.lo<=cW fz) (hrest:∀s a w,Q .normal s->En m g0 H0 w0 N D s a w->rest.wpIn (FR none) 0 P QQ a w)
  (hoth:∀e a w,e≠ .normal->QM m g0 H0 w0 N D Q e a w->QQ e a w):
  ∀(pre:List Code) (ys:List z8) (s:AS) (a:Act) (w:World),Pu P N fz im kp pre=some ys->ys.all (·.plain)=true->Hu P (JY ys) Q s->En m g0 H0 w0 N D s a w->(V4 pre rest).wpIn (FR none) 0 P QQ a w
 |[],ys,s,a,w,hc,hp,h,hs=>by
  simp only[Pu]at hc;cases hc;exact hrest s a w h hs
 |c::pre,ys,s,a,w,hc,hp,h,hs=>by
  simp only[Pu]at hc;split at hc
  ·rename_i y yl h1 h2;cases hc;simp only[uq,rl]at hp;rw[JY,fC]at h;refine wpIn_seq (wpIn_mono (Ce (r:=none) c h1 (.inr hp.1) hDw h hs) λe a' w' hq=>?_);cases e with
   |normal=>obtain⟨s',q1,q2⟩:=hq;exact L6 hDw hrest hoth pre yl s' a' w' h2 hp.2 q1 q2
   |exit i=>exact hoth _ _ _ zw hq
   |ret=>exact hoth _ _ _ zw hq
   |panic c=>exact hoth _ _ _ zw hq
   |goto l=>exact hoth _ _ _ zw hq
   |outgrown=>exact hoth _ _ _ zw hq
  ·cases hc
def Xg(rs:List RC)(env:List (Nat×Bool×Fs))(R:v8->AB->Nat->Prop)(H':AB)(n':Nat):Prop:=(L5 ⟨env,H',n'⟩ rs).1/\R (.ret (X5 (L5 ⟨env,H',n'⟩ rs).2)) H' n'
def jY(P:Program)(s9:FuncId)(fc:List Fs)(rs:List RC)(env:List (Nat×Bool×Fs))(R:v8->AB->Nat->Prop):x6->AS->Prop
 | .ret,s=>EG P s9 fc .nilifc s.H s.n (Xg rs env R)
 | .normal,s=>EG P s9 fc .nilifc s.H s.n (Xg rs env R)
 | .pan v,s=>EG P s9 fc v s.H s.n (Xg rs env R)
 | .exit _,_=>False
def St(P:Program)(t:Nat)(o:xz)(y:z8)(lo:Nat)(s9:FuncId)(rs:List RC)(R:v8->AB->Nat->Prop):x6->AS->Prop
 | .normal,s=>Ae P (λ_ _ _=>False) s.n o (λs1=>(lk s1.env (.t t)).1=true/\∃first cap,AX s1.env (.t t)= .fn (.func s9) first cap/\Hu P y (jY P s9 (first++cap) rs (s1.env.filter λe=>Nat.blt e.1 lo) R) s1) s
 | .ret,s=>(L5 s rs).1/\R (.ret (X5 (L5 s rs).2)) s.H s.n
 | .pan v,s=>R (.pan v) s.H s.n
 | .exit _,_=>False
theorem IL{lo:Nat}:∀(env:List (Nat×Bool×Fs)) (t:Nat) (x:Bool×Fs),BI (env.filter λe=>Nat.blt e.1 lo) t=some x->t<lo/\BI env t=some x
 |[],t,x,h=>by cases h
 |(i,gv)::r,t,x,h=>by
  rw[tI]at h;rw[Iq];split at h
  ·rename_i hb;rw[Iq]at h;by_cases e:i=t
   ·simp_all
   ·rw[rj e]at h⊢;exact IL r t x h
  ·rename_i hb;obtain⟨h1,h2⟩:=IL r t x h;by_cases e:i=t
   ·subst e;exact absurd (by simpa using h1) hb
   ·rw[rj e];exact⟨h1,h2⟩
theorem Qq{f:Nat}{pre:List Code}{ys:List z8}{fzX:List (Nat×Nat)}{rs:List RC}{R:v8->AB->Nat->Prop}{k:xx}{cl:Call}
  (hf:P.funcs[f]?=some fn) (hb:fn.body=some (V4 pre (.seq (.region id ops false) X))) (hname:(fn.name== "runtime.NumGoroutine")=false) (hpre:Pu P fn.ntmps fz im kp pre=some ys) (hppl:ys.all (·.plain)=true)
  (hs:ops.size=2) (h0:ops[0]?=some o0) (h1:ops[1]?=some o1) (hg0:o0.guard=none) (hg1:o1.guard=none) (hk0:BJ P false false 0 o0.op=some (.v k)) (hd0:o0.dst.all (λd=>decide (d<fn.ntmps))=true)
  (hop1:o1.op= .defer cl) (wo:cl.callee= .value (.tmp t)) (hca:cl.args= #[]) (hd1:o1.dst=none) (hX:BO P fn.ntmps fzX im kp X=some y) (wu:y.plain=true) (hr:OK P fn.results.toList=some rs) (hcall:C7 P s9)
  (h:Hu P (JY ys) (St P t ⟨o0.dst,none,.v k⟩ y (cW fzX) s9 rs R) ⟨G5 0 args,H,n⟩):AV P f args H n R:=by
 refine⟨⟨fn,hf,by simp [hb],hname⟩,λg w vs hR hV=>?_⟩;have hsim:En n g H w fn.ntmps ⟨w.heap.size,[],true,0, #[]⟩ ⟨G5 0 args,H,n⟩ {tmps:=vs.toArray++Array.replicate (fn.ntmps-vs.toArray.size) undef,defers:=[]} w:=
  ⟨g,hR,KL args vs [] _ hV,q9.refl _ _ _ _,rq _,by simp;omega,Kk.nil zw⟩
 refine(callsIn_wide (n:=0)).1 (callsIn_of_wp_marks (F:=FR none) hf hb zt (L6 (fz:=fz) ⟨rq _,rm _⟩ (λs a w1 hq hsm=>?_) (λe a' w' s6 hq=>?_) pre ys _ _ _ hpre hppl h hsim) rfl)
 ·
  obtain⟨g1,p1,p2,p3,p4,p5,ms0,p6,p7,p8⟩:=hsm;have hdef:a.defers=[]:=by rw[p6,(p8 rfl).1];rfl
  refine wpIn_seq (wpIn_region ?_);rw[hs];show wpOpsIn _ _ _ _ _ [0,1] _ _;rw[wpOpsIn_cons];have hsim0:En s.n g1 s.H w1 fn.ntmps ⟨w1.heap.size,[],true,0, #[]⟩ s a w1:=⟨g1,p1,p2,q9.refl _ _ _ _,rq _,p5,ms0,p6,by rw[(p8 rfl).1];trivial,p8⟩;simp only[St]at hq;refine Nc (Qp:=λ_ _ _=>False) (mkv:=false) (imp:=false) (gd:=none) (k:=.v k) (base:=s.n) h0 (by rw[hg0];rfl) hk0 hq hsim0 (rq _) (by simp [Io.news]) (λd e=>?_) (λs1 a1 w2 hk wn me=>?_) (λv H' n' chain a' w' q=>q.elim)
  ·simp_all
  obtain⟨q1,first,cap,q2,q3⟩:=hk;obtain⟨g2,r1,r2,r3,r4,r5,ms1,r6,r7,r8⟩:=wn;have hdef1:a1.defers=[]:=by rw[r6,(r8 rfl).1];rfl
  have hv:=Qo r2 q1;have hev:a1.eval (.tmp t)=a1.tmps.getD t undef:=rfl;rw[q2]at hv;obtain⟨fv,cv,e1,k1,k2⟩:=hv;rw[wpOpsIn_cons];have hrun:(o1.semAt (FR none).round a1.eval).run P w2= .ok (.defer ⟨.fn (.func s9) cv,fv⟩) w2:=by
   rw[show(FR none).round=none from rfl,Oper.semAt_none];simp [execOp,hop1,resolve,wo,hca,hev,e1,Deferred.ofValue]
  unfold wpOpIn;simp only[h1,Region.wanted,hg1,t8];refine⟨λ_ _=>zt,?_⟩;rw[hrun];simp only[Oper.uponIn,wpOpsIn,hd1,Act.put];show X.wpIn _ _ _ _ _ _;obtain⟨fn2,c1,c2,c3⟩:=hcall;have hinv:∀W:World,(invoke (.fn (.func s9) cv) fv).run P W= .ok (.enter s9 (fv++cv)) W:=by
   intro W;have c3':¬fn2.name= "runtime.NumGoroutine" :=by simpa using c3
   have c4:¬fn2.body=none:=by cases hb:fn2.body<;>simp_all
   simp [invoke,callFunc,c1,c3',c4]
  have hsim2:En s1.n g2 s1.H w2 fn.ntmps ⟨w2.heap.size,[⟨.fn (.func s9) cv,fv⟩],true,cW fzX,a1.tmps⟩ s1 {a1 with defers:=⟨.fn (.func s9) cv,fv⟩::a1.defers} w2:=
   ⟨g2,r1,r2,q9.refl _ _ _ _,rq _,r5,by rw[hdef1];exact Kk.nil (λ_ _ _=>rfl)⟩
  refine wpIn_mono (Ce (r:=none) X hX (.inr wu) ⟨rq _,rq _⟩ q3 hsim2) λe a3 w3 hq3=>?_
  have fin:∀(rv:Fs) (u:FrameMode) (H3:AB) (n3:Nat) (g3:q8),u≠ .run->EG P s9 (first++cap) rv H3 n3 (Xg rs (s1.env.filter λe=>Nat.blt e.1 (cW fzX)) R)->x7 g3 H3 n3 w3->q9 s1.n g2 s1.H w2 g3 H3 w3->s1.n<=n3->
    Kk ⟨w2.heap.size,[⟨.fn (.func s9) cv,fv⟩],true,cW fzX,a1.tmps⟩ g3 H3 a3.defers a3.tmps w3->((u= .returning/\rv= .nilifc)\/∃x,AR g3 rv x/\u= .panicking [{v:=x,recovered:=false}])->
    LeavesInM (FR none) 0 P fn a3.tmps (λe w'=>∃g' out H' n',R out H' n'/\W5 g' out e/\x7 g' H' n' w'/\n<=n'/\q9 n g H w g' H' w') a3.defers u w3:=by
   rintro rv u H3 n3 g3 hu hA R3 T3 hn3 ⟨ms3,d1,d2,d3⟩ hmode;rw[d1,(d3 rfl).1];refine⟨hu,.inr ⟨by simp [FR,Fence.wide],.func s9,cv,s9,fv++cv,rfl,hinv w3,λ_ _=>zt,?_⟩⟩;have hvs:VRels g3 (first++cap) (fv.toList++cv.toList):=VRels.append' (VRels.mono T3.le _ _ k1) (VRels.mono T3.le _ _ k2);have hc:=hA g3 w3 _ u R3 hvs hmode;rw[show(fv.toList++cv.toList).toArray=fv++cv by apply ua;simp]at hc;refine CallsDIn.mono hc ?_;rintro e u' w' ⟨⟨v,rfl⟩,hset,g',H',n',⟨x1,x2⟩,R',hn',T'⟩;show LeavesInM _ _ _ _ _ _ [] (settle u') w';rw[hset];have hE:Bz g' (s1.env.filter λe=>Nat.blt e.1 (cW fzX)) a3.tmps:=by
    intro i gd z hz;obtain⟨z1,z2⟩:=IL _ _ _ hz;obtain⟨z3,z4,z5,z6⟩:=r2 i gd z z2;exact⟨z3,by rw[(d3 rfl).2 i z1];exact z4,λq=>(z5 q).mono (T3.le.trans T'.le),z6⟩
   obtain⟨v',y1,y2⟩:=FG (s:=⟨s1.env.filter λe=>Nat.blt e.1 (cW fzX),H',n'⟩) R' hE hr x1;exact⟨v',y1,g',_,_,_,x2,y2,R',zo,((p3.trans (r3.floor p4)).trans (T3.floor zo)).trans (T'.floor zo)⟩
  cases e with
  |normal=>obtain⟨s3,q,g3,z1,z2,z3,z4,z5,z6⟩:=hq3;exact fin .nilifc .returning _ _ g3 zw q z1 z3 z4 z6 (.inl ⟨rfl,rfl⟩)
  |ret=>obtain⟨s3,q,g3,z1,z2,z3,z4,z5,z6⟩:=hq3;exact fin .nilifc .returning _ _ g3 zw q z1 z3 z4 z6 (.inl ⟨rfl,rfl⟩)
  |exit i=>obtain⟨s3,q,_⟩:=hq3;exact q.elim
  |goto l=>exact hq3
  |outgrown=>exact hq3.elim
  |panic chain=>
   obtain⟨v,H',n',q,g3,x,z1,z2,z3,rfl,z5,z6⟩:=hq3;exact fin v _ _ _ g3 zw q z1 z2 z3 z6 (.inr ⟨x,z5,rfl⟩)
 ·have ret:∀s,(L5 s rs).1/\R (.ret (X5 (L5 s rs).2)) s.H s.n->En n g H w fn.ntmps ⟨w.heap.size,[],true,0, #[]⟩ s a' w'->
    LeavesInM (FR none) 0 P fn a'.tmps (λe w'=>∃g' out H' n',R out H' n'/\W5 g' out e/\x7 g' H' n' w'/\n<=n'/\q9 n g H w g' H' w') a'.defers .returning w':=by
   rintro s ⟨q1,q2⟩ ⟨g',p1,p2,p3,p4,p5,ms,p6,p7,p8⟩;rw[p6,(p8 rfl).1];obtain⟨v,k1,k2⟩:=FG p1 p2 hr q1;exact⟨v,k1,g',_,_,_,q2,k2,p1,p4,p3⟩
  cases e with
  |normal=>exact absurd rfl s6
  |ret=>obtain⟨s,q,hs'⟩:=hq;exact ret s q hs'
  |exit i=>obtain⟨s,q,hs'⟩:=hq;exact q.elim
  |goto l=>exact hq
  |outgrown=>exact hq.elim
  |panic chain=>
   obtain⟨v,H',n',q,⟨g',x,p1,p2,p3,rfl,p5,ms,p6,p7,p8⟩⟩:=hq;show LeavesInM _ _ _ _ _ _ a'.defers _ _;rw[p6,(p8 rfl).1];exact⟨g',.pan v,H',n',q,⟨x,rfl,p5⟩,p1,p3,p2⟩
def sqH:Code->Code
 | .seq a _=>a
 |c=>c
def sqT:Code->Code
 | .seq _ b=>b
 |c=>c
def ae:Code->Array Oper
 | .region _ ops _=>ops
 |_=> #[]
def V5(P:Program)(N:Nat)(ops:Array Oper):Option (xx×Option Nat×Nat):=match ops.toList with
 |[o0,o1]=>match o0.guard,o1.guard,BJ P false false 0 o0.op,o1.op,o1.dst with
  |none,none,some (.v k),.defer {callee:=.value (.tmp t),args,.. },none=>if args.toList.isEmpty&&o0.dst.all (λd=>decide (d<N))then some (k,o0.dst,t)else none
  |_,_,_,_,_=>none
 |_=>none
def jZ(N:Nat)(ops:Array Oper):Option (Nat×Nat):=match ops.toList with
 |[o0,o1]=>match o0.guard,o1.guard,o0.op,o0.dst,o1.op,o1.dst with
  |none,none,.call {callee:=.builtin .recover,args,.. },some t4,.move (.tmp t),some t3=>if args.toList.isEmpty&&decide (t=t4)&&decide (t3<N)&&decide (t4<N)then some (t3,t4)else none
  |none,none,.call {callee:=.builtin .recover,args,.. },some t4,.assign (.tmp t),some t3=>if args.toList.isEmpty&&decide (t=t4)&&decide (t3<N)&&decide (t4<N)then some (t3,t4)else none
  |_,_,_,_,_,_=>none
 |_=>none
theorem V6(h:ops.toList=[o0,o1]):ops.size=2/\ops[0]?=some o0/\ops[1]?=some o1:=by
 have:ops= #[o0,o1]:=by apply ua;simpa using h
 subst this;exact⟨rfl,rfl,rfl⟩
theorem UX{rv:Fs}{Rc:AB->Nat->Prop}{t3 t4:Nat}
  (hf:P.funcs[s9]?=some fn) (hb:fn.body=some (.seq (.region id ops false) X)) (ho:jZ fn.ntmps ops=some (t3,t4)) (hX:BO P fn.ntmps fz im kp X=some y) (wu:y.plain=true) (hr:fn.results.toList.isEmpty=true)
  (h:Hu P y (Dp [] λo H' n'=>o= .ret (.tup [])/\Rc H' n') ⟨(t3,true,rv)::(t4,true,rv)::G5 0 args,H,n⟩):EG P s9 args rv H n Rc:=by
 unfold jZ at ho;split at ho
 ·rename_i o0 o1 hl;obtain⟨h1,h2,h3⟩:=V6 hl;split at ho
  ·rename_i q1 q2 q3 q4 q5 q6;split at ho
   ·rename_i hh;cases ho;simp only[rl,rn]at hh;obtain⟨⟨⟨k1,k2⟩,k3⟩,k4⟩:=hh;subst k2;exact Pt (ty:=0) hf hb h1 h2 h3 q1 q2 q3 rfl q4 (.inl q5) q6 k3 k4 (by apply ua;simpa using k1) hX wu (by apply ua;simpa using hr) h
   ·cases ho
  ·rename_i q1 q2 q3 q4 q5 q6;split at ho
   ·rename_i hh;cases ho;simp only[rl,rn]at hh;obtain⟨⟨⟨k1,k2⟩,k3⟩,k4⟩:=hh;subst k2;exact Pt (ty:=0) hf hb h1 h2 h3 q1 q2 q3 rfl q4 (.inr q5) q6 k3 k4 (by apply ua;simpa using k1) hX wu (by apply ua;simpa using hr) h
   ·cases ho
  ·cases ho
 ·cases ho
theorem Oe{f:Nat}{pre:List Code}{ys:List z8}{fzX:List (Nat×Nat)}{rs:List RC}{R:v8->AB->Nat->Prop}{d0:Option Nat}{k:xx}
  (hf:P.funcs[f]?=some fn) (hb:fn.body=some (V4 pre (.seq (.region id ops false) X))) (hname:(fn.name== "runtime.NumGoroutine")=false) (hpre:Pu P fn.ntmps fz im kp pre=some ys) (hppl:ys.all (·.plain)=true)
  (ho:V5 P fn.ntmps ops=some (k,d0,t)) (hX:BO P fn.ntmps fzX im kp X=some y) (wu:y.plain=true) (hr:OK P fn.results.toList=some rs) (hcall:C7 P s9)
  (h:Hu P (JY ys) (St P t ⟨d0,none,.v k⟩ y (cW fzX) s9 rs R) ⟨G5 0 args,H,n⟩):AV P f args H n R:=by
 unfold V5 at ho;split at ho
 ·rename_i o0 o1 hl;obtain⟨h1,h2,h3⟩:=V6 hl;split at ho
  ·rename_i q1 q2 q3 q4 q5;split at ho
   ·rename_i hh;cases ho;simp only[rl]at hh;exact Qq hf hb hname hpre hppl h1 h2 h3 q1 q2 q3 hh.2 q4 rfl (by apply ua;simpa using hh.1) q5 hX wu hr hcall h
   ·cases ho
  ·cases ho
 ·cases ho
end
abbrev tm(i:Nat):zz:=.t i
abbrev ci(n:Int):zz:=.c (.int .i64 n)
abbrev cT:zz:=.c (.bool true)
abbrev cF:zz:=.c (.bool false)
abbrev z0:Fs:=.int .i64 0
abbrev zs:Fs:=.sl .nil []
abbrev zb:Fs:=.bool false
abbrev zr:Fs:=.str []
abbrev sq(a b:z8):z8:=.seq a b
abbrev rg(ops:List xz)(kp:List Nat):z8:=.reg 0 ops kp
abbrev ov(d:Nat)(k:xx):xz:=⟨some d,none,.v k⟩
abbrev om(d i:Nat):xz:=⟨some d,none,.v (.mv (.t i))⟩
abbrev oi(d:Nat)(n:Int):xz:=⟨some d,none,.v (.mv (.c (.int .i64 n)))⟩
abbrev ob(d:Nat)(b:Bool):xz:=⟨some d,none,.v (.mv (.c (.bool b)))⟩
abbrev ol(d i:Nat):xz:=⟨some d,none,.v (.ld 1 false (.t i))⟩
abbrev of(d k i:Nat):xz:=⟨some d,none,.v (.fa k (.t i))⟩
abbrev oa(d k i j:Nat):xz:=⟨some d,none,.v (.ia k (.t i) (.t j))⟩
abbrev ox(d k i:Nat):xz:=⟨some d,none,.v (.ext k (.t i))⟩
abbrev on(d i:Nat):xz:=⟨some d,none,.v (.len (.t i))⟩
abbrev ot(d i:Nat):xz:=⟨some d,none,.v (.not (.t i))⟩
abbrev oy(d i j:Nat):xz:=⟨some d,none,.pick (.t i) (.t j) (.c (.bool false))⟩
abbrev oz(d i j:Nat):xz:=⟨some d,none,.pick (.t i) (.c (.bool true)) (.t j)⟩
abbrev oc(d f:Nat)(xs:List zz):xz:=⟨some d,none,.call true (.c (.fn (.func f) [] [])) xs⟩
abbrev oe(d f:Nat)(xs:List zz):xz:=⟨some d,none,.call false (.c (.fn (.func f) [] [])) xs⟩
abbrev gv(d g:Nat)(b:Bool)(k:xx):xz:=⟨some d,some (g,b),.v k⟩
abbrev gm(d g:Nat)(b:Bool)(i:Nat):xz:=⟨some d,some (g,b),.v (.mv (.t i))⟩
abbrev gl(d g:Nat)(b:Bool)(i:Nat):xz:=⟨some d,some (g,b),.v (.ld 1 false (.t i))⟩
abbrev gf(d g:Nat)(b:Bool)(k i:Nat):xz:=⟨some d,some (g,b),.v (.fa k (.t i))⟩
abbrev ga(d g:Nat)(b:Bool)(k i j:Nat):xz:=⟨some d,some (g,b),.v (.ia k (.t i) (.t j))⟩
abbrev TM(P:Program)(f:FuncId)(c:z8)(rs:List RC):Prop:=∀{args:List Fs} {H:AB} {n:Nat} {R:v8->AB->Nat->Prop},Hu P c (Dp rs R) ⟨G5 0 args,H,n⟩->AV P f args H n R
def Xh{P:Program}{f:FuncId}{fn:Func}{c:Code}{ac:z8}{fz im:List (Nat×Nat)}{rs:List RC}(kp:Nat->List Nat)
  (hf:P.funcs[f]?=some fn:=by kernel_rfl) (hb:fn.body=some c:=by kernel_rfl) (hname:(fn.name== "runtime.NumGoroutine")=false:=by kernel_rfl) (hc:BO P fn.ntmps fz im kp c=some ac:=by kernel_rfl) (hr:OK P fn.results.toList=some rs:=by kernel_rfl):TM P f ac rs:=
 λh=>Nk hf hb hname hc hr h
abbrev Kc(P:Program)(fn:Func)(fz im:List (Nat×Nat))(kl:List (List Nat)):={c:z8//BO P fn.ntmps fz im (λr=>kl.getD r []) (fn.body.getD .skip)=some c}
def mkB{P:Program}{f:FuncId}{fn:Func}{fz im:List (Nat×Nat)}{kl:List (List Nat)}{c:Kc P fn fz im kl}{rs:List RC}(h:(P.funcs[f]?,fn.body.isSome,(fn.name== "runtime.NumGoroutine"),OK P fn.results.toList)=(some fn,true,false,some rs):=by kernel_rfl):TM P f c.1 rs:=by
 simp only[Prod.mk.injEq]at h
 obtain⟨h1,h2,h3,h4⟩:=h
 obtain⟨b,hb⟩:=Option.isSome_iff_exists.1 h2
 obtain⟨c,hc⟩:=c
 rw[hb]at hc
 exact Xh (fz:=fz) (im:=im) (λr=>kl.getD r []) h1 hb h3 hc h4
def mkL{P:Program}{f:FuncId}(fn:Func)(h:(P.funcs[f]?,fn.body.isNone,(fn.name== "runtime.NumGoroutine"))=(some fn,false,false):=by kernel_rfl):C7 P f:=by
 simp only[Prod.mk.injEq]at h
 exact⟨fn,h⟩
structure Kf(P:Program)(f:FuncId)(fn:Func)(fz im:List (Nat×Nat))(kl:List (List Nat))(rs:List RC) where
 c:Kc P fn fz im kl:=by constructor;conv=>lhs;reduce;simp only[seval]
 h:(P.funcs[f]?,fn.body.isSome,(fn.name== "runtime.NumGoroutine"),OK P fn.results.toList)=(some fn,true,false,some rs):=by kernel_rfl
abbrev Kg(P:Program)(f:FuncId)(fn:Func)(kl:List (List Nat))(rs:List RC):=Kf P f fn [] [] kl rs
section
variable {P:Program} {f:FuncId} {fn:Func} {fz im:List (Nat×Nat)} {kl:List (List Nat)} {rs:List RC}
instance :CoeOut (Kf P f fn fz im kl rs) z8:=⟨λk=>k.c.1⟩
theorem Kf.a(k:Kf P f fn fz im kl rs):TM P f k.c.1 rs:=mkB k.h
theorem Kf.l(k:Kf P f fn fz im kl rs):C7 P f:=mkL fn (by
 have h:=k.h
 simp only[Prod.mk.injEq]at h⊢
 obtain⟨h1,h2,h3,h4⟩:=h
 exact⟨h1,by cases hb:fn.body<;>simp_all,h3⟩)
end
def ja(n:Nat)(h:n<256):UInt8.ofBitVec (BitVec.ofFin ⟨n,h⟩)=UInt8.ofNat n:=by
 apply UInt8.toNat_inj.1
 show n=(UInt8.ofNat n).toNat
 rw[UInt8.toNat_ofNat',Nat.mod_eq_of_lt h]
section
abbrev Bc:=FuncId->List Fs->AB->Prop×Fs
def AH(P:Program)(T:Bc):Prop:=∀f args H n,(T f args H).1->Ao P f args H n (T f args H).2
def GX(T:Bc)(args:List Fs)(H:AB):Fs->Prop×Fs
 | .fn (.func f) first cap=>T f (first++args++cap) H
 |_=>(False,.tup [])
def Of(T:Bc)(args:List Fs):Fs->Prop×Fs
 | .fn (.func f) first cap=>((T f (first++args++cap) Ai).1/\unders 0 (first++args++cap)/\(T f (first++args++cap) Ai).2.under 0,(T f (first++args++cap) Ai).2)
 |_=>(False,.tup [])
section
variable (P:Program) (T:Bc) (Qp:Fs->AB->Nat->Prop) (base:Nat)
def Bd(o:xz)(K:AS->Prop)(s:AS):Prop:=match o.k with
 | .call true f args=>GM s.env o.guard/\(Bh s.env o.guard=true->(lk s.env f).1=true/\C6 s.env args/\(GX T (args.map (AX s.env)) s.H (AX s.env f)).1)/\
   K (s.put o.dst (Bh s.env o.guard) (GX T (args.map (AX s.env)) s.H (AX s.env f)).2)
 | .cpu f args=>GM s.env o.guard/\(Bh s.env o.guard=true->((lk s.env f).1=true/\C6 s.env args/\(Of T (args.map (AX s.env)) (AX s.env f)).1)/\K (s.put o.dst true (Of T (args.map (AX s.env)) (AX s.env f)).2))/\
   (Bh s.env o.guard=false->K (s.put o.dst false (.tup [])))
 |_=>Ae P Qp base o K s
def E5:List xz->(AS->Prop)->AS->Prop
 |[],K,s=>K s
 |o::r,K,s=>Bd P T Qp base o (E5 r K) s
def De(cx:Nat->Fs):List (Nat×xz)->(AS->Prop)->AS->Prop
 |[],K,s=>K s
 |o::r,K,s=>(Bh s.env o.2.guard=true->Bp base cx (AX s.env) o.1 o.2.k)/\Bd P T Qp base o.2 (λs'=>Fh cx o.1 o.2.k s.H s'.H/\De cx r K s') s
end
def ev(P:Program)(T:Bc):z8->(x6->AS->Prop)->AS->Prop
 | .skip,Q,s=>Q .normal s
 | .reg bump ops keep,Q,s=>E5 P T (λv H n=>Q (.pan v) ⟨[],H,n⟩) s.n ops (λs'=>Q .normal (s'.keep keep)) {s with n:=s.n+bump}
 | .seq a b,Q,s=>ev P T a (λe s'=>match e with
  | .normal=>ev P T b Q s'
  |e=>Q e s') s
 | .cond c a b,Q,s=>(lk s.env c).1=true/\J3 (AX s.env c)/\(Fg (AX s.env c)=true->ev P T a Q s)/\(Fg (AX s.env c)=false->ev P T b Q s)
 | .block id c,Q,s=>ev P T c (λe s'=>match e with
  | .exit i=>if i=id then Q .normal s' else Q (.exit i) s'
  |e=>Q e s') s
 | .loop c,Q,s=>∃(I:AS->Prop) (μ:AS->Nat),I s/\∀s1,I s1->ev P T c (λe s'=>match e with
  | .normal=>∃s2,K3 s1 s' s2/\I s2/\μ s2<μ s1
  |e=>Q e s') s1
 | .exit id,Q,s=>Q (.exit id) s
 | .ret,Q,s=>Q .ret s
 | .rfun g ps nt asg body,Q,s=>(lk s.env g).1=true/\GB P s Q ps nt asg body (AX s.env g)
 | .frz t,Q,s=>I0 Q s t (BI s.env t)
 | .frzo t,Q,s=>GS Q s t (BI s.env t)
 | .regx bump ops keep,Q,s=>De P T (λv H n=>Q (.pan v) ⟨[],H,n⟩) s.n (Ty s.env s.n) ops (λs'=>Q .normal (s'.keep keep)) {s with n:=s.n+bump}
section
variable {P:Program} {T:Bc} (hT:AH P T) {Qp:Fs->AB->Nat->Prop} {base:Nat}
include hT
variable {K K':AS->Prop}
theorem L7{o:xz}{s:AS}(hK:∀s,K s->K' s)(h:Bd P T Qp base o K s):Ae P Qp base o K' s:=by
 obtain⟨d,g,k⟩:=o;unfold Bd at h;split at h
 ·rename_i f args hk;simp only at hk h;subst hk;obtain⟨h0,h1,h2⟩:=h;refine⟨h0,_,λq=>?_,hK _ h2⟩;obtain⟨p1,p2,p3⟩:=h1 q;refine⟨p1,p2,?_⟩;generalize AX s.env f=fv at p3⊢;unfold GX at p3⊢;split at p3
  ·exact hT _ _ _ _ p3
  ·exact p3.elim
 ·rename_i f args hk;simp only at hk h;subst hk;obtain⟨h0,h1,h2⟩:=h;refine⟨h0,λq=>?_,λq=>hK _ (h2 q)⟩;obtain⟨⟨p1,p2,p3⟩,p4⟩:=h1 q;refine⟨⟨p1,p2⟩,?_⟩;simp only[BP];generalize AX s.env f=fv at p3 p4⊢;unfold Of at p3 p4;split at p3
  ·rename_i s9 first cap
   obtain⟨k1,k2,k3⟩:=p3;have hq:=hT _ _ Ai 0 k1;exact⟨_,⟨k2,k3,hq.mono λout H' n' hh=>⟨_,hh.1,Wk.refl _⟩⟩,hK _ p4⟩
  ·exact p3.elim
 ·exact GU hK h
theorem Nm(hK:∀s,K s->K' s):∀(l:List xz) (s:AS),E5 P T Qp base l K s->EC P Qp base l K' s
 |[],s,h=>hK s h
 |o::r,s,h=>L7 hT (Nm hK r) h
theorem L8{cx:Nat->Fs}(hK:∀s,K s->K' s):∀(l:List (Nat×xz)) (s:AS),De P T Qp base cx l K s->JR P Qp base cx l K' s
 |[],s,h=>hK s h
 |o::r,s,h=>⟨h.1,L7 hT (λs' k=>⟨k.1,L8 hK r s' k.2⟩) h.2⟩
end
variable {c:z8} {Q:x6->AS->Prop} {H' H:AB} {s:AS} {K K':AS->Prop} {v r:Fs} {Qp Qp':Fs->AB->Nat->Prop} {f:FuncId} {l a:List Fs} {id base esz bytes n:Nat} {P:Program} {α:Type}
theorem Nn{Q':x6->AS->Prop}(hQ:∀e s,Q e s->Q' e s){out:v8}{n':Nat}(h:GA Q s id out H' n'):GA Q' s id out H' n':=by
 cases out with
 |pan v=>exact hQ _ _ h
 |ret v=>grind [GA]
theorem LG{o:xz}(hQ:∀v H n,Qp v H n->Qp' v H n)(hK:∀s,K s->K' s)(h:Ae P Qp base o K s):Ae P Qp' base o K' s:=by
 have h':=GU hK h;obtain⟨d,g,k⟩:=o;refine⟨h'.1,?_⟩;have h2:=h'.2;cases k with
 |call q f args=>
  cases q with
  |true=>exact h2
  |false=>
   refine⟨λq=>⟨(h2.1 q).1,?_⟩,h2.2⟩;have h3:=(h2.1 q).2;simp only[BP]at h3⊢;generalize AX s.env f=v at h3⊢;cases v<;>(try simp only at h3⊢)<;>first|exact h3.elim|skip
   rename_i ff first cap
   cases ff with
   |func f=>
    refine AV.mono (R:=λout H' n'=>match out with
     | .ret v=>K' ({s with H:=H',n:=n'}.put d true v)
     | .pan v=>Qp v H' n') h3 λo H' n' hh=>?_
    cases o with
    |ret v=>exact hh
    |pan v=>exact hQ _ _ _ hh
   |yield l=>cases first with
    |cons _ _=>exact h3.elim
    |nil=>cases cap with
     |cons _ _=>exact h3.elim
     |nil=>exact h3
   |_=>exact h3.elim
 |pan x=>exact⟨λq=>⟨(h2.1 q).1,(h2.1 q).2.1,hQ _ _ _ (h2.1 q).2.2⟩,h2.2⟩
 |_=>exact h2
theorem Pv(hQ:∀v H n,Qp v H n->Qp' v H n):∀(l:List xz) (s:AS),EC P Qp base l K s->EC P Qp' base l K s
 |[],s,h=>h
 |o::r,s,h=>LG hQ (Pv hQ r) h
theorem V7{cx:Nat->Fs}(hQ:∀v H n,Qp v H n->Qp' v H n):∀(l:List (Nat×xz)) (s:AS),JR P Qp base cx l K s->JR P Qp' base cx l K s
 |[],s,h=>h
 |o::r,s,h=>⟨h.1,LG hQ (λs' k=>⟨k.1,V7 hQ r s' k.2⟩) h.2⟩
theorem GG{T:Bc}(hT:AH P T):∀(c:z8) (Q Q':x6->AS->Prop) (s:AS),(∀e s,Q e s->Q' e s)->ev P T c Q s->Hu P c Q' s
 | .skip,Q,Q',s,hQ,h=>hQ _ _ h
 | .exit _,Q,Q',s,hQ,h=>hQ _ _ h
 | .ret,Q,Q',s,hQ,h=>hQ _ _ h
 | .reg bump ops keep,Q,Q',s,hQ,h=>by
  have h1:=Nm (Qp:=λv H n=>Q (.pan v) ⟨[],H,n⟩) hT (K':=λs'=>Q' .normal (s'.keep keep)) (λs h=>hQ _ _ h) ops _ h;exact Pv (λv H n=>hQ _ _) ops _ h1
 | .regx bump ops keep,Q,Q',s,hQ,h=>by
  have h1:=L8 (Qp:=λv H n=>Q (.pan v) ⟨[],H,n⟩) hT (K':=λs'=>Q' .normal (s'.keep keep)) (λs h=>hQ _ _ h) ops _ h;exact V7 (λv H n=>hQ _ _) ops _ h1
 | .seq a b,Q,Q',s,hQ,h=>GG hT a _ _ s (λe s h=>by
   cases e with
   |normal=>exact GG hT b _ _ s hQ h
   |_=>exact hQ _ _ h) h
 | .cond c a b,Q,Q',s,hQ,h=>⟨h.1,h.2.1,λq=>GG hT a _ _ s hQ (h.2.2.1 q),λq=>GG hT b _ _ s hQ (h.2.2.2 q)⟩
 | .block id c,Q,Q',s,hQ,h=>GG hT c _ _ s (λe s h=>by
   cases e with
   |exit i=>grind
   |_=>exact hQ _ _ h) h
 | .loop c,Q,Q',s,hQ,⟨I,μ,h1,h2⟩=>⟨I,μ,h1,λs1 i1=>GG hT c _ _ s1 (λe s h=>by
   cases e with
   |normal=>exact h
   |_=>exact hQ _ _ h) (h2 s1 i1)⟩
 | .rfun g ps nt asg body,Q,Q',s,hQ,h=>by
  refine⟨h.1,?_⟩;have h2:=h.2;generalize AX s.env g=v at h2⊢;cases v<;>simp only[GB]at h2⊢ <;>first|exact h2.elim|skip
  rename_i f first cap
  cases f<;>simp only at h2⊢ <;>first|exact h2.elim|skip
  exact λl=>(h2 l).mono λo H' n' q=>Nn hQ q
 | .frz t,Q,Q',s,hQ,h=>by
  have h2:I0 Q s t (BI s.env t):=h;show I0 Q' s t (BI s.env t);unfold I0 at h2⊢;split at h2
  ·grind
  ·exact h2.elim
 | .frzo t,Q,Q',s,hQ,h=>by
  have h2:GS Q s t (BI s.env t):=h;show GS Q' s t (BI s.env t);unfold GS at h2⊢;split at h2
  ·grind
  ·exact hQ _ _ h2
  ·exact h2.elim
theorem No{T:Bc}{o:xz}(hQ:∀v H n,Qp v H n->Qp' v H n)(hK:∀s,K s->K' s)(h:Bd P T Qp base o K s):Bd P T Qp' base o K' s:=by
 obtain⟨d,g,k⟩:=o;unfold Bd at h⊢;split at h
 ·exact⟨h.1,h.2.1,hK _ h.2.2⟩
 ·simp_all
 ·exact LG hQ hK h
theorem Pw{T:Bc}(hQ:∀v H n,Qp v H n->Qp' v H n)(hK:∀s,K s->K' s):∀(l:List xz) (s:AS),E5 P T Qp base l K s->E5 P T Qp' base l K' s
 |[],s,h=>hK s h
 |o::r,s,h=>No hQ (Pw hQ hK r) h
theorem Np{T:Bc}{cx:Nat->Fs}(hQ:∀v H n,Qp v H n->Qp' v H n)(hK:∀s,K s->K' s):∀(l:List (Nat×xz)) (s:AS),De P T Qp base cx l K s->De P T Qp' base cx l K' s
 |[],s,h=>hK s h
 |o::r,s,h=>⟨h.1,No hQ (λs' k=>⟨k.1,Np hQ hK r s' k.2⟩) h.2⟩
theorem Fq{T:Bc}:∀(c:z8) (Q Q':x6->AS->Prop) (s:AS),(∀e s,Q e s->Q' e s)->ev P T c Q s->ev P T c Q' s
 | .skip,Q,Q',s,hQ,h=>hQ _ _ h
 | .exit _,Q,Q',s,hQ,h=>hQ _ _ h
 | .ret,Q,Q',s,hQ,h=>hQ _ _ h
 | .reg bump ops keep,Q,Q',s,hQ,h=>Pw (λv H n=>hQ _ _) (λs=>hQ _ _) ops _ h
 | .regx bump ops keep,Q,Q',s,hQ,h=>Np (λv H n=>hQ _ _) (λs=>hQ _ _) ops _ h
 | .seq a b,Q,Q',s,hQ,h=>Fq a _ _ s (λe s h=>by
   cases e with
   |normal=>exact Fq b _ _ s hQ h
   |_=>exact hQ _ _ h) h
 | .cond c a b,Q,Q',s,hQ,h=>⟨h.1,h.2.1,λq=>Fq a _ _ s hQ (h.2.2.1 q),λq=>Fq b _ _ s hQ (h.2.2.2 q)⟩
 | .block id c,Q,Q',s,hQ,h=>Fq c _ _ s (λe s h=>by
   cases e with
   |exit i=>grind
   |_=>exact hQ _ _ h) h
 | .loop c,Q,Q',s,hQ,⟨I,μ,h1,h2⟩=>⟨I,μ,h1,λs1 i1=>Fq c _ _ s1 (λe s h=>by
   cases e with
   |normal=>exact h
   |_=>exact hQ _ _ h) (h2 s1 i1)⟩
 | .rfun g ps nt asg body,Q,Q',s,hQ,h=>by
  refine⟨h.1,?_⟩;have h2:=h.2;generalize AX s.env g=v at h2⊢;cases v<;>simp only[GB]at h2⊢ <;>first|exact h2.elim|skip
  rename_i f first cap
  cases f<;>simp only at h2⊢ <;>first|exact h2.elim|skip
  exact λl=>(h2 l).mono λo H' n' q=>Nn hQ q
 | .frz t,Q,Q',s,hQ,h=>by
  have h2:I0 Q s t (BI s.env t):=h;show I0 Q' s t (BI s.env t);unfold I0 at h2⊢;split at h2
  ·grind
  ·exact h2.elim
 | .frzo t,Q,Q',s,hQ,h=>by
  have h2:GS Q s t (BI s.env t):=h;show GS Q' s t (BI s.env t);unfold GS at h2⊢;split at h2
  ·grind
  ·exact hQ _ _ h2
  ·exact h2.elim
theorem AI{T:Bc}(hT:AH P T)(h:ev P T c Q s):Hu P c Q s:=GG hT c Q Q s (λ_ _ h=>h) h
inductive Item where
 |c (c:z8)
 |blk (id:Nat)
section
variable (P:Program) (T:Bc)
def Cl(Q:x6->AS->Prop):List Item->x6->AS->Prop
 |[],e,s=>Q e s
 | .c c::k,e,s=>match e with
  | .normal=>ev P T c (Cl Q k) s
  |e=>Cl Q k e s
 | .blk id::k,e,s=>match e with
  | .exit i=>if i=id then Cl Q k .normal s else Cl Q k (.exit i) s
  |e=>Cl Q k e s
def Gm(c:z8)(k:List Item)(Q:x6->AS->Prop)(s:AS):Prop:=ev P T c (Cl P T Q k) s
def BU(b:Nat)(ops:List xz)(kp:List Nat)(k:List Item)(Q:x6->AS->Prop)(s:AS):Prop:=
 E5 P T (λv H n=>Cl P T Q k (.pan v) ⟨[],H,n⟩) b ops (λs'=>Cl P T Q k .normal (s'.keep kp)) s
def A8(b:Nat)(cx:Nat->Fs)(ops:List (Nat×xz))(kp:List Nat)(k:List Item)(Q:x6->AS->Prop)(s:AS):Prop:=
 De P T (λv H n=>Cl P T Q k (.pan v) ⟨[],H,n⟩) b cx ops (λs'=>Cl P T Q k .normal (s'.keep kp)) s
def BV(b:Nat)(d:Option Nat)(r:List xz)(kp:List Nat)(k:List Item)(Q:x6->AS->Prop)(s:AS):v8->AB->Nat->Prop
 | .ret v,H',n'=>BU P T b r kp k Q ({s with H:=H',n:=n'}.put d true v)
 | .pan v,H',n'=>Cl P T Q k (.pan v) ⟨[],H',n'⟩
def FP(b:Nat)(cx:Nat->Fs)(m:Nat)(d:Option Nat)(r:List (Nat×xz))(kp:List Nat)(k:List Item)(Q:x6->AS->Prop)(s:AS):v8->AB->Nat->Prop
 | .ret v,H',n'=>ID (cx ((m-300000)/2)) s.H H'/\A8 P T b cx r kp k Q ({s with H:=H',n:=n'}.put d true v)
 | .pan v,H',n'=>Cl P T Q k (.pan v) ⟨[],H',n'⟩
def Og(b:Nat)(d:Option Nat)(r:List xz)(kp:List Nat)(k:List Item)(Q:x6->AS->Prop)(s:AS)(x:Bool)(H':AB)(n':Nat):Prop:=BU P T b r kp k Q ({s with H:=H',n:=n'}.put d true (.bool x))
def jb(b:Nat)(cx:Nat->Fs)(m:Nat)(d:Option Nat)(r:List (Nat×xz))(kp:List Nat)(k:List Item)(Q:x6->AS->Prop)(s:AS)(x:Bool)(H':AB)(n':Nat):Prop:=ID (cx ((m-300000)/2)) s.H H'/\A8 P T b cx r kp k Q ({s with H:=H',n:=n'}.put d true (.bool x))
end
def L9(P:Program)(args:List Fs)(H:AB)(n:Nat)(R:v8->AB->Nat->Prop)(Y:Bool->AB->Nat->Prop):Fs->Prop
 | .fn (.func f) first cap=>AV P f (first++args++cap) H n R
 | .fn (.yield l) [] []=>CV P l args H n Y
 |_=>False
def Qr(H:AB)(sz:Nat)(v:Fs):Fs->Prop×AB
 | .ptr id off=>match AD H id with
  |some (.box cs)=>(off+sz<=cs.length,hset H id (.box (splice cs off v.cells)))
  |_=>(False,H)
 | .ap id esz i off=>match AD H id with
  |some (.arr e l)=>(e=esz/\i<l.length/\(Do (l[i]?.getD (.tup [])) off sz esz v).1,hset H id (.arr e (l.set i (Do (l[i]?.getD (.tup [])) off sz esz v).2)))
  |_=>(False,H)
 |_=>(False,H)
theorem Nq{sz:Nat}{a:Fs}{K:AB->Prop}:OX H sz v K a=((Qr H sz v a).1/\K (Qr H sz v a).2):=by
 cases a<;>simp only[OX,Qr,false_and]
 ·grind
 ·grind
def IN(H:AB)(id esz bytes:Nat):Fs->Option (List Fs)->Prop×AB×Fs
 | .sl tok l,some l'=>(AD H id=none/\BH H esz tok/\Al (l.length+l'.length) bytes/\l.length+l'.length<=35184372088832/\0<esz,hset (AU H tok) id .tok,.sl (.own id esz) (l++l'))
 |_,_=>(False,H,.tup [])
theorem Qs{K:AB->Fs->Prop}{x:Option (List Fs)}:NN H id esz bytes K v x=((IN H id esz bytes v x).1/\K (IN H id esz bytes v x).2.1 (IN H id esz bytes v x).2.2):=by
 cases v<;>cases x<;>simp [NN,IN,ud]
def JZ(H:AB)(n:Nat)(lo hi:Int):Fs->Prop×AB×Fs
 | .ptr id 0=>match AD H id with
  |some (.box cs)=>(cs.length=n/\0<=lo/\lo<=hi/\hi<=n/\lo<n,hset H id (.arr 1 cs),.ref id 1 lo.toNat (hi.toNat-lo.toNat) (n-lo.toNat))
  |some (.arr e cs)=>(e=1/\cs.length=n/\0<=lo/\lo<=hi/\hi<=n/\lo<n,H,.ref id 1 lo.toNat (hi.toNat-lo.toNat) (n-lo.toNat))
  |_=>(False,H,.tup [])
 |_=>(False,H,.tup [])
theorem V8{lo hi:Int}{K:AB->Fs->Prop}:IC H n lo hi K v=((JZ H n lo hi v).1/\K (JZ H n lo hi v).2.1 (JZ H n lo hi v).2.2):=by
 cases v<;>simp only[IC,JZ,false_and];rename_i id off;cases off with
 |succ o=>simp
 |zero=>grind
def UY(H:AB)(id esz bytes:Nat)(zero:Fs)(v:Fs):Prop×AB×Fs:=
 (AD H id=none/\C8 v/\0<=A9 v/\Al (A9 v).toNat bytes/\A9 v<=35184372088832/\zero.cells.length=esz,hset H id (.arr esz (List.replicate (A9 v).toNat zero)),.ref id esz 0 (A9 v).toNat (A9 v).toNat)
def LH(s:AS)(t:Nat):Prop×AS:=match BI s.env t with
 |some (true,.ref id e off len cap)=>match AD s.H id with
  |some (.arr e' l)=>(e'=e/\off+len<=l.length/\len<=cap,{s with env:=(t,true,.sl (if len=cap then .exact e else .none e) ((l.drop off).take len))::s.env,H:=hset s.H id (.frz e l)})
  |some (.frz e' l)=>(e'=e/\off+len<=l.length/\len<=cap,{s with env:=(t,true,.sl (if len=cap then .exact e else .none e) ((l.drop off).take len))::s.env})
  |_=>(False,s)
 |_=>(False,s)
theorem V9{t:Nat}:I0 Q s t (BI s.env t)=((LH s t).1/\Q .normal (LH s t).2):=by
 unfold LH;cases BI s.env t with
 |none=>simp [I0]
 |some gv=>
  obtain⟨g,v⟩:=gv;cases g<;>cases v<;>simp only[I0,false_and];rename_i id e off len cap;cases AD s.H id with
  |none=>simp
  |some ob=>cases ob<;>simp [ud]
def Hl(s:AS)(t:Nat):Prop×AS:=match BI s.env t with
 |some (true,.ref id e off len cap)=>match AD s.H id with
  |some (.arr e' l)=>(e'=e/\off=0/\l.length=cap/\len<=cap,{env:=(t,true,.sl (.own s.n e) (l.take len))::s.env,H:=hset (hset s.H id .dead) s.n .tok,n:=s.n+1})
  |_=>(False,s)
 |some (true,.sl tok l)=>(True,{s with env:=(t,true,.sl tok l)::s.env})
 |_=>(False,s)
theorem Su{t:Nat}:GS Q s t (BI s.env t)=((Hl s t).1/\Q .normal (Hl s t).2):=by
 unfold Hl;cases BI s.env t with
 |none=>simp [GS]
 |some gv=>
  obtain⟨g,v⟩:=gv;cases g<;>cases v<;>simp only[GS,false_and,tL];rename_i id e off len cap;cases AD s.H id with
  |none=>simp
  |some ob=>cases ob<;>simp [ud]
def JE(H:AB)(id esz bytes:Nat)(zero:Fs)(K:AB->Fs->Prop)(v:Fs)(x:Option (List Fs)):Prop:=FW H id esz bytes zero K v x
theorem Df{zero:Fs}{K:AB->Fs->Prop}{tok:w8}{l':List Fs}:JE H id esz bytes zero K (.sl tok l) (some l')=
  (AD H id=none/\0<esz/\zero.cells.length=esz/\(tok= .nil\/tok= .exact esz)/\Al (l.length+l'.length) bytes/\l.length+l'.length<=35184372088832/\
   (l'=[]->K H (.sl tok l))/\
   (l'≠[]->∀cap,l.length+l'.length<=cap->K (hset H id (.arr esz (l++l'++List.replicate (cap-(l.length+l'.length)) zero))) (.ref id esz 0 (l.length+l'.length) cap))):=rfl
theorem LI{zero:Fs}{K:AB->Fs->Prop}{i0 e off len cap e':Nat}{l':List Fs}(h:AD H i0=some (.arr e' l)):JE H id esz bytes zero K (.ref i0 e off len cap) (some l')=
  (AD H id=none/\0<esz/\zero.cells.length=esz/\e=esz/\off=0/\Al (len+l'.length) bytes/\len+l'.length<=35184372088832/\e'=esz/\l.length=cap/\len<=cap/\
     (len+l'.length<=cap->K (hset H i0 (.arr esz (l.take len++l'++l.drop (len+l'.length)))) (.ref i0 esz 0 (len+l'.length) cap))/\
     (cap<len+l'.length->∀cap',len+l'.length<=cap'->K (hset H id (.arr esz (l.take len++l'++List.replicate (cap'-(len+l'.length)) zero))) (.ref id esz 0 (len+l'.length) cap'))):=by
 simp only[JE,FW,h]
section
variable {P:Program} {T:Bc} {Q:x6->AS->Prop} {k:List Item} {s:AS} {b:Nat} {cx:Nat->Fs} {kp:List Nat} {r:List xz} {rx:List (Nat×xz)}
variable {c:z8} {H:AB} {v z:Fs} {w str ag:Bool} {xs:List zz} {i id t m rel esz bytes sz:Nat} {x f y a:zz} {o:xx} {d:Option Nat}
theorem AJ(h:Gm P T c [] Q s):ev P T c Q s:=by
 have:Cl P T Q []=Q:=by funext e s;rfl
 unfold Gm at h;rwa[this]at h
theorem Sv{e:x6}:Cl P T Q [] e s=Q e s:=rfl
theorem GH{c:z8}:Cl P T Q (.c c::k) .normal s=Gm P T c k Q s:=rfl
theorem oC{c:z8}{i:Nat}:Cl P T Q (.c c::k) (.exit i) s=Cl P T Q k (.exit i) s:=rfl
theorem oD{c:z8}:Cl P T Q (.c c::k) .ret s=Cl P T Q k .ret s:=rfl
theorem oE{c:z8}{v:Fs}:Cl P T Q (.c c::k) (.pan v) s=Cl P T Q k (.pan v) s:=rfl
theorem fR{i:Nat}:Cl P T Q (.blk i::k) .normal s=Cl P T Q k .normal s:=rfl
theorem fS{id i:Nat}:Cl P T Q (.blk id::k) (.exit i) s=if i=id then Cl P T Q k .normal s else Cl P T Q k (.exit i) s:=rfl
theorem fT{i:Nat}:Cl P T Q (.blk i::k) .ret s=Cl P T Q k .ret s:=rfl
theorem fU{i:Nat}{v:Fs}:Cl P T Q (.blk i::k) (.pan v) s=Cl P T Q k (.pan v) s:=rfl
theorem oF:Gm P T .skip k Q s=Cl P T Q k .normal s:=rfl
theorem oG{i:Nat}:Gm P T (.exit i) k Q s=Cl P T Q k (.exit i) s:=rfl
theorem k_ret:Gm P T .ret k Q s=Cl P T Q k .ret s:=rfl
theorem k_seq{x y:z8}:Gm P T (.seq x y) k Q s=Gm P T x (.c y::k) Q s:=by
 unfold Gm;simp only[ev];exact congrArg (λq=>ev P T x q s) (by funext e s';cases e<;>rfl)
theorem fV{i:Nat}{x:z8}:Gm P T (.block i x) k Q s=Gm P T x (.blk i::k) Q s:=by
 unfold Gm;simp only[ev];exact congrArg (λq=>ev P T x q s) (by funext e s';cases e<;>rfl)
theorem IP{c:zz}{x y:z8}:Gm P T (.cond c x y) k Q s=((lk s.env c).1=true/\J3 (AX s.env c)/\(Fg (AX s.env c)=true->Gm P T x k Q s)/\(Fg (AX s.env c)=false->Gm P T y k Q s)):=rfl
theorem k_reg{bump:Nat}{ops:List xz}{kp:List Nat}:Gm P T (.reg bump ops kp) k Q s=BU P T s.n ops kp k Q {s with n:=s.n+bump}:=rfl
theorem oH{bump:Nat}{ops:List (Nat×xz)}{kp:List Nat}:Gm P T (.regx bump ops kp) k Q s=A8 P T s.n (Ty s.env s.n) ops kp k Q {s with n:=s.n+bump}:=rfl
theorem oI{g:zz}{ps:Array Tmp}{nt:Nat}{x y:Code}:Gm P T (.rfun g ps nt x y) k Q s=((lk s.env g).1=true/\GB P s (Cl P T Q k) ps nt x y (AX s.env g)):=rfl
theorem k_frz{t:Nat}:Gm P T (.frz t) k Q s=((LH s t).1/\Cl P T Q k .normal (LH s t).2):=V9
theorem oJ{t:Nat}:Gm P T (.frzo t) k Q s=((Hl s t).1/\Cl P T Q k .normal (Hl s t).2):=Su
theorem r_ext{d:Option Nat}{x:XOp}{xs:List zz}:BU P T b (⟨d,none,.ext x xs⟩::r) kp k Q s=(C6 s.env xs/\(xE b x s.H (xs.map (AX s.env))).1/\BU P T b r kp k Q ({s with H:=(xE b x s.H (xs.map (AX s.env))).2.1}.put d true (xE b x s.H (xs.map (AX s.env))).2.2)):=by
 simp only[BU,E5,Bd];exact SG
def fW(P:Program)(T:Bc)(b:Nat)(d:Option Nat)(x:XOp)(xs:List zz)(r:List xz)(kp:List Nat)(k:List Item)(Q:x6->AS->Prop)(s:AS):Bool->Prop
 |true=>C6 s.env xs/\(xE b x s.H (xs.map (AX s.env))).1/\BU P T b r kp k Q ({s with H:=(xE b x s.H (xs.map (AX s.env))).2.1}.put d true (xE b x s.H (xs.map (AX s.env))).2.2)
 |false=>BU P T b r kp k Q (s.put d false (.tup []))
theorem oK{d:Option Nat}{t:Nat}{w:Bool}{x:XOp}{xs:List zz}:BU P T b (⟨d,some (t,w),.ext x xs⟩::r) kp k Q s=(GM s.env (some (t,w))/\fW P T b d x xs r kp k Q s (Bh s.env (some (t,w)))):=by
 simp only[BU,E5,Bd,Ae,BP,Io.opds];cases Bh s.env (some (t,w))<;>simp [fW,BU]
theorem oL{d:Option Nat}{x:XOp}{xs:List zz}:fW P T b d x xs r kp k Q s true=(C6 s.env xs/\(xE b x s.H (xs.map (AX s.env))).1/\BU P T b r kp k Q ({s with H:=(xE b x s.H (xs.map (AX s.env))).2.1}.put d true (xE b x s.H (xs.map (AX s.env))).2.2)):=rfl
theorem oM{d:Option Nat}{x:XOp}{xs:List zz}:fW P T b d x xs r kp k Q s false=BU P T b r kp k Q (s.put d false (.tup [])):=rfl
def FY(P:Program)(T:Bc)(b:Nat)(d:Option Nat)(r:List xz)(kp:List Nat)(k:List Item)(Q:x6->AS->Prop)(s:AS)(H':AB)(v:Fs):Prop:=BU P T b r kp k Q ({s with H:=H'}.put d true v)
theorem r_cpu{d:Option Nat}{f:zz}{xs:List zz}:BU P T b (⟨d,none,.cpu f xs⟩::r) kp k Q s=((lk s.env f).1=true/\C6 s.env xs/\(Of T (xs.map (AX s.env)) (AX s.env f)).1/\BU P T b r kp k Q (s.put d true (Of T (xs.map (AX s.env)) (AX s.env f)).2)):=by
 simp only[BU,E5,Bd,GM,Bh,tL,tE,seval,tY,uo,ud]
def Nr(P:Program)(T:Bc)(b:Nat)(d:Option Nat)(r:List xz)(kp:List Nat)(k:List Item)(Q:x6->AS->Prop)(s:AS)(neq:Bool):Fs->Prop
 | .sl .nil []=>BU P T b r kp k Q (s.put d true (.bool (!neq)))
 | .sl (.none _) []=>BU P T b r kp k Q (s.put d true (.bool neq))/\BU P T b r kp k Q (s.put d true (.bool (!neq)))
 | .sl (.exact _) []=>BU P T b r kp k Q (s.put d true (.bool neq))/\BU P T b r kp k Q (s.put d true (.bool (!neq)))
 | .sl (.own _ _) []=>BU P T b r kp k Q (s.put d true (.bool neq))/\BU P T b r kp k Q (s.put d true (.bool (!neq)))
 | .sl _ (_::_)=>BU P T b r kp k Q (s.put d true (.bool neq))
 | .ref _ _ _ _ _=>BU P T b r kp k Q (s.put d true (.bool neq))
 |_=>False
theorem oN{d:Option Nat}{neq:Bool}{x:zz}:BU P T b (⟨d,none,.nils neq x⟩::r) kp k Q s=((lk s.env x).1=true/\Nr P T b d r kp k Q s neq (AX s.env x)):=by
 simp only[BU,E5,Bd];rw[XD];congr 1;cases AX s.env x<;>try rfl
 rename_i tok l;cases tok<;>cases l<;>rfl
def oO(P:Program)(T:Bc)(b:Nat)(d:Option Nat)(r:List xz)(kp:List Nat)(k:List Item)(Q:x6->AS->Prop)(s:AS):Fs->Prop:=JA s.H λH' v=>BU P T b r kp k Q ({s with H:=H'}.put d true v)
theorem r_mnx{d:Option Nat}{x:zz}:BU P T b (⟨d,none,.mnx x⟩::r) kp k Q s=((lk s.env x).1=true/\oO P T b d r kp k Q s (AX s.env x)):=by
 simp only[BU,E5,Bd];exact Z7
theorem fX{c clk last:Nat}{seen:List Nat}{es:List (Fs×Fs×Nat)}(h1:AD s.H id=some (.mit m c seen last))(h2:AD s.H m=some (.map es clk)):oO P T b d r kp k Q s (.ptr id 0)=
  (c<=clk/\(∀e∈es,e.2.2<c)/\(G0 es seen=[]->BU P T b r kp k Q (s.put d true (.tup [.bool false])))/\∀e∈G0 es seen,BU P T b r kp k Q ({s with H:=hset s.H id (.mit m c (seen++[e.2.2]) clk)}.put d true (.tup [.bool true,e.1,e.2.1]))):=by
 simp only[oO,JA,h1,h2]
theorem oP{d:Option Nat}{rel esz bytes:Nat}{z:Fs}{x y:zz}{str:Bool}:BU P T b (⟨d,none,.appR rel esz bytes z x y str⟩::r) kp k Q s=((lk s.env x).1=true/\(lk s.env y).1=true/\
  JE s.H (b+rel) esz bytes z (FY P T b d r kp k Q s) (AX s.env x) (CD s.H (AX s.env) esz y str)):=by
 simp only[BU,E5,Bd];exact Pb
theorem r_nil:BU P T b [] kp k Q s=Cl P T Q k .normal (s.keep kp):=rfl
theorem Ns(s:AS)(d:Option Nat)(g:Bool)(v:Fs):(s.put d g v).H=s.H:=by cases d<;>rfl
theorem oQ:A8 P T b cx [] kp k Q s=Cl P T Q k .normal (s.keep kp):=rfl
theorem r_v{d:Option Nat}{o:xx}:BU P T b (⟨d,none,.v o⟩::r) kp k Q s=(C6 s.env o.opds/\(Bb s.H (AX s.env) o).1/\BU P T b r kp k Q (s.put d true (Bb s.H (AX s.env) o).2)):=by
 simp only[BU,E5,Bd];exact NK
theorem r_vg{d:Option Nat}{t:Nat}{w:Bool}{o:xx}:BU P T b (⟨d,some (t,w),.v o⟩::r) kp k Q s=(GM s.env (some (t,w))/\(Bh s.env (some (t,w))=true->C6 s.env o.opds/\(Bb s.H (AX s.env) o).1)/\BU P T b r kp k Q (s.put d (Bh s.env (some (t,w))) (Bb s.H (AX s.env) o).2)):=by
 simp only[BU,E5,Bd];exact Mb
theorem oR{d:Option Nat}{x y z:zz}:BU P T b (⟨d,none,.pick x y z⟩::r) kp k Q s=((lk s.env x).1=true/\J3 (AX s.env x)/\(Fg (AX s.env x)=true->(lk s.env y).1=true)/\(Fg (AX s.env x)=false->(lk s.env z).1=true)/\BU P T b r kp k Q (s.put d true (Lq (Fg (AX s.env x)) (AX s.env y) (AX s.env z)))):=by
 simp only[BU,E5,Bd];exact Pa
theorem fY{d:Option Nat}{t:Nat}{w:Bool}{x y z:zz}:BU P T b (⟨d,some (t,w),.pick x y z⟩::r) kp k Q s=(GM s.env (some (t,w))/\(Bh s.env (some (t,w))=true->(lk s.env x).1=true/\J3 (AX s.env x)/\(Fg (AX s.env x)=true->(lk s.env y).1=true)/\(Fg (AX s.env x)=false->(lk s.env z).1=true))/\
  BU P T b r kp k Q (s.put d (Bh s.env (some (t,w))) (Lq (Fg (AX s.env x)) (AX s.env y) (AX s.env z)))):=by
 simp only[BU,E5,Bd];exact T5
theorem fZ{d:Option Nat}{rel:Nat}{cs:List Fs}:BU P T b (⟨d,none,.alloc rel cs⟩::r) kp k Q s=(AD s.H (b+rel)=none/\BU P T b r kp k Q ({s with H:=hset s.H (b+rel) (.box cs)}.put d true (.ptr (b+rel) 0))):=by
 simp only[BU,E5,Bd];exact NL
theorem r_box{d:Option Nat}{rel sz:Nat}{x:zz}:BU P T b (⟨d,none,.box rel sz x⟩::r) kp k Q s=((lk s.env x).1=true/\AD s.H (b+rel)=none/\nT (AX s.env x)/\(AX s.env x).cells.length=sz/\BU P T b r kp k Q ({s with H:=hset s.H (b+rel) (.box (AX s.env x).cells)}.put d true (.ptr (b+rel) 0))):=by
 simp only[BU,E5,Bd];exact Z4
theorem r_st{d:Option Nat}{sz:Nat}{a x:zz}:BU P T b (⟨d,none,.st sz a x⟩::r) kp k Q s=((lk s.env a).1=true/\(lk s.env x).1=true/\nT (AX s.env x)/\(AX s.env x).cells.length=sz/\(Qr s.H sz (AX s.env x) (AX s.env a)).1/\BU P T b r kp k Q ({s with H:=(Qr s.H sz (AX s.env x) (AX s.env a)).2}.put d true (.tup []))):=by
 simp only[BU,E5,Bd];rw[Mc,Nq]
theorem oS{d:Option Nat}{f:zz}{xs:List zz}:BU P T b (⟨d,none,.call true f xs⟩::r) kp k Q s=((lk s.env f).1=true/\C6 s.env xs/\(GX T (xs.map (AX s.env)) s.H (AX s.env f)).1/\BU P T b r kp k Q (s.put d true (GX T (xs.map (AX s.env)) s.H (AX s.env f)).2)):=by
 simp only[BU,E5,Bd,GM,Bh,tE,tL,ud]
theorem fb{d:Option Nat}{t:Nat}{w:Bool}{f:zz}{xs:List zz}:BU P T b (⟨d,some (t,w),.call true f xs⟩::r) kp k Q s=(GM s.env (some (t,w))/\(Bh s.env (some (t,w))=true->(lk s.env f).1=true/\C6 s.env xs/\(GX T (xs.map (AX s.env)) s.H (AX s.env f)).1)/\
   BU P T b r kp k Q (s.put d (Bh s.env (some (t,w))) (GX T (xs.map (AX s.env)) s.H (AX s.env f)).2)):=rfl
theorem fe{d:Option Nat}{f:zz}{xs:List zz}:BU P T b (⟨d,none,.call false f xs⟩::r) kp k Q s=((lk s.env f).1=true/\C6 s.env xs/\L9 P (xs.map (AX s.env)) s.H s.n (BV P T b d r kp k Q s) (Og P T b d r kp k Q s) (AX s.env f)):=by
 simp only[BU,E5,Bd,Ae,GM,Bh,BP,C6,Io.opds,tL,tE,seval,tY,uo,ud];refine congrArg (λz=>(lk s.env f).1=true/\C6 s.env xs/\z) ?_;generalize AX s.env f=v;cases v<;>try rfl
 rename_i ff first cap
 cases ff<;>try rfl
 ·refine congrArg (AV P _ _ s.H s.n) ?_;funext o H' n';cases o<;>rfl
 ·cases first<;>cases cap<;>rfl
theorem ah{d:Option Nat}{t:Nat}{w:Bool}{f:zz}{xs:List zz}:BU P T b (⟨d,some (t,w),.call false f xs⟩::r) kp k Q s=(GM s.env (some (t,w))/\(Bh s.env (some (t,w))=true->(lk s.env f).1=true/\C6 s.env xs/\L9 P (xs.map (AX s.env)) s.H s.n (BV P T b d r kp k Q s) (Og P T b d r kp k Q s) (AX s.env f))/\
  (Bh s.env (some (t,w))=false->BU P T b r kp k Q (s.put d false (.tup [])))):=by
 simp only[BU,E5,Bd,Ae,BP,C6,Io.opds,ud];refine congrArg (λz=>GM s.env (some (t,w))/\(Bh s.env (some (t,w))=true->(lk s.env f).1=true/\C6 s.env xs/\z)/\(Bh s.env (some (t,w))=false->BU P T b r kp k Q (s.put d false (.tup [])))) ?_;generalize AX s.env f=v;cases v<;>try rfl
 rename_i ff first cap
 cases ff<;>try rfl
 ·refine congrArg (AV P _ _ s.H s.n) ?_;funext o H' n';cases o<;>rfl
 ·cases first<;>cases cap<;>rfl
theorem r_app{d:Option Nat}{rel esz bytes:Nat}{x y:zz}{str:Bool}:BU P T b (⟨d,none,.app rel esz bytes x y str⟩::r) kp k Q s=((lk s.env x).1=true/\(lk s.env y).1=true/\(IN s.H (b+rel) esz bytes (AX s.env x) (CD s.H (AX s.env) esz y str)).1/\
  BU P T b r kp k Q ({s with H:=(IN s.H (b+rel) esz bytes (AX s.env x) (CD s.H (AX s.env) esz y str)).2.1}.put d true (IN s.H (b+rel) esz bytes (AX s.env x) (CD s.H (AX s.env) esz y str)).2.2)):=by
 simp only[BU,E5,Bd];rw[SF,Qs]
theorem r_slA{d:Option Nat}{n:Nat}{x:zz}{lo hi:Option zz}:BU P T b (⟨d,none,.slA n x lo hi⟩::r) kp k Q s=(C6 s.env (x::(lo.toList++hi.toList))/\Cs (AX s.env) lo/\Cs (AX s.env) hi/\(JZ s.H n (bnd (AX s.env) 0 lo) (bnd (AX s.env) n hi) (AX s.env x)).1/\
  BU P T b r kp k Q ({s with H:=(JZ s.H n (bnd (AX s.env) 0 lo) (bnd (AX s.env) n hi) (AX s.env x)).2.1}.put d true (JZ s.H n (bnd (AX s.env) 0 lo) (bnd (AX s.env) n hi) (AX s.env x)).2.2)):=by
 simp only[BU,E5,Bd];rw[Z6,V8]
theorem r_mks{d:Option Nat}{rel esz bytes:Nat}{z:Fs}{x:zz}:BU P T b (⟨d,none,.mks rel esz bytes z x⟩::r) kp k Q s=((lk s.env x).1=true/\(UY s.H (b+rel) esz bytes z (AX s.env x)).1/\
  BU P T b r kp k Q ({s with H:=(UY s.H (b+rel) esz bytes z (AX s.env x)).2.1}.put d true (UY s.H (b+rel) esz bytes z (AX s.env x)).2.2)):=by
 simp only[BU,E5,Bd,Ae,GM,Bh,BP,C6,Io.opds,UY,tL,tE,seval,tY,uo,ud]
theorem rx_v{d:Option Nat}{o:xx}:A8 P T b cx ((0,⟨d,none,.v o⟩)::rx) kp k Q s=(C6 s.env o.opds/\(Bb s.H (AX s.env) o).1/\A8 P T b cx rx kp k Q (s.put d true (Bb s.H (AX s.env) o).2)):=by
 simp only[A8,De,Bd,Bp,FC,uD,tL];exact NK
theorem Sw{g:Option (Nat×Bool)}:A8 P T b cx ((m,⟨d,g,.v o⟩)::rx) kp k Q s=((Bh s.env g=true->Bp b cx (AX s.env) m (.v o))/\Ae P (λv H n=>Cl P T Q k (.pan v) ⟨[],H,n⟩) b ⟨d,g,.v o⟩ (De P T (λv H n=>Cl P T Q k (.pan v) ⟨[],H,n⟩) b cx rx λs'=>Cl P T Q k .normal (s'.keep kp)) s):=by
 simp only[A8,De,Bd,Vm,tL]
theorem oT{d:Option Nat}{sz:Nat}{ag:Bool}{x:zz}:A8 P T b cx ((2,⟨d,none,.v (.ld sz ag x)⟩)::rx) kp k Q s=(fA (AX s.env x)/\(lk s.env x).1=true/\(A7 s.H sz ag (AX s.env x)).1/\A8 P T b cx rx kp k Q (s.put d true (A7 s.H sz ag (AX s.env x)).2)):=by
 rw[Sw,NK];simp only[Bh,tE,C6,xx.opds,Bb,uo];rfl
theorem MA{zero:Fs}{K:AB->Fs->Prop}{x:Option (List Fs)}:FW H id esz bytes zero (λH' v'=>QY H H'/\K H' v') v x=FW H id esz bytes zero K v x:=by
 refine propext ⟨λh=>Lr (λ_ _ q=>q.2) h,λh=>?_⟩;have new:∀{l:List Fs},AD H id=none->QY H (hset H id (.arr esz l)):=λh0 i cs hi=>by
  rw[AA _ _ _ _ (λe=>by subst e;rw[h0]at hi;cases hi)];exact hi
 unfold FW at h⊢;split at h
 ·obtain⟨a1,a2,a3,a4,a5,a6,a7,a8⟩:=h;exact⟨a1,a2,a3,a4,a5,a6,λe=>⟨λ_ _ q=>q,a7 e⟩,λe c hc=>⟨new a1,a8 e c hc⟩⟩
 ·rename_i i0 e off len cap l';obtain⟨a1,a2,a3,a4,a5,a6,a7,a8⟩:=h;refine⟨a1,a2,a3,a4,a5,a6,a7,?_⟩;split at a8
  ·rename_i e' l hh;obtain⟨b1,b2,b3,b4,b5⟩:=a8;refine⟨b1,b2,b3,λq=>⟨λi cs hi=>?_,b4 q⟩,λq c hc=>⟨new a1,b5 q c hc⟩⟩;rw[AA _ _ _ _ (λe=>by subst e;rw[hh]at hi;cases hi)];exact hi
  ·exact a8
 ·exact h
theorem UZ{g:Option (Nat×Bool)}:A8 P T b cx ((m,⟨d,g,.st sz a x⟩)::rx) kp k Q s=((Bh s.env g=true->Bp b cx (AX s.env) m (.st sz a x))/\Ae P (λv H n=>Cl P T Q k (.pan v) ⟨[],H,n⟩) b ⟨d,g,.st sz a x⟩ (De P T (λv H n=>Cl P T Q k (.pan v) ⟨[],H,n⟩) b cx rx λs'=>Cl P T Q k .normal (s'.keep kp)) s):=by
 simp only[A8,De,Bd,SA,tL]
theorem rx_v1{d:Option Nat}{sz:Nat}{ag:Bool}{x:zz}:A8 P T b cx ((1,⟨d,none,.v (.ld sz ag x)⟩)::rx) kp k Q s=(G1 b (AX s.env x)/\(lk s.env x).1=true/\(A7 s.H sz ag (AX s.env x)).1/\A8 P T b cx rx kp k Q (s.put d true (A7 s.H sz ag (AX s.env x)).2)):=by
 rw[Sw,NK];simp only[Bh,tE,C6,xx.opds,Bb,uo];rfl
theorem oU{d:Option Nat}{sz:Nat}{a x:zz}:A8 P T b cx ((2,⟨d,none,.st sz a x⟩)::rx) kp k Q s=(JB b (AX s.env a)/\(lk s.env a).1=true/\(lk s.env x).1=true/\nT (AX s.env x)/\(AX s.env x).cells.length=sz/\(Qr s.H sz (AX s.env x) (AX s.env a)).1/\A8 P T b cx rx kp k Q ({s with H:=(Qr s.H sz (AX s.env x) (AX s.env a)).2}.put d true (.tup []))):=by
 rw[UZ,Mc,Nq];simp only[Bh,tE];rfl
theorem rx_vK{d:Option Nat}{m sz:Nat}{ag:Bool}{x:zz}:A8 P T b cx ((m+3,⟨d,none,.v (.ld sz ag x)⟩)::rx) kp k Q s=(PW b cx m (AX s.env x)/\(lk s.env x).1=true/\(A7 s.H sz ag (AX s.env x)).1/\A8 P T b cx rx kp k Q (s.put d true (A7 s.H sz ag (AX s.env x)).2)):=by
 rw[Sw,NK];simp only[Bh,tE,C6,xx.opds,Bb,uo];rfl
theorem oV{d:Option Nat}{m sz:Nat}{a x:zz}:A8 P T b cx ((m+3,⟨d,none,.st sz a x⟩)::rx) kp k Q s=(PW b cx m (AX s.env a)/\(lk s.env a).1=true/\(lk s.env x).1=true/\nT (AX s.env x)/\(AX s.env x).cells.length=sz/\(Qr s.H sz (AX s.env x) (AX s.env a)).1/\A8 P T b cx rx kp k Q ({s with H:=(Qr s.H sz (AX s.env x) (AX s.env a)).2}.put d true (.tup []))):=by
 rw[UZ,Mc,Nq];simp only[Bh,tE];rfl
theorem rx_vg{d:Option Nat}{t:Nat}{w:Bool}{o:xx}:A8 P T b cx ((0,⟨d,some (t,w),.v o⟩)::rx) kp k Q s=(GM s.env (some (t,w))/\(Bh s.env (some (t,w))=true->C6 s.env o.opds/\(Bb s.H (AX s.env) o).1)/\A8 P T b cx rx kp k Q (s.put d (Bh s.env (some (t,w))) (Bb s.H (AX s.env) o).2)):=by
 simp only[A8,De,Bd,Bp,FC,uD,tL];exact Mb
theorem oW{d:Option Nat}{t m sz:Nat}{w ag:Bool}{x:zz}:A8 P T b cx ((m+3,⟨d,some (t,w),.v (.ld sz ag x)⟩)::rx) kp k Q s=((Bh s.env (some (t,w))=true->PW b cx m (AX s.env x))/\GM s.env (some (t,w))/\(Bh s.env (some (t,w))=true->C6 s.env [x]/\(Bb s.H (AX s.env) (.ld sz ag x)).1)/\A8 P T b cx rx kp k Q (s.put d (Bh s.env (some (t,w))) (Bb s.H (AX s.env) (.ld sz ag x)).2)):=by
 rw[Sw,Mb];rfl
theorem fh{d:Option Nat}{x y z:zz}:A8 P T b cx ((0,⟨d,none,.pick x y z⟩)::rx) kp k Q s=((lk s.env x).1=true/\J3 (AX s.env x)/\(Fg (AX s.env x)=true->(lk s.env y).1=true)/\(Fg (AX s.env x)=false->(lk s.env z).1=true)/\A8 P T b cx rx kp k Q (s.put d true (Lq (Fg (AX s.env x)) (AX s.env y) (AX s.env z)))):=by
 simp only[A8,De,Bd,Bp,FC,uD,tL];exact Pa
theorem ai{d:Option Nat}{rel:Nat}{cs:List Fs}:A8 P T b cx ((0,⟨d,none,.alloc rel cs⟩)::rx) kp k Q s=(AD s.H (b+rel)=none/\A8 P T b cx rx kp k Q ({s with H:=hset s.H (b+rel) (.box cs)}.put d true (.ptr (b+rel) 0))):=by
 simp only[A8,De,Bd,Bp,FC,uD,tL];exact NL
theorem oX{d:Option Nat}{f:zz}{xs:List zz}:A8 P T b cx ((0,⟨d,none,.cpu f xs⟩)::rx) kp k Q s=((lk s.env f).1=true/\C6 s.env xs/\(Of T (xs.map (AX s.env)) (AX s.env f)).1/\A8 P T b cx rx kp k Q (s.put d true (Of T (xs.map (AX s.env)) (AX s.env f)).2)):=by
 simp only[A8,De,Bd,GM,Bh,Bp,FC,uD,tL,tE,seval,tY,uo,ud]
theorem oY{d:Option Nat}{x:XOp}{xs:List zz}:A8 P T b cx ((0,⟨d,none,.ext x xs⟩)::rx) kp k Q s=(C6 s.env xs/\(xE b x s.H (xs.map (AX s.env))).1/\A8 P T b cx rx kp k Q ({s with H:=(xE b x s.H (xs.map (AX s.env))).2.1}.put d true (xE b x s.H (xs.map (AX s.env))).2.2)):=by
 simp only[A8,De,Bd,Bp,FC,uD,tL];exact SG
theorem fi{d:Option Nat}{f:zz}{xs:List zz}:A8 P T b cx ((0,⟨d,none,.call true f xs⟩)::rx) kp k Q s=((lk s.env f).1=true/\C6 s.env xs/\(GX T (xs.map (AX s.env)) s.H (AX s.env f)).1/\A8 P T b cx rx kp k Q (s.put d true (GX T (xs.map (AX s.env)) s.H (AX s.env f)).2)):=by
 simp only[A8,De,Bd,Bp,FC,uD,tL,GM,Bh,tE,ud]
theorem oZ{d:Option Nat}{rel esz bytes:Nat}{x y:zz}{str:Bool}:A8 P T b cx ((0,⟨d,none,.app rel esz bytes x y str⟩)::rx) kp k Q s=((lk s.env x).1=true/\(lk s.env y).1=true/\(IN s.H (b+rel) esz bytes (AX s.env x) (CD s.H (AX s.env) esz y str)).1/\
  A8 P T b cx rx kp k Q ({s with H:=(IN s.H (b+rel) esz bytes (AX s.env x) (CD s.H (AX s.env) esz y str)).2.1}.put d true (IN s.H (b+rel) esz bytes (AX s.env x) (CD s.H (AX s.env) esz y str)).2.2)):=by
 simp only[A8,De,Bd,Bp,FC,uD,tL];rw[SF,Qs]
def KM(P:Program)(T:Bc)(b:Nat)(cx:Nat->Fs)(d:Option Nat)(rx:List (Nat×xz))(kp:List Nat)(k:List Item)(Q:x6->AS->Prop)(s:AS)(H':AB)(v:Fs):Prop:=A8 P T b cx rx kp k Q ({s with H:=H'}.put d true v)
theorem fj{d:Option Nat}{rel esz bytes:Nat}{z:Fs}{x y:zz}{str:Bool}:A8 P T b cx ((2,⟨d,none,.appR rel esz bytes z x y str⟩)::rx) kp k Q s=((lk s.env x).1=true/\(lk s.env y).1=true/\
  JE s.H (b+rel) esz bytes z (KM P T b cx d rx kp k Q s) (AX s.env x) (CD s.H (AX s.env) esz y str)):=by
 simp only[A8,De,Bd,Bp,uD,tL];rw[Pb];simp only[Fh,Ns];rw[MA];rfl
theorem aj{m:Nat}{d:Option Nat}{f:zz}{xs:List zz}:A8 P T b cx ((m+3,⟨d,none,.call false f xs⟩)::rx) kp k Q s=((300000<=m/\m % 2=0)/\(lk s.env f).1=true/\C6 s.env xs/\L9 P (xs.map (AX s.env)) s.H s.n (FP P T b cx m d rx kp k Q s) (jb P T b cx m d rx kp k Q s) (AX s.env f)):=by
 simp only[A8,De,Bd,Ae,GM,Bh,BP,C6,Io.opds,Bp,tL,tE,seval,tY,uo,ud];refine congrArg (λz=>300000<=m/\m % 2=0/\(lk s.env f).1=true/\C6 s.env xs/\z) ?_;generalize AX s.env f=v;cases v<;>try rfl
 rename_i ff first cap
 cases ff<;>try rfl
 ·refine congrArg (AV P _ _ s.H s.n) ?_;funext o H' n';cases o with
  |ret v=>simp only[FP,Fh,Ns];rfl
  |pan v=>rfl
 ·cases first<;>cases cap<;>try rfl
  refine congrArg (CV P _ _ s.H s.n) ?_;funext o H' n';simp only[jb,Fh,Ns];rfl
theorem fk{env:List (Nat×Bool×Fs)}{n t:Nat}:Ty env n t=if 100000<=t then .ptr (n+(t-100000)) 0 else AX env (.t t):=rfl
theorem Sx{a:Fs}{H:AB}:ID a H H=True:=ra λ_ _ _=>rfl
theorem Ua{id off:Nat}{H:AB}{ob:xq}:ID (.ptr id off) H (hset H id ob)=True:=ra λi h _=>by
 rw[AA _ _ _ _ (λe=>h e)]
theorem Sy{id off:Nat}{H:AB}{a b:xq}:ID (.ptr id off) (hset H id a) (hset H id b)=True:=ra λi h _=>by
 rw[AA _ _ _ _ (λe=>h e),AA _ _ _ _ (λe=>h e)]
theorem r_pan{d:Option Nat}{x:zz}:BU P T b (⟨d,none,.pan x⟩::r) kp k Q s=((lk s.env x).1=true/\W6 (AX s.env x)/\Cl P T Q k (.pan (AX s.env x)) ⟨[],s.H,s.n⟩):=by
 simp only[BU,E5,Bd];exact Z5
end
theorem fo{T:Bc}(st:α->AS)(inv:α->Prop)(m:α->Nat)(a0:α)(h0:s=st a0)(hi:inv a0)
  (hs:∀a,inv a->ev P T c (λe s'=>match e with
   | .normal=>∃a',K3 (st a) s' (st a')/\inv a'/\m a'<m a
   |e=>Q e s') (st a)):ev P T (.loop c) Q s:=by
 classical
 let J:AS->Nat->Prop:=λs k=>∃a,s=st a/\inv a/\m a=k
 let μ:AS->Nat:=λs=>if hx:∃k,J s k then Classical.choose (Hj _ hx)else 0
 have hμ:∀s,(∃k,J s k)->J s (μ s)/\∀j,J s j->μ s<=j:=by
  intro s hx;have e:μ s=Classical.choose (Hj _ hx):=by simp only[μ];rw[dif_pos hx]
  rw[e];exact Classical.choose_spec (Hj _ hx)
 refine⟨λs=>∃k,J s k,μ,⟨_,a0,h0,hi,rfl⟩,?_⟩;intro s1 hx;obtain⟨⟨a,e1,i1,m1⟩,-⟩:=hμ s1 hx;have h:=hs a i1;rw[<-e1]at h;refine Fq c _ _ s1 (λe s' q=>?_) h;cases e with
 |normal=>
  obtain⟨a',w1,i2,m2⟩:=q;have hx':∃k,J (st a') k:=⟨_,a',rfl,i2,rfl⟩;have:=(hμ _ hx').2 _ ⟨a',rfl,i2,rfl⟩;exact⟨st a',w1,hx',zo⟩
 |_=>exact q
def lpQ(st:α->AS)(inv:α->Prop)(m:α->Nat)(a:α)(Q:x6->AS->Prop):x6->AS->Prop
 | .normal,s'=>∃a',K3 (st a) s' (st a')/\inv a'/\m a'<m a
 |e,s'=>Q e s'
def cX(st:α->AS)(inv:α->Prop)(m:α->Nat)(a:α)(s':AS):Prop:=∃a',K3 (st a) s' (st a')/\inv a'/\m a'<m a
section
variable {α:Type} {st:α->AS} {inv:α->Prop} {m:α->Nat} {a:α} {Q:x6->AS->Prop} {s:AS}
theorem lpQ_n:lpQ st inv m a Q .normal s=cX st inv m a s:=rfl
theorem lpQ_e{i:Nat}:lpQ st inv m a Q (.exit i) s=Q (.exit i) s:=rfl
theorem lpQ_r:lpQ st inv m a Q .ret s=Q .ret s:=rfl
theorem lpQ_p{v:Fs}:lpQ st inv m a Q (.pan v) s=Q (.pan v) s:=rfl
theorem cX.mk(a':α)(h:s=st a')(hi:inv a')(hm:m a'<m a):cX st inv m a s:=⟨a',.inl h.symm,hi,hm⟩
end
theorem AO{T:Bc}{k:List Item}(st:α->AS)(inv:α->Prop)(m:α->Nat)(a0:α)(h0:s=st a0)(hi:inv a0)
  (hs:∀a,inv a->Gm P T c [] (lpQ st inv m a (Cl P T Q k)) (st a)):Gm P T (.loop c) k Q s:=
 fo st inv m a0 h0 hi λa ha=>Fq c _ _ _ (λe s' q=>by cases e<;>exact q) (AJ (hs a ha))
theorem natE1{a b:Nat}:(a=a+b)=(b=0):=propext ⟨λh=>zo,λh=>zo⟩
theorem natE2{a b:Nat}:(a+b=a)=(b=0):=propext ⟨λh=>zo,λh=>zo⟩
theorem impA1{a b:Prop}:(a->a/\b)=(a->b):=propext ⟨λh x=>(h x).2,λh x=>⟨x,h x⟩⟩
theorem impA2{a b:Prop}:(a->b->a/\b)=True:=ra λx y=>⟨x,y⟩
def Sz(r:Fs):v8->AB->Nat->Prop:=λout _ _=>∃v,out= .ret v/\Wk v r
theorem Aw.mk{args:List Fs}(h1:unders 0 args)(h2:r.under 0)(h:AV P f args Ai 0 (Sz r)):Aw P f args r:=⟨h1,h2,h⟩
theorem od{r v:Fs}{H:AB}{n:Nat}:Sz r (.ret v) H n=Wk v r:=by
 simp only[Sz,v8.ret.injEq,exists_eq_left']
theorem fp{r v:Fs}{H:AB}{n:Nat}:Sz r (.pan v) H n=False:=by simp [Sz]
def g0:q8:=⟨λ_=>none,λ_ _=>none⟩
theorem ft{a b:Bool}:Wk (.bool a) (.bool b)=(a=b):=by
 refine propext ⟨λh=>?_,λh=>h▸Wk.refl _⟩;have:Value.bool a= .bool b:=h g0 (.bool a) rfl;cases this;rfl
theorem og{k k':IntKind}{a b:Int}:Wk (.int k a) (.int k' b)=(k=k'/\a=b):=by
 refine propext ⟨λh=>?_,λ⟨h1,h2⟩=>by rw[h1,h2];exact Wk.refl _⟩;have:Value.int k a= .int k' b:=h g0 (.int k a) rfl;cases this;exact⟨rfl,rfl⟩
theorem oh{a b:List UInt8}:Wk (.str a) (.str b)=(a=b):=by
 refine propext ⟨λh=>?_,λh=>h▸Wk.refl _⟩;have:Value.string ⟨a.toArray⟩= .string ⟨b.toArray⟩:=h g0 (.string ⟨a.toArray⟩) rfl;simpa using this
def AP(H:AB)(n:Nat):Prop:=∀id,n<=id->AD H id=none
theorem AP.nil:AP Ai n:=λ_ _=>rfl
theorem AP.lt{ob:xq}(h:AP H n)(ho:AD H id=some ob):id<n:=Nat.lt_of_not_le λhle=>by rw[h id hle]at ho;cases ho
theorem AP.hset{m:Nat}{ob:xq}(h:AP H n)(hn:n<=m)(p9:id<m):AP (hset H id ob) m:=λi hi=>by
 rw[AT,rj zo];exact h i zo
theorem AV.fresh{R:v8->AB->Nat->Prop}(hc:C7 P f)(h:AP H n->AV P f a H n R):AV P f a H n R:=
 ⟨hc,λg w vs r v=>(h λid p9=>by
  cases ho:AD H id with
  |none=>rfl
  |some ob=>have:=r.hd id ob ho;omega).2 g w vs r v⟩
def C5(H H':AB):Prop:=∀id ob,AD H id=some ob->AD H' id=some ob
theorem C5.refl(H:AB):C5 H H:=λ_ _ h=>h
theorem C5.new{i:Nat}{ob':xq}(hf:AP H n)(hi:n<=i)(h:C5 H H'):C5 H (hset H' i ob'):=λid ob ho=>by
 rw[AT,rj (by have:=hf.lt ho;omega)];exact h id ob ho
def Ub(H:AB)(r:Fs):v8->AB->Nat->Prop:=λout H' _=>(∃v,out= .ret v/\Wk v r)/\C5 H H'
theorem fu{H H':AB}{r v:Fs}{n:Nat}:Ub H r (.ret v) H' n=(Wk v r/\C5 H H'):=by
 simp only[Ub,v8.ret.injEq,exists_eq_left']
theorem Ao.of(hc:C7 P f)(hr:r.under n)(h:AP H n->AV P f a H n (Ub H r)):Ao P f a H n r:=by
 refine AV.fresh hc λhf=>?_
 refine AV.forget (R':=λout H' n'=>out= .ret r/\H'=H/\n'=n) (h hf) ?_;rintro o H' n' ⟨⟨v,rfl,hw⟩,hk⟩;refine⟨.ret r,H,⟨rfl,rfl,rfl⟩,⟨λid ob ho=>⟨hf.lt ho,⟨ob,hk id ob ho,ez.refl ob⟩,.inr ho⟩,λid h=>h⟩,hw,hr⟩
def Qt:List Nat->Bool
 |[]=>true
 |x::r=>!r.contains x&&Qt r
theorem MB:∀(l:List Nat),Qt l=true->l.Nodup
 |[],_=>vH
 |x::r,h=>by
  simp only[Qt,rl,tq,vq,sR]at h;exact ul.2 ⟨h.1,MB r h.2⟩
theorem Uc{env:List (Nat×Bool×Fs)}(h:(env.map (·.1)).Nodup):SB env env:=by
 suffices key:∀(l pre:List (Nat×Bool×Fs)),env=pre++l->SB env l from key env [] rfl
 intro l;induction l with
 |nil=>intro _ _;trivial
 |cons x l ih=>
  obtain⟨t,g,v⟩:=x;intro pre e;refine⟨⟨v,?_,Wk.refl v⟩,ih (pre++[(t,g,v)]) (by rw[e];simp)⟩;rw[e]at h⊢;have hp:∀(pre:List (Nat×Bool×Fs)),t∉pre.map (·.1)->BI (pre++(t,g,v)::l) t=some (g,v):=by
   intro pre;induction pre with
   |nil=>intro _;simp [BI]
   |cons y pre ih2=>simp_all [sw,sP,not_or,si,BI]<;>omega
  apply hp;intro hm;rw[rz,ug]at h;exact h.2.2 t hm t zw rfl
theorem cX.drop{st:α->AS}{inv:α->Prop}{m:α->Nat}{a:α}{s':AS}(a':α)(he:s'.env=(st a').env)(hH:(st a').H=(st a).H)(hn:(st a').n=(st a).n)(hd:Qt ((st a').env.map (·.1))=true)
  (c9:AP (st a).H (st a).n) (hk:C5 (st a).H s'.H) (hu:J4 (st a).n (st a').env) (hi:inv a') (hm:m a'<m a):cX st inv m a s':=by
 refine⟨a',.inr ⟨by rw[he];exact Uc (MB _ hd),.inr ⟨hn,?_,hu⟩⟩,hi,hm⟩;rw[hH];exact⟨λid ob ho=>⟨c9.lt ho,⟨ob,hk id ob ho,ez.refl ob⟩,.inr ho⟩,λid h=>h⟩
def tnil:Bc:=λ_ _ _=>(False,.tup [])
def AG(f0:FuncId)(sp:List Fs->AB->Prop×Fs)(T:Bc):Bc:=λf args H=>if f=f0 then sp args H else T f args H
theorem AH.tnil:AH P tnil:=λ_ _ _ _ h=>h.elim
theorem AH.add{T:Bc}(hT:AH P T){f0:FuncId}{sp:List Fs->AB->Prop×Fs}(h:∀args H n,(sp args H).1->Ao P f0 args H n (sp args H).2):AH P (AG f0 sp T):=by
 intro f args H n q;unfold AG at q⊢;split at q
 ·rename_i e;subst e;simpa using h args H n q
 ·rename_i e;simpa [e]using hT f args H n q
theorem AV.args{a':List Fs}{R:v8->AB->Nat->Prop}(h:AV P f a H n R)(hw:∀g vs,VRels g a' vs->VRels g a vs):AV P f a' H n R:=
 ⟨h.1,λg w vs r v=>h.2 g w vs r (hw g vs v)⟩
theorem Wk.sl{tok:w8}{e:Nat}(h:tok.esz=e\/l=[]):Wk (.sl tok l) (.sl (.none e) l):=by
 intro g v hv;rcases hv with⟨rfl,rfl,_⟩|⟨ht,b,o,cap,⟨sp,rfl,hsp⟩,hc,hs,hk⟩
 ·exact .inl ⟨rfl,rfl,zt⟩
 ·refine .inr ⟨zt,b,o,cap,⟨sp,rfl,hsp.imp id λq=>⟨q.1,.inr ⟨e,rfl⟩⟩⟩,hc,?_,zt⟩;rcases h with h|h
  ·rw[h]at hs;exact hs
  ·subst h;trivial
theorem Ay{f:α->Fs}(h:∀x,(f x).under n):∀(l:List α),unders n (l.map f)
 |[]=>trivial
 |x::l=>⟨h x,Ay h l⟩
end
end Go.AM
namespace Go.AM
open Go.Proofs Go.Lib
def gW(W:World):q8:=⟨λ_=>none,λb o=>W.cell? ⟨b,o,none⟩⟩
def oo{W:World}(h:Et (gW W))(hz:Gy W):x7 (gW W) Ai 0 W where
 σw:=λ_ _ _ h=>h
 obj:=λ_ _ h=>by simp [AD,Ai]at h
 dom:=λ_ _ h=>by simp [gW]at h
 hd:=λ_ _ h=>by simp [AD,Ai]at h
 ap:=λ_ _ _ _ _ _ _ h=>by simp [AD,Ai]at h
 un:=λ_ _ _ _ h=>by simp [AD,Ai]at h
 gl:=h
 gz:=hz
structure Grown(W W':World):Prop where
 os:W'.os=W.os
 tape:W'.tape=W.tape
 output:W'.output=W.output
 size:W.heap.size<=W'.heap.size
 old:∀(b:Nat) ob,W.heap[b]?=some ob->W'.heap[b]?=some ob
theorem Aw.calls{P:Program}{f:FuncId}{args:List Fs}{b:Bool}(h:Aw P f args (.bool b)){W:World}{vs:List Value}(hg:Et (gW W))(hgz:Gy W)(hv:VRels (gW W) args vs):
  Calls P f vs.toArray W λe W'=>e= .returned (.bool b)/\Grown W W':=by
 refine(h.2.2.2 (gW W) W vs (oo hg hgz) hv).mono ?_;rintro e W' ⟨g',out,H',n',⟨v,rfl,hw⟩,he,hR',-,ht⟩;cases e with
 |panicked c=>exact he.elim
 |outgrown=>exact he.elim
 |returned x=>
  have hx:AR g' (.bool b) x:=hw _ _ he;refine⟨by rw[show x= .bool b from hx],ht.os,ht.tape,ht.output,ht.size,λi ob hb=>?_⟩;have hk:=ht.kept i ob hb;cases ob<;>first|exact hk.resolve_left Eu|skip
  obtain⟨c',h1,h2,h3⟩:=hk;rw[h1];congr 2;exact Array.ext_getElem? λj=>h3 j Eu
def Grown.kept{W W':World}(h:Grown W W')(may:MemPlace->Prop):W.keptBut W' may:=by
 refine⟨h.os,h.output,λi hi=>?_⟩;have e:W'.heap[i]?=W.heap[i]?:=by
  obtain⟨ob,hb⟩:∃ob,W.heap[i]?=some ob:=⟨_,u0 hi⟩;rw[hb];exact h.old i ob hb
 rw[e];exact(World.keptBut_refl W may).2.2 i hi
def Grown.same{W W':World}(h:Grown W W'){p:MemPlace}(hp:p.block<W.heap.size):W.sameAt W' p:=by
 have e:∀b,b<W.heap.size->W'.heap[b]?=W.heap[b]?:=λb hb=>by
  obtain⟨ob,hb'⟩:∃ob,W.heap[b]?=some ob:=⟨_,u0 hb⟩;rw[hb'];exact h.old b ob hb'
 cases p with
 |cell b off=>simp only[World.sameAt,World.cell?];rw[e b hp]
 |map b=>exact e b hp
open Go.ChangeShapes in
def Ud{H:Type}{enc:TypeId×Value->H}{P:Program}{f:Func}{s:ChangeSpec}{apart fresh handsOn again:Bool}{W W':World}{args:Array Value}{v:Value}{ds gs:List (DataW H)}{before pa pv:List MemPlace}
  (hg:Grown W W') (hW:DataW.Whole enc P f.params.toList s.vars apart W args.toList ds gs before)
  (hres:∀(b:Nat) (sp:Nat->Bool) (hd:Bool),DataW.TrodAll enc P W' b sp hd f.resultTypes.toList (v.resultList f.resultTypes.size) (s.fn H (ds++gs)).results [])
  (hargs:∀sp:Nat->Bool,(∀p∈before,sp p.block=true)->DataW.TrodAll enc P W' 0 sp true f.params.toList args.toList (s.fn H (ds++gs)).args pa)
  (hvars:∀sp:Nat->Bool,(∀p∈before,sp p.block=true)->DataW.TrodVars enc P W' sp s.vars (s.fn H (ds++gs)).vars pv)
  (hps:before=pa++pv)
  (s7:∀(j:Nat) (t:TypeId) (r:Value),f.resultTypes[j]?=some t->(v.resultList f.resultTypes.size)[j]?=some r->Value.okWide P W' .any 0 t r):
  s.post enc P f apart fresh handsOn again W args v W':=by
 have c9:=hW.lt;have hold:∀p∈before,(λb=>decide (b<W.heap.size)) p.block=true:=λp hp=>by simpa using c9 p hp
 refine⟨ds,gs,before,[],pa,pv,hW,hres _ _ _,hargs _ hold,hvars _ hold,hg.kept _,λ_=>?_⟩;obtain⟨_,_,_,_,_,hz,hn⟩:=hW;refine⟨s7,_,_,([]++pa)++pv,⟨[]++pa,pv,trodAll_append (hargs _ (λ_ _=>rfl)) (hres _ _ _),hvars _ (λ_ _=>rfl),rfl,?_,?_⟩,?_⟩
 ·intro b off hp;have hp':MemPlace.cell b off∈before:=by rw[hps];simpa using hp
  have hb:b<W.heap.size:=c9 _ hp';have e:W'.heap[b]?=W.heap[b]?:=by
   obtain⟨ob,hb'⟩:∃ob,W.heap[b]?=some ob:=⟨_,u0 hb⟩;rw[hb'];exact hg.old b ob hb'
  have:=hz b off hp';simp only[World.frozen?]at this⊢;rw[e];exact this
 ·simp_all
 ·intro p hp _;rw[hps];simpa using hp
open Go.ChangeShapes in
theorem MC{H:Type}{enc:TypeId×Value->H}{P:Program}{W W':World}(hg:Grown W W'){b:Nat}{sp:Nat->Bool}{hd:Bool}:∀{ts:List TypeId} {vs:List Value} {ds:List (DataW H)} {ps:List MemPlace},
  DataW.TrodAll enc P W b sp hd ts vs ds ps->(∀p∈ps,p.block<W.heap.size)->DataW.TrodAll enc P W' b sp hd ts vs ds ps
 |[],vs,ds,ps,h,hp=>by
  obtain⟨rfl,rfl,rfl⟩:=trodAll_nil h;exact rfl
 |t::ts,vs,ds,ps,h,hp=>by
  obtain⟨v,vs1,d,ds1,a,c,rfl,rfl,rfl,h1,h2⟩:=trodAll_cons h;obtain⟨n,hn⟩:=h1;exact⟨a,c,⟨n,DataW.trod_carry n _ _ _ hn λp q=>hg.same (hp p (by simp [q]))⟩,MC hg h2 λp q=>hp p (by simp [q]),rfl⟩
inductive Sh where
 |bool
 |int (k:IntKind)
 |str
 |sl (e:Sh)
 |st (fs:List Sh)
mutual
def Sh.size:Sh->Nat
 | .st fs=>Sh.sizes fs
 |_=>1
def Sh.sizes:List Sh->Nat
 |[]=>0
 |s::r=>s.size+Sh.sizes r
end
mutual
def Sh.fits(P:Program):Sh->TypeId->Bool
 | .bool,t=>match P.underlying t with|some .bool=>true|_=>false
 | .int k,t=>match P.underlying t with|some (.int k')=>decide (k'=k)|_=>false
 | .str,t=>match P.underlying t with|some .string=>true|_=>false
 | .sl e,t=>match P.underlying t with|some (.slice u)=>P.cellsOf u==e.size&&decide (0<e.size)&&decide (0<P.bytesOf u)&&e.fits P u|_=>false
 | .st fs,t=>match P.underlying t with|some (.struct gs)=>P.cellsOf t==Sh.sizes fs&&Sh.fitsL P fs gs.toList 0|_=>false
def Sh.fitsL(P:Program):List Sh->List Field->Nat->Bool
 |[],[],_=>true
 |s::r,f::fs,o=>s.fits P f.type&&f.offset==o&&P.cellsOf f.type==s.size&&Sh.fitsL P r fs (o+s.size)
 |_,_,_=>false
end
def Sh.wrap:Sh->List Fs->Fs
 | .st _,as=>.agg as
 |_,as=>as.headD (.bool false)
mutual
def Sh.rd:Sh->List Fs->Prop
 | .bool,as=>∃b,as=[.bool b]
 | .int k,as=>∃n,as=[.int k n]/\(Lit.int k n).wf=true
 | .str,as=>∃s,as=[.str s]/\s.length<=reachBytes
 | .sl e,as=>∃l:List (List Fs),as=[.sl (.none e.size) (l.map e.wrap)]/\l.length<=reachBytes/\∀x∈l,e.rd x
 | .st fs,as=>Sh.rdL fs as
def Sh.rdL:List Sh->List Fs->Prop
 |[],as=>as=[]
 |s::r,as=>∃a b,as=a++b/\s.rd a/\Sh.rdL r b
end
mutual
theorem Sh.rd_length:∀(s:Sh) (as:List Fs),s.rd as->as.length=s.size
 | .bool,_,⟨_,h⟩=>by rw[h];rfl
 | .int _,_,⟨_,h,_⟩=>by rw[h];rfl
 | .str,_,⟨_,h,_⟩=>by rw[h];rfl
 | .sl _,_,⟨_,h,_⟩=>by rw[h];rfl
 | .st fs,as,h=>Sh.rdL_length fs as (by simpa only[Sh.rd]using h)
theorem Sh.rdL_length:∀(s:List Sh) (as:List Fs),Sh.rdL s as->as.length=Sh.sizes s
 |[],as,h=>by
  simp only[Sh.rdL]at h;subst h;rfl
 |s::r,as,h=>by
  simp only[Sh.rdL]at h;obtain⟨a,b,rfl,h1,h2⟩:=h;rw[sm,Sh.rd_length s a h1,Sh.rdL_length r b h2];rfl
end
def Gn{v:Value}(h:v.oneCell'=true):v.cells= #[v]:=by
 cases v<;>first|rfl|simp [Value.oneCell']at h
theorem Sh.elem{g:q8}(s:Sh){as:List Fs}{cs:List Value}(h:s.rd as)(hv:VRels g as cs)(h1:∀c∈cs,c.oneCell'=true):
  ∃v,AR g (s.wrap as) v/\F8 s.size v/\v.cells.toList=cs:=by
 have hl:=s.rd_length as h;have xf:=VRels.length _ _ hv;cases s with
 |st fs=>
  refine⟨.agg cs.toArray,⟨cs.toArray,rfl,by simpa using hv,by simpa using h1⟩,⟨by show cs.toArray.size=_;simp;omega,by simpa [Value.cells]using h1⟩,by simp [Value.cells]⟩
 |_=>
  match as,hl with
  |[a],_=>
   obtain⟨v,rest,rfl,k1,k2⟩:=hv;have k3:rest=[]:=k2;subst k3;have o:=h1 v zw;refine⟨v,k1,⟨by rw[Gn o];rfl,by rw[Gn o];simpa using o⟩,by rw[Gn o]⟩
section
variable {H:Type} {enc:TypeId×Value->H} {P:Program} {W:World} {base:Nat} {spare:Nat->Bool} {held:Bool}
open Go.ChangeShapes Go.WideShapes Go.ChangeAt Go.RowKit Go.WideElems Go.WideMaps Go.Joins
theorem WA{g:q8}{esz:Nat}{f:Nat->Option Value}:∀(l:List Fs) (o:Nat),(∀(i:Nat) e,l[i]?=some e->∃v,AR g e v/\F8 esz v/\∀(j:Nat) x,v.cells[j]?=some x->f (o+i*esz+j)=some x)->Stab g esz f o l
 |[],_,_=>trivial
 |e::l,o,h=>⟨by simpa using h 0 e rfl,WA l (o+esz) λi e' he=>by
   obtain⟨v,h1,h2,h3⟩:=h (i+1) e' (by simpa using he);exact⟨v,h1,h2,λj x hx=>by rw[<-h3 j x hx];congr 1;rw[Nat.succ_mul];omega⟩⟩
theorem Hm{H:Type}{P:Program}{e:TypeId}:∀{l:List (DataW H)} {d:DataW H},d∈l->∀k∈d.weights P e,k∈DataW.weightsAll P e l
 |[],d,h,_,_=>by cases h
 |y::r,d,h,k,hk=>by
  simp only[DataW.weightsAll,ti];rcases sP.1 h with rfl|h
  ·exact .inl hk
  ·exact .inr (Hm h k hk)
mutual
theorem Sh.reads(s:Sh)(t:TypeId)(cs:List Value)(n:Nat)(x:DataW H×List MemPlace)(hf:s.fits P t=true)
  (h:DataW.trod enc P W base spare held n t cs=some x) (hw:∀k∈x.1.weights P t,k<=reachBytes):∃as,s.rd as/\VRels (gW W) as cs/\∀c∈cs,c.oneCell'=true:=by
 match s,hf with
 | .bool,hf=>
  simp only[Sh.fits]at hf;split at hf
  ·rename_i ht;obtain⟨b,rfl,_⟩:=DataW.trod_bool ht h;exact⟨[.bool b],⟨b,rfl⟩,⟨_,_,rfl,rfl,rfl⟩,by simp [Value.oneCell']⟩
  ·cases hf
 | .int k,hf=>
  simp only[Sh.fits]at hf;split at hf
  ·rename_i k' ht;simp only[rn]at hf;subst hf;obtain⟨m,rfl,_,hw⟩:=DataW.trod_int ht h;exact⟨[.int k' m],⟨m,rfl,hw⟩,⟨_,_,rfl,rfl,rfl⟩,by simp [Value.oneCell']⟩
  ·cases hf
 | .str,hf=>
  simp only[Sh.fits]at hf;split at hf
  ·rename_i ht;obtain⟨b,rfl,rfl,hl⟩:=DataW.trod_string ht h;exact⟨[.str b.data.toList],⟨_,rfl,hw _ (by simp [DataW.weights])⟩,⟨_,_,rfl,by simp [AR],rfl⟩,by simp [Value.oneCell']⟩
  ·cases hf
 | .sl e,hf=>
  simp only[Sh.fits]at hf;split at hf
  ·rename_i u ht;simp only[rl,uY,rn]at hf;obtain⟨⟨⟨hc,hpos⟩,hby⟩,hfe⟩:=hf;rcases Go.Deep.open_slice ht h with⟨rfl,_⟩|⟨a,len,cap,m,n',D,Pl,rfl,_,hlen,hcap,hm,hx,hel⟩
   ·exact⟨[.sl (.none e.size) []],⟨[],rfl,zw,zw⟩,⟨_,_,rfl,.inl ⟨rfl,rfl,zt⟩,rfl⟩,by simp [Value.oneCell']⟩
   ·subst hx;simp only[DataW.weights,ht]at hw;have hlr:len<=reachBytes:=by
     have h1:=hw _ (sX ..);simp only[r9,uh]at h1;exact sO (tt len _) (sO (Nat.le_mul_of_pos_right _ hby) h1)
    have hwe:∀i,i<len->∀k∈(D i).weights P u,k<=reachBytes:=λi hi k hk=>
     hw k (tB _ (List.mem_append_left _ (Hm (t7.2 ⟨i,t9.2 hi,rfl⟩) k hk)))
    by_cases hl0:len=0
    ·subst hl0;obtain⟨b,o,sp⟩:=a;exact⟨[.sl (.none e.size) []],⟨[],rfl,zw,zw⟩,⟨_,_,rfl,.inr ⟨zt,b,o,cap,⟨sp,rfl,.inr ⟨rfl,.inr ⟨e.size,rfl⟩⟩⟩,rm _,zt,zt⟩,rfl⟩,by simp [Value.oneCell']⟩
    have hsp:a.spot=none:=by
     obtain⟨cs',h1,_⟩:=hel 0 (by rw[hm];split<;>omega);obtain⟨_,_,hcell⟩:=World.cells?_some h1;have yf:=hcell 0 (by rw[hc];exact hpos);rw[uI]at yf;have h2:cs'[0]?≠none:=by
      obtain⟨_,hl',_⟩:=World.cells?_some h1;rw[rc zo];simp
     obtain⟨y,hy⟩:=Option.ne_none_iff_exists'.1 h2;have:=World.cell?_spot (yf.trans hy);obtain⟨b,o,sp⟩:=a;exact this
    obtain⟨b,o,sp⟩:=a;have hsp':sp=none:=hsp;subst hsp';have hml:len<=m:=by rw[hm];split<;>omega
    have key:∀i,i<len->∃as,e.rd as/\∃v,AR (gW W) (e.wrap as) v/\F8 e.size v/\∀(j:Nat) y,v.cells[j]?=some y->(gW W).σ b (o+i*e.size+j)=some y:=by
     intro i hi;obtain⟨cs',h1,h2⟩:=hel i zo;obtain⟨_,hl',hcell⟩:=World.cells?_some h1;have hadd:∀j,((⟨b,o,none⟩:Addr).add (i*P.cellsOf u)).add j=⟨b,o+i*e.size+j,none⟩:=by
      intro j;rw[hc];unfold Addr.add;split<;>split<;>simp_all<;>omega
     have wz:∀j,j<e.size->W.cell? ⟨b,o+i*e.size+j,none⟩=cs'[j]?:=λj hj=>by
      rw[<-hadd j];exact hcell j (by rw[hc];exact hj)
     obtain⟨as,k1,k2,k3⟩:=Sh.reads e u cs' n' _ hfe h2 (hwe i hi);obtain⟨v,q1,q2,q3⟩:=e.elem k1 k2 k3;refine⟨as,k1,v,q1,q2,λj y hy=>?_⟩;have hy':cs'[j]?=some y:=by rw[<-q3];simpa using hy
     have hj:j<e.size:=by
      have:=(tA.1 hy').1;omega
     show W.cell? ⟨b,o+i*e.size+j,none⟩=some y;rw[wz j hj,hy']
    have hch:∃F:Nat->List Fs,∀i,i<len->e.rd (F i)/\∃v,AR (gW W) (e.wrap (F i)) v/\F8 e.size v/\∀(j:Nat) y,v.cells[j]?=some y->(gW W).σ b (o+i*e.size+j)=some y:=by
     refine⟨λi=>if hi:i<len then(key i hi).choose else[],λi hi=>?_⟩;simp only[hi,dif_pos];exact(key i hi).choose_spec
    obtain⟨F,hF⟩:=hch;refine⟨[.sl (.none e.size) (((List.range len).map F).map e.wrap)],⟨(List.range len).map F,rfl,by simpa using hlr,?_⟩,⟨_,_,rfl,.inr ⟨zt,b,o,cap,⟨none,zw,.inl rfl⟩,by simpa using hlen,?_,zt⟩,rfl⟩,by simp [Value.oneCell']⟩
    ·simp_all
    ·refine WA _ _ λi y hy=>?_
     rw[sb,sb]at hy;by_cases hi:i<len
     ·rw[vC hi]at hy;simp only[sU,Option.some.injEq]at hy;subst hy;exact(hF i hi).2
     ·rw[uj (by simp;omega)]at hy;simp at hy
  ·cases hf
 | .st fs,hf=>
  simp only[Sh.fits]at hf;split at hf
  ·rename_i gs ht;simp only[rl,uY]at hf;obtain⟨xs,m,_,hx,hl,hlen,xd⟩:=DataW.trod_struct ht h;subst hx;simp only[DataW.weights,ht]at hw;obtain⟨as,k1,k2,k3⟩:=Sh.readsL fs gs.toList 0 cs m (λf hfm=>by
    obtain⟨i,hi,he⟩:=List.getElem_of_mem hfm;have hfg:gs[i]?=some f:=by rw[<-he];simp at hi;simp [hi]
    have:=xd i f hfg;have w9:i<xs.length:=by rw[hlen];simpa using hi
    rw[rc w9]at this;exact⟨_,this,λk hk=>hw k (DataW.weights_mem_each (j:=i) (t:=f.type) (d:=xs[i].1) (by rw[sb,show gs.toList[i]?=some f by simpa using hfg];rfl) (by rw[sb,rc w9];rfl) k hk)⟩) hf.2 (by rw[hl,hf.1];simp)
   exact⟨as,by simpa only[Sh.rd]using k1,by simpa using k2,by simpa using k3⟩
  ·cases hf
theorem Sh.readsL(ss:List Sh)(fs:List Field)(o:Nat)(cs:List Value)(n:Nat)(hr:∀f∈fs,∃x,DataW.trod enc P W base spare held n f.type ((cs.drop f.offset).take (P.cellsOf f.type))=some x/\∀k∈x.1.weights P f.type,k<=reachBytes)(hf:Sh.fitsL P ss fs o=true)
  (hl:cs.length=o+Sh.sizes ss):∃as,Sh.rdL ss as/\VRels (gW W) as (cs.drop o)/\∀c∈cs.drop o,c.oneCell'=true:=by
 match ss,fs,hf with
 |[],[],hf=>
  refine⟨[],rfl,?_,?_⟩
  ·rw[ut (by simp [Sh.sizes]at hl;omega)];rfl
  ·rw[ut (by simp [Sh.sizes]at hl;omega)];simp
 |s::r,f::fs,hf=>
  simp only[Sh.fitsL,rl,uY]at hf;obtain⟨⟨⟨h1,h2⟩,h3⟩,h4⟩:=hf;obtain⟨x,hx,hxw⟩:=hr f zw;rw[h2,h3]at hx;have hsz:cs.length=o+(s.size+Sh.sizes r):=hl;obtain⟨a,k1,k2,k3⟩:=Sh.reads s f.type ((cs.drop o).take s.size) n x h1 hx hxw;obtain⟨b,q1,q2,q3⟩:=Sh.readsL r fs (o+s.size) cs n (λg hg=>hr g (by simp [hg])) h4 zo;have e:cs.drop o=(cs.drop o).take s.size++cs.drop (o+s.size):=by
   rw[<-List.drop_drop,List.take_append_drop]
  refine⟨a++b,⟨a,b,rfl,k1,q1⟩,by rw[e];exact VRels.append _ _ _ _ k2 q2,λc hc=>?_⟩;rw[e]at hc;rcases ti.1 hc with hc|hc
  ·exact k3 c hc
  ·exact q3 c hc
end
theorem Sh.arg(s:Sh){t:TypeId}{v:Value}{b0:Nat}(hf:s.fits P t=true)(hv:Value.okWide P W .any b0 t v){d:DataW H}{ps:List MemPlace}(h:DataW.Trod enc P W base spare held t v d ps)(hw:∀k∈d.weights P t,k<=reachBytes):
  ∃as,s.rd as/\AR (gW W) (s.wrap as) v:=by
 obtain⟨n,hn⟩:=h;obtain⟨as,h1,h2,h3⟩:=s.reads t v.cells.toList n _ hf hn hw;refine⟨as,h1,?_⟩;cases s with
 |st fs=>
  simp only[Sh.fits]at hf;split at hf
  ·rename_i gs ht;obtain⟨cs,rfl,_⟩:=okWide_struct ht hv;exact⟨cs,rfl,h2,h3⟩
  ·cases hf
 |_=>
  have hl:=Sh.rd_length _ _ h1
  match as,hl with
  |[a],_=>
   obtain⟨u,rest,hu,k1,k2⟩:=h2;have k3:rest=[]:=k2;subst k3;have o:=h3 u (by rw[hu];simp);have huv:v=u:=by
    simp only[Sh.fits]at hf;split at hf
    ·rename_i ht;first
      |(obtain⟨b,rfl⟩:=okWide_bool ht hv;simpa [Value.cells]using hu)
      |(obtain⟨b,rfl⟩:=okWide_int ht hv;simpa [Value.cells]using hu)
      |(obtain⟨b,rfl⟩:=okWide_string ht hv;simpa [Value.cells]using hu)
      |(obtain⟨b,l,c,rfl⟩:=okWide_slice ht hv;simpa [Value.cells]using hu)
    ·cases hf
   subst huv;exact k1
open Go.ChangeShapes in
theorem MD:∀{ts:List TypeId} {vs:List Value} {ds:List (DataW H)} {ps:List MemPlace},DataW.TrodAll enc P W base spare held ts vs ds ps->vs.length=ts.length/\ds.length=ts.length
 |[],_,_,_,h=>by
  obtain⟨rfl,rfl,_⟩:=trodAll_nil h;exact⟨rfl,rfl⟩
 |_::_,_,_,_,h=>by
  obtain⟨v,vs1,d,ds1,a,b,rfl,rfl,rfl,_,h2⟩:=trodAll_cons h;have:=MD h2;simp [this.1,this.2]
def Sh.rdA:List Sh->List Fs->Prop
 |[],as=>as=[]
 |s::r,as=>∃x b,as=s.wrap x::b/\s.rd x/\Sh.rdA r b
def Sh.fitsA(P:Program):List Sh->List TypeId->Bool
 |[],[]=>true
 |s::r,t::ts=>s.fits P t&&Sh.fitsA P r ts
 |_,_=>false
open Go.ChangeShapes in
theorem Sh.args{b0:Nat}:∀(ss:List Sh) (ts:List TypeId) (vs:List Value) (ds:List (DataW H)) (ps:List MemPlace),Sh.fitsA P ss ts=true->
  (∀(j:Nat) t v,ts[j]?=some t->vs[j]?=some v->Value.okWide P W .any b0 t v)->DataW.TrodAll enc P W base spare held ts vs ds ps->(∀(j:Nat) t d,ts[j]?=some t->ds[j]?=some d->∀k∈d.weights P t,k<=reachBytes)->∃as,Sh.rdA ss as/\VRels (gW W) as vs
 |[],[],vs,ds,ps,_,_,h,_=>by
  obtain⟨rfl,rfl,rfl⟩:=trodAll_nil h;exact⟨[],rfl,rfl⟩
 |s::r,t::ts,vs,ds,ps,hf,hv,h,hw=>by
  obtain⟨v,vs1,d,ds1,a,c,rfl,rfl,rfl,h1,h2⟩:=trodAll_cons h;simp only[Sh.fitsA,rl]at hf;have hv0:=hv 0 t v rfl rfl;obtain⟨x,k1,k2⟩:=s.arg hf.1 hv0 h1 (hw 0 t d rfl rfl);obtain⟨b,q1,q2⟩:=Sh.args r ts vs1 ds1 _ hf.2 (λj t' v' e1 e2=>hv (j+1) t' v' e1 e2) h2 (λj t' d' e1 e2=>hw (j+1) t' d' e1 e2);exact⟨_,⟨x,b,rfl,k1,q1⟩,_,_,rfl,k2,q2⟩
 |[],_::_,_,_,_,hf,_,_,_=>by cases hf
 |_::_,[],_,_,_,hf,_,_,_=>by cases hf
open Go.ChangeShapes in
theorem Ue{f:FuncId}{fn:Func}{s:ChangeSpec}{apart fresh handsOn again:Bool}{args:Array Value}{ds gs:List (DataW H)}{before:List MemPlace}{b0:Nat}{tb:TypeId}(ss:List Sh)
  (hval:∀(j:Nat) t v,fn.params[j]?=some t->args[j]?=some v->Value.okWide P W .any b0 t v)
  (hW:DataW.Whole enc P fn.params.toList s.vars apart W args.toList ds gs before)
  (hwt:(DataW.weightsEach P (fn.params.toList++s.plain.varTypes P) (ds++gs)).all (· <=reachBytes)=true)
  (hvars:s.vars=[]) (hspec:∀ds:List (DataW H),ds.length=ss.length->s.fn H ds={results:=[.lit (.bool true)],args:=ds,vars:=[]})
  (hfit:Sh.fitsA P ss fn.params.toList=true)
  (hres:fn.resultTypes= #[tb]) (htb:P.underlying tb=some .bool)
  (hk:laidOutB P=true) (hm:mapsRowed P=true) (hfull:((List.range P.types.size).all λt=>match P.underlying t with|some (.slice e)=>decide (0<P.cellsOf e)|_=>true)=true)
  (hts:(fn.params.toList.all λt=>decide (t<P.types.size))=true)
  (hg:Et (gW W)) (hgz:Gy W) (hpur:∀as,Sh.rdA ss as->VRels (gW W) as args.toList->Aw P f as (.bool true)):
  Calls P f args W λe W'=>∃v,e= .returned v/\s.post enc P fn apart fresh handsOn again W args v W':=by
 have hW':=hW;obtain⟨p,q,hA,hV,rfl,hfz,hnd⟩:=hW;rw[hvars]at hV;obtain⟨rfl,rfl⟩:=trodVars_none hV;simp only[sE]at hW';have hlen:=MD hA;have hwd:∀(j:Nat) t d,fn.params.toList[j]?=some t->ds[j]?=some d->∀k∈d.weights P t,k<=reachBytes:=λj t d h1 h2 k hk=>by
  have l1:j<fn.params.toList.length:=(tA.1 h1).1;have l2:j<ds.length:=(tA.1 h2).1;simpa using sg.1 hwt k (DataW.weights_mem_each (j:=j) (t:=t) (d:=d) (by rw[tu l1];exact h1) (by rw[tu l2];exact h2) k hk)
 have xn:ss.length=fn.params.toList.length:=by
  clear hpur hspec hval hW' hlen hA hts hwd hwt;generalize fn.params.toList=ts at hfit;induction ss generalizing ts with
  |nil=>cases ts<;>first|rfl|cases hfit
  |cons s r ih=>
   cases ts with
   |nil=>cases hfit
   |cons t ts=>simp only[Sh.fitsA,rl]at hfit;simp [ih ts hfit.2]
 have hsp:=hspec ds (by rw[hlen.2,xn]);have hspn:s.fn H (ds++[])={results:=[.lit (.bool true)],args:=ds,vars:=[]}:=by rw[sE];exact hsp
 obtain⟨as,h1,h2⟩:=Sh.args ss _ _ _ _ hfit (λj t v e1 e2=>hval j t v (by simpa using e1) (by simpa using e2)) hA hwd;have c9:=hW'.lt;refine((hpur as h1 h2).calls hg hgz h2).mono ?_;rintro e W' ⟨rfl,hgr⟩;have s7:Value.okWide P W' .any 0 tb (.bool true):=by simp [Value.okWide,htb,Cell.okWide,Cell.ok]
 refine⟨_,rfl,Ud (pa:=p) (pv:=[]) hgr hW' (λb sp hd=>?_) (λsp hsp'=>?_) (λ_ _=>?_) zw ?_⟩
 ·rw[hspn,hres];exact trodAll_mk1 ⟨1,by simp [DataW.trod,Value.cells,htb]⟩
 ·rw[hspn];refine MC hgr (DataW.TrodAll.respare (T:=(· <P.types.size)) (kids_rows hk hm) (slices_full_of P hfull) (λt ht=>by simpa using sg.1 hts t ht) hA hsp') λy hy=>c9 y hy
 ·rw[hspn,hvars];exact rfl
 ·rw[hres];intro j t r e1 e2
  match j,e1,e2 with
  |0,e1,e2=>simp_all [Value.resultList]
  |j+1,e1,e2=>simp at e1
theorem Xi{f:FuncId}{fn:Func}{s:ChangeSpec}{apart fresh handsOn again:Bool}{args:Array Value}{ds gs:List (DataW H)}{before:List MemPlace}{b0:Nat}{tb:TypeId}(ss:List Sh)
  (hval:∀(j:Nat) t v,fn.params[j]?=some t->args[j]?=some v->Value.okWide P W .any b0 t v)
  (hW:DataW.Whole enc P fn.params.toList s.vars apart W args.toList ds gs before)
  (hwt:(DataW.weightsEach P (fn.params.toList++s.plain.varTypes P) (ds++gs)).all (· <=reachBytes)=true)
  (hvars:s.vars=[]) (hspec:∀ds:List (DataW H),ds.length=ss.length->s.fn H ds={results:=[.lit (.bool true)],args:=ds,vars:=[]})
  (hfit:Sh.fitsA P ss fn.params.toList=true)
  (hres:fn.resultTypes= #[tb]) (htb:P.underlying tb=some .bool)
  (hk:laidOutB P=true) (hm:mapsRowed P=true) (hfull:((List.range P.types.size).all λt=>match P.underlying t with|some (.slice e)=>decide (0<P.cellsOf e)|_=>true)=true)
  (hts:(fn.params.toList.all λt=>decide (t<P.types.size))=true)
  (hg:Et (gW W)) (hgz:Gy W) (hpur:∀as,Sh.rdA ss as->Aw P f as (.bool true)):
  Calls P f args W λe W'=>∃v,e= .returned v/\s.post enc P fn apart fresh handsOn again W args v W':=
 Ue ss hval hW hwt hvars hspec hfit hres htb hk hm hfull hts hg hgz λas h _=>hpur as h
end
end Go.AM
namespace Go.AM
open Go.Lib Go.Proofs Go.RowKit
def Nt{g:q8}{w w':World}(h:x7 g Ai 0 w)(hb:Below w.heap.size w w'):x7 g Ai 0 w' where
 σw:=λb o v e=>by
  have h1:=h.σw b o v e;have h2:b<w.heap.size:=Lib.lt_of_cell (a:=⟨b,o,none⟩) h1;exact(hb.cell (p:=⟨b,o,none⟩) h2).trans h1
 obj:=λ_ _ h=>by simp [AD,Ai]at h
 dom:=λid L e=>absurd ((h.dom id L e).1) (by simp [AD,Ai])
 hd:=λ_ _ h=>by simp [AD,Ai]at h
 ap:=λ_ _ _ _ _ _ _ h=>by simp [AD,Ai]at h
 un:=λ_ _ _ _ h=>by simp [AD,Ai]at h
 gl:=h.gl
 gz:=h.gz.kept (own:=λ_ _=>False) (λb ob e=>by
  have h2:b<w.heap.size:=(sF.1 e).1;rw[hb.block b h2,e];exact JO.same _ _)
def LJ{g:q8}{w w':World}(hb:Below w.heap.size w w'):q9 0 g Ai w g Ai w' where
 le:=.refl g
 βn:=λ_ _ h=>.inl h
 os:=hb.os
 tape:=hb.tape
 output:=hb.output
 size:=hb.size
 kept:=λb ob e=>by
  have h2:b<w.heap.size:=(sF.1 e).1;rw[hb.block b h2,e];exact JO.same _ _
 now:=λ_ _ _ h=>h
 nσ:=λ_ _ _ _ h=>.inl h
def KN{P:Program}{f:FuncId}{args:List Fs}{r:Fs}(hc:C7 P f)(hu:unders 0 args)(hr:r.under 0)
  (h:∀g w vs,x7 g Ai 0 w->VRels g args vs->Calls P f vs.toArray w λe w'=>(∃v,e= .returned v/\AR g r v)/\Below w.heap.size w w'):Aw P f args r:=by
 refine⟨hu,hr,hc,λg w vs hR hv=>(h g w vs hR hv).mono ?_⟩;rintro e w' ⟨⟨v,rfl,hv⟩,hb⟩;exact⟨g,.ret r,Ai,0,⟨r,rfl,.refl r⟩,hv,Nt hR hb,rq 0,LJ hb⟩
section
variable {P:Program} {T:Bc} {Q:x6->AS->Prop} {k:List Item} {s:AS} {x y:z8}
def Px(P:Program)(T:Bc)(x y:z8)(k:List Item)(Q:x6->AS->Prop)(s:AS):Bool->Prop
 |true=>Gm P T x k Q s
 |false=>Gm P T y k Q s
theorem fw{c:zz}:Gm P T (.cond c x y) k Q s=((lk s.env c).1=true/\J3 (AX s.env c)/\Px P T x y k Q s (Fg (AX s.env c))):=by
 rw[IP];cases Fg (AX s.env c)<;>simp [Px]
theorem cK_t:Px P T x y k Q s true=Gm P T x k Q s:=rfl
theorem cK_f:Px P T x y k Q s false=Gm P T y k Q s:=rfl
theorem oq{b:Bool}:Px P T x y k Q s b=((b=true->Gm P T x k Q s)/\(b=false->Gm P T y k Q s)):=by
 cases b<;>simp [Px]
end
def sel_t{x y:Fs}:Lq true x y=x:=by cases x<;>cases y<;>rfl
def sel_f{x y:Fs}:Lq false x y=y:=by cases x<;>cases y<;>rfl
theorem ou{b x y:Bool}:Lq b (.bool x) (.bool y)= .bool (bif b then x else y):=rfl
def eX:=(⟨@oT, @fA.eq_1, @fj, @aj, @oZ, @fk, @Ua, @EW.eq_1, @EW.eq_2, @oK, @oL, @oM, @Sy⟩:_/\_/\_/\_/\_/\_/\_/\_/\_/\_/\_/\_/\_)
abbrev A{a b:Prop}(x:a)(y:b):a/\b:=⟨x,y⟩
def eN:=A @GH @Sv
def eC:=A @Sx<|A @oY<|A (A (A @fw (A @cK_t @cK_f)) (A @sel_t (A @sel_f @ou))) (A (A @oN @Nr.eq_1) (A (A @Nr.eq_2 @Nr.eq_3) (A (A @Nr.eq_4 (A @Nr.eq_5 @Nr.eq_6)) (A (A @r_cpu @oX) (A @Of.eq_1 (A @PV @r_mnx))))))
def eE:=A @Gh.eq_1<|A @Gh.eq_2<|A (A (A (A (A (A (A (A @Sv @oC) (A @oD (A @oE @fR))) (A (A @fS @fT) (A @fU (A @oF @oG)))) (A (A (A @k_ret @k_seq) (A @fV (A @k_reg @oH))) (A (A @oI (A @k_frz @oJ)) (A @r_ext (A @oP @r_nil))))) (A (A (A (A @oQ @r_v) (A @r_vg (A @oR @fY))) (A (A @fZ @r_box) (A @r_st (A @oS @fb)))) (A (A (A @fe @ah) (A @r_app (A @r_slA @r_mks))) (A (A @r_pan (A @rx_v @rx_v1)) (A @oU (A @rx_vK @oV)))))) (A (A (A (A (A @rx_vg @oW) (A @fh (A @ai @fi))) (A (A @Qr.eq_1 @Qr.eq_2) (A @Qr.eq_3 (A @IN.eq_1 @IN.eq_2)))) (A (A (A @JZ.eq_1 @JZ.eq_2) (A @UY.eq_1 (A @LH.eq_1 @Hl.eq_1))) (A (A @GX.eq_1 (A @GX.eq_2 @L9.eq_1)) (A @L9.eq_2 (A @L9.eq_3 @AG.eq_1))))) (A (A (A (A @lpQ_n @lpQ_e) (A @lpQ_r (A @lpQ_p @G5.eq_1))) (A (A @G5.eq_2 (A @Dp.eq_1 @Dp.eq_2)) (A @Dp.eq_3 (A @Dp.eq_4 @L5.eq_1)))) (A (A (A @L5.eq_2 @oA.eq_1) (A @oA.eq_2 (A @X5.eq_1 @X5.eq_2))) (A (A @GM.eq_1 (A @GM.eq_2 @Bh.eq_1)) (A @Bh.eq_2 (A @BI.eq_1 @BI.eq_2))))))) (A (A (A (A (A (A @lk.eq_1 @lk.eq_2) (A @AX.eq_1 (A @C6.eq_1 @C6.eq_2))) (A (A @AS.put.eq_1 @AS.put.eq_2) (A @AS.keep.eq_1 (A @Bb.eq_1 @Bb.eq_2)))) (A (A (A @Bb.eq_3 @Bb.eq_4) (A @Bb.eq_5 (A @Bb.eq_6 @Bb.eq_7))) (A (A @Bb.eq_8 (A @Bb.eq_9 @Bb.eq_10)) (A @Bb.eq_11 (A @Bb.eq_12 @Bb.eq_13))))) (A (A (A (A @Bb.eq_14 @Bb.eq_15) (A @Bb.eq_16 (A @Bb.eq_17 @Bb.eq_18))) (A (A @Bb.eq_19 (A @Bb.eq_20 @Bb.eq_21)) (A @Bb.eq_22 (A @Bb.eq_23 @Bb.eq_24)))) (A (A (A @Bb.eq_25 @Bb.eq_26) (A @Bb.eq_27 (A @Bb.eq_28 @Bb.eq_29))) (A (A @Bb.eq_30 (A @Bb.eq_31 @Bb.eq_32)) (A @Bb.eq_33 (A @XA @SC.eq_1)))))) (A (A (A (A (A @SC.eq_2 @K4.eq_1) (A @K4.eq_2 (A @nj @Tz.eq_1))) (A (A @Tz.eq_2 @PY.eq_1) (A @PY.eq_2 (A @nk @T0.eq_1)))) (A (A (A @T0.eq_2 @PZ.eq_1) (A @PZ.eq_2 (A @splice.eq_1 @xx.opds.eq_1))) (A (A @xx.opds.eq_2 (A @xx.opds.eq_3 @xx.opds.eq_4)) (A @xx.opds.eq_5 (A @xx.opds.eq_6 @xx.opds.eq_7))))) (A (A (A (A @xx.opds.eq_8 @xx.opds.eq_9) (A @xx.opds.eq_10 (A @xx.opds.eq_11 @xx.opds.eq_12))) (A (A @xx.opds.eq_13 (A @xx.opds.eq_14 @xx.opds.eq_15)) (A @xx.opds.eq_16 (A @xx.opds.eq_17 @xx.opds.eq_18)))) (A (A (A @xx.opds.eq_19 @xx.opds.eq_20) (A @xx.opds.eq_21 (A @xx.opds.eq_22 @xx.opds.eq_23))) (A (A @xx.opds.eq_24 (A @xx.opds.eq_25 @xx.opds.eq_26)) (A @xx.opds.eq_27 (A @xx.opds.eq_28 @xx.opds.eq_29)))))))) (A (A (A (A (A (A (A @xx.opds.eq_30 @xx.opds.eq_31) (A @xx.opds.eq_32 (A @xx.opds.eq_33 @A7.eq_1))) (A (A @A7.eq_2 @A7.eq_3) (A @A7.eq_4 (A @J2.eq_1 @J2.eq_2)))) (A (A (A @C8.eq_1 @C8.eq_2) (A @A9.eq_1 (A @A9.eq_2 @J3.eq_1))) (A (A @J3.eq_2 (A @Fg.eq_1 @Fg.eq_2)) (A @JP.eq_1 (A @JP.eq_2 @GL.eq_1))))) (A (A (A (A @GL.eq_2 @mk.eq_1) (A @icmp.eq_1 (A @icmp.eq_2 @icmp.eq_3))) (A (A @icmp.eq_4 (A @icmp.eq_5 @icmp.eq_6)) (A @F9.eq_1 (A @F9.eq_2 @F9.eq_3)))) (A (A (A @F9.eq_4 @F9.eq_5) (A @F9.eq_6 (A @bnd.eq_1 @bnd.eq_2))) (A (A @Cs.eq_1 (A @Cs.eq_2 @nT.eq_1)) (A @nT.eq_2 (A @Bp.eq_1 @Bp.eq_2)))))) (A (A (A (A (A @Bp.eq_3 @Bp.eq_4) (A @Bp.eq_5 (A @Bp.eq_6 @G1.eq_1))) (A (A @G1.eq_2 @G1.eq_3) (A @JB.eq_1 (A @JB.eq_2 @JB.eq_3)))) (A (A (A @PW.eq_1 @PW.eq_2) (A @PW.eq_3 (A @PW.eq_4 @RN.eq_1))) (A (A @AT (A @Z1 @Fs.cells.eq_1)) (A @Fs.cells.eq_2 (A @w8.esz.eq_1 @w8.esz.eq_2))))) (A (A (A (A @w8.esz.eq_3 @w8.esz.eq_4) (A @Option.toList.eq_1.{0} (A @Option.toList.eq_2.{0} @sC.{0}))) (A (A @tn.{0} (A @List.filterMap.eq_1.{0,0} @List.filterMap.eq_2.{0,0})) (A @sw.{0,0} (A @sI.{0,0} @sE.{0})))) (A (A (A @sj.{0} @si.{0}) (A @sU.{0,0} (A @tR.{0,0} @t8.{0}))) (A (A @t8.{1} (A @sG.{0} @sG.{1})) (A @uo (A @tL @tE.{0}))))))) (A (A (A (A (A (A @tE.{1} @sr) (A @List.drop.eq_1.{0} (A @List.drop.eq_2.{0} @List.drop.eq_3.{0}))) (A (A @List.take.eq_1.{0} @List.take.eq_2.{0}) (A @List.take.eq_3.{0} (A @vG.{0} @List.drop_succ_cons.{0})))) (A (A (A @List.take_succ_cons.{0} @tX.{0}) (A @List.set_cons_zero.{0} (A @List.set_cons_succ.{0} @List.replicate_succ.{0}))) (A (A @List.replicate_zero.{0} (A @rq @List.headD_cons.{0})) (A @sS (A @Bool.and_true @beq_self_eq_true.{0}))))) (A (A (A (A @Lp.eq_1 @Lp.eq_2) (A @Lp.eq_3 (A @Em.eq_1 @Em.eq_2))) (A (A @Em.eq_3 (A @Em.eq_4 @Em.eq_5)) (A @Em.eq_6 (A @Em.eq_7 @tY)))) (A (A (A @uD.{0} @uD.{1}) (A @th (A @Bool.cond_true_left @Bool.cond_false_right))) (A (A @imp_self (A @beq_true @beq_false)) (A @tq (A @uG @sA)))))) (A (A (A (A (A @tv @rl) (A @rn (A @sR @ne_eq.{1}))) (A (A @ux @uV) (A @natE1 (A @natE2 @impA1)))) (A (A (A @impA2 @and_self) (A @or_true (A @true_or @false_or))) (A (A @vF (A @od @fu)) (A @tW (A @Nat.add_assoc @tt))))) (A (A (A (A @AU.eq_1 @AU.eq_2) (A @BH.eq_1 (A @BH.eq_2 @BH.eq_3))) (A (A @BH.eq_4 (A @CD.eq_1 @CD.eq_2)) (A @fp (A @ft @og)))) (A (A (A @oh @decide_true) (A @vm (A @sV @uP))) (A (A @uZ (A @Bool.or_true @tH)) (A @vv (A @cond_true.{1} @cond_false.{1}))))))))
def eZ:=A eE (A eC eN)
end Go.AM
