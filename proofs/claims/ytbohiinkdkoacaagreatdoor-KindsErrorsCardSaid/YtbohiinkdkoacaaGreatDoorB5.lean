/-
  Parts of the proof. Conditions: none.
-/
import Derived.Test.YtbohiinkdkoacaaGreatDoorB4
import Derived.RangeFuncLeaves
import Derived.RecoverIn
import Derived.KernelRfl
import Derived.SizedLaws
import Derived.ChangeSame
import Derived.ReadAgain
import Derived.RowKit
import Derived.ProofKit
import Derived.Lib.SmallJoins
import Derived.LaidMore
import Derived.OpenShut
import Derived.Stop.Joined
import Derived.MakeChecks
import Derived.Below
import Derived.Lib.AtoiErrMem
import Derived.Lib.LaidTab
set_option maxRecDepth 20000
set_option linter.all false
namespace Go.AM
def penv:Nat->List Fs->List (Nat×Bool×Fs)
 |_,[]=>[]
 |i,a::as=>(i,true,a)::penv (i+1) as
theorem GY{g:Yx}:∀(as:List Fs) (vs pre:List Value) (rest:Array Value),VRels g as vs->BU g (penv pre.length as) ((pre++vs).toArray++rest)
 |[],vs,pre,rest,_=>λt gd v h=>by simp [penv,eget]at h
 |a::as,vs,pre,rest,h=>by
  obtain⟨v,vs',rfl,h1,h2⟩:=h;intro t gd x hg;simp only[penv,eget]at hg;split at hg
  ·grind
  ·have:=GY as vs' (pre++[v]) rest h2 t gd x (by simpa using hg);simpa using this
def Lb{g:Yx}{env:List (Nat×Bool×Fs)}{tmps:Array Value}(he:BU g env tmps){t:Nat}(i5:(lk env (.t t)).1=true):VRel g (lkv env (.t t)) (tmps.getD t undef):=by
 simp only[lk,lkv]at i5⊢;cases hg:eget env t with
 |none=>simp [hg]at i5
 |some gv=>
  obtain⟨gd,v⟩:=gv;simp only[hg]at i5⊢;obtain⟨x,h1,h2,_⟩:=he t gd v hg;have:tmps.getD t undef=x:=by simp [Array.getD_eq_getD_getElem?,h1]
  rw[this];exact h2 i5
theorem AN.forget{P:Program}{f:FuncId}{args:List Fs}{H:AC}{n:Nat}{R R':Zb->AC->Nat->Prop}(h:AN P f args H n R)
  (hr:∀o H' n',R o H' n'->∃o2 H2,R' o2 H2 n/\FQ n H H' H2/\match o,o2 with
   | .ret v,.ret v2=>Wk v v2/\v2.under n
   | .pan v,.pan v2=>Wk v v2/\v2.under n
   |_,_=>False):AN P f args H n R':=by
 refine⟨h.1,λg w vs r v=>(h.2 g w vs r v).mono ?_⟩;rintro e w' ⟨g',out,H',n',q,he,hR',hn,ht⟩;obtain⟨o2,H2,q1,q2,q3⟩:=hr _ _ _ q;obtain⟨r2,t2,ag⟩:=AM.forget r hR' ht q2;refine⟨⟨g.β,g'.σ⟩,o2,H2,n,q1,?_,r2,V4 _,t2⟩;cases out with
 |ret a=>cases o2 with
  |pan b=>exact q3.elim
  |ret b=>
   cases e with
   |returned x=>exact VRel.agree ag b x q3.2 (q3.1 _ _ he)
   |panicked c=>exact he.elim
   |outgrown=>exact he.elim
 |pan a=>cases o2 with
  |ret b=>exact q3.elim
  |pan b=>
   cases e with
   |returned x=>exact he.elim
   |outgrown=>exact he.elim
   |panicked c=>obtain⟨x,rfl,k⟩:=he;exact⟨x,rfl,VRel.agree ag b x q3.2 (q3.1 _ _ k)⟩
section
inductive RC where
 |t (i:Nat)
 |c (i sz:Nat) (ag:Bool)
def crs(P:Program):List ResultVar->Option (List RC)
 |[]=>some []
 | .tmp i::r=>(crs P r).map (RC.t i:: ·)
 | .cell i t::r=>match szT P t,crs P r with
  |some sz,some l=>some (.c i sz (aggT P t)::l)
  |_,_=>none
def Au(H:AC)(sz:Nat)(ag:Bool):Fs->Prop×Fs
 | .ptr id off=>match hget H id with
  |some (.box cs)=>(off=0/\cs.length=sz,mk ag cs)
  |_=>(False,.tup [])
 |_=>(False,.tup [])
def rc1(s:AS):RC->Prop×Fs
 | .t i=>((lk s.env (.t i)).1=true,lkv s.env (.t i))
 | .c i sz ag=>((lk s.env (.t i)).1=true/\(Au s.H sz ag (lkv s.env (.t i))).1,(Au s.H sz ag (lkv s.env (.t i))).2)
def rcs(s:AS):List RC->Prop×List Fs
 |[]=>(True,[])
 |r::l=>((rc1 s r).1/\(rcs s l).1,(rc1 s r).2::(rcs s l).2)
def rvS(vs:List Fs):Fs:=match vs with
 |[v]=>v
 |vs=>.tup vs
def Cd(rs:List RC)(R:Zb->AC->Nat->Prop):Z3->AS->Prop
 | .ret,s=>(rcs s rs).1/\R (.ret (rvS (rcs s rs).2)) s.H s.n
 | .normal,s=>(rcs s rs).1/\R (.ret (rvS (rcs s rs).2)) s.H s.n
 | .pan v,s=>R (.pan v) s.H s.n
 | .exit _,_=>False
def resV(tmps:Array Value):ResultVar->Sem Value
 | .tmp t=>pure (tmps.getD t undef)
 | .cell a t=>do loadVar t (<-asAddr (tmps.getD a undef))
def Nw(fn:Func)(tmps:Array Value):results fn tmps=(do
  let vs<-fn.results.mapM (resV tmps)
  pure (if h:vs.size=1 then vs[0]else .tuple vs)):=by
 unfold results;congr 1
variable {tmps:Array Value} {fn:Func} {g:Yx} {P:Program}
theorem QC{s:AS}{w:World}(hR:Z2 g s.H s.n w)(he:BU g s.env tmps){r:ResultVar}{x:RC}(hx:crs P [r]=some [x])(i5:(rc1 s x).1):
  ∃v,(resV tmps r).run P w= .ok v w/\VRel g (rc1 s x).2 v:=by
 cases r with
 |tmp t=>
  simp [crs]at hx;subst hx;exact⟨_,rfl,Lb he i5⟩
 |cell a t=>
  simp only[crs]at hx;cases hz:szT P t with
  |none=>simp [hz]at hx
  |some sz=>
   simp [hz]at hx;subst hx;obtain⟨h1,h2⟩:=i5;have hv:=Lb he h1;simp only[rc1];generalize lkv s.env (.t a)=av at h2 hv⊢;cases av<;>simp only[Au]at h2⊢ <;>first|exact h2.elim|skip
   rename_i id off;obtain⟨L,p1,p2,p3⟩:=hv;cases ho:hget s.H id with
   |none=>simp [ho]at h2
   |some ob=>
    cases ob<;>simp only[ho]at h2⊢ <;>first|exact h2.elim|skip
    rename_i cs;obtain⟨rfl,hl⟩:=h2;obtain⟨L',c,e,k1,k2,k3,k4,k5,k6⟩:=hR.obj id _ ho;rw[p1]at k1;cases k1;have hp:PStab g (λo=>w.cell? ⟨L.blk,o,none⟩) 0 cs:=PStab.cell k4 k6;obtain⟨v,q1,q2⟩:=Gq hz hp hl;exact⟨v,by simp [resV,p3,asAddr,q1],q2⟩
theorem SD{r:ResultVar}{l:List ResultVar}{xs:List RC}(h:crs P (r::l)=some xs):∃x l',xs=x::l'/\crs P [r]=some [x]/\crs P l=some l':=by
 cases r with
 |tmp t=>
  simp only[crs]at h;cases h1:crs P l with
  |none=>simp [h1]at h
  |some l'=>simp [h1]at h;subst h;exact⟨_,_,rfl,by simp [crs],rfl⟩
 |cell a t=>
  simp only[crs]at h;split at h
  ·rename_i sz l' h1 h2;cases h;exact⟨_,_,rfl,by simp [crs,h1],h2⟩
  ·cases h
theorem Cw{s:AS}{w:World}(hR:Z2 g s.H s.n w)(he:BU g s.env tmps){rs:List RC}(hrs:crs P fn.results.toList=some rs)(i5:(rcs s rs).1):
  ∃v,(results fn tmps).run P w= .ok v w/\VRel g (rvS (rcs s rs).2) v:=by
 have key:∀(l:List ResultVar) (xs:List RC),crs P l=some xs->(rcs s xs).1->∃vs:List Value,(l.mapM (resV tmps)).run P w= .ok vs w/\VRels g (rcs s xs).2 vs:=by
  intro l;induction l with
  |nil=>intro xs h _;simp [crs]at h;subst h;exact⟨[],rfl,rfl⟩
  |cons r l ih=>
   intro xs h hk;obtain⟨x,l',rfl,h1,h2⟩:=SD h;obtain⟨v,q1,q2⟩:=QC hR he h1 hk.1;obtain⟨vs,q3,q4⟩:=ih l' h2 hk.2;refine⟨v::vs,?_,⟨v,vs,rfl,q2,q4⟩⟩;rw[List.mapM_cons,Sem.run_bind,q1];simp only[Result.andThen_ok,Sem.run_bind,q3];rfl
 obtain⟨vs,h1,h2⟩:=key _ _ hrs i5;have hrun:(fn.results.mapM (resV tmps)).run P w= .ok vs.toArray w:=by
  rw[<-Y3 (xs:=fn.results),List.mapM_toArray];simp only[map_eq_pure_bind,Sem.run_bind,h1,Result.andThen_ok];rfl
 rw[Nw,Sem.run_bind,hrun];simp only[Result.andThen_ok];refine⟨_,rfl,?_⟩;generalize (rcs s rs).2=as at h2
 match as,vs,h2 with
 |[],_,h2=>simp only[VRels]at h2;subst h2;exact⟨#[],rfl,rfl⟩
 |[a],_,h2=>
  obtain⟨v,r,rfl,k1,k2⟩:=h2;simp only[VRels]at k2;subst k2;exact k1
 |a::b::l,_,h2=>
  obtain⟨v,r,rfl,k1,k2⟩:=h2;obtain⟨u,r',rfl,k3,k4⟩:=k2;have:¬((v::u::r').toArray.size=1):=zw
  rw[dif_neg this];exact⟨_,rfl,⟨_,_,rfl,k1,_,_,rfl,k3,k4⟩⟩
theorem EP{F:Fence}{nn m fl:Nat}{R:Ending->World->Prop}{base:List Deferred}{u:FrameMode}{g0:Yx}{H0 H:AC}{n:Nat}{w0:World}(q8:w0.heap.size<=fl)(hu:u≠ .run)
  (h:∀w',Z2 g H n w'->Yv m g0 H0 w0 g H w'->LeavesInM F nn P fn tmps R base u w'):∀(ms:List Deferred) (w:World),Z2 g H n w->Yv m g0 H0 w0 g H w->MOK fl g H ms w->LeavesInM F nn P fn tmps R (ms++base) u w
 |[],w,r,t,_=>h w r t
 |d::ms,w,r,t,⟨⟨b,h1,h2,h3,h4,h5⟩,hm⟩=>by
  refine⟨hu,.inl ⟨b,_,h1,run_takeDeferred h3,EP q8 hu h ms _ (r.dblk h3) ?_ ?_⟩⟩
  ·refine⟨t.le,t.βn,t.os,t.tape,t.output,by simpa [World.putObj]using t.size,λk ob hk=>?_,t.now,t.nσ⟩;have c6:k<w0.heap.size:=(Wc.1 hk).1;have:(w.putObj b (.deferred none)).heap[k]?=w.heap[k]?:=by grind [World.putObj,Array.getElem?_setIfInBounds_ne]
   rw[this];exact t.kept k ob hk
  ·have:∀(l:List Deferred),(∀d'∈l,d'.target≠ .collected b)->MOK fl g H l w->MOK fl g H l (w.putObj b (.deferred none)):=by
    intro l;induction l with
    |nil=>intro _ _;trivial
    |cons d' l ih=>
     rintro hne ⟨⟨b',p1,p2,p3,p4,p5⟩,hl⟩;have hbb:b≠b':=by rintro rfl;exact hne d' (Wu ..) p1
     exact⟨⟨b',p1,p2,by simp only[World.putObj];rw[WX hbb];exact p3,p4,p5⟩,ih (λx hx=>hne x (WJ _ hx)) hl⟩
   exact this ms h5 hm
theorem Hl{f:FuncId}{c:Code}{ac:Yw}{fz im:List (Nat×Nat)}{kp:Nat->List Nat}{rs:List RC}{args:List Fs}{H:AC}{n:Nat}{R:Zb->AC->Nat->Prop}
  (hf:P.funcs[f]?=some fn) (hb:fn.body=some c) (hname:(fn.name== "runtime.NumGoroutine")=false) (hc:Aw P fn.ntmps fz im kp c=some ac) (hr:crs P fn.results.toList=some rs)
  (h:awp P ac (Cd rs R) ⟨penv 0 args,H,n⟩):AN P f args H n R:=by
 refine⟨⟨fn,hf,by simp [hb],hname⟩,λg w vs hR hV=>?_⟩;have hsim:Sim n g H w fn.ntmps ⟨w.heap.size,[],false,0, #[]⟩ ⟨penv 0 args,H,n⟩ {tmps:=vs.toArray++Array.replicate (fn.ntmps-vs.toArray.size) undef,defers:=[]} w:=
  ⟨g,hR,GY args vs [] _ hV,Yv.refl _ _ _ _,V4 _,by simp;omega,DOK.nil zw⟩
 refine(callsIn_wide (n:=0)).1 (callsIn_of_wp_marks (F:=FR none) hf hb trivial (wpIn_mono (BY c hc (.inl ⟨rfl,rfl⟩) ⟨V4 _,V8 _⟩ h hsim) λe a' w' hq=>?_) rfl);have ret:∀s,(rcs s rs).1/\R (.ret (rvS (rcs s rs).2)) s.H s.n->Sim n g H w fn.ntmps ⟨w.heap.size,[],false,0, #[]⟩ s a' w'->
   LeavesInM (FR none) 0 P fn a'.tmps (λe w'=>∃g' out H' n',R out H' n'/\ERel g' out e/\Z2 g' H' n' w'/\n<=n'/\Yv n g H w g' H' w') a'.defers .returning w':=by
  rintro s ⟨q1,q2⟩ ⟨g',p1,p2,p3,p4,p5,ms,p6,p7,-⟩;rw[p6];refine EP (m:=n) (g0:=g) (H0:=H) (w0:=w) (V4 _) zw (λw2 r2 t2=>?_) ms w' p1 p3 p7;obtain⟨v,k1,k2⟩:=Cw r2 p2 hr q1;exact⟨v,k1,g',_,_,_,q2,k2,r2,p4,t2⟩
 cases e with
 |normal=>obtain⟨s,q,hs⟩:=hq;exact ret s q hs
 |ret=>obtain⟨s,q,hs⟩:=hq;exact ret s q hs
 |exit i=>obtain⟨s,q,hs⟩:=hq;exact q.elim
 |goto l=>exact hq
 |outgrown=>exact hq.elim
 |panic chain=>
  obtain⟨v,H',n',q,⟨g',x,p1,p2,p3,rfl,p5,ms,p6,p7,-⟩⟩:=hq;show LeavesInM _ _ _ _ _ _ a'.defers _ _;rw[p6];refine EP (m:=n) (g0:=g) (H0:=H) (w0:=w) (V4 _) zw (λw2 r2 t2=>?_) ms w' p1 p2 p7;exact⟨g',.pan v,H',n',q,⟨x,rfl,p5⟩,r2,p3,t2⟩
end
def rfs:Code->List (Array Tmp×Code×Code)
 | .seq a b| .cond _ a b=>rfs a++rfs b
 | .block _ c| .loop c| .scope c=>rfs c
 | .rangeFunc _ ps a b=>[(ps,a,b)]
 |_=>[]
def renv(ps:List Nat)(args:List Fs)(env:List (Nat×Bool×Fs)):List (Nat×Bool×Fs):=(ps.zip args).foldl (λenv (t,a)=>(t,true,a)::env) env
theorem Mp{g:Yx}:∀(ps:List Nat) (args:List Fs) (vs:List Value) (env:List (Nat×Bool×Fs)) (tmps:Array Value),BU g env tmps->VRels g args vs->(∀p∈ps,p<tmps.size)->
  BU g (renv ps args env) ((ps.zip vs).foldl (λtmps (t,a)=>tmps.setIfInBounds t a) tmps)/\((ps.zip vs).foldl (λtmps (t,a)=>tmps.setIfInBounds t a) tmps).size=tmps.size
 |[],args,vs,env,tmps,he,hv,hp=>⟨by simpa [renv]using he,zw⟩
 |p::ps,[],vs,env,tmps,he,hv,hp=>by
  simp only[VRels]at hv;subst hv;exact⟨by simpa [renv]using he,zw⟩
 |p::ps,a::args,vs,env,tmps,he,hv,hp=>by
  obtain⟨v,vs',rfl,h1,h2⟩:=hv;have r9:=hp p (Wu ..);have t9:BU g ((p,true,a)::env) (tmps.setIfInBounds p v):=by
   intro t gd x hg;simp only[eget]at hg;split at hg
   ·simp_all
   ·rename_i e;obtain⟨y,q1,q2,q3⟩:=he t gd x hg;exact⟨y,by rw[WX e];exact q1,q2,q3⟩
  obtain⟨k1,k2⟩:=Mp ps args vs' ((p,true,a)::env) (tmps.setIfInBounds p v) t9 h2 (λq hq=>by simpa using hp q (WJ _ hq));exact⟨by simpa [renv]using k1,by simpa using k2⟩
def Mq{P:Program}{g:Yx}{H:AC}{n m id:Nat}{w:World}{x:LoopA}(hR:Z2 g H n w)(ho:hget H id=some (.lp x))(st:LoopState)(pend:Option Code):
  ∃r:Loop,∃w',(Instr.getLoop x.l).run P w= .ok r w/\r.state=x.st/\r.pending=x.pend/\(setObj x.l (.loop {r with state:=st,pending:=pend})).run P w= .ok () w'/\
   Z2 g (hset H id (.lp {x with st:=st,pend:=pend})) n w'/\Yv m g H w g (hset H id (.lp {x with st:=st,pend:=pend})) w':=by
 obtain⟨L,h1,h2,h3,h4,r,k1,k2,k3,k4,k5,k6,k7,k8⟩:=hR.obj id _ ho;rw[h4]at k1;have c6:x.l<w.heap.size:=(Wc.1 k1).1;refine⟨r,{w with heap:=w.heap.setIfInBounds x.l (.loop {r with state:=st,pending:=pend})},?_,k2,k3,?_,?_⟩
 ·simp [Instr.getLoop,getObj,Sem.run,k1]
 ·simp [setObj,Sem.run,k1]
 ·refine hR.upd ho rfl h1 rfl rfl rfl zw (λb hb=>?_) (.inr ⟨h2,h3,_,by rw[h4];exact k1,zw⟩) ?_
  ·grind
  ·exact⟨L,h1,h2,h3,h4,{r with state:=st,pending:=pend},by rw[h4];simp [c6],rfl,rfl,k4,k5,k6,k7,k8⟩
def roundB(id:Nat)(R:Bool->AC->Nat->Prop):Z3->AS->Prop
 | .normal,s=>∃x,hget s.H id=some (.lp x)/\R true (hset s.H id (.lp {x with st:=.ready,pend:=none})) s.n
 | .ret,s=>∃x,hget s.H id=some (.lp x)/\R false (hset s.H id (.lp {x with st:=.done,pend:=some .ret})) s.n
 | .exit i,s=>∃x,hget s.H id=some (.lp x)/\R false (hset s.H id (.lp {x with st:=.done,pend:=some (.exit i)})) s.n
 | .pan _,_=>False
def IQ(P:Program)(id:Nat)(ab:Yw)(R:Bool->AC->Nat->Prop):Z3->AS->Prop
 | .normal,s=>∃x,hget s.H id=some (.lp x)/\x.st= .ready/\awp P ab (roundB id R) {s with H:=hset s.H id (.lp {x with st:=.busy,pend:=x.pend})}
 |_,_=>False
theorem CF{P:Program}{l id:Nat}{x:LoopA}{aa ab:Yw}{fz im fz2 im2:List (Nat×Nat)}{kp kp2:Nat->List Nat}{args:List Fs}{H:AC}{n:Nat}{R:Bool->AC->Nat->Prop}
  (ho:hget H id=some (.lp x)) (hl:x.l=l) (o8:args.length=x.ps.size) (hpn0:(x.ps.toList.all λp=>Nat.ble (p+1) x.nt)=true) (hca:Aw P x.nt fz im kp x.asg=some aa) (hcb:Aw P x.nt fz2 im2 kp2 x.body=some ab) (hpa:aa.plain=true) (hpb:ab.plain=true)
  (h:awp P aa (IQ P id ab R) ⟨renv x.ps.toList args x.env,H,n⟩):B2 P l args H n R:=by
 intro r g w vs hR hV;subst hl;have hpn:∀p∈x.ps.toList,p<x.nt:=λp hp=>Nat.le_of_ble_eq_true ((W4.1 hpn0) p hp)
 obtain⟨L,h1,h2,h3,h4,r0,k1,k2,k3,k4,k5,k6,k7,k8⟩:=hR.obj id _ ho;rw[h4]at k1;have d6:=VRels.length _ _ hV;obtain⟨e1,e2⟩:=Mp x.ps.toList args vs x.env r0.tmps k7 hV (λp hp=>X6 (hpn p hp) k8);have hfold:(r0.params.zip vs.toArray).foldl (λtmps (t,a)=>tmps.setIfInBounds t a) r0.tmps=(x.ps.toList.zip vs).foldl (λtmps (t,a)=>tmps.setIfInBounds t a) r0.tmps:=by
  rw[k4,<-Array.foldl_toList,Array.toList_zip]
 have hsim:Sim n g H w x.nt ⟨w.heap.size,[],false,0, #[]⟩ ⟨renv x.ps.toList args x.env,H,n⟩ {tmps:=(r0.params.zip vs.toArray).foldl (λtmps (t,a)=>tmps.setIfInBounds t a) r0.tmps,defers:=[]} w:=by
  refine⟨g,hR,?_,Yv.refl _ _ _ _,V4 _,?_,DOK.nil zw⟩
  ·simp only[hfold];exact e1
  ·simp only[hfold,e2];exact k8
 have hβ:∀{g':Yx} {H':AC} {w':World} {n':Nat} {x':LoopA},Z2 g' H' n' w'->Yv n g H w g' H' w'->hget H' id=some (.lp x')->x'.l=x.l:=by
  intro g' H' w' n' x' r1 t1 h';obtain⟨L',q1,_,_,q4,_⟩:=r1.obj id _ h';have:=t1.le.β _ _ h1;rw[q1]at this;cases this;rw[<-q4,h4]
 refine⟨r0.fn,(r0.params.zip vs.toArray).foldl (λtmps (t,a)=>tmps.setIfInBounds t a) r0.tmps,r0.assign,r0.body,?_,roundIn_of_wpIn (F:=FR r) (n:=0) trivial ?_⟩
 ·simp_all [Instr.yield,Instr.getLoop,getObj,Sem.run]
 rw[k5,k6];refine wpIn_mono (BY (r:=some x.l) x.asg hca (.inr hpa) ⟨V4 _,V8 _⟩ h hsim) λe a1 w1 hq=>?_
 cases e with
 |exit i=>obtain⟨s1,q,_⟩:=hq;exact q.elim
 |ret=>obtain⟨s1,q,_⟩:=hq;exact q.elim
 |panic c=>obtain⟨v,H1,n1,q,_⟩:=hq;exact q.elim
 |goto l=>exact hq.elim
 |outgrown=>exact hq.elim
 |normal=>
  obtain⟨s1,⟨x1,p1,p2,p3⟩,g1,R1,E1,T1,m1,N1,D1⟩:=hq;have hx1:=hβ R1 T1 p1;obtain⟨r1,w2,q1,q2,q3,q4,R2,T2⟩:=Mq (P:=P) (m:=n) R1 p1 .busy x1.pend;rw[hx1]at q1 q4;refine⟨w2,?_,?_⟩
  ·simp_all [Instr.beginRound,Sem.run_bind,Result.andThen_ok]
  ·have hs2:Sim n g H w x.nt ⟨w.heap.size,[],false,0, #[]⟩ {s1 with H:=hset s1.H id (.lp {x1 with st:=.busy,pend:=x1.pend})} a1 w2:=⟨g1,R2,E1.mono T2.le,T1.trans T2,m1,N1,D1.step T2⟩;refine wpIn_mono (BY (r:=some x.l) x.body hcb (.inr hpb) ⟨V4 _,V8 _⟩ p3 hs2) λe a3 w3 hq=>?_
   have fin:∀(s3:AS) (jump:Option Code) (x3:LoopA),hget s3.H id=some (.lp x3)->R jump.isNone (hset s3.H id (.lp {x3 with st:=if jump.isNone then .ready else .done,pend:=jump})) s3.n->Sim n g H w x.nt ⟨w.heap.size,[],false,0, #[]⟩ s3 a3 w3->
     ∃v w',(Instr.endRound x.l jump).run P w3= .ok v w'/\∃b g' H' n',Ending.returned v= .returned (.bool b)/\R b H' n'/\Z2 g' H' n' w'/\n<=n'/\Yv n g H w g' H' w':=by
    rintro s3 jump x3 u1 u2 ⟨g3,R3,E3,T3,m3,N3,D3⟩;have hx3:=hβ R3 T3 u1;obtain⟨r3,w4,v1,v2,v3,v4,R4,T4⟩:=Mq (P:=P) (m:=n) R3 u1 (if jump.isNone then .ready else .done) jump;rw[hx3]at v1 v4;refine⟨.bool jump.isNone,w4,?_,_,g3,_,_,rfl,u2,R4,m3,T3.trans T4⟩;simp only[Instr.endRound,Sem.run_bind,v1,Result.andThen_ok,v4];rfl
   cases e with
   |normal=>obtain⟨s3,⟨x3,u1,u2⟩,hs3⟩:=hq;exact fin s3 none x3 u1 u2 hs3
   |ret=>obtain⟨s3,⟨x3,u1,u2⟩,hs3⟩:=hq;exact fin s3 (some .ret) x3 u1 u2 hs3
   |exit i=>obtain⟨s3,⟨x3,u1,u2⟩,hs3⟩:=hq;exact fin s3 (some (.exit i)) x3 u1 u2 hs3
   |panic c=>obtain⟨v,H1,n1,q,_⟩:=hq;exact q.elim
   |goto l=>exact hq.elim
   |outgrown=>exact hq.elim
section
def CL(P:Program)(fid:FuncId)(args:List Fs)(rv:Fs)(H:AC)(n:Nat)(Rc:AC->Nat->Prop):Prop:=
 ∀g w vs u,Z2 g H n w->VRels g args vs->((u= .returning/\rv= .nilifc)\/∃x,VRel g rv x/\u= .panicking [{v:=x,recovered:=false}])->
  CallsDIn (FR none) 0 P fid vs.toArray u w λe u' w'=>(∃v,e= .returned v)/\settle u'= .returning/\∃g' H' n',Rc H' n'/\Z2 g' H' n' w'/\n<=n'/\Yv n g H w g' H' w'
variable {y:Yw} {H:AC} {ops:Array Oper} {X:Code} {fn:Func} {fz im:List (Nat×Nat)} {args:List Fs} {t fid id n:Nat} {kp:Nat->List Nat} {o0 o1:Oper} {P:Program}
theorem IR{g:Yx}{env:List (Nat×Bool×Fs)}{tmps:Array Value}(h:BU g env tmps){v:Fs}{x:Value}(ht:t<tmps.size)(hv:VRel g v x):BU g ((t,true,v)::env) (tmps.setIfInBounds t x):=by
 intro i gd u hu;rw[Fa]at hu;by_cases e:t=i
 ·simp_all
 ·rw[V5 e]at hu;obtain⟨y,h1,h2⟩:=h i gd u hu;exact⟨y,by rw[WX e];exact h1,h2⟩
theorem KK{rv:Fs}{Rc:AC->Nat->Prop}{t3 t4:Nat}{ty:TypeId}{cl:Call}
  (hf:P.funcs[fid]?=some fn) (hb:fn.body=some (.seq (.region id ops false) X)) (hs:ops.size=2) (h0:ops[0]?=some o0) (h1:ops[1]?=some o1) (hg0:o0.guard=none) (hg1:o1.guard=none)
  (hop0:o0.op= .call cl) (hcl:cl.callee= .builtin .recover) (hd0:o0.dst=some t4) (hop1:o1.op= .move (.tmp t4)\/o1.op= .assign (.tmp t4)) (hd1:o1.dst=some t3) (ht3:t3<fn.ntmps) (ht4:t4<fn.ntmps) (hca:cl.args= #[])
  (hX:Aw P fn.ntmps fz im kp X=some y) (r9:y.plain=true) (hr:fn.results= #[])
  (h:awp P y (Cd [] λo H' n'=>o= .ret (.tup [])/\Rc H' n') ⟨(t3,true,rv)::(t4,true,rv)::penv 0 args,H,n⟩):CL P fid args rv H n Rc:=by
 intro g w vs u hR hV hu;refine callsDIn_of_wpSIn hf hb trivial λc₀ cs hc0=>wpSIn_seq (wpSIn_region ?_)
 have hsz:(vs.toArray++Array.replicate (fn.ntmps-vs.toArray.size) undef).size≥fn.ntmps:=by simp;omega
 have hE0:BU g (penv 0 args) (vs.toArray++Array.replicate (fn.ntmps-vs.toArray.size) undef):=GY args vs [] _ hV;generalize vs.toArray++Array.replicate (fn.ntmps-vs.toArray.size) undef=tm at hsz hE0;rw[hs]
 have key:∀(x:Value) (cs':List Frame) (u':FrameMode),VRel g rv x->cs'={c₀ with mode:=u'}::cs->settle u'= .returning->
   wpOpsSIn (FR none) 0 P ops (Exit.thenS (X.wpSIn (FR none) 0 P (bodyPostS P fn c₀ cs λe u' w'=>(∃v,e= .returned v)/\settle u'= .returning/\∃g' H' n',Rc H' n'/\Z2 g' H' n' w'/\n<=n'/\Yv n g H w g' H' w')) (bodyPostS P fn c₀ cs λe u' w'=>(∃v,e= .returned v)/\settle u'= .returning/\∃g' H' n',Rc H' n'/\Z2 g' H' n' w'/\n<=n'/\Yv n g H w g' H' w')) [1] (({tmps:=tm,defers:=[]}:Act).put o0.dst x) cs' w:=by
  intro x cs' u' hx hcs' hset;have hev:(({tmps:=tm,defers:=[]}:Act).put o0.dst x).eval (.tmp t4)=x:=by
   rw[hd0];simp [Act.put,Act.eval,Array.getD,show t4<tm.size by omega]
  have hrun1:(execOp (({tmps:=tm,defers:=[]}:Act).put o0.dst x).eval o1).run P w= .ok (.value x) w:=by
   rcases hop1 with hop1|hop1<;>simp [execOp,hop1,hev]
  simp only[wpOpsSIn,h1,Region.wanted,hg1,WB,hrun1];refine⟨λ_ _=>trivial,?_⟩;show X.wpSIn _ _ _ _ _ _ _;refine wpSIn_of_wpIn rfl ?_;have hsim:Sim n g H w fn.ntmps ⟨w.heap.size,[],true,0, #[]⟩ ⟨(t3,true,rv)::(t4,true,rv)::penv 0 args,H,n⟩ ((({tmps:=tm,defers:=[]}:Act).put o0.dst x).put o1.dst x) w:=by
   rw[hd0,hd1];refine⟨g,hR,?_,Yv.refl _ _ _ _,V4 _,by simp [Act.put];omega,DOK.nil zw⟩;exact IR (IR hE0 zo hx) (by simp;omega) hx
  refine wpIn_mono (BY (r:=none) X hX (.inr r9) ⟨V4 _,V8 _⟩ h hsim) λe a' w' hq=>?_
  have ret:∀s,(rcs s []).1/\(Zb.ret (rvS (rcs s []).2)= .ret (.tup [])/\Rc s.H s.n)->Sim n g H w fn.ntmps ⟨w.heap.size,[],true,0, #[]⟩ s a' w'->
    a'.defers=[]/\∃u',cs'={c₀ with mode:=u'}::cs/\∃v,(results fn a'.tmps).run P w'= .ok v w'/\((∃v',Ending.returned v= .returned v')/\settle u'= .returning/\∃g' H' n',Rc H' n'/\Z2 g' H' n' w'/\n<=n'/\Yv n g H w g' H' w'):=by
   rintro s ⟨q1,q2,q3⟩ ⟨g',p1,p2,p3,p4,p5,ms,p6,p7,p8⟩;obtain⟨v,k1,k2⟩:=Cw (rs:=[]) p1 p2 (by rw[hr];rfl) q1;refine⟨by rw[p6,(p8 rfl).1];rfl,u',hcs',v,k1,⟨v,rfl⟩,hset,g',_,_,q3,p1,p4,p3⟩
  cases e with
  |normal=>obtain⟨s,q,hs'⟩:=hq;exact ret s q hs'
  |ret=>obtain⟨s,q,hs'⟩:=hq;exact ret s q hs'
  |exit i=>obtain⟨s,q,hs'⟩:=hq;exact q.elim
  |goto l=>exact hq
  |outgrown=>exact hq.elim
  |panic chain=>obtain⟨v,H',n',q,_⟩:=hq;cases q.1
 have hrun0:(execOp ({tmps:=tm,defers:=[]}:Act).eval o0).run P w= .ok .recover w:=by
  simp [execOp,hop0,resolve,hcl,invoke,builtin]
 show wpOpsSIn _ _ _ _ _ [0,1] _ _ _;rw[wpOpsSIn];simp only[h0,Region.wanted,hg0,WB,hrun0];refine⟨λ_ _=>trivial,?_⟩;rcases hu with⟨rfl,rfl⟩|⟨x,hx,rfl⟩
 ·have hrec:recoverD (c₀::cs)=none:=by simp [recoverD,hc0]
  rw[hrec];exact key .nilIface _ .returning rfl (by rw[<-hc0]) rfl
 ·have hrec:recoverD (c₀::cs)=some (x,{c₀ with mode:=.panicking ({v:=x,recovered:=true}::[])}::cs):=by simp [recoverD,hc0]
  rw[hrec];exact key x _ _ hx rfl rfl
def SE:List Code->Code->Code
 |[],c=>c
 |x::l,c=>.seq x (SE l c)
def EQ:List Yw->Yw
 |[]=>.skip
 |y::l=>.seq y (EQ l)
def Nx(P:Program)(N:Nat)(fz im:List (Nat×Nat))(kp:Nat->List Nat):List Code->Option (List Yw)
 |[]=>some []
 |c::l=>match Aw P N fz im kp c,Nx P N fz im kp l with
  |some y,some ys=>some (y::ys)
  |_,_=>none
theorem G7{N:Nat}{D:DP}{m:Nat}{g0:Yx}{H0:AC}{w0:World}{rest:Code}{Q:Z3->AS->Prop}{QQ:Exit->Act->World->Prop}
  (hDw:D.fl<=w0.heap.size/\D.lo<=loF fz) (hrest:∀s a w,Q .normal s->Sim m g0 H0 w0 N D s a w->rest.wpIn (FR none) 0 P QQ a w)
  (hoth:∀e a w,e≠ .normal->QM m g0 H0 w0 N D Q e a w->QQ e a w):
  ∀(pre:List Code) (ys:List Yw) (s:AS) (a:Act) (w:World),Nx P N fz im kp pre=some ys->ys.all (·.plain)=true->awp P (EQ ys) Q s->Sim m g0 H0 w0 N D s a w->(SE pre rest).wpIn (FR none) 0 P QQ a w
 |[],ys,s,a,w,hc,hp,h,hs=>by
  simp only[Nx]at hc;cases hc;exact hrest s a w h hs
 |c::pre,ys,s,a,w,hc,hp,h,hs=>by
  simp only[Nx]at hc;split at hc
  ·rename_i y yl h1 h2;cases hc;simp only[Xr,V7]at hp;rw[EQ,Up]at h;refine wpIn_seq (wpIn_mono (BY (r:=none) c h1 (.inr hp.1) hDw h hs) λe a' w' hq=>?_);cases e with
   |normal=>obtain⟨s',q1,q2⟩:=hq;exact G7 hDw hrest hoth pre yl s' a' w' h2 hp.2 q1 q2
   |exit i=>exact hoth _ _ _ zw hq
   |ret=>exact hoth _ _ _ zw hq
   |panic c=>exact hoth _ _ _ zw hq
   |goto l=>exact hoth _ _ _ zw hq
   |outgrown=>exact hoth _ _ _ zw hq
  ·cases hc
def RcOf(rs:List RC)(env:List (Nat×Bool×Fs))(R:Zb->AC->Nat->Prop)(H':AC)(n':Nat):Prop:=(rcs ⟨env,H',n'⟩ rs).1/\R (.ret (rvS (rcs ⟨env,H',n'⟩ rs).2)) H' n'
def SF(P:Program)(fid:FuncId)(fc:List Fs)(rs:List RC)(env:List (Nat×Bool×Fs))(R:Zb->AC->Nat->Prop):Z3->AS->Prop
 | .ret,s=>CL P fid fc .nilifc s.H s.n (RcOf rs env R)
 | .normal,s=>CL P fid fc .nilifc s.H s.n (RcOf rs env R)
 | .pan v,s=>CL P fid fc v s.H s.n (RcOf rs env R)
 | .exit _,_=>False
def KL(P:Program)(t:Nat)(o:Z9)(y:Yw)(lo:Nat)(fid:FuncId)(rs:List RC)(R:Zb->AC->Nat->Prop):Z3->AS->Prop
 | .normal,s=>AU P (λ_ _ _=>False) s.n o (λs1=>(lk s1.env (.t t)).1=true/\∃first cap,lkv s1.env (.t t)= .fn (.func fid) first cap/\awp P y (SF P fid (first++cap) rs (s1.env.filter λe=>Nat.blt e.1 lo) R) s1) s
 | .ret,s=>(rcs s rs).1/\R (.ret (rvS (rcs s rs).2)) s.H s.n
 | .pan v,s=>R (.pan v) s.H s.n
 | .exit _,_=>False
theorem FB{lo:Nat}:∀(env:List (Nat×Bool×Fs)) (t:Nat) (x:Bool×Fs),eget (env.filter λe=>Nat.blt e.1 lo) t=some x->t<lo/\eget env t=some x
 |[],t,x,h=>by cases h
 |(i,gv)::r,t,x,h=>by
  rw[X7]at h;rw[Fa];split at h
  ·rename_i hb;rw[Fa]at h;by_cases e:i=t
   ·simp_all
   ·rw[V5 e]at h⊢;exact FB r t x h
  ·rename_i hb;obtain⟨h1,h2⟩:=FB r t x h;by_cases e:i=t
   ·subst e;exact absurd (by simpa using h1) hb
   ·rw[V5 e];exact⟨h1,h2⟩
theorem KM{f:Nat}{pre:List Code}{ys:List Yw}{fzX:List (Nat×Nat)}{rs:List RC}{R:Zb->AC->Nat->Prop}{k:Z1}{cl:Call}
  (hf:P.funcs[f]?=some fn) (hb:fn.body=some (SE pre (.seq (.region id ops false) X))) (hname:(fn.name== "runtime.NumGoroutine")=false) (hpre:Nx P fn.ntmps fz im kp pre=some ys) (hppl:ys.all (·.plain)=true)
  (hs:ops.size=2) (h0:ops[0]?=some o0) (h1:ops[1]?=some o1) (hg0:o0.guard=none) (hg1:o1.guard=none) (hk0:copK P false false 0 o0.op=some (.v k)) (hd0:o0.dst.all (λd=>decide (d<fn.ntmps))=true)
  (hop1:o1.op= .defer cl) (hcl:cl.callee= .value (.tmp t)) (hca:cl.args= #[]) (hd1:o1.dst=none) (hX:Aw P fn.ntmps fzX im kp X=some y) (r9:y.plain=true) (hr:crs P fn.results.toList=some rs) (hcall:BW P fid)
  (h:awp P (EQ ys) (KL P t ⟨o0.dst,none,.v k⟩ y (loF fzX) fid rs R) ⟨penv 0 args,H,n⟩):AN P f args H n R:=by
 refine⟨⟨fn,hf,by simp [hb],hname⟩,λg w vs hR hV=>?_⟩;have hsim:Sim n g H w fn.ntmps ⟨w.heap.size,[],true,0, #[]⟩ ⟨penv 0 args,H,n⟩ {tmps:=vs.toArray++Array.replicate (fn.ntmps-vs.toArray.size) undef,defers:=[]} w:=
  ⟨g,hR,GY args vs [] _ hV,Yv.refl _ _ _ _,V4 _,by simp;omega,DOK.nil zw⟩
 refine(callsIn_wide (n:=0)).1 (callsIn_of_wp_marks (F:=FR none) hf hb trivial (G7 (fz:=fz) ⟨V4 _,V8 _⟩ (λs a w1 hq hsm=>?_) (λe a' w' hne hq=>?_) pre ys _ _ _ hpre hppl h hsim) rfl)
 ·
  obtain⟨g1,p1,p2,p3,p4,p5,ms0,p6,p7,p8⟩:=hsm;have hdef:a.defers=[]:=by rw[p6,(p8 rfl).1];rfl
  refine wpIn_seq (wpIn_region ?_);rw[hs];show wpOpsIn _ _ _ _ _ [0,1] _ _;rw[wpOpsIn_cons];have hsim0:Sim s.n g1 s.H w1 fn.ntmps ⟨w1.heap.size,[],true,0, #[]⟩ s a w1:=⟨g1,p1,p2,Yv.refl _ _ _ _,V4 _,p5,ms0,p6,by rw[(p8 rfl).1];trivial,p8⟩;simp only[KL]at hq;refine IJ (Qp:=λ_ _ _=>False) (mkv:=false) (imp:=false) (gd:=none) (k:=.v k) (base:=s.n) h0 (by rw[hg0];rfl) hk0 hq hsim0 (V4 _) (by simp [Io.news]) (λd e=>?_) (λs1 a1 w2 hk hs1 j9=>?_) (λv H' n' chain a' w' q=>q.elim)
  ·simp_all
  obtain⟨q1,first,cap,q2,q3⟩:=hk;obtain⟨g2,r1,r2,r3,r4,r5,ms1,r6,r7,r8⟩:=hs1;have hdef1:a1.defers=[]:=by rw[r6,(r8 rfl).1];rfl
  have hv:=Lb r2 q1;have hev:a1.eval (.tmp t)=a1.tmps.getD t undef:=rfl;rw[q2]at hv;obtain⟨fv,cv,e1,k1,k2⟩:=hv;rw[wpOpsIn_cons];have hrun:(o1.semAt (FR none).round a1.eval).run P w2= .ok (.defer ⟨.fn (.func fid) cv,fv⟩) w2:=by
   rw[show(FR none).round=none from rfl,Oper.semAt_none];simp [execOp,hop1,resolve,hcl,hca,hev,e1,Deferred.ofValue]
  unfold wpOpIn;simp only[h1,Region.wanted,hg1,WB];refine⟨λ_ _=>trivial,?_⟩;rw[hrun];simp only[Oper.uponIn,wpOpsIn,hd1,Act.put];show X.wpIn _ _ _ _ _ _;obtain⟨fn2,c1,c2,c3⟩:=hcall;have hinv:∀W:World,(invoke (.fn (.func fid) cv) fv).run P W= .ok (.enter fid (fv++cv)) W:=by
   intro W;have c3':¬fn2.name= "runtime.NumGoroutine" :=by simpa using c3
   have c4:¬fn2.body=none:=by cases hb:fn2.body<;>simp_all
   simp [invoke,callFunc,c1,c3',c4]
  have hsim2:Sim s1.n g2 s1.H w2 fn.ntmps ⟨w2.heap.size,[⟨.fn (.func fid) cv,fv⟩],true,loF fzX,a1.tmps⟩ s1 {a1 with defers:=⟨.fn (.func fid) cv,fv⟩::a1.defers} w2:=
   ⟨g2,r1,r2,Yv.refl _ _ _ _,V4 _,r5,by rw[hdef1];exact DOK.nil (λ_ _ _=>rfl)⟩
  refine wpIn_mono (BY (r:=none) X hX (.inr r9) ⟨V4 _,V4 _⟩ q3 hsim2) λe a3 w3 hq3=>?_
  have fin:∀(rv:Fs) (u:FrameMode) (H3:AC) (n3:Nat) (g3:Yx),u≠ .run->CL P fid (first++cap) rv H3 n3 (RcOf rs (s1.env.filter λe=>Nat.blt e.1 (loF fzX)) R)->Z2 g3 H3 n3 w3->Yv s1.n g2 s1.H w2 g3 H3 w3->s1.n<=n3->
    DOK ⟨w2.heap.size,[⟨.fn (.func fid) cv,fv⟩],true,loF fzX,a1.tmps⟩ g3 H3 a3.defers a3.tmps w3->((u= .returning/\rv= .nilifc)\/∃x,VRel g3 rv x/\u= .panicking [{v:=x,recovered:=false}])->
    LeavesInM (FR none) 0 P fn a3.tmps (λe w'=>∃g' out H' n',R out H' n'/\ERel g' out e/\Z2 g' H' n' w'/\n<=n'/\Yv n g H w g' H' w') a3.defers u w3:=by
   rintro rv u H3 n3 g3 hu hA R3 T3 hn3 ⟨ms3,d1,d2,d3⟩ hmode;rw[d1,(d3 rfl).1];refine⟨hu,.inr ⟨by simp [FR,Fence.wide],.func fid,cv,fid,fv++cv,rfl,hinv w3,λ_ _=>trivial,?_⟩⟩;have hvs:VRels g3 (first++cap) (fv.toList++cv.toList):=VRels.append' (VRels.mono T3.le _ _ k1) (VRels.mono T3.le _ _ k2);have hc:=hA g3 w3 _ u R3 hvs hmode;rw[show(fv.toList++cv.toList).toArray=fv++cv by apply X5;simp]at hc;refine CallsDIn.mono hc ?_;rintro e u' w' ⟨⟨v,rfl⟩,hset,g',H',n',⟨x1,x2⟩,R',hn',T'⟩;show LeavesInM _ _ _ _ _ _ [] (settle u') w';rw[hset];have hE:BU g' (s1.env.filter λe=>Nat.blt e.1 (loF fzX)) a3.tmps:=by
    intro i gd z hz;obtain⟨z1,z2⟩:=FB _ _ _ hz;obtain⟨z3,z4,z5,z6⟩:=r2 i gd z z2;exact⟨z3,by rw[(d3 rfl).2 i z1];exact z4,λq=>(z5 q).mono (T3.le.trans T'.le),z6⟩
   obtain⟨v',y1,y2⟩:=Cw (s:=⟨s1.env.filter λe=>Nat.blt e.1 (loF fzX),H',n'⟩) R' hE hr x1;exact⟨v',y1,g',_,_,_,x2,y2,R',zo,((p3.trans (r3.floor p4)).trans (T3.floor zo)).trans (T'.floor zo)⟩
  cases e with
  |normal=>obtain⟨s3,q,g3,z1,z2,z3,z4,z5,z6⟩:=hq3;exact fin .nilifc .returning _ _ g3 zw q z1 z3 z4 z6 (.inl ⟨rfl,rfl⟩)
  |ret=>obtain⟨s3,q,g3,z1,z2,z3,z4,z5,z6⟩:=hq3;exact fin .nilifc .returning _ _ g3 zw q z1 z3 z4 z6 (.inl ⟨rfl,rfl⟩)
  |exit i=>obtain⟨s3,q,_⟩:=hq3;exact q.elim
  |goto l=>exact hq3
  |outgrown=>exact hq3.elim
  |panic chain=>
   obtain⟨v,H',n',q,g3,x,z1,z2,z3,rfl,z5,z6⟩:=hq3;exact fin v _ _ _ g3 zw q z1 z2 z3 z6 (.inr ⟨x,z5,rfl⟩)
 ·have ret:∀s,(rcs s rs).1/\R (.ret (rvS (rcs s rs).2)) s.H s.n->Sim n g H w fn.ntmps ⟨w.heap.size,[],true,0, #[]⟩ s a' w'->
    LeavesInM (FR none) 0 P fn a'.tmps (λe w'=>∃g' out H' n',R out H' n'/\ERel g' out e/\Z2 g' H' n' w'/\n<=n'/\Yv n g H w g' H' w') a'.defers .returning w':=by
   rintro s ⟨q1,q2⟩ ⟨g',p1,p2,p3,p4,p5,ms,p6,p7,p8⟩;rw[p6,(p8 rfl).1];obtain⟨v,k1,k2⟩:=Cw p1 p2 hr q1;exact⟨v,k1,g',_,_,_,q2,k2,p1,p4,p3⟩
  cases e with
  |normal=>exact absurd rfl hne
  |ret=>obtain⟨s,q,hs'⟩:=hq;exact ret s q hs'
  |exit i=>obtain⟨s,q,hs'⟩:=hq;exact q.elim
  |goto l=>exact hq
  |outgrown=>exact hq.elim
  |panic chain=>
   obtain⟨v,H',n',q,⟨g',x,p1,p2,p3,rfl,p5,ms,p6,p7,p8⟩⟩:=hq;show LeavesInM _ _ _ _ _ _ a'.defers _ _;rw[p6,(p8 rfl).1];exact⟨g',.pan v,H',n',q,⟨x,rfl,p5⟩,p1,p3,p2⟩
def sqH:Code->Code
 | .seq a _=>a
 |c=>c
def sqT:Code->Code
 | .seq _ b=>b
 |c=>c
def IS:Code->Array Oper
 | .region _ ops _=>ops
 |_=> #[]
def QD(P:Program)(N:Nat)(ops:Array Oper):Option (Z1×Option Nat×Nat):=match ops.toList with
 |[o0,o1]=>match o0.guard,o1.guard,copK P false false 0 o0.op,o1.op,o1.dst with
  |none,none,some (.v k),.defer {callee:=.value (.tmp t),args,.. },none=>if args.toList.isEmpty&&o0.dst.all (λd=>decide (d<N))then some (k,o0.dst,t)else none
  |_,_,_,_,_=>none
 |_=>none
def recOf(N:Nat)(ops:Array Oper):Option (Nat×Nat):=match ops.toList with
 |[o0,o1]=>match o0.guard,o1.guard,o0.op,o0.dst,o1.op,o1.dst with
  |none,none,.call {callee:=.builtin .recover,args,.. },some t4,.move (.tmp t),some t3=>if args.toList.isEmpty&&decide (t=t4)&&decide (t3<N)&&decide (t4<N)then some (t3,t4)else none
  |none,none,.call {callee:=.builtin .recover,args,.. },some t4,.assign (.tmp t),some t3=>if args.toList.isEmpty&&decide (t=t4)&&decide (t3<N)&&decide (t4<N)then some (t3,t4)else none
  |_,_,_,_,_,_=>none
 |_=>none
theorem QE(h:ops.toList=[o0,o1]):ops.size=2/\ops[0]?=some o0/\ops[1]?=some o1:=by
 have:ops= #[o0,o1]:=by apply X5;simpa using h
 subst this;exact⟨rfl,rfl,rfl⟩
theorem F2{rv:Fs}{Rc:AC->Nat->Prop}{t3 t4:Nat}
  (hf:P.funcs[fid]?=some fn) (hb:fn.body=some (.seq (.region id ops false) X)) (ho:recOf fn.ntmps ops=some (t3,t4)) (hX:Aw P fn.ntmps fz im kp X=some y) (r9:y.plain=true) (hr:fn.results.toList.isEmpty=true)
  (h:awp P y (Cd [] λo H' n'=>o= .ret (.tup [])/\Rc H' n') ⟨(t3,true,rv)::(t4,true,rv)::penv 0 args,H,n⟩):CL P fid args rv H n Rc:=by
 unfold recOf at ho;split at ho
 ·rename_i o0 o1 hl;obtain⟨h1,h2,h3⟩:=QE hl;split at ho
  ·rename_i q1 q2 q3 q4 q5 q6;split at ho
   ·rename_i hh;cases ho;simp only[V7,Vu]at hh;obtain⟨⟨⟨k1,k2⟩,k3⟩,k4⟩:=hh;subst k2;exact KK (ty:=0) hf hb h1 h2 h3 q1 q2 q3 rfl q4 (.inl q5) q6 k3 k4 (by apply X5;simpa using k1) hX r9 (by apply X5;simpa using hr) h
   ·cases ho
  ·rename_i q1 q2 q3 q4 q5 q6;split at ho
   ·rename_i hh;cases ho;simp only[V7,Vu]at hh;obtain⟨⟨⟨k1,k2⟩,k3⟩,k4⟩:=hh;subst k2;exact KK (ty:=0) hf hb h1 h2 h3 q1 q2 q3 rfl q4 (.inr q5) q6 k3 k4 (by apply X5;simpa using k1) hX r9 (by apply X5;simpa using hr) h
   ·cases ho
  ·cases ho
 ·cases ho
theorem Dw{f:Nat}{pre:List Code}{ys:List Yw}{fzX:List (Nat×Nat)}{rs:List RC}{R:Zb->AC->Nat->Prop}{d0:Option Nat}{k:Z1}
  (hf:P.funcs[f]?=some fn) (hb:fn.body=some (SE pre (.seq (.region id ops false) X))) (hname:(fn.name== "runtime.NumGoroutine")=false) (hpre:Nx P fn.ntmps fz im kp pre=some ys) (hppl:ys.all (·.plain)=true)
  (ho:QD P fn.ntmps ops=some (k,d0,t)) (hX:Aw P fn.ntmps fzX im kp X=some y) (r9:y.plain=true) (hr:crs P fn.results.toList=some rs) (hcall:BW P fid)
  (h:awp P (EQ ys) (KL P t ⟨d0,none,.v k⟩ y (loF fzX) fid rs R) ⟨penv 0 args,H,n⟩):AN P f args H n R:=by
 unfold QD at ho;split at ho
 ·rename_i o0 o1 hl;obtain⟨h1,h2,h3⟩:=QE hl;split at ho
  ·rename_i q1 q2 q3 q4 q5;split at ho
   ·rename_i hh;cases ho;simp only[V7]at hh;exact KM hf hb hname hpre hppl h1 h2 h3 q1 q2 q3 hh.2 q4 rfl (by apply X5;simpa using hh.1) q5 hX r9 hr hcall h
   ·cases ho
  ·cases ho
 ·cases ho
end
abbrev tm(i:Nat):Yy:=.t i
abbrev ci(n:Int):Yy:=.c (.int .i64 n)
abbrev cT:Yy:=.c (.bool true)
abbrev cF:Yy:=.c (.bool false)
abbrev z0:Fs:=.int .i64 0
abbrev zs:Fs:=.sl .nil []
abbrev zb:Fs:=.bool false
abbrev zr:Fs:=.str []
abbrev sq(a b:Yw):Yw:=.seq a b
abbrev rg(ops:List Z9)(kp:List Nat):Yw:=.reg 0 ops kp
abbrev ov(d:Nat)(k:Z1):Z9:=⟨some d,none,.v k⟩
abbrev om(d i:Nat):Z9:=⟨some d,none,.v (.mv (.t i))⟩
abbrev oi(d:Nat)(n:Int):Z9:=⟨some d,none,.v (.mv (.c (.int .i64 n)))⟩
abbrev ob(d:Nat)(b:Bool):Z9:=⟨some d,none,.v (.mv (.c (.bool b)))⟩
abbrev ol(d i:Nat):Z9:=⟨some d,none,.v (.ld 1 false (.t i))⟩
abbrev of(d k i:Nat):Z9:=⟨some d,none,.v (.fa k (.t i))⟩
abbrev oa(d k i j:Nat):Z9:=⟨some d,none,.v (.ia k (.t i) (.t j))⟩
abbrev ox(d k i:Nat):Z9:=⟨some d,none,.v (.ext k (.t i))⟩
abbrev on(d i:Nat):Z9:=⟨some d,none,.v (.len (.t i))⟩
abbrev ot(d i:Nat):Z9:=⟨some d,none,.v (.not (.t i))⟩
abbrev oy(d i j:Nat):Z9:=⟨some d,none,.pick (.t i) (.t j) (.c (.bool false))⟩
abbrev oz(d i j:Nat):Z9:=⟨some d,none,.pick (.t i) (.c (.bool true)) (.t j)⟩
abbrev oc(d f:Nat)(xs:List Yy):Z9:=⟨some d,none,.call true (.c (.fn (.func f) [] [])) xs⟩
abbrev oe(d f:Nat)(xs:List Yy):Z9:=⟨some d,none,.call false (.c (.fn (.func f) [] [])) xs⟩
abbrev gv(d g:Nat)(b:Bool)(k:Z1):Z9:=⟨some d,some (g,b),.v k⟩
abbrev gm(d g:Nat)(b:Bool)(i:Nat):Z9:=⟨some d,some (g,b),.v (.mv (.t i))⟩
abbrev gl(d g:Nat)(b:Bool)(i:Nat):Z9:=⟨some d,some (g,b),.v (.ld 1 false (.t i))⟩
abbrev gf(d g:Nat)(b:Bool)(k i:Nat):Z9:=⟨some d,some (g,b),.v (.fa k (.t i))⟩
abbrev ga(d g:Nat)(b:Bool)(k i j:Nat):Z9:=⟨some d,some (g,b),.v (.ia k (.t i) (.t j))⟩
abbrev AOf(P:Program)(f:FuncId)(c:Yw)(rs:List RC):Prop:=∀{args:List Fs} {H:AC} {n:Nat} {R:Zb->AC->Nat->Prop},awp P c (Cd rs R) ⟨penv 0 args,H,n⟩->AN P f args H n R
def mkA{P:Program}{f:FuncId}{fn:Func}{c:Code}{ac:Yw}{fz im:List (Nat×Nat)}{rs:List RC}(kp:Nat->List Nat)
  (hf:P.funcs[f]?=some fn:=by kernel_rfl) (hb:fn.body=some c:=by kernel_rfl) (hname:(fn.name== "runtime.NumGoroutine")=false:=by kernel_rfl) (hc:Aw P fn.ntmps fz im kp c=some ac:=by kernel_rfl) (hr:crs P fn.results.toList=some rs:=by kernel_rfl):AOf P f ac rs:=
 λh=>Hl hf hb hname hc hr h
abbrev Kc(P:Program)(fn:Func)(fz im:List (Nat×Nat))(kl:List (List Nat)):={c:Yw//Aw P fn.ntmps fz im (λr=>kl.getD r []) (fn.body.getD .skip)=some c}
def mkB{P:Program}{f:FuncId}{fn:Func}{fz im:List (Nat×Nat)}{kl:List (List Nat)}{c:Kc P fn fz im kl}{rs:List RC}(h:(P.funcs[f]?,fn.body.isSome,(fn.name== "runtime.NumGoroutine"),crs P fn.results.toList)=(some fn,true,false,some rs):=by kernel_rfl):AOf P f c.1 rs:=by
 simp only[Prod.mk.injEq]at h
 obtain⟨h1,h2,h3,h4⟩:=h
 obtain⟨b,hb⟩:=Option.isSome_iff_exists.1 h2
 obtain⟨c,hc⟩:=c
 rw[hb]at hc
 exact mkA (fz:=fz) (im:=im) (λr=>kl.getD r []) h1 hb h3 hc h4
def mkL{P:Program}{f:FuncId}(fn:Func)(h:(P.funcs[f]?,fn.body.isNone,(fn.name== "runtime.NumGoroutine"))=(some fn,false,false):=by kernel_rfl):BW P f:=by
 simp only[Prod.mk.injEq]at h
 exact⟨fn,h⟩
structure Kf(P:Program)(f:FuncId)(fn:Func)(fz im:List (Nat×Nat))(kl:List (List Nat))(rs:List RC) where
 c:Kc P fn fz im kl:=by constructor;conv=>lhs;reduce;simp only[seval]
 h:(P.funcs[f]?,fn.body.isSome,(fn.name== "runtime.NumGoroutine"),crs P fn.results.toList)=(some fn,true,false,some rs):=by kernel_rfl
abbrev Kg(P:Program)(f:FuncId)(fn:Func)(kl:List (List Nat))(rs:List RC):=Kf P f fn [] [] kl rs
section
variable {P:Program} {f:FuncId} {fn:Func} {fz im:List (Nat×Nat)} {kl:List (List Nat)} {rs:List RC}
instance :CoeOut (Kf P f fn fz im kl rs) Yw:=⟨λk=>k.c.1⟩
theorem Kf.a(k:Kf P f fn fz im kl rs):AOf P f k.c.1 rs:=mkB k.h
theorem Kf.l(k:Kf P f fn fz im kl rs):BW P f:=mkL fn (by
 have h:=k.h
 simp only[Prod.mk.injEq]at h⊢
 obtain⟨h1,h2,h3,h4⟩:=h
 exact⟨h1,by cases hb:fn.body<;>simp_all,h3⟩)
end
def u8n(n:Nat)(h:n<256):UInt8.ofBitVec (BitVec.ofFin ⟨n,h⟩)=UInt8.ofNat n:=by
 apply UInt8.toNat_inj.1
 show n=(UInt8.ofNat n).toNat
 rw[UInt8.toNat_ofNat',Xy h]
section
abbrev Tab:=FuncId->List Fs->AC->Prop×Fs
def AI(P:Program)(T:Tab):Prop:=∀f args H n,(T f args H).1->Ab P f args H n (T f args H).2
def Fd(T:Tab)(args:List Fs)(H:AC):Fs->Prop×Fs
 | .fn (.func f) first cap=>T f (first++args++cap) H
 |_=>(False,.tup [])
def cpuT(T:Tab)(args:List Fs):Fs->Prop×Fs
 | .fn (.func f) first cap=>((T f (first++args++cap) hnil).1/\unders 0 (first++args++cap)/\(T f (first++args++cap) hnil).2.under 0,(T f (first++args++cap) hnil).2)
 |_=>(False,.tup [])
section
variable (P:Program) (T:Tab) (Qp:Fs->AC->Nat->Prop) (base:Nat)
def BJ(o:Z9)(K:AS->Prop)(s:AS):Prop:=match o.k with
 | .call true f args=>gok s.env o.guard/\(gvb s.env o.guard=true->(lk s.env f).1=true/\oks s.env args/\(Fd T (args.map (lkv s.env)) s.H (lkv s.env f)).1)/\
   K (s.put o.dst (gvb s.env o.guard) (Fd T (args.map (lkv s.env)) s.H (lkv s.env f)).2)
 | .cpu f args=>gok s.env o.guard/\(gvb s.env o.guard=true->((lk s.env f).1=true/\oks s.env args/\(cpuT T (args.map (lkv s.env)) (lkv s.env f)).1)/\K (s.put o.dst true (cpuT T (args.map (lkv s.env)) (lkv s.env f)).2))/\
   (gvb s.env o.guard=false->K (s.put o.dst false (.tup [])))
 |_=>AU P Qp base o K s
def runT:List Z9->(AS->Prop)->AS->Prop
 |[],K,s=>K s
 |o::r,K,s=>BJ P T Qp base o (runT r K) s
def DM(cx:Nat->Fs):List (Nat×Z9)->(AS->Prop)->AS->Prop
 |[],K,s=>K s
 |o::r,K,s=>(gvb s.env o.2.guard=true->BS base cx (lkv s.env) o.1 o.2.k)/\BJ P T Qp base o.2 (λs'=>EJ cx o.1 o.2.k s.H s'.H/\DM cx r K s') s
end
def ev(P:Program)(T:Tab):Yw->(Z3->AS->Prop)->AS->Prop
 | .skip,Q,s=>Q .normal s
 | .reg bump ops keep,Q,s=>runT P T (λv H n=>Q (.pan v) ⟨[],H,n⟩) s.n ops (λs'=>Q .normal (s'.keep keep)) {s with n:=s.n+bump}
 | .seq a b,Q,s=>ev P T a (λe s'=>match e with
  | .normal=>ev P T b Q s'
  |e=>Q e s') s
 | .cond c a b,Q,s=>(lk s.env c).1=true/\isB (lkv s.env c)/\(toB (lkv s.env c)=true->ev P T a Q s)/\(toB (lkv s.env c)=false->ev P T b Q s)
 | .block id c,Q,s=>ev P T c (λe s'=>match e with
  | .exit i=>if i=id then Q .normal s' else Q (.exit i) s'
  |e=>Q e s') s
 | .loop c,Q,s=>∃(I:AS->Prop) (μ:AS->Nat),I s/\∀s1,I s1->ev P T c (λe s'=>match e with
  | .normal=>∃s2,H8 s1 s' s2/\I s2/\μ s2<μ s1
  |e=>Q e s') s1
 | .exit id,Q,s=>Q (.exit id) s
 | .ret,Q,s=>Q .ret s
 | .rfun g ps nt asg body,Q,s=>(lk s.env g).1=true/\Fw P s Q ps nt asg body (lkv s.env g)
 | .frz t,Q,s=>frzA Q s t (eget s.env t)
 | .frzo t,Q,s=>FX Q s t (eget s.env t)
 | .regx bump ops keep,Q,s=>DM P T (λv H n=>Q (.pan v) ⟨[],H,n⟩) s.n (cxOf s.env s.n) ops (λs'=>Q .normal (s'.keep keep)) {s with n:=s.n+bump}
section
variable {P:Program} {T:Tab} (hT:AI P T) {Qp:Fs->AC->Nat->Prop} {base:Nat}
include hT
variable {K K':AS->Prop}
theorem FC{o:Z9}{s:AS}(hK:∀s,K s->K' s)(h:BJ P T Qp base o K s):AU P Qp base o K' s:=by
 obtain⟨d,g,k⟩:=o;unfold BJ at h;split at h
 ·rename_i f args hk;simp only at hk h;subst hk;obtain⟨h0,h1,h2⟩:=h;refine⟨h0,_,λq=>?_,hK _ h2⟩;obtain⟨p1,p2,p3⟩:=h1 q;refine⟨p1,p2,?_⟩;generalize lkv s.env f=fv at p3⊢;unfold Fd at p3⊢;split at p3
  ·exact hT _ _ _ _ p3
  ·exact p3.elim
 ·rename_i f args hk;simp only at hk h;subst hk;obtain⟨h0,h1,h2⟩:=h;refine⟨h0,λq=>?_,λq=>hK _ (h2 q)⟩;obtain⟨⟨p1,p2,p3⟩,p4⟩:=h1 q;refine⟨⟨p1,p2⟩,?_⟩;simp only[A5];generalize lkv s.env f=fv at p3 p4⊢;unfold cpuT at p3 p4;split at p3
  ·rename_i fid first cap
   obtain⟨k1,k2,k3⟩:=p3;have hq:=hT _ _ hnil 0 k1;exact⟨_,⟨k2,k3,hq.mono λout H' n' hh=>⟨_,hh.1,Wk.refl _⟩⟩,hK _ p4⟩
  ·exact p3.elim
 ·exact Ds hK h
theorem IT(hK:∀s,K s->K' s):∀(l:List Z9) (s:AS),runT P T Qp base l K s->DA P Qp base l K' s
 |[],s,h=>hK s h
 |o::r,s,h=>FC hT (IT hK r) h
theorem G8{cx:Nat->Fs}(hK:∀s,K s->K' s):∀(l:List (Nat×Z9)) (s:AS),DM P T Qp base cx l K s->runX P Qp base cx l K' s
 |[],s,h=>hK s h
 |o::r,s,h=>⟨h.1,FC hT (λs' k=>⟨k.1,G8 hK r s' k.2⟩) h.2⟩
end
variable {c:Yw} {Q:Z3->AS->Prop} {H' H:AC} {s:AS} {K K':AS->Prop} {v r:Fs} {Qp Qp':Fs->AC->Nat->Prop} {f:FuncId} {l a:List Fs} {id base esz bytes n:Nat} {P:Program} {α:Type}
theorem IV{Q':Z3->AS->Prop}(hQ:∀e s,Q e s->Q' e s){out:Zb}{n':Nat}(h:Gl Q s id out H' n'):Gl Q' s id out H' n':=by
 cases out with
 |pan v=>exact hQ _ _ h
 |ret v=>grind [Gl]
theorem G9{o:Z9}(hQ:∀v H n,Qp v H n->Qp' v H n)(hK:∀s,K s->K' s)(h:AU P Qp base o K s):AU P Qp' base o K' s:=by
 have h':=Ds hK h;obtain⟨d,g,k⟩:=o;refine⟨h'.1,?_⟩;have h2:=h'.2;cases k with
 |call q f args=>
  cases q with
  |true=>exact h2
  |false=>
   refine⟨λq=>⟨(h2.1 q).1,?_⟩,h2.2⟩;have h3:=(h2.1 q).2;simp only[A5]at h3⊢;generalize lkv s.env f=v at h3⊢;cases v<;>(try simp only at h3⊢)<;>first|exact h3.elim|skip
   rename_i ff first cap
   cases ff with
   |func f=>
    refine AN.mono (R:=λout H' n'=>match out with
     | .ret v=>K' ({s with H:=H',n:=n'}.put d true v)
     | .pan v=>Qp v H' n') h3 λo H' n' hh=>?_
    cases o with
    |ret v=>exact hh
    |pan v=>exact hQ _ _ _ hh
   |yield l=>cases first with
    |cons _ _=>exact h3.elim
    |nil=>cases cap with
     |cons _ _=>exact h3.elim
     |nil=>exact h3
   |_=>exact h3.elim
 |pan x=>exact⟨λq=>⟨(h2.1 q).1,(h2.1 q).2.1,hQ _ _ _ (h2.1 q).2.2⟩,h2.2⟩
 |_=>exact h2
theorem KN(hQ:∀v H n,Qp v H n->Qp' v H n):∀(l:List Z9) (s:AS),DA P Qp base l K s->DA P Qp' base l K s
 |[],s,h=>h
 |o::r,s,h=>G9 hQ (KN hQ r) h
theorem QF{cx:Nat->Fs}(hQ:∀v H n,Qp v H n->Qp' v H n):∀(l:List (Nat×Z9)) (s:AS),runX P Qp base cx l K s->runX P Qp' base cx l K s
 |[],s,h=>h
 |o::r,s,h=>⟨h.1,G9 hQ (λs' k=>⟨k.1,QF hQ r s' k.2⟩) h.2⟩
theorem Dx{T:Tab}(hT:AI P T):∀(c:Yw) (Q Q':Z3->AS->Prop) (s:AS),(∀e s,Q e s->Q' e s)->ev P T c Q s->awp P c Q' s
 | .skip,Q,Q',s,hQ,h=>hQ _ _ h
 | .exit _,Q,Q',s,hQ,h=>hQ _ _ h
 | .ret,Q,Q',s,hQ,h=>hQ _ _ h
 | .reg bump ops keep,Q,Q',s,hQ,h=>by
  have h1:=IT (Qp:=λv H n=>Q (.pan v) ⟨[],H,n⟩) hT (K':=λs'=>Q' .normal (s'.keep keep)) (λs h=>hQ _ _ h) ops _ h;exact KN (λv H n=>hQ _ _) ops _ h1
 | .regx bump ops keep,Q,Q',s,hQ,h=>by
  have h1:=G8 (Qp:=λv H n=>Q (.pan v) ⟨[],H,n⟩) hT (K':=λs'=>Q' .normal (s'.keep keep)) (λs h=>hQ _ _ h) ops _ h;exact QF (λv H n=>hQ _ _) ops _ h1
 | .seq a b,Q,Q',s,hQ,h=>Dx hT a _ _ s (λe s h=>by
   cases e with
   |normal=>exact Dx hT b _ _ s hQ h
   |_=>exact hQ _ _ h) h
 | .cond c a b,Q,Q',s,hQ,h=>⟨h.1,h.2.1,λq=>Dx hT a _ _ s hQ (h.2.2.1 q),λq=>Dx hT b _ _ s hQ (h.2.2.2 q)⟩
 | .block id c,Q,Q',s,hQ,h=>Dx hT c _ _ s (λe s h=>by
   cases e with
   |exit i=>grind
   |_=>exact hQ _ _ h) h
 | .loop c,Q,Q',s,hQ,⟨I,μ,h1,h2⟩=>⟨I,μ,h1,λs1 i1=>Dx hT c _ _ s1 (λe s h=>by
   cases e with
   |normal=>exact h
   |_=>exact hQ _ _ h) (h2 s1 i1)⟩
 | .rfun g ps nt asg body,Q,Q',s,hQ,h=>by
  refine⟨h.1,?_⟩;have h2:=h.2;generalize lkv s.env g=v at h2⊢;cases v<;>simp only[Fw]at h2⊢ <;>first|exact h2.elim|skip
  rename_i f first cap
  cases f<;>simp only at h2⊢ <;>first|exact h2.elim|skip
  exact λl=>(h2 l).mono λo H' n' q=>IV hQ q
 | .frz t,Q,Q',s,hQ,h=>by
  have h2:frzA Q s t (eget s.env t):=h;show frzA Q' s t (eget s.env t);unfold frzA at h2⊢;split at h2
  ·grind
  ·grind
  ·exact h2.elim
 | .frzo t,Q,Q',s,hQ,h=>by
  have h2:FX Q s t (eget s.env t):=h;show FX Q' s t (eget s.env t);unfold FX at h2⊢;split at h2
  ·grind
  ·exact hQ _ _ h2
  ·exact h2.elim
theorem IW{T:Tab}{o:Z9}(hQ:∀v H n,Qp v H n->Qp' v H n)(hK:∀s,K s->K' s)(h:BJ P T Qp base o K s):BJ P T Qp' base o K' s:=by
 obtain⟨d,g,k⟩:=o;unfold BJ at h⊢;split at h
 ·exact⟨h.1,h.2.1,hK _ h.2.2⟩
 ·simp_all
 ·exact G9 hQ hK h
theorem KO{T:Tab}(hQ:∀v H n,Qp v H n->Qp' v H n)(hK:∀s,K s->K' s):∀(l:List Z9) (s:AS),runT P T Qp base l K s->runT P T Qp' base l K' s
 |[],s,h=>hK s h
 |o::r,s,h=>IW hQ (KO hQ hK r) h
theorem IX{T:Tab}{cx:Nat->Fs}(hQ:∀v H n,Qp v H n->Qp' v H n)(hK:∀s,K s->K' s):∀(l:List (Nat×Z9)) (s:AS),DM P T Qp base cx l K s->DM P T Qp' base cx l K' s
 |[],s,h=>hK s h
 |o::r,s,h=>⟨h.1,IW hQ (λs' k=>⟨k.1,IX hQ hK r s' k.2⟩) h.2⟩
theorem Dy{T:Tab}:∀(c:Yw) (Q Q':Z3->AS->Prop) (s:AS),(∀e s,Q e s->Q' e s)->ev P T c Q s->ev P T c Q' s
 | .skip,Q,Q',s,hQ,h=>hQ _ _ h
 | .exit _,Q,Q',s,hQ,h=>hQ _ _ h
 | .ret,Q,Q',s,hQ,h=>hQ _ _ h
 | .reg bump ops keep,Q,Q',s,hQ,h=>KO (λv H n=>hQ _ _) (λs=>hQ _ _) ops _ h
 | .regx bump ops keep,Q,Q',s,hQ,h=>IX (λv H n=>hQ _ _) (λs=>hQ _ _) ops _ h
 | .seq a b,Q,Q',s,hQ,h=>Dy a _ _ s (λe s h=>by
   cases e with
   |normal=>exact Dy b _ _ s hQ h
   |_=>exact hQ _ _ h) h
 | .cond c a b,Q,Q',s,hQ,h=>⟨h.1,h.2.1,λq=>Dy a _ _ s hQ (h.2.2.1 q),λq=>Dy b _ _ s hQ (h.2.2.2 q)⟩
 | .block id c,Q,Q',s,hQ,h=>Dy c _ _ s (λe s h=>by
   cases e with
   |exit i=>grind
   |_=>exact hQ _ _ h) h
 | .loop c,Q,Q',s,hQ,⟨I,μ,h1,h2⟩=>⟨I,μ,h1,λs1 i1=>Dy c _ _ s1 (λe s h=>by
   cases e with
   |normal=>exact h
   |_=>exact hQ _ _ h) (h2 s1 i1)⟩
 | .rfun g ps nt asg body,Q,Q',s,hQ,h=>by
  refine⟨h.1,?_⟩;have h2:=h.2;generalize lkv s.env g=v at h2⊢;cases v<;>simp only[Fw]at h2⊢ <;>first|exact h2.elim|skip
  rename_i f first cap
  cases f<;>simp only at h2⊢ <;>first|exact h2.elim|skip
  exact λl=>(h2 l).mono λo H' n' q=>IV hQ q
 | .frz t,Q,Q',s,hQ,h=>by
  have h2:frzA Q s t (eget s.env t):=h;show frzA Q' s t (eget s.env t);unfold frzA at h2⊢;split at h2
  ·grind
  ·grind
  ·exact h2.elim
 | .frzo t,Q,Q',s,hQ,h=>by
  have h2:FX Q s t (eget s.env t):=h;show FX Q' s t (eget s.env t);unfold FX at h2⊢;split at h2
  ·grind
  ·exact hQ _ _ h2
  ·exact h2.elim
theorem AE{T:Tab}(hT:AI P T)(h:ev P T c Q s):awp P c Q s:=Dx hT c Q Q s (λ_ _ h=>h) h
inductive Item where
 |c (c:Yw)
 |blk (id:Nat)
section
variable (P:Program) (T:Tab)
def kont(Q:Z3->AS->Prop):List Item->Z3->AS->Prop
 |[],e,s=>Q e s
 | .c c::k,e,s=>match e with
  | .normal=>ev P T c (kont Q k) s
  |e=>kont Q k e s
 | .blk id::k,e,s=>match e with
  | .exit i=>if i=id then kont Q k .normal s else kont Q k (.exit i) s
  |e=>kont Q k e s
def evK(c:Yw)(k:List Item)(Q:Z3->AS->Prop)(s:AS):Prop:=ev P T c (kont P T Q k) s
def runK(b:Nat)(ops:List Z9)(kp:List Nat)(k:List Item)(Q:Z3->AS->Prop)(s:AS):Prop:=
 runT P T (λv H n=>kont P T Q k (.pan v) ⟨[],H,n⟩) b ops (λs'=>kont P T Q k .normal (s'.keep kp)) s
def A9(b:Nat)(cx:Nat->Fs)(ops:List (Nat×Z9))(kp:List Nat)(k:List Item)(Q:Z3->AS->Prop)(s:AS):Prop:=
 DM P T (λv H n=>kont P T Q k (.pan v) ⟨[],H,n⟩) b cx ops (λs'=>kont P T Q k .normal (s'.keep kp)) s
def retK(b:Nat)(d:Option Nat)(r:List Z9)(kp:List Nat)(k:List Item)(Q:Z3->AS->Prop)(s:AS):Zb->AC->Nat->Prop
 | .ret v,H',n'=>runK P T b r kp k Q ({s with H:=H',n:=n'}.put d true v)
 | .pan v,H',n'=>kont P T Q k (.pan v) ⟨[],H',n'⟩
def Dz(b:Nat)(cx:Nat->Fs)(m:Nat)(d:Option Nat)(r:List (Nat×Z9))(kp:List Nat)(k:List Item)(Q:Z3->AS->Prop)(s:AS):Zb->AC->Nat->Prop
 | .ret v,H',n'=>FW (cx ((m-300000)/2)) s.H H'/\A9 P T b cx r kp k Q ({s with H:=H',n:=n'}.put d true v)
 | .pan v,H',n'=>kont P T Q k (.pan v) ⟨[],H',n'⟩
def yldK(b:Nat)(d:Option Nat)(r:List Z9)(kp:List Nat)(k:List Item)(Q:Z3->AS->Prop)(s:AS)(x:Bool)(H':AC)(n':Nat):Prop:=runK P T b r kp k Q ({s with H:=H',n:=n'}.put d true (.bool x))
def yldXK(b:Nat)(cx:Nat->Fs)(m:Nat)(d:Option Nat)(r:List (Nat×Z9))(kp:List Nat)(k:List Item)(Q:Z3->AS->Prop)(s:AS)(x:Bool)(H':AC)(n':Nat):Prop:=FW (cx ((m-300000)/2)) s.H H'/\A9 P T b cx r kp k Q ({s with H:=H',n:=n'}.put d true (.bool x))
end
def Lc(P:Program)(args:List Fs)(H:AC)(n:Nat)(R:Zb->AC->Nat->Prop)(Y:Bool->AC->Nat->Prop):Fs->Prop
 | .fn (.func f) first cap=>AN P f (first++args++cap) H n R
 | .fn (.yield l) [] []=>B2 P l args H n Y
 |_=>False
def stE(H:AC)(sz:Nat)(v:Fs):Fs->Prop×AC
 | .ptr id off=>match hget H id with
  |some (.box cs)=>(off+sz<=cs.length,hset H id (.box (splice cs off v.cells)))
  |_=>(False,H)
 | .ap id esz i off=>match hget H id with
  |some (.arr e l)=>(e=esz/\i<l.length/\(DL (l[i]?.getD (.tup [])) off sz esz v).1,hset H id (.arr e (l.set i (DL (l[i]?.getD (.tup [])) off sz esz v).2)))
  |_=>(False,H)
 |_=>(False,H)
theorem KP{sz:Nat}{a:Fs}{K:AC->Prop}:stAt H sz v K a=((stE H sz v a).1/\K (stE H sz v a).2):=by
 cases a<;>simp only[stAt,stE,false_and]
 ·grind
 ·grind
def appE(H:AC)(id esz bytes:Nat):Fs->Option (List Fs)->Prop×AC×Fs
 | .sl tok l,some l'=>(hget H id=none/\At H esz tok/\small (l.length+l'.length) bytes/\l.length+l'.length<=35184372088832/\0<esz,hset (AL H tok) id .tok,.sl (.own id esz) (l++l'))
 |_,_=>(False,H,.tup [])
theorem Ld{K:AC->Fs->Prop}{x:Option (List Fs)}:K9 H id esz bytes K v x=((appE H id esz bytes v x).1/\K (appE H id esz bytes v x).2.1 (appE H id esz bytes v x).2.2):=by
 cases v<;>cases x<;>simp [K9,appE,Xa]
def slAE(H:AC)(n:Nat)(lo hi:Int):Fs->Prop×AC×Fs
 | .ptr id 0=>match hget H id with
  |some (.box cs)=>(cs.length=n/\0<=lo/\lo<=hi/\hi<=n/\lo<n,hset H id (.arr 1 cs),.ref id 1 lo.toNat (hi.toNat-lo.toNat) (n-lo.toNat))
  |some (.arr e cs)=>(e=1/\cs.length=n/\0<=lo/\lo<=hi/\hi<=n/\lo<n,H,.ref id 1 lo.toNat (hi.toNat-lo.toNat) (n-lo.toNat))
  |_=>(False,H,.tup [])
 |_=>(False,H,.tup [])
theorem QG{lo hi:Int}{K:AC->Fs->Prop}:Gk H n lo hi K v=((slAE H n lo hi v).1/\K (slAE H n lo hi v).2.1 (slAE H n lo hi v).2.2):=by
 cases v<;>simp only[Gk,slAE,false_and];rename_i id off;cases off with
 |succ o=>simp
 |zero=>grind
def mksE(H:AC)(id esz bytes:Nat)(zero:Fs)(v:Fs):Prop×AC×Fs:=
 (hget H id=none/\CP v/\0<=toI v/\small (toI v).toNat bytes/\toI v<=35184372088832/\zero.cells.length=esz,hset H id (.arr esz (List.replicate (toI v).toNat zero)),.ref id esz 0 (toI v).toNat (toI v).toNat)
def frzE(s:AS)(t:Nat):Prop×AS:=match eget s.env t with
 |some (true,.ref id e off len cap)=>match hget s.H id with
  |some (.arr e' l)=>(e'=e/\off+len<=l.length/\len<=cap,{s with env:=(t,true,.sl (if len=cap then .exact e else .none e) ((l.drop off).take len))::s.env,H:=hset s.H id (.frz e l)})
  |some (.frz e' l)=>(e'=e/\off+len<=l.length/\len<=cap,{s with env:=(t,true,.sl (if len=cap then .exact e else .none e) ((l.drop off).take len))::s.env})
  |_=>(False,s)
 |some (true,.ptr id 0)=>match hget s.H id with
  |some (.arr e l)=>(e=1/\l.all isIn=true,{s with H:=hset s.H id (.box l)})
  |some (.box _)=>(True,s)
  |_=>(False,s)
 |_=>(False,s)
theorem QH{t:Nat}:frzA Q s t (eget s.env t)=((frzE s t).1/\Q .normal (frzE s t).2):=by
 unfold frzE;cases eget s.env t with
 |none=>simp [frzA]
 |some gv=>
  obtain⟨g,v⟩:=gv;cases g<;>cases v<;>try simp only[frzA,false_and]
  case true.ptr id off=>
   cases off with
   |zero=>
    simp only[];cases hget s.H id with
    |none=>simp
    |some ob=>cases ob<;>simp [Xa]
   |succ k=>simp []
  case true.ref id e off len cap=>
   cases hget s.H id with
   |none=>simp
   |some ob=>cases ob<;>simp [Xa]
def GO(s:AS)(t:Nat):Prop×AS:=match eget s.env t with
 |some (true,.ref id e off len cap)=>match hget s.H id with
  |some (.arr e' l)=>(e'=e/\off=0/\l.length=cap/\len<=cap,{env:=(t,true,.sl (.own s.n e) (l.take len))::s.env,H:=hset (hset s.H id .dead) s.n .tok,n:=s.n+1})
  |_=>(False,s)
 |some (true,.sl tok l)=>(True,{s with env:=(t,true,.sl tok l)::s.env})
 |_=>(False,s)
theorem Mr{t:Nat}:FX Q s t (eget s.env t)=((GO s t).1/\Q .normal (GO s t).2):=by
 unfold GO;cases eget s.env t with
 |none=>simp [FX]
 |some gv=>
  obtain⟨g,v⟩:=gv;cases g<;>cases v<;>simp only[FX,false_and,WQ];rename_i id e off len cap;cases hget s.H id with
  |none=>simp
  |some ob=>cases ob<;>simp [Xa]
def KQ(H:AC)(id esz bytes:Nat)(zero:Fs)(K:AC->Fs->Prop)(v:Fs)(x:Option (List Fs)):Prop:=DQ H id esz bytes zero K v x
theorem CZ{zero:Fs}{K:AC->Fs->Prop}{tok:Zd}{l':List Fs}:KQ H id esz bytes zero K (.sl tok l) (some l')=
  (hget H id=none/\0<esz/\zero.cells.length=esz/\(tok= .nil\/tok= .exact esz)/\small (l.length+l'.length) bytes/\l.length+l'.length<=35184372088832/\
   (l'=[]->K H (.sl tok l))/\
   (l'≠[]->∀cap,l.length+l'.length<=cap->K (hset H id (.arr esz (l++l'++List.replicate (cap-(l.length+l'.length)) zero))) (.ref id esz 0 (l.length+l'.length) cap))):=rfl
theorem HB{zero:Fs}{K:AC->Fs->Prop}{i0 e off len cap e':Nat}{l':List Fs}(h:hget H i0=some (.arr e' l)):KQ H id esz bytes zero K (.ref i0 e off len cap) (some l')=
  (hget H id=none/\0<esz/\zero.cells.length=esz/\e=esz/\off=0/\small (len+l'.length) bytes/\len+l'.length<=35184372088832/\e'=esz/\l.length=cap/\len<=cap/\
     (len+l'.length<=cap->K (hset H i0 (.arr esz (l.take len++l'++l.drop (len+l'.length)))) (.ref i0 esz 0 (len+l'.length) cap))/\
     (cap<len+l'.length->∀cap',len+l'.length<=cap'->K (hset H id (.arr esz (l.take len++l'++List.replicate (cap'-(len+l'.length)) zero))) (.ref id esz 0 (len+l'.length) cap'))):=by
 simp only[KQ,DQ,h]
section
variable {P:Program} {T:Tab} {Q:Z3->AS->Prop} {k:List Item} {s:AS} {b:Nat} {cx:Nat->Fs} {kp:List Nat} {r:List Z9} {rx:List (Nat×Z9)}
variable {c:Yw} {H:AC} {v z:Fs} {w str ag:Bool} {xs:List Yy} {i id t m rel esz bytes sz:Nat} {x f y a:Yy} {o:Z1} {d:Option Nat}
theorem AF(h:evK P T c [] Q s):ev P T c Q s:=by
 have:kont P T Q []=Q:=by funext e s;rfl
 unfold evK at h;rwa[this]at h
theorem Ms{e:Z3}:kont P T Q [] e s=Q e s:=rfl
theorem ER{c:Yw}:kont P T Q (.c c::k) .normal s=evK P T c k Q s:=rfl
theorem kont_e{c:Yw}{i:Nat}:kont P T Q (.c c::k) (.exit i) s=kont P T Q k (.exit i) s:=rfl
theorem kont_r{c:Yw}:kont P T Q (.c c::k) .ret s=kont P T Q k .ret s:=rfl
theorem kont_p{c:Yw}{v:Fs}:kont P T Q (.c c::k) (.pan v) s=kont P T Q k (.pan v) s:=rfl
theorem U8{i:Nat}:kont P T Q (.blk i::k) .normal s=kont P T Q k .normal s:=rfl
theorem U9{id i:Nat}:kont P T Q (.blk id::k) (.exit i) s=if i=id then kont P T Q k .normal s else kont P T Q k (.exit i) s:=rfl
theorem VA{i:Nat}:kont P T Q (.blk i::k) .ret s=kont P T Q k .ret s:=rfl
theorem VB{i:Nat}{v:Fs}:kont P T Q (.blk i::k) (.pan v) s=kont P T Q k (.pan v) s:=rfl
theorem k_skip:evK P T .skip k Q s=kont P T Q k .normal s:=rfl
theorem k_exit{i:Nat}:evK P T (.exit i) k Q s=kont P T Q k (.exit i) s:=rfl
theorem k_ret:evK P T .ret k Q s=kont P T Q k .ret s:=rfl
theorem k_seq{x y:Yw}:evK P T (.seq x y) k Q s=evK P T x (.c y::k) Q s:=by
 unfold evK;simp only[ev];exact congrArg (λq=>ev P T x q s) (by funext e s';cases e<;>rfl)
theorem VC{i:Nat}{x:Yw}:evK P T (.block i x) k Q s=evK P T x (.blk i::k) Q s:=by
 unfold evK;simp only[ev];exact congrArg (λq=>ev P T x q s) (by funext e s';cases e<;>rfl)
theorem k_cond{c:Yy}{x y:Yw}:evK P T (.cond c x y) k Q s=((lk s.env c).1=true/\isB (lkv s.env c)/\(toB (lkv s.env c)=true->evK P T x k Q s)/\(toB (lkv s.env c)=false->evK P T y k Q s)):=rfl
theorem k_reg{bump:Nat}{ops:List Z9}{kp:List Nat}:evK P T (.reg bump ops kp) k Q s=runK P T s.n ops kp k Q {s with n:=s.n+bump}:=rfl
theorem k_regx{bump:Nat}{ops:List (Nat×Z9)}{kp:List Nat}:evK P T (.regx bump ops kp) k Q s=A9 P T s.n (cxOf s.env s.n) ops kp k Q {s with n:=s.n+bump}:=rfl
theorem k_rfun{g:Yy}{ps:Array Tmp}{nt:Nat}{x y:Code}:evK P T (.rfun g ps nt x y) k Q s=((lk s.env g).1=true/\Fw P s (kont P T Q k) ps nt x y (lkv s.env g)):=rfl
theorem k_frz{t:Nat}:evK P T (.frz t) k Q s=((frzE s t).1/\kont P T Q k .normal (frzE s t).2):=QH
theorem k_frzo{t:Nat}:evK P T (.frzo t) k Q s=((GO s t).1/\kont P T Q k .normal (GO s t).2):=Mr
theorem r_ext{d:Option Nat}{x:XOp}{xs:List Yy}:runK P T b (⟨d,none,.ext x xs⟩::r) kp k Q s=(oks s.env xs/\(xE b x s.H (xs.map (lkv s.env))).1/\runK P T b r kp k Q ({s with H:=(xE b x s.H (xs.map (lkv s.env))).2.1}.put d true (xE b x s.H (xs.map (lkv s.env))).2.2)):=by
 simp only[runK,runT,BJ];exact MT
def extK(P:Program)(T:Tab)(b:Nat)(d:Option Nat)(x:XOp)(xs:List Yy)(r:List Z9)(kp:List Nat)(k:List Item)(Q:Z3->AS->Prop)(s:AS):Bool->Prop
 |true=>oks s.env xs/\(xE b x s.H (xs.map (lkv s.env))).1/\runK P T b r kp k Q ({s with H:=(xE b x s.H (xs.map (lkv s.env))).2.1}.put d true (xE b x s.H (xs.map (lkv s.env))).2.2)
 |false=>runK P T b r kp k Q (s.put d false (.tup []))
theorem r_extg{d:Option Nat}{t:Nat}{w:Bool}{x:XOp}{xs:List Yy}:runK P T b (⟨d,some (t,w),.ext x xs⟩::r) kp k Q s=(gok s.env (some (t,w))/\extK P T b d x xs r kp k Q s (gvb s.env (some (t,w)))):=by
 simp only[runK,runT,BJ,AU,A5,Io.opds];cases gvb s.env (some (t,w))<;>simp [extK,runK]
theorem extK_t{d:Option Nat}{x:XOp}{xs:List Yy}:extK P T b d x xs r kp k Q s true=(oks s.env xs/\(xE b x s.H (xs.map (lkv s.env))).1/\runK P T b r kp k Q ({s with H:=(xE b x s.H (xs.map (lkv s.env))).2.1}.put d true (xE b x s.H (xs.map (lkv s.env))).2.2)):=rfl
theorem extK_f{d:Option Nat}{x:XOp}{xs:List Yy}:extK P T b d x xs r kp k Q s false=runK P T b r kp k Q (s.put d false (.tup [])):=rfl
def DF(P:Program)(T:Tab)(b:Nat)(d:Option Nat)(r:List Z9)(kp:List Nat)(k:List Item)(Q:Z3->AS->Prop)(s:AS)(H':AC)(v:Fs):Prop:=runK P T b r kp k Q ({s with H:=H'}.put d true v)
theorem r_cpu{d:Option Nat}{f:Yy}{xs:List Yy}:runK P T b (⟨d,none,.cpu f xs⟩::r) kp k Q s=((lk s.env f).1=true/\oks s.env xs/\(cpuT T (xs.map (lkv s.env)) (lkv s.env f)).1/\runK P T b r kp k Q (s.put d true (cpuT T (xs.map (lkv s.env)) (lkv s.env f)).2)):=by
 simp only[runK,runT,BJ,gok,gvb,WQ,WS,seval,Xg,Xk,Xa]
def Le(P:Program)(T:Tab)(b:Nat)(d:Option Nat)(r:List Z9)(kp:List Nat)(k:List Item)(Q:Z3->AS->Prop)(s:AS)(neq:Bool):Fs->Prop
 | .sl .nil []=>runK P T b r kp k Q (s.put d true (.bool (!neq)))
 | .sl (.none _) []=>runK P T b r kp k Q (s.put d true (.bool neq))/\runK P T b r kp k Q (s.put d true (.bool (!neq)))
 | .sl (.exact _) []=>runK P T b r kp k Q (s.put d true (.bool neq))/\runK P T b r kp k Q (s.put d true (.bool (!neq)))
 | .sl (.own _ _) []=>runK P T b r kp k Q (s.put d true (.bool neq))/\runK P T b r kp k Q (s.put d true (.bool (!neq)))
 | .sl _ (_::_)=>runK P T b r kp k Q (s.put d true (.bool neq))
 | .ref _ _ _ _ _=>runK P T b r kp k Q (s.put d true (.bool neq))
 |_=>False
theorem r_nils{d:Option Nat}{neq:Bool}{x:Yy}:runK P T b (⟨d,none,.nils neq x⟩::r) kp k Q s=((lk s.env x).1=true/\Le P T b d r kp k Q s neq (lkv s.env x)):=by
 simp only[runK,runT,BJ];rw[PQ];congr 1;cases lkv s.env x<;>try rfl
 rename_i tok l;cases tok<;>cases l<;>rfl
def mnxK(P:Program)(T:Tab)(b:Nat)(d:Option Nat)(r:List Z9)(kp:List Nat)(k:List Item)(Q:Z3->AS->Prop)(s:AS):Fs->Prop:=Hg s.H λH' v=>runK P T b r kp k Q ({s with H:=H'}.put d true v)
theorem r_mnx{d:Option Nat}{x:Yy}:runK P T b (⟨d,none,.mnx x⟩::r) kp k Q s=((lk s.env x).1=true/\mnxK P T b d r kp k Q s (lkv s.env x)):=by
 simp only[runK,runT,BJ];exact Rm
theorem QI{c clk last:Nat}{seen:List Nat}{es:List (Fs×Fs×Nat)}(h1:hget s.H id=some (.mit m c seen last))(h2:hget s.H m=some (.map es clk)):mnxK P T b d r kp k Q s (.ptr id 0)=
  (c<=clk/\(∀e∈es,e.2.2<c)/\(Cp es seen=[]->runK P T b r kp k Q (s.put d true (.tup [.bool false])))/\∀e∈Cp es seen,runK P T b r kp k Q ({s with H:=hset s.H id (.mit m c (seen++[e.2.2]) clk)}.put d true (.tup [.bool true,e.1,e.2.1]))):=by
 simp only[mnxK,Hg,h1,h2]
theorem r_appR{d:Option Nat}{rel esz bytes:Nat}{z:Fs}{x y:Yy}{str:Bool}:runK P T b (⟨d,none,.appR rel esz bytes z x y str⟩::r) kp k Q s=((lk s.env x).1=true/\(lk s.env y).1=true/\
  KQ s.H (b+rel) esz bytes z (DF P T b d r kp k Q s) (lkv s.env x) (Bz s.H (lkv s.env) esz y str)):=by
 simp only[runK,runT,BJ];exact Jx
def appZK(H:AC)(id esz bytes:Nat)(zero:Fs)(K:AC->Fs->Prop)(v x:Fs):Prop:=F6 H id esz bytes zero K v x
theorem QJ{zero:Fs}{K:AC->Fs->Prop}{kd:IntKind}{n:Int}:appZK H id esz bytes zero K (.sl .nil []) (.int kd n)=(0<=n/\KQ H id esz bytes zero K (.sl .nil []) (some (List.replicate n.toNat zero))):=rfl
theorem r_appZ{d:Option Nat}{rel esz bytes:Nat}{z:Fs}{x y:Yy}:runK P T b (⟨d,none,.appZ rel esz bytes z x y⟩::r) kp k Q s=((lk s.env x).1=true/\(lk s.env y).1=true/\
  appZK s.H (b+rel) esz bytes z (DF P T b d r kp k Q s) (lkv s.env x) (lkv s.env y)):=by
 simp only[runK,runT,BJ];exact PP
theorem r_nil:runK P T b [] kp k Q s=kont P T Q k .normal (s.keep kp):=rfl
theorem Mt(s:AS)(d:Option Nat)(g:Bool)(v:Fs):(s.put d g v).H=s.H:=by cases d<;>rfl
theorem rx_nil:A9 P T b cx [] kp k Q s=kont P T Q k .normal (s.keep kp):=rfl
theorem r_v{d:Option Nat}{o:Z1}:runK P T b (⟨d,none,.v o⟩::r) kp k Q s=(oks s.env o.opds/\(evk s.H (lkv s.env) o).1/\runK P T b r kp k Q (s.put d true (evk s.H (lkv s.env) o).2)):=by
 simp only[runK,runT,BJ];exact Jv
theorem r_vg{d:Option Nat}{t:Nat}{w:Bool}{o:Z1}:runK P T b (⟨d,some (t,w),.v o⟩::r) kp k Q s=(gok s.env (some (t,w))/\(gvb s.env (some (t,w))=true->oks s.env o.opds/\(evk s.H (lkv s.env) o).1)/\runK P T b r kp k Q (s.put d (gvb s.env (some (t,w))) (evk s.H (lkv s.env) o).2)):=by
 simp only[runK,runT,BJ];exact K8
theorem r_pick{d:Option Nat}{x y z:Yy}:runK P T b (⟨d,none,.pick x y z⟩::r) kp k Q s=((lk s.env x).1=true/\isB (lkv s.env x)/\(toB (lkv s.env x)=true->(lk s.env y).1=true)/\(toB (lkv s.env x)=false->(lk s.env z).1=true)/\runK P T b r kp k Q (s.put d true (sel (toB (lkv s.env x)) (lkv s.env y) (lkv s.env z)))):=by
 simp only[runK,runT,BJ];exact Jw
theorem VD{d:Option Nat}{t:Nat}{w:Bool}{x y z:Yy}:runK P T b (⟨d,some (t,w),.pick x y z⟩::r) kp k Q s=(gok s.env (some (t,w))/\(gvb s.env (some (t,w))=true->(lk s.env x).1=true/\isB (lkv s.env x)/\(toB (lkv s.env x)=true->(lk s.env y).1=true)/\(toB (lkv s.env x)=false->(lk s.env z).1=true))/\
  runK P T b r kp k Q (s.put d (gvb s.env (some (t,w))) (sel (toB (lkv s.env x)) (lkv s.env y) (lkv s.env z)))):=by
 simp only[runK,runT,BJ];exact NV
theorem VE{d:Option Nat}{rel:Nat}{cs:List Fs}:runK P T b (⟨d,none,.alloc rel cs⟩::r) kp k Q s=(hget s.H (b+rel)=none/\runK P T b r kp k Q ({s with H:=hset s.H (b+rel) (.box cs)}.put d true (.ptr (b+rel) 0))):=by
 simp only[runK,runT,BJ];exact IA
theorem r_box{d:Option Nat}{rel sz:Nat}{x:Yy}:runK P T b (⟨d,none,.box rel sz x⟩::r) kp k Q s=((lk s.env x).1=true/\hget s.H (b+rel)=none/\nT (lkv s.env x)/\(lkv s.env x).cells.length=sz/\runK P T b r kp k Q ({s with H:=hset s.H (b+rel) (.box (lkv s.env x).cells)}.put d true (.ptr (b+rel) 0))):=by
 simp only[runK,runT,BJ];exact Rj
theorem r_st{d:Option Nat}{sz:Nat}{a x:Yy}:runK P T b (⟨d,none,.st sz a x⟩::r) kp k Q s=((lk s.env a).1=true/\(lk s.env x).1=true/\nT (lkv s.env x)/\(lkv s.env x).cells.length=sz/\(stE s.H sz (lkv s.env x) (lkv s.env a)).1/\runK P T b r kp k Q ({s with H:=(stE s.H sz (lkv s.env x) (lkv s.env a)).2}.put d true (.tup []))):=by
 simp only[runK,runT,BJ];rw[I0,KP]
theorem r_call{d:Option Nat}{f:Yy}{xs:List Yy}:runK P T b (⟨d,none,.call true f xs⟩::r) kp k Q s=((lk s.env f).1=true/\oks s.env xs/\(Fd T (xs.map (lkv s.env)) s.H (lkv s.env f)).1/\runK P T b r kp k Q (s.put d true (Fd T (xs.map (lkv s.env)) s.H (lkv s.env f)).2)):=by
 simp only[runK,runT,BJ,gok,gvb,WS,WQ,Xa]
theorem VG{d:Option Nat}{t:Nat}{w:Bool}{f:Yy}{xs:List Yy}:runK P T b (⟨d,some (t,w),.call true f xs⟩::r) kp k Q s=(gok s.env (some (t,w))/\(gvb s.env (some (t,w))=true->(lk s.env f).1=true/\oks s.env xs/\(Fd T (xs.map (lkv s.env)) s.H (lkv s.env f)).1)/\
   runK P T b r kp k Q (s.put d (gvb s.env (some (t,w))) (Fd T (xs.map (lkv s.env)) s.H (lkv s.env f)).2)):=rfl
theorem VH{d:Option Nat}{f:Yy}{xs:List Yy}:runK P T b (⟨d,none,.call false f xs⟩::r) kp k Q s=((lk s.env f).1=true/\oks s.env xs/\Lc P (xs.map (lkv s.env)) s.H s.n (retK P T b d r kp k Q s) (yldK P T b d r kp k Q s) (lkv s.env f)):=by
 simp only[runK,runT,BJ,AU,gok,gvb,A5,oks,Io.opds,WQ,WS,seval,Xg,Xk,Xa];refine congrArg (λz=>(lk s.env f).1=true/\oks s.env xs/\z) ?_;generalize lkv s.env f=v;cases v<;>try rfl
 rename_i ff first cap
 cases ff<;>try rfl
 ·refine congrArg (AN P _ _ s.H s.n) ?_;funext o H' n';cases o<;>rfl
 ·cases first<;>cases cap<;>rfl
theorem SG{d:Option Nat}{t:Nat}{w:Bool}{f:Yy}{xs:List Yy}:runK P T b (⟨d,some (t,w),.call false f xs⟩::r) kp k Q s=(gok s.env (some (t,w))/\(gvb s.env (some (t,w))=true->(lk s.env f).1=true/\oks s.env xs/\Lc P (xs.map (lkv s.env)) s.H s.n (retK P T b d r kp k Q s) (yldK P T b d r kp k Q s) (lkv s.env f))/\
  (gvb s.env (some (t,w))=false->runK P T b r kp k Q (s.put d false (.tup [])))):=by
 simp only[runK,runT,BJ,AU,A5,oks,Io.opds,Xa];refine congrArg (λz=>gok s.env (some (t,w))/\(gvb s.env (some (t,w))=true->(lk s.env f).1=true/\oks s.env xs/\z)/\(gvb s.env (some (t,w))=false->runK P T b r kp k Q (s.put d false (.tup [])))) ?_;generalize lkv s.env f=v;cases v<;>try rfl
 rename_i ff first cap
 cases ff<;>try rfl
 ·refine congrArg (AN P _ _ s.H s.n) ?_;funext o H' n';cases o<;>rfl
 ·cases first<;>cases cap<;>rfl
theorem r_app{d:Option Nat}{rel esz bytes:Nat}{x y:Yy}{str:Bool}:runK P T b (⟨d,none,.app rel esz bytes x y str⟩::r) kp k Q s=((lk s.env x).1=true/\(lk s.env y).1=true/\(appE s.H (b+rel) esz bytes (lkv s.env x) (Bz s.H (lkv s.env) esz y str)).1/\
  runK P T b r kp k Q ({s with H:=(appE s.H (b+rel) esz bytes (lkv s.env x) (Bz s.H (lkv s.env) esz y str)).2.1}.put d true (appE s.H (b+rel) esz bytes (lkv s.env x) (Bz s.H (lkv s.env) esz y str)).2.2)):=by
 simp only[runK,runT,BJ];rw[MS,Ld]
theorem r_slA{d:Option Nat}{n:Nat}{x:Yy}{lo hi:Option Yy}:runK P T b (⟨d,none,.slA n x lo hi⟩::r) kp k Q s=(oks s.env (x::(lo.toList++hi.toList))/\bndI (lkv s.env) lo/\bndI (lkv s.env) hi/\(slAE s.H n (bnd (lkv s.env) 0 lo) (bnd (lkv s.env) n hi) (lkv s.env x)).1/\
  runK P T b r kp k Q ({s with H:=(slAE s.H n (bnd (lkv s.env) 0 lo) (bnd (lkv s.env) n hi) (lkv s.env x)).2.1}.put d true (slAE s.H n (bnd (lkv s.env) 0 lo) (bnd (lkv s.env) n hi) (lkv s.env x)).2.2)):=by
 simp only[runK,runT,BJ];rw[Rl,QG]
theorem r_mks{d:Option Nat}{rel esz bytes:Nat}{z:Fs}{x:Yy}:runK P T b (⟨d,none,.mks rel esz bytes z x⟩::r) kp k Q s=((lk s.env x).1=true/\(mksE s.H (b+rel) esz bytes z (lkv s.env x)).1/\
  runK P T b r kp k Q ({s with H:=(mksE s.H (b+rel) esz bytes z (lkv s.env x)).2.1}.put d true (mksE s.H (b+rel) esz bytes z (lkv s.env x)).2.2)):=by
 simp only[runK,runT,BJ,AU,gok,gvb,A5,oks,Io.opds,mksE,WQ,WS,seval,Xg,Xk,Xa]
theorem rx_v{d:Option Nat}{o:Z1}:A9 P T b cx ((0,⟨d,none,.v o⟩)::rx) kp k Q s=(oks s.env o.opds/\(evk s.H (lkv s.env) o).1/\A9 P T b cx rx kp k Q (s.put d true (evk s.H (lkv s.env) o).2)):=by
 simp only[A9,DM,BJ,BS,Dp,XP,WQ];exact Jv
theorem SH{g:Option (Nat×Bool)}:A9 P T b cx ((m,⟨d,g,.v o⟩)::rx) kp k Q s=((gvb s.env g=true->BS b cx (lkv s.env) m (.v o))/\AU P (λv H n=>kont P T Q k (.pan v) ⟨[],H,n⟩) b ⟨d,g,.v o⟩ (DM P T (λv H n=>kont P T Q k (.pan v) ⟨[],H,n⟩) b cx rx λs'=>kont P T Q k .normal (s'.keep kp)) s):=by
 simp only[A9,DM,BJ,PH,WQ]
theorem rx_ldP{d:Option Nat}{sz:Nat}{ag:Bool}{x:Yy}:A9 P T b cx ((2,⟨d,none,.v (.ld sz ag x)⟩)::rx) kp k Q s=(isP (lkv s.env x)/\(lk s.env x).1=true/\(Ay s.H sz ag (lkv s.env x)).1/\A9 P T b cx rx kp k Q (s.put d true (Ay s.H sz ag (lkv s.env x)).2)):=by
 rw[SH,Jv];simp only[gvb,WS,oks,Z1.opds,evk,Xk];rfl
theorem Lf{zero:Fs}{K:AC->Fs->Prop}{x:Option (List Fs)}:DQ H id esz bytes zero (λH' v'=>MO H H'/\K H' v') v x=DQ H id esz bytes zero K v x:=by
 refine propext ⟨λh=>E6 (λ_ _ q=>q.2) h,λh=>?_⟩;have new:∀{l:List Fs},hget H id=none->MO H (hset H id (.arr esz l)):=λh0 i cs hi=>by
  rw[AA _ _ _ _ (λe=>by subst e;rw[h0]at hi;cases hi)];exact hi
 unfold DQ at h⊢;split at h
 ·obtain⟨a1,a2,a3,a4,a5,a6,a7,a8⟩:=h;exact⟨a1,a2,a3,a4,a5,a6,λe=>⟨λ_ _ q=>q,a7 e⟩,λe c hc=>⟨new a1,a8 e c hc⟩⟩
 ·rename_i i0 e off len cap l';obtain⟨a1,a2,a3,a4,a5,a6,a7,a8⟩:=h;refine⟨a1,a2,a3,a4,a5,a6,a7,?_⟩;split at a8
  ·rename_i e' l hh;obtain⟨b1,b2,b3,b4,b5⟩:=a8;refine⟨b1,b2,b3,λq=>⟨λi cs hi=>?_,b4 q⟩,λq c hc=>⟨new a1,b5 q c hc⟩⟩;rw[AA _ _ _ _ (λe=>by subst e;rw[hh]at hi;cases hi)];exact hi
  ·exact a8
 ·exact h
theorem QK{g:Option (Nat×Bool)}:A9 P T b cx ((m,⟨d,g,.st sz a x⟩)::rx) kp k Q s=((gvb s.env g=true->BS b cx (lkv s.env) m (.st sz a x))/\AU P (λv H n=>kont P T Q k (.pan v) ⟨[],H,n⟩) b ⟨d,g,.st sz a x⟩ (DM P T (λv H n=>kont P T Q k (.pan v) ⟨[],H,n⟩) b cx rx λs'=>kont P T Q k .normal (s'.keep kp)) s):=by
 simp only[A9,DM,BJ,MP,WQ]
theorem rx_v1{d:Option Nat}{sz:Nat}{ag:Bool}{x:Yy}:A9 P T b cx ((1,⟨d,none,.v (.ld sz ag x)⟩)::rx) kp k Q s=(Fu b (lkv s.env x)/\(lk s.env x).1=true/\(Ay s.H sz ag (lkv s.env x)).1/\A9 P T b cx rx kp k Q (s.put d true (Ay s.H sz ag (lkv s.env x)).2)):=by
 rw[SH,Jv];simp only[gvb,WS,oks,Z1.opds,evk,Xk];rfl
theorem rx_st2{d:Option Nat}{sz:Nat}{a x:Yy}:A9 P T b cx ((2,⟨d,none,.st sz a x⟩)::rx) kp k Q s=(Hh b (lkv s.env a)/\(lk s.env a).1=true/\(lk s.env x).1=true/\nT (lkv s.env x)/\(lkv s.env x).cells.length=sz/\(stE s.H sz (lkv s.env x) (lkv s.env a)).1/\A9 P T b cx rx kp k Q ({s with H:=(stE s.H sz (lkv s.env x) (lkv s.env a)).2}.put d true (.tup []))):=by
 rw[QK,I0,KP];simp only[gvb,WS];rfl
theorem rx_vK{d:Option Nat}{m sz:Nat}{ag:Bool}{x:Yy}:A9 P T b cx ((m+3,⟨d,none,.v (.ld sz ag x)⟩)::rx) kp k Q s=(atK b cx m (lkv s.env x)/\(lk s.env x).1=true/\(Ay s.H sz ag (lkv s.env x)).1/\A9 P T b cx rx kp k Q (s.put d true (Ay s.H sz ag (lkv s.env x)).2)):=by
 rw[SH,Jv];simp only[gvb,WS,oks,Z1.opds,evk,Xk];rfl
theorem rx_stK{d:Option Nat}{m sz:Nat}{a x:Yy}:A9 P T b cx ((m+3,⟨d,none,.st sz a x⟩)::rx) kp k Q s=(atK b cx m (lkv s.env a)/\(lk s.env a).1=true/\(lk s.env x).1=true/\nT (lkv s.env x)/\(lkv s.env x).cells.length=sz/\(stE s.H sz (lkv s.env x) (lkv s.env a)).1/\A9 P T b cx rx kp k Q ({s with H:=(stE s.H sz (lkv s.env x) (lkv s.env a)).2}.put d true (.tup []))):=by
 rw[QK,I0,KP];simp only[gvb,WS];rfl
theorem rx_vg{d:Option Nat}{t:Nat}{w:Bool}{o:Z1}:A9 P T b cx ((0,⟨d,some (t,w),.v o⟩)::rx) kp k Q s=(gok s.env (some (t,w))/\(gvb s.env (some (t,w))=true->oks s.env o.opds/\(evk s.H (lkv s.env) o).1)/\A9 P T b cx rx kp k Q (s.put d (gvb s.env (some (t,w))) (evk s.H (lkv s.env) o).2)):=by
 simp only[A9,DM,BJ,BS,Dp,XP,WQ];exact K8
theorem rx_vgK{d:Option Nat}{t m sz:Nat}{w ag:Bool}{x:Yy}:A9 P T b cx ((m+3,⟨d,some (t,w),.v (.ld sz ag x)⟩)::rx) kp k Q s=((gvb s.env (some (t,w))=true->atK b cx m (lkv s.env x))/\gok s.env (some (t,w))/\(gvb s.env (some (t,w))=true->oks s.env [x]/\(evk s.H (lkv s.env) (.ld sz ag x)).1)/\A9 P T b cx rx kp k Q (s.put d (gvb s.env (some (t,w))) (evk s.H (lkv s.env) (.ld sz ag x)).2)):=by
 rw[SH,K8];rfl
theorem VI{d:Option Nat}{x y z:Yy}:A9 P T b cx ((0,⟨d,none,.pick x y z⟩)::rx) kp k Q s=((lk s.env x).1=true/\isB (lkv s.env x)/\(toB (lkv s.env x)=true->(lk s.env y).1=true)/\(toB (lkv s.env x)=false->(lk s.env z).1=true)/\A9 P T b cx rx kp k Q (s.put d true (sel (toB (lkv s.env x)) (lkv s.env y) (lkv s.env z)))):=by
 simp only[A9,DM,BJ,BS,Dp,XP,WQ];exact Jw
theorem SI{d:Option Nat}{rel:Nat}{cs:List Fs}:A9 P T b cx ((0,⟨d,none,.alloc rel cs⟩)::rx) kp k Q s=(hget s.H (b+rel)=none/\A9 P T b cx rx kp k Q ({s with H:=hset s.H (b+rel) (.box cs)}.put d true (.ptr (b+rel) 0))):=by
 simp only[A9,DM,BJ,BS,Dp,XP,WQ];exact IA
theorem rx_cpu{d:Option Nat}{f:Yy}{xs:List Yy}:A9 P T b cx ((0,⟨d,none,.cpu f xs⟩)::rx) kp k Q s=((lk s.env f).1=true/\oks s.env xs/\(cpuT T (xs.map (lkv s.env)) (lkv s.env f)).1/\A9 P T b cx rx kp k Q (s.put d true (cpuT T (xs.map (lkv s.env)) (lkv s.env f)).2)):=by
 simp only[A9,DM,BJ,gok,gvb,BS,Dp,XP,WQ,WS,seval,Xg,Xk,Xa]
theorem rx_ext{d:Option Nat}{x:XOp}{xs:List Yy}:A9 P T b cx ((0,⟨d,none,.ext x xs⟩)::rx) kp k Q s=(oks s.env xs/\(xE b x s.H (xs.map (lkv s.env))).1/\A9 P T b cx rx kp k Q ({s with H:=(xE b x s.H (xs.map (lkv s.env))).2.1}.put d true (xE b x s.H (xs.map (lkv s.env))).2.2)):=by
 simp only[A9,DM,BJ,BS,Dp,XP,WQ];exact MT
theorem VJ{d:Option Nat}{f:Yy}{xs:List Yy}:A9 P T b cx ((0,⟨d,none,.call true f xs⟩)::rx) kp k Q s=((lk s.env f).1=true/\oks s.env xs/\(Fd T (xs.map (lkv s.env)) s.H (lkv s.env f)).1/\A9 P T b cx rx kp k Q (s.put d true (Fd T (xs.map (lkv s.env)) s.H (lkv s.env f)).2)):=by
 simp only[A9,DM,BJ,BS,Dp,XP,WQ,gok,gvb,WS,Xa]
theorem rx_app{d:Option Nat}{rel esz bytes:Nat}{x y:Yy}{str:Bool}:A9 P T b cx ((0,⟨d,none,.app rel esz bytes x y str⟩)::rx) kp k Q s=((lk s.env x).1=true/\(lk s.env y).1=true/\(appE s.H (b+rel) esz bytes (lkv s.env x) (Bz s.H (lkv s.env) esz y str)).1/\
  A9 P T b cx rx kp k Q ({s with H:=(appE s.H (b+rel) esz bytes (lkv s.env x) (Bz s.H (lkv s.env) esz y str)).2.1}.put d true (appE s.H (b+rel) esz bytes (lkv s.env x) (Bz s.H (lkv s.env) esz y str)).2.2)):=by
 simp only[A9,DM,BJ,BS,Dp,XP,WQ];rw[MS,Ld]
def QL(P:Program)(T:Tab)(b:Nat)(cx:Nat->Fs)(d:Option Nat)(rx:List (Nat×Z9))(kp:List Nat)(k:List Item)(Q:Z3->AS->Prop)(s:AS)(H':AC)(v:Fs):Prop:=A9 P T b cx rx kp k Q ({s with H:=H'}.put d true v)
theorem VL{d:Option Nat}{rel esz bytes:Nat}{z:Fs}{x y:Yy}{str:Bool}:A9 P T b cx ((2,⟨d,none,.appR rel esz bytes z x y str⟩)::rx) kp k Q s=((lk s.env x).1=true/\(lk s.env y).1=true/\
  KQ s.H (b+rel) esz bytes z (QL P T b cx d rx kp k Q s) (lkv s.env x) (Bz s.H (lkv s.env) esz y str)):=by
 simp only[A9,DM,BJ,BS,XP,WQ];rw[Jx];simp only[EJ,Mt];rw[Lf];rfl
theorem SJ{m:Nat}{d:Option Nat}{f:Yy}{xs:List Yy}:A9 P T b cx ((m+3,⟨d,none,.call false f xs⟩)::rx) kp k Q s=((300000<=m/\m % 2=0)/\(lk s.env f).1=true/\oks s.env xs/\Lc P (xs.map (lkv s.env)) s.H s.n (Dz P T b cx m d rx kp k Q s) (yldXK P T b cx m d rx kp k Q s) (lkv s.env f)):=by
 simp only[A9,DM,BJ,AU,gok,gvb,A5,oks,Io.opds,BS,WQ,WS,seval,Xg,Xk,Xa];refine congrArg (λz=>300000<=m/\m % 2=0/\(lk s.env f).1=true/\oks s.env xs/\z) ?_;generalize lkv s.env f=v;cases v<;>try rfl
 rename_i ff first cap
 cases ff<;>try rfl
 ·refine congrArg (AN P _ _ s.H s.n) ?_;funext o H' n';cases o with
  |ret v=>simp only[Dz,EJ,Mt];rfl
  |pan v=>rfl
 ·cases first<;>cases cap<;>try rfl
  refine congrArg (B2 P _ _ s.H s.n) ?_;funext o H' n';simp only[yldXK,EJ,Mt];rfl
theorem VN{env:List (Nat×Bool×Fs)}{n t:Nat}:cxOf env n t=if 100000<=t then .ptr (n+(t-100000)) 0 else lkv env (.t t):=rfl
theorem Lg{a:Fs}{H:AC}:FW a H H=True:=V1 λ_ _ _=>rfl
theorem Ny{id off:Nat}{H:AC}{ob:Z7}:FW (.ptr id off) H (hset H id ob)=True:=V1 λi h _=>by
 rw[AA _ _ _ _ (λe=>h e)]
theorem Lh{id off:Nat}{H:AC}{a b:Z7}:FW (.ptr id off) (hset H id a) (hset H id b)=True:=V1 λi h _=>by
 rw[AA _ _ _ _ (λe=>h e),AA _ _ _ _ (λe=>h e)]
theorem r_pan{d:Option Nat}{x:Yy}:runK P T b (⟨d,none,.pan x⟩::r) kp k Q s=((lk s.env x).1=true/\isF (lkv s.env x)/\kont P T Q k (.pan (lkv s.env x)) ⟨[],s.H,s.n⟩):=by
 simp only[runK,runT,BJ];exact Rk
end
theorem VO{T:Tab}(st:α->AS)(inv:α->Prop)(m:α->Nat)(a0:α)(h0:s=st a0)(hi:inv a0)
  (hs:∀a,inv a->ev P T c (λe s'=>match e with
   | .normal=>∃a',H8 (st a) s' (st a')/\inv a'/\m a'<m a
   |e=>Q e s') (st a)):ev P T (.loop c) Q s:=by
 classical
 let J:AS->Nat->Prop:=λs k=>∃a,s=st a/\inv a/\m a=k
 let μ:AS->Nat:=λs=>if hx:∃k,J s k then Classical.choose (Nu _ hx)else 0
 have hμ:∀s,(∃k,J s k)->J s (μ s)/\∀j,J s j->μ s<=j:=by
  intro s hx;have e:μ s=Classical.choose (Nu _ hx):=by simp only[μ];rw[dif_pos hx]
  rw[e];exact Classical.choose_spec (Nu _ hx)
 refine⟨λs=>∃k,J s k,μ,⟨_,a0,h0,hi,rfl⟩,?_⟩;intro s1 hx;obtain⟨⟨a,e1,i1,m1⟩,-⟩:=hμ s1 hx;have h:=hs a i1;rw[<-e1]at h;refine Dy c _ _ s1 (λe s' q=>?_) h;cases e with
 |normal=>
  obtain⟨a',w1,i2,m2⟩:=q;have hx':∃k,J (st a') k:=⟨_,a',rfl,i2,rfl⟩;have:=(hμ _ hx').2 _ ⟨a',rfl,i2,rfl⟩;exact⟨st a',w1,hx',zo⟩
 |_=>exact q
def lpQ(st:α->AS)(inv:α->Prop)(m:α->Nat)(a:α)(Q:Z3->AS->Prop):Z3->AS->Prop
 | .normal,s'=>∃a',H8 (st a) s' (st a')/\inv a'/\m a'<m a
 |e,s'=>Q e s'
def lpN(st:α->AS)(inv:α->Prop)(m:α->Nat)(a:α)(s':AS):Prop:=∃a',H8 (st a) s' (st a')/\inv a'/\m a'<m a
section
variable {α:Type} {st:α->AS} {inv:α->Prop} {m:α->Nat} {a:α} {Q:Z3->AS->Prop} {s:AS}
theorem lpQ_n:lpQ st inv m a Q .normal s=lpN st inv m a s:=rfl
theorem lpQ_e{i:Nat}:lpQ st inv m a Q (.exit i) s=Q (.exit i) s:=rfl
theorem lpQ_r:lpQ st inv m a Q .ret s=Q .ret s:=rfl
theorem lpQ_p{v:Fs}:lpQ st inv m a Q (.pan v) s=Q (.pan v) s:=rfl
theorem lpN.mk(a':α)(h:s=st a')(hi:inv a')(hm:m a'<m a):lpN st inv m a s:=⟨a',.inl h.symm,hi,hm⟩
end
theorem AO{T:Tab}{k:List Item}(st:α->AS)(inv:α->Prop)(m:α->Nat)(a0:α)(h0:s=st a0)(hi:inv a0)
  (hs:∀a,inv a->evK P T c [] (lpQ st inv m a (kont P T Q k)) (st a)):evK P T (.loop c) k Q s:=
 VO st inv m a0 h0 hi λa ha=>Dy c _ _ _ (λe s' q=>by cases e<;>exact q) (AF (hs a ha))
theorem natE1{a b:Nat}:(a=a+b)=(b=0):=propext ⟨λh=>zo,λh=>zo⟩
theorem natE2{a b:Nat}:(a+b=a)=(b=0):=propext ⟨λh=>zo,λh=>zo⟩
theorem impA1{a b:Prop}:(a->a/\b)=(a->b):=propext ⟨λh x=>(h x).2,λh x=>⟨x,h x⟩⟩
theorem impA2{a b:Prop}:(a->b->a/\b)=True:=V1 λx y=>⟨x,y⟩
def Ret(r:Fs):Zb->AC->Nat->Prop:=λout _ _=>∃v,out= .ret v/\Wk v r
theorem Pur.mk{args:List Fs}(h1:unders 0 args)(h2:r.under 0)(h:AN P f args hnil 0 (Ret r)):Pur P f args r:=⟨h1,h2,h⟩
theorem ret_eq{r v:Fs}{H:AC}{n:Nat}:Ret r (.ret v) H n=Wk v r:=by
 simp only[Ret,Zb.ret.injEq,exists_eq_left']
theorem VP{r v:Fs}{H:AC}{n:Nat}:Ret r (.pan v) H n=False:=by simp [Ret]
def g0:Yx:=⟨λ_=>none,λ_ _=>none⟩
theorem VQ{a b:Bool}:Wk (.bool a) (.bool b)=(a=b):=by
 refine propext ⟨λh=>?_,λh=>h▸Wk.refl _⟩;have:Value.bool a= .bool b:=h g0 (.bool a) rfl;cases this;rfl
theorem wk_int{k k':IntKind}{a b:Int}:Wk (.int k a) (.int k' b)=(k=k'/\a=b):=by
 refine propext ⟨λh=>?_,λ⟨h1,h2⟩=>by rw[h1,h2];exact Wk.refl _⟩;have:Value.int k a= .int k' b:=h g0 (.int k a) rfl;cases this;exact⟨rfl,rfl⟩
theorem wk_str{a b:List UInt8}:Wk (.str a) (.str b)=(a=b):=by
 refine propext ⟨λh=>?_,λh=>h▸Wk.refl _⟩;have:Value.string ⟨a.toArray⟩= .string ⟨b.toArray⟩:=h g0 (.string ⟨a.toArray⟩) rfl;simpa using this
def AR(H:AC)(n:Nat):Prop:=∀id,n<=id->hget H id=none
theorem AR.nil:AR hnil n:=λ_ _=>rfl
theorem AR.lt{ob:Z7}(h:AR H n)(ho:hget H id=some ob):id<n:=Nat.lt_of_not_le λhle=>by rw[h id hle]at ho;cases ho
theorem AR.hset{m:Nat}{ob:Z7}(h:AR H n)(hn:n<=m)(d7:id<m):AR (hset H id ob) m:=λi hi=>by
 rw[AJ,V5 zo];exact h i zo
theorem AN.fresh{R:Zb->AC->Nat->Prop}(hc:BW P f)(h:AR H n->AN P f a H n R):AN P f a H n R:=
 ⟨hc,λg w vs r v=>(h λid d7=>by
  cases ho:hget H id with
  |none=>rfl
  |some ob=>have:=r.hd id ob ho;omega).2 g w vs r v⟩
def Ce(H H':AC):Prop:=∀id ob,hget H id=some ob->hget H' id=some ob
theorem Ce.refl(H:AC):Ce H H:=λ_ _ h=>h
theorem Ce.trans{H'':AC}(h:Ce H H')(k:Ce H' H''):Ce H H'':=λid ob x=>k id ob (h id ob x)
theorem Ce.new{i:Nat}{ob':Z7}(hf:AR H n)(hi:n<=i)(h:Ce H H'):Ce H (hset H' i ob'):=λid ob ho=>by
 rw[AJ,V5 (by have:=hf.lt ho;omega)];exact h id ob ho
def QRet(H:AC)(r:Fs):Zb->AC->Nat->Prop:=λout H' _=>(∃v,out= .ret v/\Wk v r)/\Ce H H'
theorem VR{H H':AC}{r v:Fs}{n:Nat}:QRet H r (.ret v) H' n=(Wk v r/\Ce H H'):=by
 simp only[QRet,Zb.ret.injEq,exists_eq_left']
theorem Ab.of(hc:BW P f)(hr:r.under n)(h:AR H n->AN P f a H n (QRet H r)):Ab P f a H n r:=by
 refine AN.fresh hc λhf=>?_
 refine AN.forget (R':=λout H' n'=>out= .ret r/\H'=H/\n'=n) (h hf) ?_;rintro o H' n' ⟨⟨v,rfl,hw⟩,hk⟩;refine⟨.ret r,H,⟨rfl,rfl,rfl⟩,⟨λid ob ho=>⟨hf.lt ho,⟨ob,hk id ob ho,OWk.refl ob⟩,.inr ho⟩,λid h=>h⟩,hw,hr⟩
def Mu:List Nat->Bool
 |[]=>true
 |x::r=>!r.contains x&&Mu r
theorem HC:∀(l:List Nat),Mu l=true->l.Nodup
 |[],_=>List.nodup_nil
 |x::r,h=>by
  simp only[Mu,V7,Xu,List.contains_eq_mem,Xf]at h;exact Xv.2 ⟨h.1,HC r h.2⟩
theorem Nz{env:List (Nat×Bool×Fs)}(h:(env.map (·.1)).Nodup):PI env env:=by
 suffices key:∀(l pre:List (Nat×Bool×Fs)),env=pre++l->PI env l from key env [] rfl
 intro l;induction l with
 |nil=>intro _ _;trivial
 |cons x l ih=>
  obtain⟨t,g,v⟩:=x;intro pre e;refine⟨⟨v,?_,Wk.refl v⟩,ih (pre++[(t,g,v)]) (by rw[e];simp)⟩;rw[e]at h⊢;have hp:∀(pre:List (Nat×Bool×Fs)),t∉pre.map (·.1)->eget (pre++(t,g,v)::l) t=some (g,v):=by
   intro pre;induction pre with
   |nil=>intro _;simp [eget]
   |cons y pre ih2=>simp_all [W6,Wp,not_or,Ww,eget]<;>omega
  apply hp;intro hm;rw[Vt,Xo]at h;exact h.2.2 t hm t zw rfl
theorem lpN.drop{st:α->AS}{inv:α->Prop}{m:α->Nat}{a:α}{s':AS}(a':α)(he:s'.env=(st a').env)(hH:(st a').H=(st a).H)(hn:(st a').n=(st a).n)(hd:Mu ((st a').env.map (·.1))=true)
  (c6:AR (st a).H (st a).n) (hk:Ce (st a).H s'.H) (hu:GU (st a).n (st a').env) (hi:inv a') (hm:m a'<m a):lpN st inv m a s':=by
 refine⟨a',.inr ⟨by rw[he];exact Nz (HC _ hd),.inr ⟨hn,?_,hu⟩⟩,hi,hm⟩;rw[hH];exact⟨λid ob ho=>⟨c6.lt ho,⟨ob,hk id ob ho,OWk.refl ob⟩,.inr ho⟩,λid h=>h⟩
def tnil:Tab:=λ_ _ _=>(False,.tup [])
def tadd(f0:FuncId)(sp:List Fs->AC->Prop×Fs)(T:Tab):Tab:=λf args H=>if f=f0 then sp args H else T f args H
theorem AI.tnil:AI P tnil:=λ_ _ _ _ h=>h.elim
theorem AI.add{T:Tab}(hT:AI P T){f0:FuncId}{sp:List Fs->AC->Prop×Fs}(h:∀args H n,(sp args H).1->Ab P f0 args H n (sp args H).2):AI P (tadd f0 sp T):=by
 intro f args H n q;unfold tadd at q⊢;split at q
 ·rename_i e;subst e;simpa using h args H n q
 ·rename_i e;simpa [e]using hT f args H n q
theorem AN.args{a':List Fs}{R:Zb->AC->Nat->Prop}(h:AN P f a H n R)(hw:∀g vs,VRels g a' vs->VRels g a vs):AN P f a' H n R:=
 ⟨h.1,λg w vs r v=>h.2 g w vs r (hw g vs v)⟩
theorem Wk.sl{tok:Zd}{e:Nat}(h:tok.esz=e\/l=[]):Wk (.sl tok l) (.sl (.none e) l):=by
 intro g v hv;rcases hv with⟨rfl,rfl,_⟩|⟨ht,b,o,cap,⟨sp,rfl,hsp⟩,hc,hs,hk⟩
 ·exact .inl ⟨rfl,rfl,trivial⟩
 ·refine .inr ⟨trivial,b,o,cap,⟨sp,rfl,hsp.imp id λq=>⟨q.1,.inr ⟨e,rfl⟩⟩⟩,hc,?_,trivial⟩;rcases h with h|h
  ·rw[h]at hs;exact hs
  ·subst h;trivial
theorem AV{f:α->Fs}(h:∀x,(f x).under n):∀(l:List α),unders n (l.map f)
 |[]=>trivial
 |x::l=>⟨h x,AV h l⟩
end
end Go.AM
namespace Go.AM
open Go.Proofs Go.Lib
def gW(W:World):Yx:=⟨λ_=>none,λb o=>W.cell? ⟨b,o,none⟩⟩
def rel_gW{W:World}(h:Dg (gW W))(hz:Ft W):Z2 (gW W) hnil 0 W where
 σw:=λ_ _ _ h=>h
 obj:=λ_ _ h=>by simp [hget,hnil]at h
 dom:=λ_ _ h=>by simp [gW]at h
 hd:=λ_ _ h=>by simp [hget,hnil]at h
 ap:=λ_ _ _ _ _ _ _ h=>by simp [hget,hnil]at h
 un:=λ_ _ _ _ h=>by simp [hget,hnil]at h
 gl:=h
 gz:=hz
structure Grown(W W':World):Prop where
 os:W'.os=W.os
 tape:W'.tape=W.tape
 output:W'.output=W.output
 size:W.heap.size<=W'.heap.size
 old:∀(b:Nat) ob,W.heap[b]?=some ob->W'.heap[b]?=some ob
theorem Pur.calls{P:Program}{f:FuncId}{args:List Fs}{b:Bool}(h:Pur P f args (.bool b)){W:World}{vs:List Value}(hg:Dg (gW W))(hgz:Ft W)(hv:VRels (gW W) args vs):
  Calls P f vs.toArray W λe W'=>e= .returned (.bool b)/\Grown W W':=by
 refine(h.2.2.2 (gW W) W vs (rel_gW hg hgz) hv).mono ?_;rintro e W' ⟨g',out,H',n',⟨v,rfl,hw⟩,he,hR',-,ht⟩;cases e with
 |panicked c=>exact he.elim
 |outgrown=>exact he.elim
 |returned x=>
  have hx:VRel g' (.bool b) x:=hw _ _ he;refine⟨by rw[show x= .bool b from hx],ht.os,ht.tape,ht.output,ht.size,λi ob hb=>?_⟩;have hk:=ht.kept i ob hb;cases ob<;>first|exact hk.resolve_left C8|skip
  obtain⟨c',h1,h2,h3⟩:=hk;rw[h1];congr 2;exact Array.ext_getElem? λj=>h3 j C8
def Grown.kept{W W':World}(h:Grown W W')(may:MemPlace->Prop):W.keptBut W' may:=by
 refine⟨h.os,h.output,λi hi=>?_⟩;have e:W'.heap[i]?=W.heap[i]?:=by
  obtain⟨ob,hb⟩:∃ob,W.heap[i]?=some ob:=⟨_,X8 hi⟩;rw[hb];exact h.old i ob hb
 rw[e];exact(World.keptBut_refl W may).2.2 i hi
def Grown.same{W W':World}(h:Grown W W'){p:MemPlace}(hp:p.block<W.heap.size):W.sameAt W' p:=by
 have e:∀b,b<W.heap.size->W'.heap[b]?=W.heap[b]?:=λb hb=>by
  obtain⟨ob,hb'⟩:∃ob,W.heap[b]?=some ob:=⟨_,X8 hb⟩;rw[hb'];exact h.old b ob hb'
 cases p with
 |cell b off=>simp only[World.sameAt,World.cell?];rw[e b hp]
 |map b=>exact e b hp
open Go.ChangeShapes in
def N0{H:Type}{enc:TypeId×Value->H}{P:Program}{f:Func}{s:ChangeSpec}{apart fresh handsOn again:Bool}{W W':World}{args:Array Value}{v:Value}{ds gs:List (DataW H)}{before pa pv:List MemPlace}
  (hg:Grown W W') (hW:DataW.Whole enc P f.params.toList s.vars apart W args.toList ds gs before)
  (hres:∀(b:Nat) (sp:Nat->Bool) (hd:Bool),DataW.TrodAll enc P W' b sp hd f.resultTypes.toList (v.resultList f.resultTypes.size) (s.fn H (ds++gs)).results [])
  (hargs:∀sp:Nat->Bool,(∀p∈before,sp p.block=true)->DataW.TrodAll enc P W' 0 sp true f.params.toList args.toList (s.fn H (ds++gs)).args pa)
  (hvars:∀sp:Nat->Bool,(∀p∈before,sp p.block=true)->DataW.TrodVars enc P W' sp s.vars (s.fn H (ds++gs)).vars pv)
  (o8:before=pa++pv)
  (i5:∀(j:Nat) (t:TypeId) (r:Value),f.resultTypes[j]?=some t->(v.resultList f.resultTypes.size)[j]?=some r->Value.okWide P W' .any 0 t r):
  s.post enc P f apart fresh handsOn again W args v W':=by
 have c6:=hW.lt;have hold:∀p∈before,(λb=>decide (b<W.heap.size)) p.block=true:=λp hp=>by simpa using c6 p hp
 refine⟨ds,gs,before,[],pa,pv,hW,hres _ _ _,hargs _ hold,hvars _ hold,hg.kept _,λ_=>?_⟩;obtain⟨_,_,_,_,_,hz,hn⟩:=hW;refine⟨i5,_,_,([]++pa)++pv,⟨[]++pa,pv,trodAll_append (hargs _ (λ_ _=>rfl)) (hres _ _ _),hvars _ (λ_ _=>rfl),rfl,?_,?_⟩,?_⟩
 ·intro b off hp;have hp':MemPlace.cell b off∈before:=by rw[o8];simpa using hp
  have hb:b<W.heap.size:=c6 _ hp';have e:W'.heap[b]?=W.heap[b]?:=by
   obtain⟨ob,hb'⟩:∃ob,W.heap[b]?=some ob:=⟨_,X8 hb⟩;rw[hb'];exact hg.old b ob hb'
  have:=hz b off hp';simp only[World.frozen?]at this⊢;rw[e];exact this
 ·simp_all
 ·intro p hp _;rw[o8];simpa using hp
open Go.ChangeShapes in
theorem HD{H:Type}{enc:TypeId×Value->H}{P:Program}{W W':World}(hg:Grown W W'){b:Nat}{sp:Nat->Bool}{hd:Bool}:∀{ts:List TypeId} {vs:List Value} {ds:List (DataW H)} {ps:List MemPlace},
  DataW.TrodAll enc P W b sp hd ts vs ds ps->(∀p∈ps,p.block<W.heap.size)->DataW.TrodAll enc P W' b sp hd ts vs ds ps
 |[],vs,ds,ps,h,hp=>by
  obtain⟨rfl,rfl,rfl⟩:=trodAll_nil h;exact rfl
 |t::ts,vs,ds,ps,h,hp=>by
  obtain⟨v,vs1,d,ds1,a,c,rfl,rfl,rfl,h1,h2⟩:=trodAll_cons h;obtain⟨n,hn⟩:=h1;exact⟨a,c,⟨n,DataW.trod_carry n _ _ _ hn λp q=>hg.same (hp p (by simp [q]))⟩,HD hg h2 λp q=>hp p (by simp [q]),rfl⟩
inductive Sh where
 |bool
 |int (k:IntKind)
 |str
 |sl (e:Sh)
 |st (fs:List Sh)
mutual
def Sh.size:Sh->Nat
 | .st fs=>Sh.sizes fs
 |_=>1
def Sh.sizes:List Sh->Nat
 |[]=>0
 |s::r=>s.size+Sh.sizes r
end
mutual
def Sh.fits(P:Program):Sh->TypeId->Bool
 | .bool,t=>match P.underlying t with|some .bool=>true|_=>false
 | .int k,t=>match P.underlying t with|some (.int k')=>decide (k'=k)|_=>false
 | .str,t=>match P.underlying t with|some .string=>true|_=>false
 | .sl e,t=>match P.underlying t with|some (.slice u)=>P.cellsOf u==e.size&&decide (0<e.size)&&decide (0<P.bytesOf u)&&e.fits P u|_=>false
 | .st fs,t=>match P.underlying t with|some (.struct gs)=>P.cellsOf t==Sh.sizes fs&&Sh.fitsL P fs gs.toList 0|_=>false
def Sh.fitsL(P:Program):List Sh->List Field->Nat->Bool
 |[],[],_=>true
 |s::r,f::fs,o=>s.fits P f.type&&f.offset==o&&P.cellsOf f.type==s.size&&Sh.fitsL P r fs (o+s.size)
 |_,_,_=>false
end
def Sh.wrap:Sh->List Fs->Fs
 | .st _,as=>.agg as
 |_,as=>as.headD (.bool false)
mutual
def Sh.rd:Sh->List Fs->Prop
 | .bool,as=>∃b,as=[.bool b]
 | .int k,as=>∃n,as=[.int k n]/\(Lit.int k n).wf=true
 | .str,as=>∃s,as=[.str s]/\s.length<=reachBytes
 | .sl e,as=>∃l:List (List Fs),as=[.sl (.none e.size) (l.map e.wrap)]/\l.length<=reachBytes/\∀x∈l,e.rd x
 | .st fs,as=>Sh.rdL fs as
def Sh.rdL:List Sh->List Fs->Prop
 |[],as=>as=[]
 |s::r,as=>∃a b,as=a++b/\s.rd a/\Sh.rdL r b
end
mutual
theorem Sh.rd_length:∀(s:Sh) (as:List Fs),s.rd as->as.length=s.size
 | .bool,_,⟨_,h⟩=>by rw[h];rfl
 | .int _,_,⟨_,h,_⟩=>by rw[h];rfl
 | .str,_,⟨_,h,_⟩=>by rw[h];rfl
 | .sl _,_,⟨_,h,_⟩=>by rw[h];rfl
 | .st fs,as,h=>Sh.rdL_length fs as (by simpa only[Sh.rd]using h)
theorem Sh.rdL_length:∀(s:List Sh) (as:List Fs),Sh.rdL s as->as.length=Sh.sizes s
 |[],as,h=>by
  simp only[Sh.rdL]at h;subst h;rfl
 |s::r,as,h=>by
  simp only[Sh.rdL]at h;obtain⟨a,b,rfl,h1,h2⟩:=h;rw[V9,Sh.rd_length s a h1,Sh.rdL_length r b h2];rfl
end
def D0{v:Value}(h:v.oneCell'=true):v.cells= #[v]:=by
 cases v<;>first|rfl|simp [Value.oneCell']at h
theorem Sh.elem{g:Yx}(s:Sh){as:List Fs}{cs:List Value}(h:s.rd as)(hv:VRels g as cs)(h1:∀c∈cs,c.oneCell'=true):
  ∃v,VRel g (s.wrap as) v/\EH s.size v/\v.cells.toList=cs:=by
 have hl:=s.rd_length as h;have hlc:=VRels.length _ _ hv;cases s with
 |st fs=>
  refine⟨.agg cs.toArray,⟨cs.toArray,rfl,by simpa using hv,by simpa using h1⟩,⟨by show cs.toArray.size=_;simp;omega,by simpa [Value.cells]using h1⟩,by simp [Value.cells]⟩
 |_=>
  match as,hl with
  |[a],_=>
   obtain⟨v,rest,rfl,k1,k2⟩:=hv;have k3:rest=[]:=k2;subst k3;have o:=h1 v zw;refine⟨v,k1,⟨by rw[D0 o];rfl,by rw[D0 o];simpa using o⟩,by rw[D0 o]⟩
section
variable {H:Type} {enc:TypeId×Value->H} {P:Program} {W:World} {base:Nat} {spare:Nat->Bool} {held:Bool}
open Go.ChangeShapes Go.WideShapes Go.ChangeAt Go.RowKit Go.WideElems Go.WideMaps Go.Joins
theorem QN{g:Yx}{esz:Nat}{f:Nat->Option Value}:∀(l:List Fs) (o:Nat),(∀(i:Nat) e,l[i]?=some e->∃v,VRel g e v/\EH esz v/\∀(j:Nat) x,v.cells[j]?=some x->f (o+i*esz+j)=some x)->Stab g esz f o l
 |[],_,_=>trivial
 |e::l,o,h=>⟨by simpa using h 0 e rfl,QN l (o+esz) λi e' he=>by
   obtain⟨v,h1,h2,h3⟩:=h (i+1) e' (by simpa using he);exact⟨v,h1,h2,λj x hx=>by rw[<-h3 j x hx];congr 1;rw[Nat.succ_mul];omega⟩⟩
theorem ES{H:Type}{P:Program}{e:TypeId}:∀{l:List (DataW H)} {d:DataW H},d∈l->∀k∈d.weights P e,k∈DataW.weightsAll P e l
 |[],d,h,_,_=>by cases h
 |y::r,d,h,k,hk=>by
  simp only[DataW.weightsAll,WH];rcases Wp.1 h with rfl|h
  ·exact .inl hk
  ·exact .inr (ES h k hk)
mutual
theorem Sh.reads(s:Sh)(t:TypeId)(cs:List Value)(n:Nat)(x:DataW H×List MemPlace)(hf:s.fits P t=true)
  (h:DataW.trod enc P W base spare held n t cs=some x) (hw:∀k∈x.1.weights P t,k<=reachBytes):∃as,s.rd as/\VRels (gW W) as cs/\∀c∈cs,c.oneCell'=true:=by
 match s,hf with
 | .bool,hf=>
  simp only[Sh.fits]at hf;split at hf
  ·rename_i ht;obtain⟨b,rfl,_⟩:=DataW.trod_bool ht h;exact⟨[.bool b],⟨b,rfl⟩,⟨_,_,rfl,rfl,rfl⟩,by simp [Value.oneCell']⟩
  ·cases hf
 | .int k,hf=>
  simp only[Sh.fits]at hf;split at hf
  ·rename_i k' ht;simp only[Vu]at hf;subst hf;obtain⟨m,rfl,_,hw⟩:=DataW.trod_int ht h;exact⟨[.int k' m],⟨m,rfl,hw⟩,⟨_,_,rfl,rfl,rfl⟩,by simp [Value.oneCell']⟩
  ·cases hf
 | .str,hf=>
  simp only[Sh.fits]at hf;split at hf
  ·rename_i ht;obtain⟨b,rfl,rfl,hl⟩:=DataW.trod_string ht h;exact⟨[.str b.data.toList],⟨_,rfl,hw _ (by simp [DataW.weights])⟩,⟨_,_,rfl,by simp [VRel],rfl⟩,by simp [Value.oneCell']⟩
  ·cases hf
 | .sl e,hf=>
  simp only[Sh.fits]at hf;split at hf
  ·rename_i u ht;simp only[V7,Y6,Vu]at hf;obtain⟨⟨⟨hc,hpos⟩,hby⟩,hfe⟩:=hf;rcases Go.Deep.open_slice ht h with⟨rfl,_⟩|⟨a,len,cap,m,n',D,Pl,rfl,_,d6,hcap,hm,hx,hel⟩
   ·exact⟨[.sl (.none e.size) []],⟨[],rfl,zw,zw⟩,⟨_,_,rfl,.inl ⟨rfl,rfl,trivial⟩,rfl⟩,by simp [Value.oneCell']⟩
   ·subst hx;simp only[DataW.weights,ht]at hw;have hlr:len<=reachBytes:=by
     have h1:=hw _ (Wu ..);simp only[V0,Xd]at h1;exact WD (Wx len _) (WD (Nat.le_mul_of_pos_right _ hby) h1)
    have hwe:∀i,i<len->∀k∈(D i).weights P u,k<=reachBytes:=λi hi k hk=>
     hw k (WJ _ (List.mem_append_left _ (ES (WL.2 ⟨i,Wy.2 hi,rfl⟩) k hk)))
    by_cases l9:len=0
    ·subst l9;obtain⟨b,o,sp⟩:=a;exact⟨[.sl (.none e.size) []],⟨[],rfl,zw,zw⟩,⟨_,_,rfl,.inr ⟨trivial,b,o,cap,⟨sp,rfl,.inr ⟨rfl,.inr ⟨e.size,rfl⟩⟩⟩,V8 _,trivial,trivial⟩,rfl⟩,by simp [Value.oneCell']⟩
    have hsp:a.spot=none:=by
     obtain⟨cs',h1,_⟩:=hel 0 (by rw[hm];split<;>omega);obtain⟨_,_,hcell⟩:=World.cells?_some h1;have hc0:=hcell 0 (by rw[hc];exact hpos);rw[XD]at hc0;have h2:cs'[0]?≠none:=by
      obtain⟨_,hl',_⟩:=World.cells?_some h1;rw[V2 zo];simp
     obtain⟨y,hy⟩:=Option.ne_none_iff_exists'.1 h2;have:=World.cell?_spot (hc0.trans hy);obtain⟨b,o,sp⟩:=a;exact this
    obtain⟨b,o,sp⟩:=a;have hsp':sp=none:=hsp;subst hsp';have hml:len<=m:=by rw[hm];split<;>omega
    have key:∀i,i<len->∃as,e.rd as/\∃v,VRel (gW W) (e.wrap as) v/\EH e.size v/\∀(j:Nat) y,v.cells[j]?=some y->(gW W).σ b (o+i*e.size+j)=some y:=by
     intro i hi;obtain⟨cs',h1,h2⟩:=hel i zo;obtain⟨_,hl',hcell⟩:=World.cells?_some h1;have hadd:∀j,((⟨b,o,none⟩:Addr).add (i*P.cellsOf u)).add j=⟨b,o+i*e.size+j,none⟩:=by
      intro j;rw[hc];unfold Addr.add;split<;>split<;>simp_all<;>omega
     have hcs:∀j,j<e.size->W.cell? ⟨b,o+i*e.size+j,none⟩=cs'[j]?:=λj hj=>by
      rw[<-hadd j];exact hcell j (by rw[hc];exact hj)
     obtain⟨as,k1,k2,k3⟩:=Sh.reads e u cs' n' _ hfe h2 (hwe i hi);obtain⟨v,q1,q2,q3⟩:=e.elem k1 k2 k3;refine⟨as,k1,v,q1,q2,λj y hy=>?_⟩;have hy':cs'[j]?=some y:=by rw[<-q3];simpa using hy
     have hj:j<e.size:=by
      have:=(WN.1 hy').1;omega
     show W.cell? ⟨b,o+i*e.size+j,none⟩=some y;rw[hcs j hj,hy']
    have hch:∃F:Nat->List Fs,∀i,i<len->e.rd (F i)/\∃v,VRel (gW W) (e.wrap (F i)) v/\EH e.size v/\∀(j:Nat) y,v.cells[j]?=some y->(gW W).σ b (o+i*e.size+j)=some y:=by
     refine⟨λi=>if hi:i<len then(key i hi).choose else[],λi hi=>?_⟩;simp only[hi,dif_pos];exact(key i hi).choose_spec
    obtain⟨F,hF⟩:=hch;refine⟨[.sl (.none e.size) (((List.range len).map F).map e.wrap)],⟨(List.range len).map F,rfl,by simpa using hlr,?_⟩,⟨_,_,rfl,.inr ⟨trivial,b,o,cap,⟨none,zw,.inl rfl⟩,by simpa using d6,?_,trivial⟩,rfl⟩,by simp [Value.oneCell']⟩
    ·simp_all
    ·refine QN _ _ λi y hy=>?_
     rw[W3,W3]at hy;by_cases hi:i<len
     ·rw[XJ hi]at hy;simp only[Wt,Option.some.injEq]at hy;subst hy;exact(hF i hi).2
     ·rw[XU (by simp;omega)]at hy;simp at hy
  ·cases hf
 | .st fs,hf=>
  simp only[Sh.fits]at hf;split at hf
  ·rename_i gs ht;simp only[V7,Y6]at hf;obtain⟨xs,m,_,hx,hl,d6,hfi⟩:=DataW.trod_struct ht h;subst hx;simp only[DataW.weights,ht]at hw;obtain⟨as,k1,k2,k3⟩:=Sh.readsL fs gs.toList 0 cs m (λf hfm=>by
    obtain⟨i,hi,he⟩:=List.getElem_of_mem hfm;have hfg:gs[i]?=some f:=by rw[<-he];simp at hi;simp [hi]
    have:=hfi i f hfg;have i8:i<xs.length:=by rw[d6];simpa using hi
    rw[V2 i8]at this;exact⟨_,this,λk hk=>hw k (DataW.weights_mem_each (j:=i) (t:=f.type) (d:=xs[i].1) (by rw[W3,show gs.toList[i]?=some f by simpa using hfg];rfl) (by rw[W3,V2 i8];rfl) k hk)⟩) hf.2 (by rw[hl,hf.1];simp)
   exact⟨as,by simpa only[Sh.rd]using k1,by simpa using k2,by simpa using k3⟩
  ·cases hf
theorem Sh.readsL(ss:List Sh)(fs:List Field)(o:Nat)(cs:List Value)(n:Nat)(hr:∀f∈fs,∃x,DataW.trod enc P W base spare held n f.type ((cs.drop f.offset).take (P.cellsOf f.type))=some x/\∀k∈x.1.weights P f.type,k<=reachBytes)(hf:Sh.fitsL P ss fs o=true)
  (hl:cs.length=o+Sh.sizes ss):∃as,Sh.rdL ss as/\VRels (gW W) as (cs.drop o)/\∀c∈cs.drop o,c.oneCell'=true:=by
 match ss,fs,hf with
 |[],[],hf=>
  refine⟨[],rfl,?_,?_⟩
  ·rw[Yh (by simp [Sh.sizes]at hl;omega)];rfl
  ·rw[Yh (by simp [Sh.sizes]at hl;omega)];simp
 |s::r,f::fs,hf=>
  simp only[Sh.fitsL,V7,Y6]at hf;obtain⟨⟨⟨h1,h2⟩,h3⟩,h4⟩:=hf;obtain⟨x,hx,hxw⟩:=hr f zw;rw[h2,h3]at hx;have hsz:cs.length=o+(s.size+Sh.sizes r):=hl;obtain⟨a,k1,k2,k3⟩:=Sh.reads s f.type ((cs.drop o).take s.size) n x h1 hx hxw;obtain⟨b,q1,q2,q3⟩:=Sh.readsL r fs (o+s.size) cs n (λg hg=>hr g (by simp [hg])) h4 zo;have e:cs.drop o=(cs.drop o).take s.size++cs.drop (o+s.size):=by
   rw[<-Y8,XT]
  refine⟨a++b,⟨a,b,rfl,k1,q1⟩,by rw[e];exact VRels.append _ _ _ _ k2 q2,λc hc=>?_⟩;rw[e]at hc;rcases WH.1 hc with hc|hc
  ·exact k3 c hc
  ·exact q3 c hc
end
theorem Sh.arg(s:Sh){t:TypeId}{v:Value}{b0:Nat}(hf:s.fits P t=true)(hv:Value.okWide P W .any b0 t v){d:DataW H}{ps:List MemPlace}(h:DataW.Trod enc P W base spare held t v d ps)(hw:∀k∈d.weights P t,k<=reachBytes):
  ∃as,s.rd as/\VRel (gW W) (s.wrap as) v:=by
 obtain⟨n,hn⟩:=h;obtain⟨as,h1,h2,h3⟩:=s.reads t v.cells.toList n _ hf hn hw;refine⟨as,h1,?_⟩;cases s with
 |st fs=>
  simp only[Sh.fits]at hf;split at hf
  ·rename_i gs ht;obtain⟨cs,rfl,_⟩:=okWide_struct ht hv;exact⟨cs,rfl,h2,h3⟩
  ·cases hf
 |_=>
  have hl:=Sh.rd_length _ _ h1
  match as,hl with
  |[a],_=>
   obtain⟨u,rest,hu,k1,k2⟩:=h2;have k3:rest=[]:=k2;subst k3;have o:=h3 u (by rw[hu];simp);have huv:v=u:=by
    simp only[Sh.fits]at hf;split at hf
    ·rename_i ht;first
      |(obtain⟨b,rfl⟩:=okWide_bool ht hv;simpa [Value.cells]using hu)
      |(obtain⟨b,rfl⟩:=okWide_int ht hv;simpa [Value.cells]using hu)
      |(obtain⟨b,rfl⟩:=okWide_string ht hv;simpa [Value.cells]using hu)
      |(obtain⟨b,l,c,rfl⟩:=okWide_slice ht hv;simpa [Value.cells]using hu)
    ·cases hf
   subst huv;exact k1
open Go.ChangeShapes in
theorem HE:∀{ts:List TypeId} {vs:List Value} {ds:List (DataW H)} {ps:List MemPlace},DataW.TrodAll enc P W base spare held ts vs ds ps->vs.length=ts.length/\ds.length=ts.length
 |[],_,_,_,h=>by
  obtain⟨rfl,rfl,_⟩:=trodAll_nil h;exact⟨rfl,rfl⟩
 |_::_,_,_,_,h=>by
  obtain⟨v,vs1,d,ds1,a,b,rfl,rfl,rfl,_,h2⟩:=trodAll_cons h;have:=HE h2;simp [this.1,this.2]
def Sh.rdA:List Sh->List Fs->Prop
 |[],as=>as=[]
 |s::r,as=>∃x b,as=s.wrap x::b/\s.rd x/\Sh.rdA r b
def Sh.fitsA(P:Program):List Sh->List TypeId->Bool
 |[],[]=>true
 |s::r,t::ts=>s.fits P t&&Sh.fitsA P r ts
 |_,_=>false
open Go.ChangeShapes in
theorem Sh.args{b0:Nat}:∀(ss:List Sh) (ts:List TypeId) (vs:List Value) (ds:List (DataW H)) (ps:List MemPlace),Sh.fitsA P ss ts=true->
  (∀(j:Nat) t v,ts[j]?=some t->vs[j]?=some v->Value.okWide P W .any b0 t v)->DataW.TrodAll enc P W base spare held ts vs ds ps->(∀(j:Nat) t d,ts[j]?=some t->ds[j]?=some d->∀k∈d.weights P t,k<=reachBytes)->∃as,Sh.rdA ss as/\VRels (gW W) as vs
 |[],[],vs,ds,ps,_,_,h,_=>by
  obtain⟨rfl,rfl,rfl⟩:=trodAll_nil h;exact⟨[],rfl,rfl⟩
 |s::r,t::ts,vs,ds,ps,hf,hv,h,hw=>by
  obtain⟨v,vs1,d,ds1,a,c,rfl,rfl,rfl,h1,h2⟩:=trodAll_cons h;simp only[Sh.fitsA,V7]at hf;have hv0:=hv 0 t v rfl rfl;obtain⟨x,k1,k2⟩:=s.arg hf.1 hv0 h1 (hw 0 t d rfl rfl);obtain⟨b,q1,q2⟩:=Sh.args r ts vs1 ds1 _ hf.2 (λj t' v' e1 e2=>hv (j+1) t' v' e1 e2) h2 (λj t' d' e1 e2=>hw (j+1) t' d' e1 e2);exact⟨_,⟨x,b,rfl,k1,q1⟩,_,_,rfl,k2,q2⟩
 |[],_::_,_,_,_,hf,_,_,_=>by cases hf
 |_::_,[],_,_,_,hf,_,_,_=>by cases hf
open Go.ChangeShapes in
theorem N2{f:FuncId}{fn:Func}{s:ChangeSpec}{apart fresh handsOn again:Bool}{args:Array Value}{ds gs:List (DataW H)}{before:List MemPlace}{b0:Nat}{tb:TypeId}(ss:List Sh)
  (hval:∀(j:Nat) t v,fn.params[j]?=some t->args[j]?=some v->Value.okWide P W .any b0 t v)
  (hW:DataW.Whole enc P fn.params.toList s.vars apart W args.toList ds gs before)
  (hwt:(DataW.weightsEach P (fn.params.toList++s.plain.varTypes P) (ds++gs)).all (· <=reachBytes)=true)
  (hvars:s.vars=[]) (hspec:∀ds:List (DataW H),ds.length=ss.length->s.fn H ds={results:=[.lit (.bool true)],args:=ds,vars:=[]})
  (hfit:Sh.fitsA P ss fn.params.toList=true)
  (hres:fn.resultTypes= #[tb]) (htb:P.underlying tb=some .bool)
  (hk:laidOutB P=true) (hm:mapsRowed P=true) (hfull:((List.range P.types.size).all λt=>match P.underlying t with|some (.slice e)=>decide (0<P.cellsOf e)|_=>true)=true)
  (hts:(fn.params.toList.all λt=>decide (t<P.types.size))=true)
  (hg:Dg (gW W)) (hgz:Ft W) (hpur:∀as,Sh.rdA ss as->VRels (gW W) as args.toList->Pur P f as (.bool true)):
  Calls P f args W λe W'=>∃v,e= .returned v/\s.post enc P fn apart fresh handsOn again W args v W':=by
 have hW':=hW;obtain⟨p,q,hA,hV,rfl,hfz,m0⟩:=hW;rw[hvars]at hV;obtain⟨rfl,rfl⟩:=trodVars_none hV;simp only[W9]at hW';have d6:=HE hA;have hwd:∀(j:Nat) t d,fn.params.toList[j]?=some t->ds[j]?=some d->∀k∈d.weights P t,k<=reachBytes:=λj t d h1 h2 k hk=>by
  have l1:j<fn.params.toList.length:=(WN.1 h1).1;have l2:j<ds.length:=(WN.1 h2).1;simpa using W4.1 hwt k (DataW.weights_mem_each (j:=j) (t:=t) (d:=d) (by rw[WI l1];exact h1) (by rw[WI l2];exact h2) k hk)
 have hss:ss.length=fn.params.toList.length:=by
  clear hpur hspec hval hW' d6 hA hts hwd hwt;generalize fn.params.toList=ts at hfit;induction ss generalizing ts with
  |nil=>cases ts<;>first|rfl|cases hfit
  |cons s r ih=>
   cases ts with
   |nil=>cases hfit
   |cons t ts=>simp only[Sh.fitsA,V7]at hfit;simp [ih ts hfit.2]
 have hsp:=hspec ds (by rw[d6.2,hss]);have hspn:s.fn H (ds++[])={results:=[.lit (.bool true)],args:=ds,vars:=[]}:=by rw[W9];exact hsp
 obtain⟨as,h1,h2⟩:=Sh.args ss _ _ _ _ hfit (λj t v e1 e2=>hval j t v (by simpa using e1) (by simpa using e2)) hA hwd;have c6:=hW'.lt;refine((hpur as h1 h2).calls hg hgz h2).mono ?_;rintro e W' ⟨rfl,hgr⟩;have i5:Value.okWide P W' .any 0 tb (.bool true):=by simp [Value.okWide,htb,Cell.okWide,Cell.ok]
 refine⟨_,rfl,N0 (pa:=p) (pv:=[]) hgr hW' (λb sp hd=>?_) (λsp hsp'=>?_) (λ_ _=>?_) zw ?_⟩
 ·rw[hspn,hres];exact trodAll_mk1 ⟨1,by simp [DataW.trod,Value.cells,htb]⟩
 ·rw[hspn];refine HD hgr (DataW.TrodAll.respare (T:=(· <P.types.size)) (kids_rows hk hm) (slices_full_of P hfull) (λt ht=>by simpa using W4.1 hts t ht) hA hsp') λy hy=>c6 y hy
 ·rw[hspn,hvars];exact rfl
 ·rw[hres];intro j t r e1 e2
  match j,e1,e2 with
  |0,e1,e2=>simp_all [Value.resultList]
  |j+1,e1,e2=>simp at e1
theorem QO{f:FuncId}{fn:Func}{s:ChangeSpec}{apart fresh handsOn again:Bool}{args:Array Value}{ds gs:List (DataW H)}{before:List MemPlace}{b0:Nat}{tb:TypeId}(ss:List Sh)
  (hval:∀(j:Nat) t v,fn.params[j]?=some t->args[j]?=some v->Value.okWide P W .any b0 t v)
  (hW:DataW.Whole enc P fn.params.toList s.vars apart W args.toList ds gs before)
  (hwt:(DataW.weightsEach P (fn.params.toList++s.plain.varTypes P) (ds++gs)).all (· <=reachBytes)=true)
  (hvars:s.vars=[]) (hspec:∀ds:List (DataW H),ds.length=ss.length->s.fn H ds={results:=[.lit (.bool true)],args:=ds,vars:=[]})
  (hfit:Sh.fitsA P ss fn.params.toList=true)
  (hres:fn.resultTypes= #[tb]) (htb:P.underlying tb=some .bool)
  (hk:laidOutB P=true) (hm:mapsRowed P=true) (hfull:((List.range P.types.size).all λt=>match P.underlying t with|some (.slice e)=>decide (0<P.cellsOf e)|_=>true)=true)
  (hts:(fn.params.toList.all λt=>decide (t<P.types.size))=true)
  (hg:Dg (gW W)) (hgz:Ft W) (hpur:∀as,Sh.rdA ss as->Pur P f as (.bool true)):
  Calls P f args W λe W'=>∃v,e= .returned v/\s.post enc P fn apart fresh handsOn again W args v W':=
 N2 ss hval hW hwt hvars hspec hfit hres htb hk hm hfull hts hg hgz λas h _=>hpur as h
end
theorem Mv{g:Yx}{f:Nat->Option Value}:∀(l:List Fs) (o:Nat),(∀(i:Nat) c,l[i]?=some c->∃x,f (o+i)=some x/\VRel g c x/\x.oneCell'=true)->PStab g f o l
 |[],_,_=>trivial
 |c::l,o,h=>⟨by simpa using h 0 c rfl,Mv l (o+1) λi c' hc'=>by
   have:=h (i+1) c' (by simpa using hc')
   rwa[show o+1+i=o+(i+1)by omega]⟩
def HF{H:Type}{enc:TypeId×Value->H}{P:Program}{W:World}{base:Nat}{spare:Nat->Bool}{held:Bool}{t e:TypeId}{k:IntKind}{n fuel gi:Nat}{cs:Array Value}{ns:List Int}{ps:List MemPlace}
  (ht:P.underlying t=some (.array n e)) (he:P.underlying e=some (.int k)) (hc:P.cellsOf e=1) (hcell:∀off,W.cell? ⟨gi,off,none⟩=cs[off]?)
  (h:DataW.trod enc P W base spare held fuel t cs.toList=some (.agg (ns.map λz=>.lit (.int k z)),ps)):PStab (gW W) ((gW W).σ gi) 0 (ns.map (.int k)):=by
 obtain⟨xs,m,_,hx,hl,d6,hf⟩:=DataW.trod_array ht h;simp only[Prod.mk.injEq,DataW.agg.injEq]at hx;refine Mv _ _ λi c hi=>?_
 rw[W3]at hi;have i8:i<ns.length:=by grind
 have hlen2:ns.length=xs.length:=by simpa using congrArg List.length hx.1
 have h1:=hf i zo;rw[V2 (by omega:i<xs.length)]at h1;obtain⟨z,e1,e2,_⟩:=DataW.trod_int he h1;rw[V2 i8]at hi;simp only[Wt,Option.some.injEq]at hi;subst hi;have e3:(ns.map λz=>(DataW.lit (.int k z):DataW H))[i]?=(xs.map (·.1))[i]?:=by rw[hx.1]
 rw[W3,W3,V2 i8,V2 (by omega:i<xs.length)]at e3;simp only[Wt,Option.some.injEq,e2,DataW.lit.injEq,Lit.int.injEq,WQ]at e3;rw[hc]at e1;refine⟨.int k ns[i],?_,rfl,rfl⟩;show W.cell? ⟨gi,0+i,none⟩=_;rw[hcell,e3];have:(List.take 1 (cs.toList.drop (i*1)))[0]?=some (Value.int k z):=by rw[e1];rfl
 simpa using this
end Go.AM
namespace Go.AM
open Go.Lib Go.Proofs Go.RowKit
def Hm{g:Yx}{w w':World}(h:Z2 g hnil 0 w)(hb:Below w.heap.size w w'):Z2 g hnil 0 w' where
 σw:=λb o v e=>by
  have h1:=h.σw b o v e;have h2:b<w.heap.size:=Lib.lt_of_cell (a:=⟨b,o,none⟩) h1;exact(hb.cell (p:=⟨b,o,none⟩) h2).trans h1
 obj:=λ_ _ h=>by simp [hget,hnil]at h
 dom:=λid L e=>absurd ((h.dom id L e).1) (by simp [hget,hnil])
 hd:=λ_ _ h=>by simp [hget,hnil]at h
 ap:=λ_ _ _ _ _ _ _ h=>by simp [hget,hnil]at h
 un:=λ_ _ _ _ h=>by simp [hget,hnil]at h
 gl:=h.gl
 gz:=h.gz.kept (own:=λ_ _=>False) (λb ob e=>by
  have h2:b<w.heap.size:=(Wc.1 e).1;rw[hb.block b h2,e];exact Kept.same _ _)
def GP{g:Yx}{w w':World}(hb:Below w.heap.size w w'):Yv 0 g hnil w g hnil w' where
 le:=.refl g
 βn:=λ_ _ h=>.inl h
 os:=hb.os
 tape:=hb.tape
 output:=hb.output
 size:=hb.size
 kept:=λb ob e=>by
  have h2:b<w.heap.size:=(Wc.1 e).1;rw[hb.block b h2,e];exact Kept.same _ _
 now:=λ_ _ _ h=>h
 nσ:=λ_ _ _ _ h=>.inl h
def EU{P:Program}{f:FuncId}{args:List Fs}{r:Fs}(hc:BW P f)(hu:unders 0 args)(hr:r.under 0)
  (h:∀g w vs,Z2 g hnil 0 w->VRels g args vs->Calls P f vs.toArray w λe w'=>(∃v,e= .returned v/\VRel g r v)/\Below w.heap.size w w'):Pur P f args r:=by
 refine⟨hu,hr,hc,λg w vs hR hv=>(h g w vs hR hv).mono ?_⟩;rintro e w' ⟨⟨v,rfl,hv⟩,hb⟩;exact⟨g,.ret r,hnil,0,⟨r,rfl,.refl r⟩,hv,Hm hR hb,V4 0,GP hb⟩
section
variable {P:Program} {T:Tab} {Q:Z3->AS->Prop} {k:List Item} {s:AS} {x y:Yw}
def N4(P:Program)(T:Tab)(x y:Yw)(k:List Item)(Q:Z3->AS->Prop)(s:AS):Bool->Prop
 |true=>evK P T x k Q s
 |false=>evK P T y k Q s
theorem VS{c:Yy}:evK P T (.cond c x y) k Q s=((lk s.env c).1=true/\isB (lkv s.env c)/\N4 P T x y k Q s (toB (lkv s.env c))):=by
 rw[k_cond];cases toB (lkv s.env c)<;>simp [N4]
theorem cK_t:N4 P T x y k Q s true=evK P T x k Q s:=rfl
theorem cK_f:N4 P T x y k Q s false=evK P T y k Q s:=rfl
theorem cK_i{b:Bool}:N4 P T x y k Q s b=((b=true->evK P T x k Q s)/\(b=false->evK P T y k Q s)):=by
 cases b<;>simp [N4]
end
def sel_t{x y:Fs}:sel true x y=x:=by cases x<;>cases y<;>rfl
def sel_f{x y:Fs}:sel false x y=y:=by cases x<;>cases y<;>rfl
theorem sel_bb{b x y:Bool}:sel b (.bool x) (.bool y)= .bool (bif b then x else y):=rfl
def eX:=(⟨@rx_ldP, @isP.eq_1, @VL, @SJ, @rx_app, @VN, @Ny, @addr.eq_1, @addr.eq_2, @r_extg, @extK_t, @extK_f, @Lh⟩:_/\_/\_/\_/\_/\_/\_/\_/\_/\_/\_/\_/\_)
abbrev A{a b:Prop}(x:a)(y:b):a/\b:=⟨x,y⟩
def eN:=A @ER @Ms
def eC:=A @Lg<|A @rx_ext<|A @r_appZ<|A (A (A @VS (A @cK_t @cK_f)) (A @sel_t (A @sel_f @sel_bb))) (A (A @r_nils @Le.eq_1) (A (A @Le.eq_2 @Le.eq_3) (A (A @Le.eq_4 (A @Le.eq_5 @Le.eq_6)) (A (A @r_cpu @rx_cpu) (A @cpuT.eq_1 (A @Jq @r_mnx))))))
def eE:=A @Z1.opds.eq_34<|A @Z1.opds.eq_35<|A @Z1.opds.eq_36<|A @Eu.eq_1<|A @Eu.eq_2<|A (A (A (A (A (A (A (A @Ms @kont_e) (A @kont_r (A @kont_p @U8))) (A (A @U9 @VA) (A @VB (A @k_skip @k_exit)))) (A (A (A @k_ret @k_seq) (A @VC (A @k_reg @k_regx))) (A (A @k_rfun (A @k_frz @k_frzo)) (A @r_ext (A @r_appR @r_nil))))) (A (A (A (A @rx_nil @r_v) (A @r_vg (A @r_pick @VD))) (A (A @VE @r_box) (A @r_st (A @r_call @VG)))) (A (A (A @VH @SG) (A @r_app (A @r_slA @r_mks))) (A (A @r_pan (A @rx_v @rx_v1)) (A @rx_st2 (A @rx_vK @rx_stK)))))) (A (A (A (A (A @rx_vg @rx_vgK) (A @VI (A @SI @VJ))) (A (A @stE.eq_1 @stE.eq_2) (A @stE.eq_3 (A @appE.eq_1 @appE.eq_2)))) (A (A (A @slAE.eq_1 @slAE.eq_2) (A @mksE.eq_1 (A @frzE.eq_1 @GO.eq_1))) (A (A @Fd.eq_1 (A @Fd.eq_2 @Lc.eq_1)) (A @Lc.eq_2 (A @Lc.eq_3 @tadd.eq_1))))) (A (A (A (A @lpQ_n @lpQ_e) (A @lpQ_r (A @lpQ_p @penv.eq_1))) (A (A @penv.eq_2 (A @Cd.eq_1 @Cd.eq_2)) (A @Cd.eq_3 (A @Cd.eq_4 @rcs.eq_1)))) (A (A (A @rcs.eq_2 @rc1.eq_1) (A @rc1.eq_2 (A @rvS.eq_1 @rvS.eq_2))) (A (A @gok.eq_1 (A @gok.eq_2 @gvb.eq_1)) (A @gvb.eq_2 (A @eget.eq_1 @eget.eq_2))))))) (A (A (A (A (A (A @lk.eq_1 @lk.eq_2) (A @lkv.eq_1 (A @oks.eq_1 @oks.eq_2))) (A (A @AS.put.eq_1 @AS.put.eq_2) (A @AS.keep.eq_1 (A @evk.eq_1 @evk.eq_2)))) (A (A (A @evk.eq_3 @evk.eq_4) (A @evk.eq_5 (A @evk.eq_6 @evk.eq_7))) (A (A @evk.eq_8 (A @evk.eq_9 @evk.eq_10)) (A @evk.eq_11 (A @evk.eq_12 @evk.eq_13))))) (A (A (A (A @evk.eq_14 @evk.eq_15) (A @evk.eq_16 (A @evk.eq_17 @evk.eq_18))) (A (A @evk.eq_19 (A @evk.eq_20 @evk.eq_21)) (A @evk.eq_22 (A @evk.eq_23 @evk.eq_24)))) (A (A (A @evk.eq_25 @evk.eq_26) (A @evk.eq_27 (A @evk.eq_28 @evk.eq_29))) (A (A @evk.eq_30 (A @evk.eq_31 @evk.eq_32)) (A (A @evk.eq_33 (A @evk.eq_34 (A @evk.eq_35 @evk.eq_36))) (A @PL @allI.eq_1)))))) (A (A (A (A (A @allI.eq_2 @H9.eq_1) (A @H9.eq_2 (A @evB_eq @allB.eq_1))) (A (A @allB.eq_2 @NT.eq_1) (A @NT.eq_2 (A @evS_eq @allS.eq_1)))) (A (A (A @allS.eq_2 @NU.eq_1) (A @NU.eq_2 (A @splice.eq_1 @Z1.opds.eq_1))) (A (A @Z1.opds.eq_2 (A @Z1.opds.eq_3 @Z1.opds.eq_4)) (A @Z1.opds.eq_5 (A @Z1.opds.eq_6 @Z1.opds.eq_7))))) (A (A (A (A @Z1.opds.eq_8 @Z1.opds.eq_9) (A @Z1.opds.eq_10 (A @Z1.opds.eq_11 @Z1.opds.eq_12))) (A (A @Z1.opds.eq_13 (A @Z1.opds.eq_14 @Z1.opds.eq_15)) (A @Z1.opds.eq_16 (A @Z1.opds.eq_17 @Z1.opds.eq_18)))) (A (A (A @Z1.opds.eq_19 @Z1.opds.eq_20) (A @Z1.opds.eq_21 (A @Z1.opds.eq_22 @Z1.opds.eq_23))) (A (A @Z1.opds.eq_24 (A @Z1.opds.eq_25 @Z1.opds.eq_26)) (A @Z1.opds.eq_27 (A @Z1.opds.eq_28 @Z1.opds.eq_29)))))))) (A (A (A (A (A (A (A @Z1.opds.eq_30 @Z1.opds.eq_31) (A @Z1.opds.eq_32 (A @Z1.opds.eq_33 @Ay.eq_1))) (A (A @Ay.eq_2 @Ay.eq_3) (A @Ay.eq_4 (A @isI.eq_1 @isI.eq_2)))) (A (A (A @CP.eq_1 @CP.eq_2) (A @toI.eq_1 (A @toI.eq_2 @isB.eq_1))) (A (A @isB.eq_2 (A @toB.eq_1 @toB.eq_2)) (A @isS.eq_1 (A @isS.eq_2 @toS.eq_1))))) (A (A (A (A @toS.eq_2 @mk.eq_1) (A @icmp.eq_1 (A @icmp.eq_2 @icmp.eq_3))) (A (A @icmp.eq_4 (A @icmp.eq_5 @icmp.eq_6)) (A @C9.eq_1 (A @C9.eq_2 @C9.eq_3)))) (A (A (A @C9.eq_4 @C9.eq_5) (A @C9.eq_6 (A @bnd.eq_1 @bnd.eq_2))) (A (A @bndI.eq_1 (A @bndI.eq_2 @nT.eq_1)) (A @nT.eq_2 (A @BS.eq_1 @BS.eq_2)))))) (A (A (A (A (A @BS.eq_3 @BS.eq_4) (A @BS.eq_5 (A @BS.eq_6 @Fu.eq_1))) (A (A @Fu.eq_2 @Fu.eq_3) (A @Hh.eq_1 (A @Hh.eq_2 @Hh.eq_3)))) (A (A (A @atK.eq_1 @atK.eq_2) (A @atK.eq_3 (A @atK.eq_4 @atN.eq_1))) (A (A @AJ (A @Ri @Fs.cells.eq_1)) (A @Fs.cells.eq_2 (A @Zd.esz.eq_1 @Zd.esz.eq_2))))) (A (A (A (A @Zd.esz.eq_3 @Zd.esz.eq_4) (A @Option.toList.eq_1.{0} (A @Option.toList.eq_2.{0} @Vz.{0}))) (A (A @Wq.{0} (A @List.filterMap.eq_1.{0,0} @List.filterMap.eq_2.{0,0})) (A @W6.{0,0} (A @Wh.{0,0} @W9.{0})))) (A (A (A @Wi.{0} @Ww.{0}) (A @Wt.{0,0} (A @X4.{0,0} @WB.{0}))) (A (A @WB.{1} (A @Wf.{0} @Wf.{1})) (A @Xk (A @WQ @WS.{0}))))))) (A (A (A (A (A (A @WS.{1} @W5) (A @List.drop.eq_1.{0} (A @List.drop.eq_2.{0} @List.drop.eq_3.{0}))) (A (A @List.take.eq_1.{0} @List.take.eq_2.{0}) (A @List.take.eq_3.{0} (A @Xt.{0} @List.drop_succ_cons.{0})))) (A (A (A @List.take_succ_cons.{0} @WZ.{0}) (A @List.set_cons_zero.{0} (A @List.set_cons_succ.{0} @Yo.{0}))) (A (A @List.replicate_zero.{0} (A @V4 @List.headD_cons.{0})) (A @Xs (A @Bool.and_true @beq_self_eq_true.{0}))))) (A (A (A (A @Jp.eq_1 @Jp.eq_2) (A @Jp.eq_3 (A @EB.eq_1 @EB.eq_2))) (A (A @EB.eq_3 (A @EB.eq_4 @EB.eq_5)) (A @EB.eq_6 (A @EB.eq_7 @Xg)))) (A (A (A @XP.{0} @XP.{1}) (A @Wr (A @Bool.cond_true_left @Bool.cond_false_right))) (A (A @imp_self (A @beq_true @beq_false)) (A @Xu (A @XM @Wd)))))) (A (A (A (A (A @Xm @V7) (A @Vu (A @Xf @ne_eq.{1}))) (A (A @XH @Y0) (A @natE1 (A @natE2 @impA1)))) (A (A (A @impA2 @Yt) (A @or_true (A @true_or @false_or))) (A (A @or_false (A @ret_eq @VR)) (A @Xw (A @Nat.add_assoc @Wx))))) (A (A (A (A @AL.eq_1 @AL.eq_2) (A @At.eq_1 (A @At.eq_2 @At.eq_3))) (A (A @At.eq_4 (A @Bz.eq_1 @Bz.eq_2)) (A @VP (A @VQ @wk_int)))) (A (A (A @wk_str @decide_true) (A @Yu (A @Xn @Bool.and_false))) (A (A @Bool.true_or (A @Bool.or_true @Xx)) (A @Bool.or_false (A @cond_true.{1} @cond_false.{1}))))))))
def eZ:=A eE (A eC eN)
end Go.AM
