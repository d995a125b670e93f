/-
  The abstract machine, part V: a function called · The abstract machine, part W: a function whose results may lie in cell.
  Conditions: none beyond those of its parts.
-/
import Derived.Test.YtbngedlokkndkaaGreatDoorB4
import Derived.RangeFuncLeaves
import Derived.RangeFuncIn
import Derived.RecoverIn
import Derived.KernelRfl
import Derived.SizedLaws
import Derived.ChangeSame
import Derived.ReadAgain
import Derived.RowKit
import Derived.ProofKit
import Derived.Lib.SmallJoins
import Derived.LaidMore
import Derived.OpenShut
import Derived.Stop.Joined
import Derived.MakeChecks
import Derived.Below
import Derived.Lib.AtoiErrMem
import Derived.Lib.LaidTab

set_option maxRecDepth 20000
set_option linter.all false
namespace Go.AM
def Ev:Nat->List Fs->List (Nat×Bool×Fs)
 |_,[]=>[]
 |i,a::as=>(i,true,a)::Ev (i+1) as
theorem Jq{g:z8}:∀(as:List Fs) (vs pre:List Value) (rest:Array Value),sG g as vs->By g (Ev pre.length as) ((pre++vs).toArray++rest)
 |[],vs,pre,rest,_=>λt gd v h=>by simp [Ev,BC]at h
 |a::as,vs,pre,rest,h=>by
  obtain⟨v,vs',rfl,h1,h2⟩:=h;intro t gd x hg;simp only[Ev,BC]at hg;split at hg
  ·grind
  ·have:=Jq as vs' (pre++[v]) rest h2 t gd x (by simpa using hg);simpa using this
def Pp{g:z8}{env:List (Nat×Bool×Fs)}{tmps:Array Value}(he:By g env tmps){t:Nat}(t9:(lk env (.t t)).1=true):AP g (AV env (.t t)) (tmps.getD t undef):=by
 simp only[lk,AV]at t9⊢;cases hg:BC env t with
 |none=>simp [hg]at t9
 |some gv=>
  obtain⟨gd,v⟩:=gv;simp only[hg]at t9⊢;obtain⟨x,h1,h2,_⟩:=he t gd v hg;have:tmps.getD t undef=x:=by simp [Array.getD_eq_getD_getElem?,h1]
  rw[this];exact h2 t9
theorem AO.forget{P:Program}{f:FuncId}{args:List Fs}{H:AB}{n:Nat}{R R':xx->AB->Nat->Prop}(h:AO P f args H n R)
  (hr:∀o H' n',R o H' n'->∃o2 H2,R' o2 H2 n/\Ha n H H' H2/\match o,o2 with
   | .ret v,.ret v2=>Wk v v2/\v2.under n
   | .tJ v,.tJ v2=>Wk v v2/\v2.under n
   |_,_=>False):AO P f args H n R':=by
 refine⟨h.1,λg w vs r v=>(h.2 g w vs r v).mono ?_⟩;rintro e w' ⟨g',out,H',n',q,he,hR',hn,ht⟩;obtain⟨o2,H2,q1,q2,q3⟩:=hr _ _ _ q;obtain⟨r2,t2,ag⟩:=AM.forget r hR' ht q2;refine⟨⟨g.β,g'.σ⟩,o2,H2,n,q1,?_,r2,od _,t2⟩;cases out with
 |ret a=>cases o2 with
  |tJ b=>exact q3.elim
  |ret b=>
   cases e with
   |returned x=>exact AP.agree ag b x q3.2 (q3.1 _ _ he)
   |panicked c=>exact he.elim
   |outgrown=>exact he.elim
 |tJ a=>cases o2 with
  |ret b=>exact q3.elim
  |tJ b=>
   cases e with
   |returned x=>exact he.elim
   |outgrown=>exact he.elim
   |panicked c=>obtain⟨x,rfl,k⟩:=he;exact⟨x,rfl,AP.agree ag b x q3.2 (q3.1 _ _ k)⟩
section
inductive RC where
 |t (i:Nat)
 |c (i sz:Nat) (ag:Bool)
def NX(P:Program):List ResultVar->Option (List RC)
 |[]=>some []
 | .tmp i::r=>(NX P r).map (RC.t i:: ·)
 | .cell i t::r=>match FG P t,NX P r with
  |some sz,some l=>some (.c i sz (HO P t)::l)
  |_,_=>none
def Au(H:AB)(sz:Nat)(ag:Bool):Fs->Prop×Fs
 | .ptr id off=>match AD H id with
  |some (.box cs)=>(off=0/\cs.length=sz,mk ag cs)
  |_=>(False,.sH [])
 |_=>(False,.sH [])
def kr(s:AS):RC->Prop×Fs
 | .t i=>((lk s.env (.t i)).1=true,AV s.env (.t i))
 | .c i sz ag=>((lk s.env (.t i)).1=true/\(Au s.H sz ag (AV s.env (.t i))).1,(Au s.H sz ag (AV s.env (.t i))).2)
def J5(s:AS):List RC->Prop×List Fs
 |[]=>(True,[])
 |r::l=>((kr s r).1/\(J5 s l).1,(kr s r).2::(J5 s l).2)
def Ul(vs:List Fs):Fs:=match vs with
 |[v]=>v
 |vs=>.sH vs
def Co(rs:List RC)(R:xx->AB->Nat->Prop):x5->AS->Prop
 | .ret,s=>(J5 s rs).1/\R (.ret (Ul (J5 s rs).2)) s.H s.n
 | .normal,s=>(J5 s rs).1/\R (.ret (Ul (J5 s rs).2)) s.H s.n
 | .tJ v,s=>R (.tJ v) s.H s.n
 | .exit _,_=>False
def Y5(tmps:Array Value):ResultVar->Sem Value
 | .tmp t=>pure (tmps.getD t undef)
 | .cell a t=>do loadVar t (<-asAddr (tmps.getD a undef))
def TK(fn:Func)(tmps:Array Value):results fn tmps=(do
  let vs<-fn.results.mapM (Y5 tmps)
  pure (if h:vs.size=1 then vs[0]else .tuple vs)):=by
 unfold results;congr 1
variable {tmps:Array Value} {fn:Func} {g:z8} {P:Program}
theorem WY{s:AS}{w:World}(hR:x6 g s.H s.n w)(he:By g s.env tmps){r:ResultVar}{x:RC}(hx:NX P [r]=some [x])(t9:(kr s x).1):
  ∃v,(Y5 tmps r).run P w= .ok v w/\AP g (kr s x).2 v:=by
 cases r with
 |tmp t=>
  simp [NX]at hx;subst hx;exact⟨_,rfl,Pp he t9⟩
 |cell a t=>
  simp only[NX]at hx;cases hz:FG P t with
  |none=>simp [hz]at hx
  |some sz=>
   simp [hz]at hx;subst hx;obtain⟨h1,h2⟩:=t9;have hv:=Pp he h1;simp only[kr];generalize AV s.env (.t a)=av at h2 hv⊢;cases av<;>simp only[Au]at h2⊢ <;>first|exact h2.elim|skip
   rename_i id off;obtain⟨L,p1,p2,p3⟩:=hv;cases ho:AD s.H id with
   |none=>simp [ho]at h2
   |some ob=>
    cases ob<;>simp only[ho]at h2⊢ <;>first|exact h2.elim|skip
    rename_i cs;obtain⟨rfl,hl⟩:=h2;obtain⟨L',c,e,k1,k2,k3,k4,k5,k6⟩:=hR.obj id _ ho;rw[p1]at k1;cases k1;have hp:sL g (λo=>w.cell? ⟨L.sO,o,none⟩) 0 cs:=sL.cell k4 k6;obtain⟨v,q1,q2⟩:=K6 hz hp hl;exact⟨v,by simp [Y5,p3,asAddr,q1],q2⟩
theorem Y6{r:ResultVar}{l:List ResultVar}{xs:List RC}(h:NX P (r::l)=some xs):∃x l',xs=x::l'/\NX P [r]=some [x]/\NX P l=some l':=by
 cases r with
 |tmp t=>
  simp only[NX]at h;cases h1:NX P l with
  |none=>simp [h1]at h
  |some l'=>simp [h1]at h;subst h;exact⟨_,_,rfl,by simp [NX],rfl⟩
 |cell a t=>
  simp only[NX]at h;split at h
  ·rename_i sz l' h1 h2;cases h;exact⟨_,_,rfl,by simp [NX,h1],h2⟩
  ·cases h
theorem FB{s:AS}{w:World}(hR:x6 g s.H s.n w)(he:By g s.env tmps){rs:List RC}(hrs:NX P fn.results.toList=some rs)(t9:(J5 s rs).1):
  ∃v,(results fn tmps).run P w= .ok v w/\AP g (Ul (J5 s rs).2) v:=by
 have key:∀(l:List ResultVar) (xs:List RC),NX P l=some xs->(J5 s xs).1->∃vs:List Value,(l.mapM (Y5 tmps)).run P w= .ok vs w/\sG g (J5 s xs).2 vs:=by
  intro l;induction l with
  |nil=>intro xs h _;simp [NX]at h;subst h;exact⟨[],rfl,rfl⟩
  |cons r l ih=>
   intro xs h hk;obtain⟨x,l',rfl,h1,h2⟩:=Y6 h;obtain⟨v,q1,q2⟩:=WY hR he h1 hk.1;obtain⟨vs,q3,q4⟩:=ih l' h2 hk.2;refine⟨v::vs,?_,⟨v,vs,rfl,q2,q4⟩⟩;rw[List.mapM_cons,Sem.run_bind,q1];simp only[Result.andThen_ok,Sem.run_bind,q3];rfl
 obtain⟨vs,h1,h2⟩:=key _ _ hrs t9;have sP:(fn.results.mapM (Y5 tmps)).run P w= .ok vs.toArray w:=by
  rw[<-rF (xs:=fn.results),List.mapM_toArray];simp only[map_eq_pure_bind,Sem.run_bind,h1,Result.andThen_ok];rfl
 rw[TK,Sem.run_bind,sP];simp only[Result.andThen_ok];refine⟨_,rfl,?_⟩;generalize (J5 s rs).2=as at h2
 match as,vs,h2 with
 |[],_,h2=>simp only[sG]at h2;subst h2;exact⟨#[],rfl,rfl⟩
 |[a],_,h2=>
  obtain⟨v,r,rfl,k1,k2⟩:=h2;simp only[sG]at k2;subst k2;exact k1
 |a::b::l,_,h2=>
  obtain⟨v,r,rfl,k1,k2⟩:=h2;obtain⟨u,r',rfl,k3,k4⟩:=k2;have:¬((v::u::r').toArray.size=1):=zw
  rw[dif_neg this];exact⟨_,rfl,⟨_,_,rfl,k1,_,_,rfl,k3,k4⟩⟩
theorem Gy{F:Fence}{nn m fl:Nat}{R:Ending->World->Prop}{base:List Deferred}{u:FrameMode}{g0:z8}{H0 H:AB}{n:Nat}{w0:World}(th:w0.heap.size<=fl)(hu:u≠ .run)
  (h:∀w',x6 g H n w'->q8 m g0 H0 w0 g H w'->LeavesInM F nn P fn tmps R base u w'):∀(ms:List Deferred) (w:World),x6 g H n w->q8 m g0 H0 w0 g H w->NW fl g H ms w->LeavesInM F nn P fn tmps R (ms++base) u w
 |[],w,r,t,_=>h w r t
 |d::ms,w,r,t,⟨⟨b,h1,h2,h3,h4,h5⟩,hm⟩=>by
  refine⟨hu,.inl ⟨b,_,h1,run_takeDeferred h3,Gy th hu h ms _ (r.dblk h3) ?_ ?_⟩⟩
  ·refine⟨t.le,t.βn,t.os,t.tape,t.output,by simpa [World.putObj]using t.size,λk ob hk=>?_,t.now,t.nσ⟩;have e9:k<w0.heap.size:=(oU.1 hk).1;have:(w.putObj b (.deferred none)).heap[k]?=w.heap[k]?:=by grind [World.putObj,Array.getElem?_setIfInBounds_ne]
   rw[this];exact t.kept k ob hk
  ·have:∀(l:List Deferred),(∀d'∈l,d'.target≠ .collected b)->NW fl g H l w->NW fl g H l (w.putObj b (.deferred none)):=by
    intro l;induction l with
    |nil=>intro _ _;trivial
    |cons d' l ih=>
     rintro sZ ⟨⟨b',p1,p2,p3,p4,p5⟩,hl⟩;have hbb:b≠b':=by rintro rfl;exact sZ d' (po ..) p1
     exact⟨⟨b',p1,p2,by simp only[World.putObj];rw[pX hbb];exact p3,p4,p5⟩,ih (λx hx=>sZ x (pE _ hx)) hl⟩
   exact this ms h5 hm
theorem Mx{f:FuncId}{c:Code}{ac:q9}{fz im:List (Nat×Nat)}{kp:Nat->List Nat}{rs:List RC}{args:List Fs}{H:AB}{n:Nat}{R:xx->AB->Nat->Prop}
  (hf:P.funcs[f]?=some fn) (hb:fn.body=some c) (hname:(fn.name== "runtime.NumGoroutine")=false) (hc:BH P fn.ntmps fz im kp c=some ac) (hr:NX P fn.results.toList=some rs)
  (h:Gl P ac (Co rs R) ⟨Ev 0 args,H,n⟩):AO P f args H n R:=by
 refine⟨⟨fn,hf,by simp [hb],hname⟩,λg w vs hR hV=>?_⟩;have hsim:Eg n g H w fn.ntmps ⟨w.heap.size,[],false,0, #[]⟩ ⟨Ev 0 args,H,n⟩ {tmps:=vs.toArray++Array.replicate (fn.ntmps-vs.toArray.size) undef,defers:=[]} w:=
  ⟨g,hR,Jq args vs [] _ hV,q8.refl _ _ _ _,od _,by simp;omega,J4.nil zw⟩
 refine(callsIn_wide (n:=0)).1 (callsIn_of_wp_marks (F:=FR none) hf hb zt (wpIn_mono (CP c hc (.inl ⟨rfl,rfl⟩) ⟨od _,oq _⟩ h hsim) λe a' w' hq=>?_) rfl);have ret:∀s,(J5 s rs).1/\R (.ret (Ul (J5 s rs).2)) s.H s.n->Eg n g H w fn.ntmps ⟨w.heap.size,[],false,0, #[]⟩ s a' w'->
   LeavesInM (FR none) 0 P fn a'.tmps (λe w'=>∃g' out H' n',R out H' n'/\Vv g' out e/\x6 g' H' n' w'/\n<=n'/\q8 n g H w g' H' w') a'.defers .returning w':=by
  rintro s ⟨q1,q2⟩ ⟨g',p1,p2,p3,p4,p5,ms,p6,p7,-⟩;rw[p6];refine Gy (m:=n) (g0:=g) (H0:=H) (w0:=w) (od _) zw (λw2 r2 t2=>?_) ms w' p1 p3 p7;obtain⟨v,k1,k2⟩:=FB r2 p2 hr q1;exact⟨v,k1,g',_,_,_,q2,k2,r2,p4,t2⟩
 cases e with
 |normal=>obtain⟨s,q,hs⟩:=hq;exact ret s q hs
 |ret=>obtain⟨s,q,hs⟩:=hq;exact ret s q hs
 |exit i=>obtain⟨s,q,hs⟩:=hq;exact q.elim
 |goto l=>exact hq
 |outgrown=>exact hq.elim
 |panic chain=>
  obtain⟨v,H',n',q,⟨g',x,p1,p2,p3,rfl,p5,ms,p6,p7,-⟩⟩:=hq;show LeavesInM _ _ _ _ _ _ a'.defers _ _;rw[p6];refine Gy (m:=n) (g0:=g) (H0:=H) (w0:=w) (od _) zw (λw2 r2 t2=>?_) ms w' p1 p2 p7;exact⟨g',.tJ v,H',n',q,⟨x,rfl,p5⟩,r2,p3,t2⟩
end
def WZ:Code->List (Array Tmp×Code×Code)
 | .seq a b| .cond _ a b=>WZ a++WZ b
 | .block _ c| .loop c| .scope c=>WZ c
 | .rangeFunc _ ps a b=>[(ps,a,b)]
 |_=>[]
def Hp(ps:List Nat)(args:List Fs)(env:List (Nat×Bool×Fs)):List (Nat×Bool×Fs):=(ps.zip args).foldl (λenv (t,a)=>(t,true,a)::env) env
theorem Ri{g:z8}:∀(ps:List Nat) (args:List Fs) (vs:List Value) (env:List (Nat×Bool×Fs)) (tmps:Array Value),By g env tmps->sG g args vs->(∀p∈ps,p<tmps.size)->
  By g (Hp ps args env) ((ps.zip vs).foldl (λtmps (t,a)=>tmps.setIfInBounds t a) tmps)/\((ps.zip vs).foldl (λtmps (t,a)=>tmps.setIfInBounds t a) tmps).size=tmps.size
 |[],args,vs,env,tmps,he,hv,hp=>⟨by simpa [Hp]using he,zw⟩
 |p::ps,[],vs,env,tmps,he,hv,hp=>by
  simp only[sG]at hv;subst hv;exact⟨by simpa [Hp]using he,zw⟩
 |p::ps,a::args,vs,env,tmps,he,hv,hp=>by
  obtain⟨v,vs',rfl,h1,h2⟩:=hv;have tj:=hp p (po ..);have tu:By g ((p,true,a)::env) (tmps.setIfInBounds p v):=by
   intro t gd x hg;simp only[BC]at hg;split at hg
   ·simp_all
   ·rename_i e;obtain⟨y,q1,q2,q3⟩:=he t gd x hg;exact⟨y,by rw[pX e];exact q1,q2,q3⟩
  obtain⟨k1,k2⟩:=Ri ps args vs' ((p,true,a)::env) (tmps.setIfInBounds p v) tu h2 (λq hq=>by simpa using hp q (pE _ hq));exact⟨by simpa [Hp]using k1,by simpa using k2⟩
def Rj{P:Program}{g:z8}{H:AB}{n m id:Nat}{w:World}{x:LoopA}(hR:x6 g H n w)(ho:AD H id=some (.lp x))(st:LoopState)(tS:Option Code):
  ∃r:Loop,∃w',(Instr.getLoop x.l).run P w= .ok r w/\r.state=x.st/\r.pending=x.tS/\(setObj x.l (.loop {r with state:=st,pending:=tS})).run P w= .ok () w'/\
   x6 g (sA H id (.lp {x with st:=st,tS:=tS})) n w'/\q8 m g H w g (sA H id (.lp {x with st:=st,tS:=tS})) w':=by
 obtain⟨L,h1,h2,h3,h4,r,k1,k2,k3,k4,k5,k6,k7,k8⟩:=hR.obj id _ ho;rw[h4]at k1;have e9:x.l<w.heap.size:=(oU.1 k1).1;refine⟨r,{w with heap:=w.heap.setIfInBounds x.l (.loop {r with state:=st,pending:=tS})},?_,k2,k3,?_,?_⟩
 ·simp [Instr.getLoop,getObj,Sem.run,k1]
 ·simp [setObj,Sem.run,k1]
 ·refine hR.upd ho rfl h1 rfl rfl rfl zw (λb hb=>?_) (.inr ⟨h2,h3,_,by rw[h4];exact k1,zw⟩) ?_
  ·grind
  ·exact⟨L,h1,h2,h3,h4,{r with state:=st,pending:=tS},by rw[h4];simp [e9],rfl,rfl,k4,k5,k6,k7,k8⟩
def ks(id:Nat)(R:Bool->AB->Nat->Prop):x5->AS->Prop
 | .normal,s=>∃x,AD s.H id=some (.lp x)/\R true (sA s.H id (.lp {x with st:=.ready,tS:=none})) s.n
 | .ret,s=>∃x,AD s.H id=some (.lp x)/\R false (sA s.H id (.lp {x with st:=.done,tS:=some .ret})) s.n
 | .exit i,s=>∃x,AD s.H id=some (.lp x)/\R false (sA s.H id (.lp {x with st:=.done,tS:=some (.exit i)})) s.n
 | .tJ _,_=>False
def KX(P:Program)(id:Nat)(ab:q9)(R:Bool->AB->Nat->Prop):x5->AS->Prop
 | .normal,s=>∃x,AD s.H id=some (.lp x)/\x.st= .ready/\Gl P ab (ks id R) {s with H:=sA s.H id (.lp {x with st:=.busy,tS:=x.tS})}
 |_,_=>False
theorem Dj{P:Program}{l id:Nat}{x:LoopA}{aa ab:q9}{fz im fz2 im2:List (Nat×Nat)}{kp kp2:Nat->List Nat}{args:List Fs}{H:AB}{n:Nat}{R:Bool->AB->Nat->Prop}
  (ho:AD H id=some (.lp x)) (hl:x.l=l) (td:args.length=x.ps.size) (hpn0:(x.ps.toList.all λp=>Nat.ble (p+1) x.nt)=true) (hca:BH P x.nt fz im kp x.asg=some aa) (hcb:BH P x.nt fz2 im2 kp2 x.body=some ab) (hpa:aa.plain=true) (hpb:ab.plain=true)
  (h:Gl P aa (KX P id ab R) ⟨Hp x.ps.toList args x.env,H,n⟩):Cf P l args H n R:=by
 intro r g w vs hR hV;subst hl;have hpn:∀p∈x.ps.toList,p<x.nt:=λp hp=>Nat.le_of_ble_eq_true ((oM.1 hpn0) p hp)
 obtain⟨L,h1,h2,h3,h4,r0,k1,k2,k3,k4,k5,k6,k7,k8⟩:=hR.obj id _ ho;rw[h4]at k1;have l9:=sG.length _ _ hV;obtain⟨e1,e2⟩:=Ri x.ps.toList args vs x.env r0.tmps k7 hV (λp hp=>qg (hpn p hp) k8);have hfold:(r0.params.zip vs.toArray).foldl (λtmps (t,a)=>tmps.setIfInBounds t a) r0.tmps=(x.ps.toList.zip vs).foldl (λtmps (t,a)=>tmps.setIfInBounds t a) r0.tmps:=by
  rw[k4,<-Array.foldl_toList,Array.toList_zip]
 have hsim:Eg n g H w x.nt ⟨w.heap.size,[],false,0, #[]⟩ ⟨Hp x.ps.toList args x.env,H,n⟩ {tmps:=(r0.params.zip vs.toArray).foldl (λtmps (t,a)=>tmps.setIfInBounds t a) r0.tmps,defers:=[]} w:=by
  refine⟨g,hR,?_,q8.refl _ _ _ _,od _,?_,J4.nil zw⟩
  ·simp only[hfold];exact e1
  ·simp only[hfold,e2];exact k8
 have hβ:∀{g':z8} {H':AB} {w':World} {n':Nat} {x':LoopA},x6 g' H' n' w'->q8 n g H w g' H' w'->AD H' id=some (.lp x')->x'.l=x.l:=by
  intro g' H' w' n' x' r1 t1 h';obtain⟨L',q1,_,_,q4,_⟩:=r1.obj id _ h';have:=t1.le.β _ _ h1;rw[q1]at this;cases this;rw[<-q4,h4]
 refine⟨r0.fn,(r0.params.zip vs.toArray).foldl (λtmps (t,a)=>tmps.setIfInBounds t a) r0.tmps,r0.assign,r0.body,?_,roundIn_of_wpIn (F:=FR r) (n:=0) zt ?_⟩
 ·simp_all [Instr.yield,Instr.getLoop,getObj,Sem.run]
 rw[k5,k6];refine wpIn_mono (CP (r:=some x.l) x.asg hca (.inr hpa) ⟨od _,oq _⟩ h hsim) λe a1 w1 hq=>?_
 cases e with
 |exit i=>obtain⟨s1,q,_⟩:=hq;exact q.elim
 |ret=>obtain⟨s1,q,_⟩:=hq;exact q.elim
 |panic c=>obtain⟨v,H1,n1,q,_⟩:=hq;exact q.elim
 |goto l=>exact hq.elim
 |outgrown=>exact hq.elim
 |normal=>
  obtain⟨s1,⟨x1,p1,p2,p3⟩,g1,R1,E1,T1,m1,N1,D1⟩:=hq;have hx1:=hβ R1 T1 p1;obtain⟨r1,w2,q1,q2,q3,q4,R2,T2⟩:=Rj (P:=P) (m:=n) R1 p1 .busy x1.tS;rw[hx1]at q1 q4;refine⟨w2,?_,?_⟩
  ·simp_all [Instr.beginRound,Sem.run_bind,Result.andThen_ok]
  ·have hs2:Eg n g H w x.nt ⟨w.heap.size,[],false,0, #[]⟩ {s1 with H:=sA s1.H id (.lp {x1 with st:=.busy,tS:=x1.tS})} a1 w2:=⟨g1,R2,E1.mono T2.le,T1.trans T2,m1,N1,D1.step T2⟩;refine wpIn_mono (CP (r:=some x.l) x.body hcb (.inr hpb) ⟨od _,oq _⟩ p3 hs2) λe a3 w3 hq=>?_
   have fin:∀(s3:AS) (jump:Option Code) (x3:LoopA),AD s3.H id=some (.lp x3)->R jump.isNone (sA s3.H id (.lp {x3 with st:=if jump.isNone then .ready else .done,tS:=jump})) s3.n->Eg n g H w x.nt ⟨w.heap.size,[],false,0, #[]⟩ s3 a3 w3->
     ∃v w',(Instr.endRound x.l jump).run P w3= .ok v w'/\∃b g' H' n',Ending.returned v= .returned (.bool b)/\R b H' n'/\x6 g' H' n' w'/\n<=n'/\q8 n g H w g' H' w':=by
    rintro s3 jump x3 u1 u2 ⟨g3,R3,E3,T3,m3,N3,D3⟩;have hx3:=hβ R3 T3 u1;obtain⟨r3,w4,v1,v2,v3,v4,R4,T4⟩:=Rj (P:=P) (m:=n) R3 u1 (if jump.isNone then .ready else .done) jump;rw[hx3]at v1 v4;refine⟨.bool jump.isNone,w4,?_,_,g3,_,_,rfl,u2,R4,m3,T3.trans T4⟩;simp only[Instr.endRound,Sem.run_bind,v1,Result.andThen_ok,v4];rfl
   cases e with
   |normal=>obtain⟨s3,⟨x3,u1,u2⟩,hs3⟩:=hq;exact fin s3 none x3 u1 u2 hs3
   |ret=>obtain⟨s3,⟨x3,u1,u2⟩,hs3⟩:=hq;exact fin s3 (some .ret) x3 u1 u2 hs3
   |exit i=>obtain⟨s3,⟨x3,u1,u2⟩,hs3⟩:=hq;exact fin s3 (some (.exit i)) x3 u1 u2 hs3
   |panic c=>obtain⟨v,H1,n1,q,_⟩:=hq;exact q.elim
   |goto l=>exact hq.elim
   |outgrown=>exact hq.elim
section
def C8(P:Program)(tF:FuncId)(args:List Fs)(rv:Fs)(H:AB)(n:Nat)(Rc:AB->Nat->Prop):Prop:=
 ∀g w vs u,x6 g H n w->sG g args vs->((u= .returning/\rv= .tA)\/∃x,AP g rv x/\u= .panicking [{v:=x,recovered:=false}])->
  CallsDIn (FR none) 0 P tF vs.toArray u w λe u' w'=>(∃v,e= .returned v)/\settle u'= .returning/\∃g' H' n',Rc H' n'/\x6 g' H' n' w'/\n<=n'/\q8 n g H w g' H' w'
variable {y:q9} {H:AB} {ops:Array Oper} {X:Code} {fn:Func} {fz im:List (Nat×Nat)} {args:List Fs} {t tF id n:Nat} {kp:Nat->List Nat} {o0 o1:Oper} {P:Program}
theorem My{g:z8}{env:List (Nat×Bool×Fs)}{tmps:Array Value}(h:By g env tmps){v:Fs}{x:Value}(ht:t<tmps.size)(hv:AP g v x):By g ((t,true,v)::env) (tmps.setIfInBounds t x):=by
 intro i gd u hu;rw[IS]at hu;by_cases e:t=i
 ·simp_all
 ·rw[og e]at hu;obtain⟨y,h1,h2⟩:=h i gd u hu;exact⟨y,by rw[pX e];exact h1,h2⟩
theorem Og{rv:Fs}{Rc:AB->Nat->Prop}{t3 t4:Nat}{ty:TypeId}{cl:Call}
  (hf:P.funcs[tF]?=some fn) (hb:fn.body=some (.seq (.region id ops false) X)) (hs:ops.size=2) (h0:ops[0]?=some o0) (h1:ops[1]?=some o1) (hg0:o0.guard=none) (hg1:o1.guard=none)
  (hop0:o0.op= .call cl) (hcl:cl.callee= .builtin .recover) (hd0:o0.dst=some t4) (hop1:o1.op= .move (.tmp t4)\/o1.op= .assign (.tmp t4)) (hd1:o1.dst=some t3) (ht3:t3<fn.ntmps) (ht4:t4<fn.ntmps) (hca:cl.args= #[])
  (hX:BH P fn.ntmps fz im kp X=some y) (tj:y.plain=true) (hr:fn.results= #[])
  (h:Gl P y (Co [] λo H' n'=>o= .ret (.sH [])/\Rc H' n') ⟨(t3,true,rv)::(t4,true,rv)::Ev 0 args,H,n⟩):C8 P tF args rv H n Rc:=by
 intro g w vs u hR hV hu;refine callsDIn_of_wpSIn hf hb zt λc₀ cs hc0=>wpSIn_seq (wpSIn_region ?_)
 have tB:(vs.toArray++Array.replicate (fn.ntmps-vs.toArray.size) undef).size≥fn.ntmps:=by simp;omega
 have hE0:By g (Ev 0 args) (vs.toArray++Array.replicate (fn.ntmps-vs.toArray.size) undef):=Jq args vs [] _ hV;generalize vs.toArray++Array.replicate (fn.ntmps-vs.toArray.size) undef=tm at tB hE0;rw[hs]
 have key:∀(x:Value) (cs':List Frame) (u':FrameMode),AP g rv x->cs'={c₀ with mode:=u'}::cs->settle u'= .returning->
   wpOpsSIn (FR none) 0 P ops (Exit.thenS (X.wpSIn (FR none) 0 P (bodyPostS P fn c₀ cs λe u' w'=>(∃v,e= .returned v)/\settle u'= .returning/\∃g' H' n',Rc H' n'/\x6 g' H' n' w'/\n<=n'/\q8 n g H w g' H' w')) (bodyPostS P fn c₀ cs λe u' w'=>(∃v,e= .returned v)/\settle u'= .returning/\∃g' H' n',Rc H' n'/\x6 g' H' n' w'/\n<=n'/\q8 n g H w g' H' w')) [1] (({tmps:=tm,defers:=[]}:Act).put o0.dst x) cs' w:=by
  intro x cs' u' hx hcs' sA;have hev:(({tmps:=tm,defers:=[]}:Act).put o0.dst x).eval (.tmp t4)=x:=by
   rw[hd0];simp [Act.put,Act.eval,Array.getD,show t4<tm.size by omega]
  have hrun1:(execOp (({tmps:=tm,defers:=[]}:Act).put o0.dst x).eval o1).run P w= .ok (.value x) w:=by
   rcases hop1 with hop1|hop1<;>simp [execOp,hop1,hev]
  simp only[wpOpsSIn,h1,Region.wanted,hg1,pG,hrun1];refine⟨λ_ _=>zt,?_⟩;show X.wpSIn _ _ _ _ _ _ _;refine wpSIn_of_wpIn rfl ?_;have hsim:Eg n g H w fn.ntmps ⟨w.heap.size,[],true,0, #[]⟩ ⟨(t3,true,rv)::(t4,true,rv)::Ev 0 args,H,n⟩ ((({tmps:=tm,defers:=[]}:Act).put o0.dst x).put o1.dst x) w:=by
   rw[hd0,hd1];refine⟨g,hR,?_,q8.refl _ _ _ _,od _,by simp [Act.put];omega,J4.nil zw⟩;exact My (My hE0 zo hx) (by simp;omega) hx
  refine wpIn_mono (CP (r:=none) X hX (.inr tj) ⟨od _,oq _⟩ h hsim) λe a' w' hq=>?_
  have ret:∀s,(J5 s []).1/\(xx.ret (Ul (J5 s []).2)= .ret (.sH [])/\Rc s.H s.n)->Eg n g H w fn.ntmps ⟨w.heap.size,[],true,0, #[]⟩ s a' w'->
    a'.defers=[]/\∃u',cs'={c₀ with mode:=u'}::cs/\∃v,(results fn a'.tmps).run P w'= .ok v w'/\((∃v',Ending.returned v= .returned v')/\settle u'= .returning/\∃g' H' n',Rc H' n'/\x6 g' H' n' w'/\n<=n'/\q8 n g H w g' H' w'):=by
   rintro s ⟨q1,q2,q3⟩ ⟨g',p1,p2,p3,p4,p5,ms,p6,p7,p8⟩;obtain⟨v,k1,k2⟩:=FB (rs:=[]) p1 p2 (by rw[hr];rfl) q1;refine⟨by rw[p6,(p8 rfl).1];rfl,u',hcs',v,k1,⟨v,rfl⟩,sA,g',_,_,q3,p1,p4,p3⟩
  cases e with
  |normal=>obtain⟨s,q,hs'⟩:=hq;exact ret s q hs'
  |ret=>obtain⟨s,q,hs'⟩:=hq;exact ret s q hs'
  |exit i=>obtain⟨s,q,hs'⟩:=hq;exact q.elim
  |goto l=>exact hq
  |outgrown=>exact hq.elim
  |panic chain=>obtain⟨v,H',n',q,_⟩:=hq;cases q.1
 have hrun0:(execOp ({tmps:=tm,defers:=[]}:Act).eval o0).run P w= .ok .recover w:=by
  simp [execOp,hop0,resolve,hcl,invoke,builtin]
 show wpOpsSIn _ _ _ _ _ [0,1] _ _ _;rw[wpOpsSIn];simp only[h0,Region.wanted,hg0,pG,hrun0];refine⟨λ_ _=>zt,?_⟩;rcases hu with⟨rfl,rfl⟩|⟨x,hx,rfl⟩
 ·have hrec:recoverD (c₀::cs)=none:=by simp [recoverD,hc0]
  rw[hrec];exact key .nilIface _ .returning rfl (by rw[<-hc0]) rfl
 ·have hrec:recoverD (c₀::cs)=some (x,{c₀ with mode:=.panicking ({v:=x,recovered:=true}::[])}::cs):=by simp [recoverD,hc0]
  rw[hrec];exact key x _ _ hx rfl rfl
def Um:List Code->Code->Code
 |[],c=>c
 |x::l,c=>.seq x (Um l c)
def Fu:List q9->q9
 |[]=>.skip
 |y::l=>.seq y (Fu l)
def Oh(P:Program)(N:Nat)(fz im:List (Nat×Nat))(kp:Nat->List Nat):List Code->Option (List q9)
 |[]=>some []
 |c::l=>match BH P N fz im kp c,Oh P N fz im kp l with
  |some y,some ys=>some (y::ys)
  |_,_=>none
theorem LH{N:Nat}{D:DP}{m:Nat}{g0:z8}{H0:AB}{w0:World}{rest:Code}{Q:x5->AS->Prop}{QQ:Exit->Act->World->Prop}
  (hDw:D.fl<=w0.heap.size/\D.lo<=Z9 fz) (hrest:∀s a w,Q .normal s->Eg m g0 H0 w0 N D s a w->rest.wpIn (FR none) 0 P QQ a w)
  (hoth:∀e a w,e≠ .normal->QM m g0 H0 w0 N D Q e a w->QQ e a w):
  ∀(pre:List Code) (ys:List q9) (s:AS) (a:Act) (w:World),Oh P N fz im kp pre=some ys->ys.all (·.plain)=true->Gl P (Fu ys) Q s->Eg m g0 H0 w0 N D s a w->(Um pre rest).wpIn (FR none) 0 P QQ a w
 |[],ys,s,a,w,hc,hp,h,hs=>by
  simp only[Oh]at hc;cases hc;exact hrest s a w h hs
 |c::pre,ys,s,a,w,hc,hp,h,hs=>by
  simp only[Oh]at hc;split at hc
  ·rename_i y yl h1 h2;cases hc;simp only[qJ,oo]at hp;rw[Fu,cD]at h;refine wpIn_seq (wpIn_mono (CP (r:=none) c h1 (.inr hp.1) hDw h hs) λe a' w' hq=>?_);cases e with
   |normal=>obtain⟨s',q1,q2⟩:=hq;exact LH hDw hrest hoth pre yl s' a' w' h2 hp.2 q1 q2
   |exit i=>exact hoth _ _ _ zw hq
   |ret=>exact hoth _ _ _ zw hq
   |panic c=>exact hoth _ _ _ zw hq
   |goto l=>exact hoth _ _ _ zw hq
   |outgrown=>exact hoth _ _ _ zw hq
  ·cases hc
def TL(rs:List RC)(env:List (Nat×Bool×Fs))(R:xx->AB->Nat->Prop)(H':AB)(n':Nat):Prop:=(J5 ⟨env,H',n'⟩ rs).1/\R (.ret (Ul (J5 ⟨env,H',n'⟩ rs).2)) H' n'
def Un(P:Program)(tF:FuncId)(fc:List Fs)(rs:List RC)(env:List (Nat×Bool×Fs))(R:xx->AB->Nat->Prop):x5->AS->Prop
 | .ret,s=>C8 P tF fc .tA s.H s.n (TL rs env R)
 | .normal,s=>C8 P tF fc .tA s.H s.n (TL rs env R)
 | .tJ v,s=>C8 P tF fc v s.H s.n (TL rs env R)
 | .exit _,_=>False
def LI(P:Program)(t:Nat)(o:xj)(y:q9)(lo:Nat)(tF:FuncId)(rs:List RC)(R:xx->AB->Nat->Prop):x5->AS->Prop
 | .normal,s=>AX P (λ_ _ _=>False) s.n o (λs1=>(lk s1.env (.t t)).1=true/\∃first cap,AV s1.env (.t t)= .fn (.func tF) first cap/\Gl P y (Un P tF (first++cap) rs (s1.env.filter λe=>Nat.blt e.1 lo) R) s1) s
 | .ret,s=>(J5 s rs).1/\R (.ret (Ul (J5 s rs).2)) s.H s.n
 | .tJ v,s=>R (.tJ v) s.H s.n
 | .exit _,_=>False
theorem Hq{lo:Nat}:∀(env:List (Nat×Bool×Fs)) (t:Nat) (x:Bool×Fs),BC (env.filter λe=>Nat.blt e.1 lo) t=some x->t<lo/\BC env t=some x
 |[],t,x,h=>by cases h
 |(i,gv)::r,t,x,h=>by
  rw[qh]at h;rw[IS];split at h
  ·rename_i hb;rw[IS]at h;by_cases e:i=t
   ·simp_all
   ·rw[og e]at h⊢;exact Hq r t x h
  ·rename_i hb;obtain⟨h1,h2⟩:=Hq r t x h;by_cases e:i=t
   ·subst e;exact absurd (by simpa using h1) hb
   ·rw[og e];exact⟨h1,h2⟩
theorem Pq{f:Nat}{pre:List Code}{ys:List q9}{fzX:List (Nat×Nat)}{rs:List RC}{R:xx->AB->Nat->Prop}{k:x0}{cl:Call}
  (hf:P.funcs[f]?=some fn) (hb:fn.body=some (Um pre (.seq (.region id ops false) X))) (hname:(fn.name== "runtime.NumGoroutine")=false) (hpre:Oh P fn.ntmps fz im kp pre=some ys) (hppl:ys.all (·.plain)=true)
  (hs:ops.size=2) (h0:ops[0]?=some o0) (h1:ops[1]?=some o1) (hg0:o0.guard=none) (hg1:o1.guard=none) (hk0:BD P false false 0 o0.op=some (.v k)) (hd0:o0.dst.all (λd=>decide (d<fn.ntmps))=true)
  (hop1:o1.op= .defer cl) (hcl:cl.callee= .value (.tmp t)) (hca:cl.args= #[]) (hd1:o1.dst=none) (hX:BH P fn.ntmps fzX im kp X=some y) (tj:y.plain=true) (hr:NX P fn.results.toList=some rs) (hcall:CF P tF)
  (h:Gl P (Fu ys) (LI P t ⟨o0.dst,none,.v k⟩ y (Z9 fzX) tF rs R) ⟨Ev 0 args,H,n⟩):AO P f args H n R:=by
 refine⟨⟨fn,hf,by simp [hb],hname⟩,λg w vs hR hV=>?_⟩;have hsim:Eg n g H w fn.ntmps ⟨w.heap.size,[],true,0, #[]⟩ ⟨Ev 0 args,H,n⟩ {tmps:=vs.toArray++Array.replicate (fn.ntmps-vs.toArray.size) undef,defers:=[]} w:=
  ⟨g,hR,Jq args vs [] _ hV,q8.refl _ _ _ _,od _,by simp;omega,J4.nil zw⟩
 refine(callsIn_wide (n:=0)).1 (callsIn_of_wp_marks (F:=FR none) hf hb zt (LH (fz:=fz) ⟨od _,oq _⟩ (λs a w1 hq hsm=>?_) (λe a' w' sZ hq=>?_) pre ys _ _ _ hpre hppl h hsim) rfl)
 ·
  obtain⟨g1,p1,p2,p3,p4,p5,ms0,p6,p7,p8⟩:=hsm;have hdef:a.defers=[]:=by rw[p6,(p8 rfl).1];rfl
  refine wpIn_seq (wpIn_region ?_);rw[hs];show wpOpsIn _ _ _ _ _ [0,1] _ _;rw[wpOpsIn_cons];have hsim0:Eg s.n g1 s.H w1 fn.ntmps ⟨w1.heap.size,[],true,0, #[]⟩ s a w1:=⟨g1,p1,p2,q8.refl _ _ _ _,od _,p5,ms0,p6,by rw[(p8 rfl).1];trivial,p8⟩;simp only[LI]at hq;refine Mp (Qp:=λ_ _ _=>False) (mkv:=false) (imp:=false) (gd:=none) (k:=.v k) (base:=s.n) h0 (by rw[hg0];rfl) hk0 hq hsim0 (od _) (by simp [Io.news]) (λd e=>?_) (λs1 a1 w2 hk uJ w7=>?_) (λv H' n' chain a' w' q=>q.elim)
  ·simp_all
  obtain⟨q1,first,cap,q2,q3⟩:=hk;obtain⟨g2,r1,r2,r3,r4,r5,ms1,r6,r7,r8⟩:=uJ;have hdef1:a1.defers=[]:=by rw[r6,(r8 rfl).1];rfl
  have hv:=Pp r2 q1;have hev:a1.eval (.tmp t)=a1.tmps.getD t undef:=rfl;rw[q2]at hv;obtain⟨fv,cv,e1,k1,k2⟩:=hv;rw[wpOpsIn_cons];have sP:(o1.semAt (FR none).round a1.eval).run P w2= .ok (.defer ⟨.fn (.func tF) cv,fv⟩) w2:=by
   rw[show(FR none).round=none from rfl,Oper.semAt_none];simp [execOp,hop1,resolve,hcl,hca,hev,e1,Deferred.ofValue]
  unfold wpOpIn;simp only[h1,Region.wanted,hg1,pG];refine⟨λ_ _=>zt,?_⟩;rw[sP];simp only[Oper.uponIn,wpOpsIn,hd1,Act.put];show X.wpIn _ _ _ _ _ _;obtain⟨fn2,c1,c2,c3⟩:=hcall;have hinv:∀W:World,(invoke (.fn (.func tF) cv) fv).run P W= .ok (.enter tF (fv++cv)) W:=by
   intro W;have c3':¬fn2.name= "runtime.NumGoroutine" :=by simpa using c3
   have c4:¬fn2.body=none:=by cases hb:fn2.body<;>simp_all
   simp [invoke,callFunc,c1,c3',c4]
  have hsim2:Eg s1.n g2 s1.H w2 fn.ntmps ⟨w2.heap.size,[⟨.fn (.func tF) cv,fv⟩],true,Z9 fzX,a1.tmps⟩ s1 {a1 with defers:=⟨.fn (.func tF) cv,fv⟩::a1.defers} w2:=
   ⟨g2,r1,r2,q8.refl _ _ _ _,od _,r5,by rw[hdef1];exact J4.nil (λ_ _ _=>rfl)⟩
  refine wpIn_mono (CP (r:=none) X hX (.inr tj) ⟨od _,od _⟩ q3 hsim2) λe a3 w3 hq3=>?_
  have fin:∀(rv:Fs) (u:FrameMode) (H3:AB) (n3:Nat) (g3:z8),u≠ .run->C8 P tF (first++cap) rv H3 n3 (TL rs (s1.env.filter λe=>Nat.blt e.1 (Z9 fzX)) R)->x6 g3 H3 n3 w3->q8 s1.n g2 s1.H w2 g3 H3 w3->s1.n<=n3->
    J4 ⟨w2.heap.size,[⟨.fn (.func tF) cv,fv⟩],true,Z9 fzX,a1.tmps⟩ g3 H3 a3.defers a3.tmps w3->((u= .returning/\rv= .tA)\/∃x,AP g3 rv x/\u= .panicking [{v:=x,recovered:=false}])->
    LeavesInM (FR none) 0 P fn a3.tmps (λe w'=>∃g' out H' n',R out H' n'/\Vv g' out e/\x6 g' H' n' w'/\n<=n'/\q8 n g H w g' H' w') a3.defers u w3:=by
   rintro rv u H3 n3 g3 hu hA R3 T3 hn3 ⟨ms3,d1,d2,d3⟩ hmode;rw[d1,(d3 rfl).1];refine⟨hu,.inr ⟨by simp [FR,Fence.wide],.func tF,cv,tF,fv++cv,rfl,hinv w3,λ_ _=>zt,?_⟩⟩;have hvs:sG g3 (first++cap) (fv.toList++cv.toList):=sG.append' (sG.mono T3.le _ _ k1) (sG.mono T3.le _ _ k2);have hc:=hA g3 w3 _ u R3 hvs hmode;rw[show(fv.toList++cv.toList).toArray=fv++cv by apply qe;simp]at hc;refine CallsDIn.mono hc ?_;rintro e u' w' ⟨⟨v,rfl⟩,sA,g',H',n',⟨x1,x2⟩,R',hn',T'⟩;show LeavesInM _ _ _ _ _ _ [] (settle u') w';rw[sA];have hE:By g' (s1.env.filter λe=>Nat.blt e.1 (Z9 fzX)) a3.tmps:=by
    intro i gd z hz;obtain⟨z1,z2⟩:=Hq _ _ _ hz;obtain⟨z3,z4,z5,z6⟩:=r2 i gd z z2;exact⟨z3,by rw[(d3 rfl).2 i z1];exact z4,λq=>(z5 q).mono (T3.le.trans T'.le),z6⟩
   obtain⟨v',y1,y2⟩:=FB (s:=⟨s1.env.filter λe=>Nat.blt e.1 (Z9 fzX),H',n'⟩) R' hE hr x1;exact⟨v',y1,g',_,_,_,x2,y2,R',zo,((p3.trans (r3.floor p4)).trans (T3.floor zo)).trans (T'.floor zo)⟩
  cases e with
  |normal=>obtain⟨s3,q,g3,z1,z2,z3,z4,z5,z6⟩:=hq3;exact fin .tA .returning _ _ g3 zw q z1 z3 z4 z6 (.inl ⟨rfl,rfl⟩)
  |ret=>obtain⟨s3,q,g3,z1,z2,z3,z4,z5,z6⟩:=hq3;exact fin .tA .returning _ _ g3 zw q z1 z3 z4 z6 (.inl ⟨rfl,rfl⟩)
  |exit i=>obtain⟨s3,q,_⟩:=hq3;exact q.elim
  |goto l=>exact hq3
  |outgrown=>exact hq3.elim
  |panic chain=>
   obtain⟨v,H',n',q,g3,x,z1,z2,z3,rfl,z5,z6⟩:=hq3;exact fin v _ _ _ g3 zw q z1 z2 z3 z6 (.inr ⟨x,z5,rfl⟩)
 ·have ret:∀s,(J5 s rs).1/\R (.ret (Ul (J5 s rs).2)) s.H s.n->Eg n g H w fn.ntmps ⟨w.heap.size,[],true,0, #[]⟩ s a' w'->
    LeavesInM (FR none) 0 P fn a'.tmps (λe w'=>∃g' out H' n',R out H' n'/\Vv g' out e/\x6 g' H' n' w'/\n<=n'/\q8 n g H w g' H' w') a'.defers .returning w':=by
   rintro s ⟨q1,q2⟩ ⟨g',p1,p2,p3,p4,p5,ms,p6,p7,p8⟩;rw[p6,(p8 rfl).1];obtain⟨v,k1,k2⟩:=FB p1 p2 hr q1;exact⟨v,k1,g',_,_,_,q2,k2,p1,p4,p3⟩
  cases e with
  |normal=>exact absurd rfl sZ
  |ret=>obtain⟨s,q,hs'⟩:=hq;exact ret s q hs'
  |exit i=>obtain⟨s,q,hs'⟩:=hq;exact q.elim
  |goto l=>exact hq
  |outgrown=>exact hq.elim
  |panic chain=>
   obtain⟨v,H',n',q,⟨g',x,p1,p2,p3,rfl,p5,ms,p6,p7,p8⟩⟩:=hq;show LeavesInM _ _ _ _ _ _ a'.defers _ _;rw[p6,(p8 rfl).1];exact⟨g',.tJ v,H',n',q,⟨x,rfl,p5⟩,p1,p3,p2⟩
def aC:Code->Code
 | .seq a _=>a
 |c=>c
def TM:Code->Code
 | .seq _ b=>b
 |c=>c
def KY:Code->Array Oper
 | .region _ ops _=>ops
 |_=> #[]
def Uo(P:Program)(N:Nat)(ops:Array Oper):Option (x0×Option Nat×Nat):=match ops.toList with
 |[o0,o1]=>match o0.guard,o1.guard,BD P false false 0 o0.op,o1.op,o1.dst with
  |none,none,some (.v k),.defer {callee:=.value (.tmp t),args,.. },none=>if args.toList.isEmpty&&o0.dst.all (λd=>decide (d<N))then some (k,o0.dst,t)else none
  |_,_,_,_,_=>none
 |_=>none
def gG(N:Nat)(ops:Array Oper):Option (Nat×Nat):=match ops.toList with
 |[o0,o1]=>match o0.guard,o1.guard,o0.op,o0.dst,o1.op,o1.dst with
  |none,none,.call {callee:=.builtin .recover,args,.. },some t4,.move (.tmp t),some t3=>if args.toList.isEmpty&&decide (t=t4)&&decide (t3<N)&&decide (t4<N)then some (t3,t4)else none
  |none,none,.call {callee:=.builtin .recover,args,.. },some t4,.assign (.tmp t),some t3=>if args.toList.isEmpty&&decide (t=t4)&&decide (t3<N)&&decide (t4<N)then some (t3,t4)else none
  |_,_,_,_,_,_=>none
 |_=>none
theorem Up(h:ops.toList=[o0,o1]):ops.size=2/\ops[0]?=some o0/\ops[1]?=some o1:=by
 have:ops= #[o0,o1]:=by apply qe;simpa using h
 subst this;exact⟨rfl,rfl,rfl⟩
theorem I5{rv:Fs}{Rc:AB->Nat->Prop}{t3 t4:Nat}
  (hf:P.funcs[tF]?=some fn) (hb:fn.body=some (.seq (.region id ops false) X)) (ho:gG fn.ntmps ops=some (t3,t4)) (hX:BH P fn.ntmps fz im kp X=some y) (tj:y.plain=true) (hr:fn.results.toList.isEmpty=true)
  (h:Gl P y (Co [] λo H' n'=>o= .ret (.sH [])/\Rc H' n') ⟨(t3,true,rv)::(t4,true,rv)::Ev 0 args,H,n⟩):C8 P tF args rv H n Rc:=by
 unfold gG at ho;split at ho
 ·rename_i o0 o1 hl;obtain⟨h1,h2,h3⟩:=Up hl;split at ho
  ·rename_i q1 q2 q3 q4 q5 q6;split at ho
   ·rename_i hh;cases ho;simp only[oo,oC]at hh;obtain⟨⟨⟨k1,k2⟩,k3⟩,k4⟩:=hh;subst k2;exact Og (ty:=0) hf hb h1 h2 h3 q1 q2 q3 rfl q4 (.inl q5) q6 k3 k4 (by apply qe;simpa using k1) hX tj (by apply qe;simpa using hr) h
   ·cases ho
  ·rename_i q1 q2 q3 q4 q5 q6;split at ho
   ·rename_i hh;cases ho;simp only[oo,oC]at hh;obtain⟨⟨⟨k1,k2⟩,k3⟩,k4⟩:=hh;subst k2;exact Og (ty:=0) hf hb h1 h2 h3 q1 q2 q3 rfl q4 (.inr q5) q6 k3 k4 (by apply qe;simpa using k1) hX tj (by apply qe;simpa using hr) h
   ·cases ho
  ·cases ho
 ·cases ho
theorem GU{f:Nat}{pre:List Code}{ys:List q9}{fzX:List (Nat×Nat)}{rs:List RC}{R:xx->AB->Nat->Prop}{d0:Option Nat}{k:x0}
  (hf:P.funcs[f]?=some fn) (hb:fn.body=some (Um pre (.seq (.region id ops false) X))) (hname:(fn.name== "runtime.NumGoroutine")=false) (hpre:Oh P fn.ntmps fz im kp pre=some ys) (hppl:ys.all (·.plain)=true)
  (ho:Uo P fn.ntmps ops=some (k,d0,t)) (hX:BH P fn.ntmps fzX im kp X=some y) (tj:y.plain=true) (hr:NX P fn.results.toList=some rs) (hcall:CF P tF)
  (h:Gl P (Fu ys) (LI P t ⟨d0,none,.v k⟩ y (Z9 fzX) tF rs R) ⟨Ev 0 args,H,n⟩):AO P f args H n R:=by
 unfold Uo at ho;split at ho
 ·rename_i o0 o1 hl;obtain⟨h1,h2,h3⟩:=Up hl;split at ho
  ·rename_i q1 q2 q3 q4 q5;split at ho
   ·rename_i hh;cases ho;simp only[oo]at hh;exact Pq hf hb hname hpre hppl h1 h2 h3 q1 q2 q3 hh.2 q4 rfl (by apply qe;simpa using hh.1) q5 hX tj hr hcall h
   ·cases ho
  ·cases ho
 ·cases ho
end
abbrev tm(i:Nat):zx:=.t i
abbrev ci(n:Int):zx:=.c (.int .i64 n)
abbrev cT:zx:=.c (.bool true)
abbrev cF:zx:=.c (.bool false)
abbrev z0:Fs:=.int .i64 0
abbrev zs:Fs:=.sl .nil []
abbrev zb:Fs:=.bool false
abbrev zr:Fs:=.str []
abbrev sq(a b:q9):q9:=.seq a b
abbrev rg(ops:List xj)(kp:List Nat):q9:=.reg 0 ops kp
abbrev ov(d:Nat)(k:x0):xj:=⟨some d,none,.v k⟩
abbrev om(d i:Nat):xj:=⟨some d,none,.v (.mv (.t i))⟩
abbrev oi(d:Nat)(n:Int):xj:=⟨some d,none,.v (.mv (.c (.int .i64 n)))⟩
abbrev ob(d:Nat)(b:Bool):xj:=⟨some d,none,.v (.mv (.c (.bool b)))⟩
abbrev ol(d i:Nat):xj:=⟨some d,none,.v (.ld 1 false (.t i))⟩
abbrev of(d k i:Nat):xj:=⟨some d,none,.v (.fa k (.t i))⟩
abbrev oa(d k i j:Nat):xj:=⟨some d,none,.v (.ia k (.t i) (.t j))⟩
abbrev ox(d k i:Nat):xj:=⟨some d,none,.v (.ext k (.t i))⟩
abbrev on(d i:Nat):xj:=⟨some d,none,.v (.len (.t i))⟩
abbrev ot(d i:Nat):xj:=⟨some d,none,.v (.not (.t i))⟩
abbrev oy(d i j:Nat):xj:=⟨some d,none,.pick (.t i) (.t j) (.c (.bool false))⟩
abbrev oz(d i j:Nat):xj:=⟨some d,none,.pick (.t i) (.c (.bool true)) (.t j)⟩
abbrev oc(d f:Nat)(xs:List zx):xj:=⟨some d,none,.call true (.c (.fn (.func f) [] [])) xs⟩
abbrev oe(d f:Nat)(xs:List zx):xj:=⟨some d,none,.call false (.c (.fn (.func f) [] [])) xs⟩
abbrev gv(d g:Nat)(b:Bool)(k:x0):xj:=⟨some d,some (g,b),.v k⟩
abbrev gm(d g:Nat)(b:Bool)(i:Nat):xj:=⟨some d,some (g,b),.v (.mv (.t i))⟩
abbrev gl(d g:Nat)(b:Bool)(i:Nat):xj:=⟨some d,some (g,b),.v (.ld 1 false (.t i))⟩
abbrev gf(d g:Nat)(b:Bool)(k i:Nat):xj:=⟨some d,some (g,b),.v (.fa k (.t i))⟩
abbrev ga(d g:Nat)(b:Bool)(k i j:Nat):xj:=⟨some d,some (g,b),.v (.ia k (.t i) (.t j))⟩
abbrev TN(P:Program)(f:FuncId)(c:q9)(rs:List RC):Prop:=∀{args:List Fs} {H:AB} {n:Nat} {R:xx->AB->Nat->Prop},Gl P c (Co rs R) ⟨Ev 0 args,H,n⟩->AO P f args H n R
def Wz{P:Program}{f:FuncId}{fn:Func}{c:Code}{ac:q9}{fz im:List (Nat×Nat)}{rs:List RC}(kp:Nat->List Nat)
  (hf:P.funcs[f]?=some fn:=by kernel_rfl) (hb:fn.body=some c:=by kernel_rfl) (hname:(fn.name== "runtime.NumGoroutine")=false:=by kernel_rfl) (hc:BH P fn.ntmps fz im kp c=some ac:=by kernel_rfl) (hr:NX P fn.results.toList=some rs:=by kernel_rfl):TN P f ac rs:=
 λh=>Mx hf hb hname hc hr h
abbrev Kc(P:Program)(fn:Func)(fz im:List (Nat×Nat))(kl:List (List Nat)):={c:q9//BH P fn.ntmps fz im (λr=>kl.getD r []) (fn.body.getD .skip)=some c}
def mkB{P:Program}{f:FuncId}{fn:Func}{fz im:List (Nat×Nat)}{kl:List (List Nat)}{c:Kc P fn fz im kl}{rs:List RC}(h:(P.funcs[f]?,fn.body.isSome,(fn.name== "runtime.NumGoroutine"),NX P fn.results.toList)=(some fn,true,false,some rs):=by kernel_rfl):TN P f c.1 rs:=by
 simp only[Prod.mk.injEq]at h
 obtain⟨h1,h2,h3,h4⟩:=h
 obtain⟨b,hb⟩:=Option.isSome_iff_exists.1 h2
 obtain⟨c,hc⟩:=c
 rw[hb]at hc
 exact Wz (fz:=fz) (im:=im) (λr=>kl.getD r []) h1 hb h3 hc h4
def mkL{P:Program}{f:FuncId}(fn:Func)(h:(P.funcs[f]?,fn.body.isNone,(fn.name== "runtime.NumGoroutine"))=(some fn,false,false):=by kernel_rfl):CF P f:=by
 simp only[Prod.mk.injEq]at h
 exact⟨fn,h⟩
structure Kf(P:Program)(f:FuncId)(fn:Func)(fz im:List (Nat×Nat))(kl:List (List Nat))(rs:List RC) where
 c:Kc P fn fz im kl:=by constructor;conv=>lhs;reduce;simp only[seval]
 h:(P.funcs[f]?,fn.body.isSome,(fn.name== "runtime.NumGoroutine"),NX P fn.results.toList)=(some fn,true,false,some rs):=by kernel_rfl
abbrev Kg(P:Program)(f:FuncId)(fn:Func)(kl:List (List Nat))(rs:List RC):=Kf P f fn [] [] kl rs
section
variable {P:Program} {f:FuncId} {fn:Func} {fz im:List (Nat×Nat)} {kl:List (List Nat)} {rs:List RC}
instance :CoeOut (Kf P f fn fz im kl rs) q9:=⟨λk=>k.c.1⟩
theorem Kf.a(k:Kf P f fn fz im kl rs):TN P f k.c.1 rs:=mkB k.h
theorem Kf.l(k:Kf P f fn fz im kl rs):CF P f:=mkL fn (by
 have h:=k.h
 simp only[Prod.mk.injEq]at h⊢
 obtain⟨h1,h2,h3,h4⟩:=h
 exact⟨h1,by cases hb:fn.body<;>simp_all,h3⟩)
end
def Lv(n:Nat)(h:n<256):UInt8.ofBitVec (BitVec.ofFin ⟨n,h⟩)=UInt8.ofNat n:=by
 apply UInt8.toNat_inj.1
 show n=(UInt8.ofNat n).toNat
 rw[UInt8.toNat_ofNat',qU h]
section
abbrev Bk:=FuncId->List Fs->AB->Prop×Fs
def AG(P:Program)(T:Bk):Prop:=∀f args H n,(T f args H).1->Ad P f args H n (T f args H).2
def GE(T:Bk)(args:List Fs)(H:AB):Fs->Prop×Fs
 | .fn (.func f) first cap=>T f (first++args++cap) H
 |_=>(False,.sH [])
def Nn(T:Bk)(args:List Fs):Fs->Prop×Fs
 | .fn (.func f) first cap=>((T f (first++args++cap) Ac).1/\sN 0 (first++args++cap)/\(T f (first++args++cap) Ac).2.under 0,(T f (first++args++cap) Ac).2)
 |_=>(False,.sH [])
section
variable (P:Program) (T:Bk) (Qp:Fs->AB->Nat->Prop) (base:Nat)
def BW(o:xj)(K:AS->Prop)(s:AS):Prop:=match o.k with
 | .call true f args=>GQ s.env o.guard/\(Be s.env o.guard=true->(lk s.env f).1=true/\Bz s.env args/\(GE T (args.map (AV s.env)) s.H (AV s.env f)).1)/\
   K (s.put o.dst (Be s.env o.guard) (GE T (args.map (AV s.env)) s.H (AV s.env f)).2)
 | .cpu f args=>GQ s.env o.guard/\(Be s.env o.guard=true->((lk s.env f).1=true/\Bz s.env args/\(Nn T (args.map (AV s.env)) (AV s.env f)).1)/\K (s.put o.dst true (Nn T (args.map (AV s.env)) (AV s.env f)).2))/\
   (Be s.env o.guard=false->K (s.put o.dst false (.sH [])))
 |_=>AX P Qp base o K s
def Eb:List xj->(AS->Prop)->AS->Prop
 |[],K,s=>K s
 |o::r,K,s=>BW P T Qp base o (Eb r K) s
def DV(cx:Nat->Fs):List (Nat×xj)->(AS->Prop)->AS->Prop
 |[],K,s=>K s
 |o::r,K,s=>(Be s.env o.2.guard=true->Bg base cx (AV s.env) o.1 o.2.k)/\BW P T Qp base o.2 (λs'=>FF cx o.1 o.2.k s.H s'.H/\DV cx r K s') s
end
def ev(P:Program)(T:Bk):q9->(x5->AS->Prop)->AS->Prop
 | .skip,Q,s=>Q .normal s
 | .reg bump ops keep,Q,s=>Eb P T (λv H n=>Q (.tJ v) ⟨[],H,n⟩) s.n ops (λs'=>Q .normal (s'.keep keep)) {s with n:=s.n+bump}
 | .seq a b,Q,s=>ev P T a (λe s'=>match e with
  | .normal=>ev P T b Q s'
  |e=>Q e s') s
 | .cond c a b,Q,s=>(lk s.env c).1=true/\JV (AV s.env c)/\(FZ (AV s.env c)=true->ev P T a Q s)/\(FZ (AV s.env c)=false->ev P T b Q s)
 | .block id c,Q,s=>ev P T c (λe s'=>match e with
  | .exit i=>if i=id then Q .normal s' else Q (.exit i) s'
  |e=>Q e s') s
 | .loop c,Q,s=>∃(I:AS->Prop) (μ:AS->Nat),I s/\∀s1,I s1->ev P T c (λe s'=>match e with
  | .normal=>∃s2,KK s1 s' s2/\I s2/\μ s2<μ s1
  |e=>Q e s') s1
 | .exit id,Q,s=>Q (.exit id) s
 | .ret,Q,s=>Q .ret s
 | .rfun g ps nt asg body,Q,s=>(lk s.env g).1=true/\Gc P s Q ps nt asg body (AV s.env g)
 | .frz t,Q,s=>Ie Q s t (BC s.env t)
 | .frzo t,Q,s=>F9 Q s t (BC s.env t)
 | .regx bump ops keep,Q,s=>DV P T (λv H n=>Q (.tJ v) ⟨[],H,n⟩) s.n (Sl s.env s.n) ops (λs'=>Q .normal (s'.keep keep)) {s with n:=s.n+bump}
section
variable {P:Program} {T:Bk} (hT:AG P T) {Qp:Fs->AB->Nat->Prop} {base:Nat}
include hT
variable {K K':AS->Prop}
theorem Hr{o:xj}{s:AS}(hK:∀s,K s->K' s)(h:BW P T Qp base o K s):AX P Qp base o K' s:=by
 obtain⟨d,g,k⟩:=o;unfold BW at h;split at h
 ·rename_i f args hk;simp only at hk h;subst hk;obtain⟨h0,h1,h2⟩:=h;refine⟨h0,_,λq=>?_,hK _ h2⟩;obtain⟨p1,p2,p3⟩:=h1 q;refine⟨p1,p2,?_⟩;generalize AV s.env f=fv at p3⊢;unfold GE at p3⊢;split at p3
  ·exact hT _ _ _ _ p3
  ·exact p3.elim
 ·rename_i f args hk;simp only at hk h;subst hk;obtain⟨h0,h1,h2⟩:=h;refine⟨h0,λq=>?_,λq=>hK _ (h2 q)⟩;obtain⟨⟨p1,p2,p3⟩,p4⟩:=h1 q;refine⟨⟨p1,p2⟩,?_⟩;simp only[BB];generalize AV s.env f=fv at p3 p4⊢;unfold Nn at p3 p4;split at p3
  ·rename_i tF first cap
   obtain⟨k1,k2,k3⟩:=p3;have hq:=hT _ _ Ac 0 k1;exact⟨_,⟨k2,k3,hq.mono λout H' n' hh=>⟨_,hh.1,Wk.refl _⟩⟩,hK _ p4⟩
  ·exact p3.elim
 ·exact GC hK h
theorem Mz(hK:∀s,K s->K' s):∀(l:List xj) (s:AS),Eb P T Qp base l K s->Dv P Qp base l K' s
 |[],s,h=>hK s h
 |o::r,s,h=>Hr hT (Mz hK r) h
theorem LJ{cx:Nat->Fs}(hK:∀s,K s->K' s):∀(l:List (Nat×xj)) (s:AS),DV P T Qp base cx l K s->Iy P Qp base cx l K' s
 |[],s,h=>hK s h
 |o::r,s,h=>⟨h.1,Hr hT (λs' k=>⟨k.1,LJ hK r s' k.2⟩) h.2⟩
end
variable {c:q9} {Q:x5->AS->Prop} {H' H:AB} {s:AS} {K K':AS->Prop} {v r:Fs} {Qp Qp':Fs->AB->Nat->Prop} {f:FuncId} {l a:List Fs} {id base esz bytes n:Nat} {P:Program} {α:Type}
theorem M1{Q':x5->AS->Prop}(hQ:∀e s,Q e s->Q' e s){out:xx}{n':Nat}(h:Hf Q s id out H' n'):Hf Q' s id out H' n':=by
 cases out with
 |tJ v=>exact hQ _ _ h
 |ret v=>grind [Hf]
theorem KZ{o:xj}(hQ:∀v H n,Qp v H n->Qp' v H n)(hK:∀s,K s->K' s)(h:AX P Qp base o K s):AX P Qp' base o K' s:=by
 have h':=GC hK h;obtain⟨d,g,k⟩:=o;refine⟨h'.1,?_⟩;have h2:=h'.2;cases k with
 |call q f args=>
  cases q with
  |true=>exact h2
  |false=>
   refine⟨λq=>⟨(h2.1 q).1,?_⟩,h2.2⟩;have h3:=(h2.1 q).2;simp only[BB]at h3⊢;generalize AV s.env f=v at h3⊢;cases v<;>(try simp only at h3⊢)<;>first|exact h3.elim|skip
   rename_i ff first cap
   cases ff with
   |func f=>
    refine AO.mono (R:=λout H' n'=>match out with
     | .ret v=>K' ({s with H:=H',n:=n'}.put d true v)
     | .tJ v=>Qp v H' n') h3 λo H' n' hh=>?_
    cases o with
    |ret v=>exact hh
    |tJ v=>exact hQ _ _ _ hh
   |yield l=>cases first with
    |cons _ _=>exact h3.elim
    |nil=>cases cap with
     |cons _ _=>exact h3.elim
     |nil=>exact h3
   |_=>exact h3.elim
 |tJ x=>exact⟨λq=>⟨(h2.1 q).1,(h2.1 q).2.1,hQ _ _ _ (h2.1 q).2.2⟩,h2.2⟩
 |_=>exact h2
theorem Oi(hQ:∀v H n,Qp v H n->Qp' v H n):∀(l:List xj) (s:AS),Dv P Qp base l K s->Dv P Qp' base l K s
 |[],s,h=>h
 |o::r,s,h=>KZ hQ (Oi hQ r) h
theorem Uq{cx:Nat->Fs}(hQ:∀v H n,Qp v H n->Qp' v H n):∀(l:List (Nat×xj)) (s:AS),Iy P Qp base cx l K s->Iy P Qp' base cx l K s
 |[],s,h=>h
 |o::r,s,h=>⟨h.1,KZ hQ (λs' k=>⟨k.1,Uq hQ r s' k.2⟩) h.2⟩
theorem Fv{T:Bk}(hT:AG P T):∀(c:q9) (Q Q':x5->AS->Prop) (s:AS),(∀e s,Q e s->Q' e s)->ev P T c Q s->Gl P c Q' s
 | .skip,Q,Q',s,hQ,h=>hQ _ _ h
 | .exit _,Q,Q',s,hQ,h=>hQ _ _ h
 | .ret,Q,Q',s,hQ,h=>hQ _ _ h
 | .reg bump ops keep,Q,Q',s,hQ,h=>by
  have h1:=Mz (Qp:=λv H n=>Q (.tJ v) ⟨[],H,n⟩) hT (K':=λs'=>Q' .normal (s'.keep keep)) (λs h=>hQ _ _ h) ops _ h;exact Oi (λv H n=>hQ _ _) ops _ h1
 | .regx bump ops keep,Q,Q',s,hQ,h=>by
  have h1:=LJ (Qp:=λv H n=>Q (.tJ v) ⟨[],H,n⟩) hT (K':=λs'=>Q' .normal (s'.keep keep)) (λs h=>hQ _ _ h) ops _ h;exact Uq (λv H n=>hQ _ _) ops _ h1
 | .seq a b,Q,Q',s,hQ,h=>Fv hT a _ _ s (λe s h=>by
   cases e with
   |normal=>exact Fv hT b _ _ s hQ h
   |_=>exact hQ _ _ h) h
 | .cond c a b,Q,Q',s,hQ,h=>⟨h.1,h.2.1,λq=>Fv hT a _ _ s hQ (h.2.2.1 q),λq=>Fv hT b _ _ s hQ (h.2.2.2 q)⟩
 | .block id c,Q,Q',s,hQ,h=>Fv hT c _ _ s (λe s h=>by
   cases e with
   |exit i=>grind
   |_=>exact hQ _ _ h) h
 | .loop c,Q,Q',s,hQ,⟨I,μ,h1,h2⟩=>⟨I,μ,h1,λs1 i1=>Fv hT c _ _ s1 (λe s h=>by
   cases e with
   |normal=>exact h
   |_=>exact hQ _ _ h) (h2 s1 i1)⟩
 | .rfun g ps nt asg body,Q,Q',s,hQ,h=>by
  refine⟨h.1,?_⟩;have h2:=h.2;generalize AV s.env g=v at h2⊢;cases v<;>simp only[Gc]at h2⊢ <;>first|exact h2.elim|skip
  rename_i f first cap
  cases f<;>simp only at h2⊢ <;>first|exact h2.elim|skip
  exact λl=>(h2 l).mono λo H' n' q=>M1 hQ q
 | .frz t,Q,Q',s,hQ,h=>by
  have h2:Ie Q s t (BC s.env t):=h;show Ie Q' s t (BC s.env t);unfold Ie at h2⊢;split at h2
  ·grind
  ·grind
  ·exact h2.elim
 | .frzo t,Q,Q',s,hQ,h=>by
  have h2:F9 Q s t (BC s.env t):=h;show F9 Q' s t (BC s.env t);unfold F9 at h2⊢;split at h2
  ·grind
  ·exact hQ _ _ h2
  ·exact h2.elim
theorem M2{T:Bk}{o:xj}(hQ:∀v H n,Qp v H n->Qp' v H n)(hK:∀s,K s->K' s)(h:BW P T Qp base o K s):BW P T Qp' base o K' s:=by
 obtain⟨d,g,k⟩:=o;unfold BW at h⊢;split at h
 ·exact⟨h.1,h.2.1,hK _ h.2.2⟩
 ·simp_all
 ·exact KZ hQ hK h
theorem Oj{T:Bk}(hQ:∀v H n,Qp v H n->Qp' v H n)(hK:∀s,K s->K' s):∀(l:List xj) (s:AS),Eb P T Qp base l K s->Eb P T Qp' base l K' s
 |[],s,h=>hK s h
 |o::r,s,h=>M2 hQ (Oj hQ hK r) h
theorem M3{T:Bk}{cx:Nat->Fs}(hQ:∀v H n,Qp v H n->Qp' v H n)(hK:∀s,K s->K' s):∀(l:List (Nat×xj)) (s:AS),DV P T Qp base cx l K s->DV P T Qp' base cx l K' s
 |[],s,h=>hK s h
 |o::r,s,h=>⟨h.1,M2 hQ (λs' k=>⟨k.1,M3 hQ hK r s' k.2⟩) h.2⟩
theorem Fh{T:Bk}:∀(c:q9) (Q Q':x5->AS->Prop) (s:AS),(∀e s,Q e s->Q' e s)->ev P T c Q s->ev P T c Q' s
 | .skip,Q,Q',s,hQ,h=>hQ _ _ h
 | .exit _,Q,Q',s,hQ,h=>hQ _ _ h
 | .ret,Q,Q',s,hQ,h=>hQ _ _ h
 | .reg bump ops keep,Q,Q',s,hQ,h=>Oj (λv H n=>hQ _ _) (λs=>hQ _ _) ops _ h
 | .regx bump ops keep,Q,Q',s,hQ,h=>M3 (λv H n=>hQ _ _) (λs=>hQ _ _) ops _ h
 | .seq a b,Q,Q',s,hQ,h=>Fh a _ _ s (λe s h=>by
   cases e with
   |normal=>exact Fh b _ _ s hQ h
   |_=>exact hQ _ _ h) h
 | .cond c a b,Q,Q',s,hQ,h=>⟨h.1,h.2.1,λq=>Fh a _ _ s hQ (h.2.2.1 q),λq=>Fh b _ _ s hQ (h.2.2.2 q)⟩
 | .block id c,Q,Q',s,hQ,h=>Fh c _ _ s (λe s h=>by
   cases e with
   |exit i=>grind
   |_=>exact hQ _ _ h) h
 | .loop c,Q,Q',s,hQ,⟨I,μ,h1,h2⟩=>⟨I,μ,h1,λs1 i1=>Fh c _ _ s1 (λe s h=>by
   cases e with
   |normal=>exact h
   |_=>exact hQ _ _ h) (h2 s1 i1)⟩
 | .rfun g ps nt asg body,Q,Q',s,hQ,h=>by
  refine⟨h.1,?_⟩;have h2:=h.2;generalize AV s.env g=v at h2⊢;cases v<;>simp only[Gc]at h2⊢ <;>first|exact h2.elim|skip
  rename_i f first cap
  cases f<;>simp only at h2⊢ <;>first|exact h2.elim|skip
  exact λl=>(h2 l).mono λo H' n' q=>M1 hQ q
 | .frz t,Q,Q',s,hQ,h=>by
  have h2:Ie Q s t (BC s.env t):=h;show Ie Q' s t (BC s.env t);unfold Ie at h2⊢;split at h2
  ·grind
  ·grind
  ·exact h2.elim
 | .frzo t,Q,Q',s,hQ,h=>by
  have h2:F9 Q s t (BC s.env t):=h;show F9 Q' s t (BC s.env t);unfold F9 at h2⊢;split at h2
  ·grind
  ·exact hQ _ _ h2
  ·exact h2.elim
theorem AE{T:Bk}(hT:AG P T)(h:ev P T c Q s):Gl P c Q s:=Fv hT c Q Q s (λ_ _ h=>h) h
inductive Item where
 |c (c:q9)
 |sO (id:Nat)
section
variable (P:Program) (T:Bk)
def CS(Q:x5->AS->Prop):List Item->x5->AS->Prop
 |[],e,s=>Q e s
 | .c c::k,e,s=>match e with
  | .normal=>ev P T c (CS Q k) s
  |e=>CS Q k e s
 | .sO id::k,e,s=>match e with
  | .exit i=>if i=id then CS Q k .normal s else CS Q k (.exit i) s
  |e=>CS Q k e s
def Fi(c:q9)(k:List Item)(Q:x5->AS->Prop)(s:AS):Prop:=ev P T c (CS P T Q k) s
def BK(b:Nat)(ops:List xj)(kp:List Nat)(k:List Item)(Q:x5->AS->Prop)(s:AS):Prop:=
 Eb P T (λv H n=>CS P T Q k (.tJ v) ⟨[],H,n⟩) b ops (λs'=>CS P T Q k .normal (s'.keep kp)) s
def BI(b:Nat)(cx:Nat->Fs)(ops:List (Nat×xj))(kp:List Nat)(k:List Item)(Q:x5->AS->Prop)(s:AS):Prop:=
 DV P T (λv H n=>CS P T Q k (.tJ v) ⟨[],H,n⟩) b cx ops (λs'=>CS P T Q k .normal (s'.keep kp)) s
def BG(b:Nat)(d:Option Nat)(r:List xj)(kp:List Nat)(k:List Item)(Q:x5->AS->Prop)(s:AS):xx->AB->Nat->Prop
 | .ret v,H',n'=>BK P T b r kp k Q ({s with H:=H',n:=n'}.put d true v)
 | .tJ v,H',n'=>CS P T Q k (.tJ v) ⟨[],H',n'⟩
def EW(b:Nat)(cx:Nat->Fs)(m:Nat)(d:Option Nat)(r:List (Nat×xj))(kp:List Nat)(k:List Item)(Q:x5->AS->Prop)(s:AS):xx->AB->Nat->Prop
 | .ret v,H',n'=>Gt (cx ((m-300000)/2)) s.H H'/\BI P T b cx r kp k Q ({s with H:=H',n:=n'}.put d true v)
 | .tJ v,H',n'=>CS P T Q k (.tJ v) ⟨[],H',n'⟩
def TO(b:Nat)(d:Option Nat)(r:List xj)(kp:List Nat)(k:List Item)(Q:x5->AS->Prop)(s:AS)(x:Bool)(H':AB)(n':Nat):Prop:=BK P T b r kp k Q ({s with H:=H',n:=n'}.put d true (.bool x))
def gH(b:Nat)(cx:Nat->Fs)(m:Nat)(d:Option Nat)(r:List (Nat×xj))(kp:List Nat)(k:List Item)(Q:x5->AS->Prop)(s:AS)(x:Bool)(H':AB)(n':Nat):Prop:=Gt (cx ((m-300000)/2)) s.H H'/\BI P T b cx r kp k Q ({s with H:=H',n:=n'}.put d true (.bool x))
end
def M4(P:Program)(args:List Fs)(H:AB)(n:Nat)(R:xx->AB->Nat->Prop)(Y:Bool->AB->Nat->Prop):Fs->Prop
 | .fn (.func f) first cap=>AO P f (first++args++cap) H n R
 | .fn (.yield l) [] []=>Cf P l args H n Y
 |_=>False
def Pr(H:AB)(sz:Nat)(v:Fs):Fs->Prop×AB
 | .ptr id off=>match AD H id with
  |some (.box cs)=>(off+sz<=cs.length,sA H id (.box (sQ cs off v.cells)))
  |_=>(False,H)
 | .ap id esz i off=>match AD H id with
  |some (.arr e l)=>(e=esz/\i<l.length/\(Bw (l[i]?.getD (.sH [])) off sz esz v).1,sA H id (.arr e (l.set i (Bw (l[i]?.getD (.sH [])) off sz esz v).2)))
  |_=>(False,H)
 |_=>(False,H)
theorem M5{sz:Nat}{a:Fs}{K:AB->Prop}:Ng H sz v K a=((Pr H sz v a).1/\K (Pr H sz v a).2):=by
 cases a<;>simp only[Ng,Pr,false_and]
 ·grind
 ·grind
def Hs(H:AB)(id esz bytes:Nat):Fs->Option (List Fs)->Prop×AB×Fs
 | .sl tok l,some l'=>(AD H id=none/\At H esz tok/\small (l.length+l'.length) bytes/\l.length+l'.length<=35184372088832/\0<esz,sA (AR H tok) id .tok,.sl (.own id esz) (l++l'))
 |_,_=>(False,H,.sH [])
theorem Ps{K:AB->Fs->Prop}{x:Option (List Fs)}:MY H id esz bytes K v x=((Hs H id esz bytes v x).1/\K (Hs H id esz bytes v x).2.1 (Hs H id esz bytes v x).2.2):=by
 cases v<;>cases x<;>simp [MY,Hs,qm]
def I6(H:AB)(n:Nat)(lo hi:Int):Fs->Prop×AB×Fs
 | .ptr id 0=>match AD H id with
  |some (.box cs)=>(cs.length=n/\0<=lo/\lo<=hi/\hi<=n/\lo<n,sA H id (.arr 1 cs),.ref id 1 lo.toNat (hi.toNat-lo.toNat) (n-lo.toNat))
  |some (.arr e cs)=>(e=1/\cs.length=n/\0<=lo/\lo<=hi/\hi<=n/\lo<n,H,.ref id 1 lo.toNat (hi.toNat-lo.toNat) (n-lo.toNat))
  |_=>(False,H,.sH [])
 |_=>(False,H,.sH [])
theorem Ur{lo hi:Int}{K:AB->Fs->Prop}:Hc H n lo hi K v=((I6 H n lo hi v).1/\K (I6 H n lo hi v).2.1 (I6 H n lo hi v).2.2):=by
 cases v<;>simp only[Hc,I6,false_and];rename_i id off;cases off with
 |succ o=>simp
 |zero=>grind
def TP(H:AB)(id esz bytes:Nat)(zero:Fs)(v:Fs):Prop×AB×Fs:=
 (AD H id=none/\Cl v/\0<=BV v/\small (BV v).toNat bytes/\BV v<=35184372088832/\zero.cells.length=esz,sA H id (.arr esz (List.replicate (BV v).toNat zero)),.ref id esz 0 (BV v).toNat (BV v).toNat)
def Ka(s:AS)(t:Nat):Prop×AS:=match BC s.env t with
 |some (true,.ref id e off len cap)=>match AD s.H id with
  |some (.arr e' l)=>(e'=e/\off+len<=l.length/\len<=cap,{s with env:=(t,true,.sl (if len=cap then .exact e else .none e) ((l.drop off).take len))::s.env,H:=sA s.H id (.frz e l)})
  |some (.frz e' l)=>(e'=e/\off+len<=l.length/\len<=cap,{s with env:=(t,true,.sl (if len=cap then .exact e else .none e) ((l.drop off).take len))::s.env})
  |_=>(False,s)
 |some (true,.ptr id 0)=>match AD s.H id with
  |some (.arr e l)=>(e=1/\l.all Id=true,{s with H:=sA s.H id (.box l)})
  |some (.box _)=>(True,s)
  |_=>(False,s)
 |_=>(False,s)
theorem Us{t:Nat}:Ie Q s t (BC s.env t)=((Ka s t).1/\Q .normal (Ka s t).2):=by
 unfold Ka;cases BC s.env t with
 |none=>simp [Ie]
 |some gv=>
  obtain⟨g,v⟩:=gv;cases g<;>cases v<;>try simp only[Ie,false_and]
  case true.ptr id off=>
   cases off with
   |zero=>
    simp only[];cases AD s.H id with
    |none=>simp
    |some ob=>cases ob<;>simp [qm]
   |succ k=>simp []
  case true.ref id e off len cap=>
   cases AD s.H id with
   |none=>simp
   |some ob=>cases ob<;>simp [qm]
def HG(s:AS)(t:Nat):Prop×AS:=match BC s.env t with
 |some (true,.ref id e off len cap)=>match AD s.H id with
  |some (.arr e' l)=>(e'=e/\off=0/\l.length=cap/\len<=cap,{env:=(t,true,.sl (.own s.n e) (l.take len))::s.env,H:=sA (sA s.H id .dead) s.n .tok,n:=s.n+1})
  |_=>(False,s)
 |some (true,.sl tok l)=>(True,{s with env:=(t,true,.sl tok l)::s.env})
 |_=>(False,s)
theorem Rk{t:Nat}:F9 Q s t (BC s.env t)=((HG s t).1/\Q .normal (HG s t).2):=by
 unfold HG;cases BC s.env t with
 |none=>simp [F9]
 |some gv=>
  obtain⟨g,v⟩:=gv;cases g<;>cases v<;>simp only[F9,false_and,pR];rename_i id e off len cap;cases AD s.H id with
  |none=>simp
  |some ob=>cases ob<;>simp [qm]
def Jr(H:AB)(id esz bytes:Nat)(zero:Fs)(K:AB->Fs->Prop)(v:Fs)(x:Option (List Fs)):Prop:=EO H id esz bytes zero K v x
theorem DJ{zero:Fs}{K:AB->Fs->Prop}{tok:xv}{l':List Fs}:Jr H id esz bytes zero K (.sl tok l) (some l')=
  (AD H id=none/\0<esz/\zero.cells.length=esz/\(tok= .nil\/tok= .exact esz)/\small (l.length+l'.length) bytes/\l.length+l'.length<=35184372088832/\
   (l'=[]->K H (.sl tok l))/\
   (l'≠[]->∀cap,l.length+l'.length<=cap->K (sA H id (.arr esz (l++l'++List.replicate (cap-(l.length+l'.length)) zero))) (.ref id esz 0 (l.length+l'.length) cap))):=rfl
theorem Kb{zero:Fs}{K:AB->Fs->Prop}{i0 e off len cap e':Nat}{l':List Fs}(h:AD H i0=some (.arr e' l)):Jr H id esz bytes zero K (.ref i0 e off len cap) (some l')=
  (AD H id=none/\0<esz/\zero.cells.length=esz/\e=esz/\off=0/\small (len+l'.length) bytes/\len+l'.length<=35184372088832/\e'=esz/\l.length=cap/\len<=cap/\
     (len+l'.length<=cap->K (sA H i0 (.arr esz (l.take len++l'++l.drop (len+l'.length)))) (.ref i0 esz 0 (len+l'.length) cap))/\
     (cap<len+l'.length->∀uT,len+l'.length<=uT->K (sA H id (.arr esz (l.take len++l'++List.replicate (uT-(len+l'.length)) zero))) (.ref id esz 0 (len+l'.length) uT))):=by
 simp only[Jr,EO,h]
section
variable {P:Program} {T:Bk} {Q:x5->AS->Prop} {k:List Item} {s:AS} {b:Nat} {cx:Nat->Fs} {kp:List Nat} {r:List xj} {rx:List (Nat×xj)}
variable {c:q9} {H:AB} {v z:Fs} {w str ag:Bool} {xs:List zx} {i id t m rel esz bytes sz:Nat} {x f y a:zx} {o:x0} {d:Option Nat}
theorem AF(h:Fi P T c [] Q s):ev P T c Q s:=by
 have:CS P T Q []=Q:=by funext e s;rfl
 unfold Fi at h;rwa[this]at h
theorem Rl{e:x5}:CS P T Q [] e s=Q e s:=rfl
theorem DK{c:q9}:CS P T Q (.c c::k) .normal s=Fi P T c k Q s:=rfl
theorem ku{c:q9}{i:Nat}:CS P T Q (.c c::k) (.exit i) s=CS P T Q k (.exit i) s:=rfl
theorem kw{c:q9}:CS P T Q (.c c::k) .ret s=CS P T Q k .ret s:=rfl
theorem kz{c:q9}{v:Fs}:CS P T Q (.c c::k) (.tJ v) s=CS P T Q k (.tJ v) s:=rfl
theorem cn{i:Nat}:CS P T Q (.sO i::k) .normal s=CS P T Q k .normal s:=rfl
theorem co{id i:Nat}:CS P T Q (.sO id::k) (.exit i) s=if i=id then CS P T Q k .normal s else CS P T Q k (.exit i) s:=rfl
theorem cq{i:Nat}:CS P T Q (.sO i::k) .ret s=CS P T Q k .ret s:=rfl
theorem cu{i:Nat}{v:Fs}:CS P T Q (.sO i::k) (.tJ v) s=CS P T Q k (.tJ v) s:=rfl
theorem k9:Fi P T .skip k Q s=CS P T Q k .normal s:=rfl
theorem lA{i:Nat}:Fi P T (.exit i) k Q s=CS P T Q k (.exit i) s:=rfl
theorem k_ret:Fi P T .ret k Q s=CS P T Q k .ret s:=rfl
theorem k_seq{x y:q9}:Fi P T (.seq x y) k Q s=Fi P T x (.c y::k) Q s:=by
 unfold Fi;simp only[ev];exact congrArg (λq=>ev P T x q s) (by funext e s';cases e<;>rfl)
theorem cy{i:Nat}{x:q9}:Fi P T (.block i x) k Q s=Fi P T x (.sO i::k) Q s:=by
 unfold Fi;simp only[ev];exact congrArg (λq=>ev P T x q s) (by funext e s';cases e<;>rfl)
theorem lB{c:zx}{x y:q9}:Fi P T (.cond c x y) k Q s=((lk s.env c).1=true/\JV (AV s.env c)/\(FZ (AV s.env c)=true->Fi P T x k Q s)/\(FZ (AV s.env c)=false->Fi P T y k Q s)):=rfl
theorem k_reg{bump:Nat}{ops:List xj}{kp:List Nat}:Fi P T (.reg bump ops kp) k Q s=BK P T s.n ops kp k Q {s with n:=s.n+bump}:=rfl
theorem lC{bump:Nat}{ops:List (Nat×xj)}{kp:List Nat}:Fi P T (.regx bump ops kp) k Q s=BI P T s.n (Sl s.env s.n) ops kp k Q {s with n:=s.n+bump}:=rfl
theorem lD{g:zx}{ps:Array Tmp}{nt:Nat}{x y:Code}:Fi P T (.rfun g ps nt x y) k Q s=((lk s.env g).1=true/\Gc P s (CS P T Q k) ps nt x y (AV s.env g)):=rfl
theorem k_frz{t:Nat}:Fi P T (.frz t) k Q s=((Ka s t).1/\CS P T Q k .normal (Ka s t).2):=Us
theorem lE{t:Nat}:Fi P T (.frzo t) k Q s=((HG s t).1/\CS P T Q k .normal (HG s t).2):=Rk
theorem r_ext{d:Option Nat}{x:XOp}{xs:List zx}:BK P T b (⟨d,none,.ext x xs⟩::r) kp k Q s=(Bz s.env xs/\(xE b x s.H (xs.map (AV s.env))).1/\BK P T b r kp k Q ({s with H:=(xE b x s.H (xs.map (AV s.env))).2.1}.put d true (xE b x s.H (xs.map (AV s.env))).2.2)):=by
 simp only[BK,Eb,BW];exact Qu
def cz(P:Program)(T:Bk)(b:Nat)(d:Option Nat)(x:XOp)(xs:List zx)(r:List xj)(kp:List Nat)(k:List Item)(Q:x5->AS->Prop)(s:AS):Bool->Prop
 |true=>Bz s.env xs/\(xE b x s.H (xs.map (AV s.env))).1/\BK P T b r kp k Q ({s with H:=(xE b x s.H (xs.map (AV s.env))).2.1}.put d true (xE b x s.H (xs.map (AV s.env))).2.2)
 |false=>BK P T b r kp k Q (s.put d false (.sH []))
theorem lF{d:Option Nat}{t:Nat}{w:Bool}{x:XOp}{xs:List zx}:BK P T b (⟨d,some (t,w),.ext x xs⟩::r) kp k Q s=(GQ s.env (some (t,w))/\cz P T b d x xs r kp k Q s (Be s.env (some (t,w)))):=by
 simp only[BK,Eb,BW,AX,BB,Io.sF];cases Be s.env (some (t,w))<;>simp [cz,BK]
theorem lG{d:Option Nat}{x:XOp}{xs:List zx}:cz P T b d x xs r kp k Q s true=(Bz s.env xs/\(xE b x s.H (xs.map (AV s.env))).1/\BK P T b r kp k Q ({s with H:=(xE b x s.H (xs.map (AV s.env))).2.1}.put d true (xE b x s.H (xs.map (AV s.env))).2.2)):=rfl
theorem lH{d:Option Nat}{x:XOp}{xs:List zx}:cz P T b d x xs r kp k Q s false=BK P T b r kp k Q (s.put d false (.sH [])):=rfl
def Dy(P:Program)(T:Bk)(b:Nat)(d:Option Nat)(r:List xj)(kp:List Nat)(k:List Item)(Q:x5->AS->Prop)(s:AS)(H':AB)(v:Fs):Prop:=BK P T b r kp k Q ({s with H:=H'}.put d true v)
theorem r_cpu{d:Option Nat}{f:zx}{xs:List zx}:BK P T b (⟨d,none,.cpu f xs⟩::r) kp k Q s=((lk s.env f).1=true/\Bz s.env xs/\(Nn T (xs.map (AV s.env)) (AV s.env f)).1/\BK P T b r kp k Q (s.put d true (Nn T (xs.map (AV s.env)) (AV s.env f)).2)):=by
 simp only[BK,Eb,BW,GQ,Be,pR,pT,seval,qr,qz,qm]
def M6(P:Program)(T:Bk)(b:Nat)(d:Option Nat)(r:List xj)(kp:List Nat)(k:List Item)(Q:x5->AS->Prop)(s:AS)(neq:Bool):Fs->Prop
 | .sl .nil []=>BK P T b r kp k Q (s.put d true (.bool (!neq)))
 | .sl (.none _) []=>BK P T b r kp k Q (s.put d true (.bool neq))/\BK P T b r kp k Q (s.put d true (.bool (!neq)))
 | .sl (.exact _) []=>BK P T b r kp k Q (s.put d true (.bool neq))/\BK P T b r kp k Q (s.put d true (.bool (!neq)))
 | .sl (.own _ _) []=>BK P T b r kp k Q (s.put d true (.bool neq))/\BK P T b r kp k Q (s.put d true (.bool (!neq)))
 | .sl _ (_::_)=>BK P T b r kp k Q (s.put d true (.bool neq))
 | .ref _ _ _ _ _=>BK P T b r kp k Q (s.put d true (.bool neq))
 |_=>False
theorem lI{d:Option Nat}{neq:Bool}{x:zx}:BK P T b (⟨d,none,.nils neq x⟩::r) kp k Q s=((lk s.env x).1=true/\M6 P T b d r kp k Q s neq (AV s.env x)):=by
 simp only[BK,Eb,BW];rw[V1];congr 1;cases AV s.env x<;>try rfl
 rename_i tok l;cases tok<;>cases l<;>rfl
def lJ(P:Program)(T:Bk)(b:Nat)(d:Option Nat)(r:List xj)(kp:List Nat)(k:List Item)(Q:x5->AS->Prop)(s:AS):Fs->Prop:=Ik s.H λH' v=>BK P T b r kp k Q ({s with H:=H'}.put d true v)
theorem r_mnx{d:Option Nat}{x:zx}:BK P T b (⟨d,none,.mnx x⟩::r) kp k Q s=((lk s.env x).1=true/\lJ P T b d r kp k Q s (AV s.env x)):=by
 simp only[BK,Eb,BW];exact YY
theorem Ut{c tV last:Nat}{seen:List Nat}{es:List (Fs×Fs×Nat)}(h1:AD s.H id=some (.mit m c seen last))(h2:AD s.H m=some (.map es tV)):lJ P T b d r kp k Q s (.ptr id 0)=
  (c<=tV/\(∀e∈es,e.2.2<c)/\(C9 es seen=[]->BK P T b r kp k Q (s.put d true (.sH [.bool false])))/\∀e∈C9 es seen,BK P T b r kp k Q ({s with H:=sA s.H id (.mit m c (seen++[e.2.2]) tV)}.put d true (.sH [.bool true,e.1,e.2.1]))):=by
 simp only[lJ,Ik,h1,h2]
theorem lK{d:Option Nat}{rel esz bytes:Nat}{z:Fs}{x y:zx}{str:Bool}:BK P T b (⟨d,none,.uF rel esz bytes z x y str⟩::r) kp k Q s=((lk s.env x).1=true/\(lk s.env y).1=true/\
  Jr s.H (b+rel) esz bytes z (Dy P T b d r kp k Q s) (AV s.env x) (CG s.H (AV s.env) esz y str)):=by
 simp only[BK,Eb,BW];exact OK
def gI(H:AB)(id esz bytes:Nat)(zero:Fs)(K:AB->Fs->Prop)(v x:Fs):Prop:=He H id esz bytes zero K v x
theorem Wa{zero:Fs}{K:AB->Fs->Prop}{kd:IntKind}{n:Int}:gI H id esz bytes zero K (.sl .nil []) (.int kd n)=(0<=n/\Jr H id esz bytes zero K (.sl .nil []) (some (List.replicate n.toNat zero))):=rfl
theorem lL{d:Option Nat}{rel esz bytes:Nat}{z:Fs}{x y:zx}:BK P T b (⟨d,none,.appZ rel esz bytes z x y⟩::r) kp k Q s=((lk s.env x).1=true/\(lk s.env y).1=true/\
  gI s.H (b+rel) esz bytes z (Dy P T b d r kp k Q s) (AV s.env x) (AV s.env y)):=by
 simp only[BK,Eb,BW];exact V0
theorem r_nil:BK P T b [] kp k Q s=CS P T Q k .normal (s.keep kp):=rfl
theorem Pt(s:AS)(d:Option Nat)(g:Bool)(v:Fs):(s.put d g v).H=s.H:=by cases d<;>rfl
theorem lM:BI P T b cx [] kp k Q s=CS P T Q k .normal (s.keep kp):=rfl
theorem r_v{d:Option Nat}{o:x0}:BK P T b (⟨d,none,.v o⟩::r) kp k Q s=(Bz s.env o.sF/\(BN s.H (AV s.env) o).1/\BK P T b r kp k Q (s.put d true (BN s.H (AV s.env) o).2)):=by
 simp only[BK,Eb,BW];exact MW
theorem r_vg{d:Option Nat}{t:Nat}{w:Bool}{o:x0}:BK P T b (⟨d,some (t,w),.v o⟩::r) kp k Q s=(GQ s.env (some (t,w))/\(Be s.env (some (t,w))=true->Bz s.env o.sF/\(BN s.H (AV s.env) o).1)/\BK P T b r kp k Q (s.put d (Be s.env (some (t,w))) (BN s.H (AV s.env) o).2)):=by
 simp only[BK,Eb,BW];exact PY
theorem lN{d:Option Nat}{x y z:zx}:BK P T b (⟨d,none,.pick x y z⟩::r) kp k Q s=((lk s.env x).1=true/\JV (AV s.env x)/\(FZ (AV s.env x)=true->(lk s.env y).1=true)/\(FZ (AV s.env x)=false->(lk s.env z).1=true)/\BK P T b r kp k Q (s.put d true (QF (FZ (AV s.env x)) (AV s.env y) (AV s.env z)))):=by
 simp only[BK,Eb,BW];exact OJ
theorem dA{d:Option Nat}{t:Nat}{w:Bool}{x y z:zx}:BK P T b (⟨d,some (t,w),.pick x y z⟩::r) kp k Q s=(GQ s.env (some (t,w))/\(Be s.env (some (t,w))=true->(lk s.env x).1=true/\JV (AV s.env x)/\(FZ (AV s.env x)=true->(lk s.env y).1=true)/\(FZ (AV s.env x)=false->(lk s.env z).1=true))/\
  BK P T b r kp k Q (s.put d (Be s.env (some (t,w))) (QF (FZ (AV s.env x)) (AV s.env y) (AV s.env z)))):=by
 simp only[BK,Eb,BW];exact So
theorem dF{d:Option Nat}{rel:Nat}{cs:List Fs}:BK P T b (⟨d,none,.alloc rel cs⟩::r) kp k Q s=(AD s.H (b+rel)=none/\BK P T b r kp k Q ({s with H:=sA s.H (b+rel) (.box cs)}.put d true (.ptr (b+rel) 0))):=by
 simp only[BK,Eb,BW];exact MX
theorem r_box{d:Option Nat}{rel sz:Nat}{x:zx}:BK P T b (⟨d,none,.box rel sz x⟩::r) kp k Q s=((lk s.env x).1=true/\AD s.H (b+rel)=none/\nT (AV s.env x)/\(AV s.env x).cells.length=sz/\BK P T b r kp k Q ({s with H:=sA s.H (b+rel) (.box (AV s.env x).cells)}.put d true (.ptr (b+rel) 0))):=by
 simp only[BK,Eb,BW];exact YV
theorem r_st{d:Option Nat}{sz:Nat}{a x:zx}:BK P T b (⟨d,none,.st sz a x⟩::r) kp k Q s=((lk s.env a).1=true/\(lk s.env x).1=true/\nT (AV s.env x)/\(AV s.env x).cells.length=sz/\(Pr s.H sz (AV s.env x) (AV s.env a)).1/\BK P T b r kp k Q ({s with H:=(Pr s.H sz (AV s.env x) (AV s.env a)).2}.put d true (.sH []))):=by
 simp only[BK,Eb,BW];rw[Lr,M5]
theorem lO{d:Option Nat}{f:zx}{xs:List zx}:BK P T b (⟨d,none,.call true f xs⟩::r) kp k Q s=((lk s.env f).1=true/\Bz s.env xs/\(GE T (xs.map (AV s.env)) s.H (AV s.env f)).1/\BK P T b r kp k Q (s.put d true (GE T (xs.map (AV s.env)) s.H (AV s.env f)).2)):=by
 simp only[BK,Eb,BW,GQ,Be,pT,pR,qm]
theorem dG{d:Option Nat}{t:Nat}{w:Bool}{f:zx}{xs:List zx}:BK P T b (⟨d,some (t,w),.call true f xs⟩::r) kp k Q s=(GQ s.env (some (t,w))/\(Be s.env (some (t,w))=true->(lk s.env f).1=true/\Bz s.env xs/\(GE T (xs.map (AV s.env)) s.H (AV s.env f)).1)/\
   BK P T b r kp k Q (s.put d (Be s.env (some (t,w))) (GE T (xs.map (AV s.env)) s.H (AV s.env f)).2)):=rfl
theorem dH{d:Option Nat}{f:zx}{xs:List zx}:BK P T b (⟨d,none,.call false f xs⟩::r) kp k Q s=((lk s.env f).1=true/\Bz s.env xs/\M4 P (xs.map (AV s.env)) s.H s.n (BG P T b d r kp k Q s) (TO P T b d r kp k Q s) (AV s.env f)):=by
 simp only[BK,Eb,BW,AX,GQ,Be,BB,Bz,Io.sF,pR,pT,seval,qr,qz,qm];refine congrArg (λz=>(lk s.env f).1=true/\Bz s.env xs/\z) ?_;generalize AV s.env f=v;cases v<;>try rfl
 rename_i ff first cap
 cases ff<;>try rfl
 ·refine congrArg (AO P _ _ s.H s.n) ?_;funext o H' n';cases o<;>rfl
 ·cases first<;>cases cap<;>rfl
theorem Y7{d:Option Nat}{t:Nat}{w:Bool}{f:zx}{xs:List zx}:BK P T b (⟨d,some (t,w),.call false f xs⟩::r) kp k Q s=(GQ s.env (some (t,w))/\(Be s.env (some (t,w))=true->(lk s.env f).1=true/\Bz s.env xs/\M4 P (xs.map (AV s.env)) s.H s.n (BG P T b d r kp k Q s) (TO P T b d r kp k Q s) (AV s.env f))/\
  (Be s.env (some (t,w))=false->BK P T b r kp k Q (s.put d false (.sH [])))):=by
 simp only[BK,Eb,BW,AX,BB,Bz,Io.sF,qm];refine congrArg (λz=>GQ s.env (some (t,w))/\(Be s.env (some (t,w))=true->(lk s.env f).1=true/\Bz s.env xs/\z)/\(Be s.env (some (t,w))=false->BK P T b r kp k Q (s.put d false (.sH [])))) ?_;generalize AV s.env f=v;cases v<;>try rfl
 rename_i ff first cap
 cases ff<;>try rfl
 ·refine congrArg (AO P _ _ s.H s.n) ?_;funext o H' n';cases o<;>rfl
 ·cases first<;>cases cap<;>rfl
theorem r_app{d:Option Nat}{rel esz bytes:Nat}{x y:zx}{str:Bool}:BK P T b (⟨d,none,.app rel esz bytes x y str⟩::r) kp k Q s=((lk s.env x).1=true/\(lk s.env y).1=true/\(Hs s.H (b+rel) esz bytes (AV s.env x) (CG s.H (AV s.env) esz y str)).1/\
  BK P T b r kp k Q ({s with H:=(Hs s.H (b+rel) esz bytes (AV s.env x) (CG s.H (AV s.env) esz y str)).2.1}.put d true (Hs s.H (b+rel) esz bytes (AV s.env x) (CG s.H (AV s.env) esz y str)).2.2)):=by
 simp only[BK,Eb,BW];rw[Qt,Ps]
theorem r_slA{d:Option Nat}{n:Nat}{x:zx}{lo hi:Option zx}:BK P T b (⟨d,none,.slA n x lo hi⟩::r) kp k Q s=(Bz s.env (x::(lo.toList++hi.toList))/\CK (AV s.env) lo/\CK (AV s.env) hi/\(I6 s.H n (sS (AV s.env) 0 lo) (sS (AV s.env) n hi) (AV s.env x)).1/\
  BK P T b r kp k Q ({s with H:=(I6 s.H n (sS (AV s.env) 0 lo) (sS (AV s.env) n hi) (AV s.env x)).2.1}.put d true (I6 s.H n (sS (AV s.env) 0 lo) (sS (AV s.env) n hi) (AV s.env x)).2.2)):=by
 simp only[BK,Eb,BW];rw[YX,Ur]
theorem r_mks{d:Option Nat}{rel esz bytes:Nat}{z:Fs}{x:zx}:BK P T b (⟨d,none,.mks rel esz bytes z x⟩::r) kp k Q s=((lk s.env x).1=true/\(TP s.H (b+rel) esz bytes z (AV s.env x)).1/\
  BK P T b r kp k Q ({s with H:=(TP s.H (b+rel) esz bytes z (AV s.env x)).2.1}.put d true (TP s.H (b+rel) esz bytes z (AV s.env x)).2.2)):=by
 simp only[BK,Eb,BW,AX,GQ,Be,BB,Bz,Io.sF,TP,pR,pT,seval,qr,qz,qm]
theorem rx_v{d:Option Nat}{o:x0}:BI P T b cx ((0,⟨d,none,.v o⟩)::rx) kp k Q s=(Bz s.env o.sF/\(BN s.H (AV s.env) o).1/\BI P T b cx rx kp k Q (s.put d true (BN s.H (AV s.env) o).2)):=by
 simp only[BI,DV,BW,Bg,Fe,rq,pR];exact MW
theorem Uu{g:Option (Nat×Bool)}:BI P T b cx ((m,⟨d,g,.v o⟩)::rx) kp k Q s=((Be s.env g=true->Bg b cx (AV s.env) m (.v o))/\AX P (λv H n=>CS P T Q k (.tJ v) ⟨[],H,n⟩) b ⟨d,g,.v o⟩ (DV P T (λv H n=>CS P T Q k (.tJ v) ⟨[],H,n⟩) b cx rx λs'=>CS P T Q k .normal (s'.keep kp)) s):=by
 simp only[BI,DV,BW,UN,pR]
theorem lP{d:Option Nat}{sz:Nat}{ag:Bool}{x:zx}:BI P T b cx ((2,⟨d,none,.v (.ld sz ag x)⟩)::rx) kp k Q s=(fZ (AV s.env x)/\(lk s.env x).1=true/\(A4 s.H sz ag (AV s.env x)).1/\BI P T b cx rx kp k Q (s.put d true (A4 s.H sz ag (AV s.env x)).2)):=by
 rw[Uu,MW];simp only[Be,pT,Bz,x0.sF,BN,qz];rfl
theorem Rm{zero:Fs}{K:AB->Fs->Prop}{x:Option (List Fs)}:EO H id esz bytes zero (λH' v'=>PV H H'/\K H' v') v x=EO H id esz bytes zero K v x:=by
 refine propext ⟨λh=>Hd (λ_ _ q=>q.2) h,λh=>?_⟩;have new:∀{l:List Fs},AD H id=none->PV H (sA H id (.arr esz l)):=λh0 i cs hi=>by
  rw[AA _ _ _ _ (λe=>by subst e;rw[h0]at hi;cases hi)];exact hi
 unfold EO at h⊢;split at h
 ·obtain⟨a1,a2,a3,a4,a5,a6,a7,a8⟩:=h;exact⟨a1,a2,a3,a4,a5,a6,λe=>⟨λ_ _ q=>q,a7 e⟩,λe c hc=>⟨new a1,a8 e c hc⟩⟩
 ·rename_i i0 e off len cap l';obtain⟨a1,a2,a3,a4,a5,a6,a7,a8⟩:=h;refine⟨a1,a2,a3,a4,a5,a6,a7,?_⟩;split at a8
  ·rename_i e' l hh;obtain⟨b1,b2,b3,b4,b5⟩:=a8;refine⟨b1,b2,b3,λq=>⟨λi cs hi=>?_,b4 q⟩,λq c hc=>⟨new a1,b5 q c hc⟩⟩;rw[AA _ _ _ _ (λe=>by subst e;rw[hh]at hi;cases hi)];exact hi
  ·exact a8
 ·exact h
theorem TQ{g:Option (Nat×Bool)}:BI P T b cx ((m,⟨d,g,.st sz a x⟩)::rx) kp k Q s=((Be s.env g=true->Bg b cx (AV s.env) m (.st sz a x))/\AX P (λv H n=>CS P T Q k (.tJ v) ⟨[],H,n⟩) b ⟨d,g,.st sz a x⟩ (DV P T (λv H n=>CS P T Q k (.tJ v) ⟨[],H,n⟩) b cx rx λs'=>CS P T Q k .normal (s'.keep kp)) s):=by
 simp only[BI,DV,BW,Qn,pR]
theorem rx_v1{d:Option Nat}{sz:Nat}{ag:Bool}{x:zx}:BI P T b cx ((1,⟨d,none,.v (.ld sz ag x)⟩)::rx) kp k Q s=(Ga b (AV s.env x)/\(lk s.env x).1=true/\(A4 s.H sz ag (AV s.env x)).1/\BI P T b cx rx kp k Q (s.put d true (A4 s.H sz ag (AV s.env x)).2)):=by
 rw[Uu,MW];simp only[Be,pT,Bz,x0.sF,BN,qz];rfl
theorem lQ{d:Option Nat}{sz:Nat}{a x:zx}:BI P T b cx ((2,⟨d,none,.st sz a x⟩)::rx) kp k Q s=(Il b (AV s.env a)/\(lk s.env a).1=true/\(lk s.env x).1=true/\nT (AV s.env x)/\(AV s.env x).cells.length=sz/\(Pr s.H sz (AV s.env x) (AV s.env a)).1/\BI P T b cx rx kp k Q ({s with H:=(Pr s.H sz (AV s.env x) (AV s.env a)).2}.put d true (.sH []))):=by
 rw[TQ,Lr,M5];simp only[Be,pT];rfl
theorem rx_vK{d:Option Nat}{m sz:Nat}{ag:Bool}{x:zx}:BI P T b cx ((m+3,⟨d,none,.v (.ld sz ag x)⟩)::rx) kp k Q s=(OF b cx m (AV s.env x)/\(lk s.env x).1=true/\(A4 s.H sz ag (AV s.env x)).1/\BI P T b cx rx kp k Q (s.put d true (A4 s.H sz ag (AV s.env x)).2)):=by
 rw[Uu,MW];simp only[Be,pT,Bz,x0.sF,BN,qz];rfl
theorem lR{d:Option Nat}{m sz:Nat}{a x:zx}:BI P T b cx ((m+3,⟨d,none,.st sz a x⟩)::rx) kp k Q s=(OF b cx m (AV s.env a)/\(lk s.env a).1=true/\(lk s.env x).1=true/\nT (AV s.env x)/\(AV s.env x).cells.length=sz/\(Pr s.H sz (AV s.env x) (AV s.env a)).1/\BI P T b cx rx kp k Q ({s with H:=(Pr s.H sz (AV s.env x) (AV s.env a)).2}.put d true (.sH []))):=by
 rw[TQ,Lr,M5];simp only[Be,pT];rfl
theorem rx_vg{d:Option Nat}{t:Nat}{w:Bool}{o:x0}:BI P T b cx ((0,⟨d,some (t,w),.v o⟩)::rx) kp k Q s=(GQ s.env (some (t,w))/\(Be s.env (some (t,w))=true->Bz s.env o.sF/\(BN s.H (AV s.env) o).1)/\BI P T b cx rx kp k Q (s.put d (Be s.env (some (t,w))) (BN s.H (AV s.env) o).2)):=by
 simp only[BI,DV,BW,Bg,Fe,rq,pR];exact PY
theorem lS{d:Option Nat}{t m sz:Nat}{w ag:Bool}{x:zx}:BI P T b cx ((m+3,⟨d,some (t,w),.v (.ld sz ag x)⟩)::rx) kp k Q s=((Be s.env (some (t,w))=true->OF b cx m (AV s.env x))/\GQ s.env (some (t,w))/\(Be s.env (some (t,w))=true->Bz s.env [x]/\(BN s.H (AV s.env) (.ld sz ag x)).1)/\BI P T b cx rx kp k Q (s.put d (Be s.env (some (t,w))) (BN s.H (AV s.env) (.ld sz ag x)).2)):=by
 rw[Uu,PY];rfl
theorem dJ{d:Option Nat}{x y z:zx}:BI P T b cx ((0,⟨d,none,.pick x y z⟩)::rx) kp k Q s=((lk s.env x).1=true/\JV (AV s.env x)/\(FZ (AV s.env x)=true->(lk s.env y).1=true)/\(FZ (AV s.env x)=false->(lk s.env z).1=true)/\BI P T b cx rx kp k Q (s.put d true (QF (FZ (AV s.env x)) (AV s.env y) (AV s.env z)))):=by
 simp only[BI,DV,BW,Bg,Fe,rq,pR];exact OJ
theorem Y8{d:Option Nat}{rel:Nat}{cs:List Fs}:BI P T b cx ((0,⟨d,none,.alloc rel cs⟩)::rx) kp k Q s=(AD s.H (b+rel)=none/\BI P T b cx rx kp k Q ({s with H:=sA s.H (b+rel) (.box cs)}.put d true (.ptr (b+rel) 0))):=by
 simp only[BI,DV,BW,Bg,Fe,rq,pR];exact MX
theorem lT{d:Option Nat}{f:zx}{xs:List zx}:BI P T b cx ((0,⟨d,none,.cpu f xs⟩)::rx) kp k Q s=((lk s.env f).1=true/\Bz s.env xs/\(Nn T (xs.map (AV s.env)) (AV s.env f)).1/\BI P T b cx rx kp k Q (s.put d true (Nn T (xs.map (AV s.env)) (AV s.env f)).2)):=by
 simp only[BI,DV,BW,GQ,Be,Bg,Fe,rq,pR,pT,seval,qr,qz,qm]
theorem lU{d:Option Nat}{x:XOp}{xs:List zx}:BI P T b cx ((0,⟨d,none,.ext x xs⟩)::rx) kp k Q s=(Bz s.env xs/\(xE b x s.H (xs.map (AV s.env))).1/\BI P T b cx rx kp k Q ({s with H:=(xE b x s.H (xs.map (AV s.env))).2.1}.put d true (xE b x s.H (xs.map (AV s.env))).2.2)):=by
 simp only[BI,DV,BW,Bg,Fe,rq,pR];exact Qu
theorem dK{d:Option Nat}{f:zx}{xs:List zx}:BI P T b cx ((0,⟨d,none,.call true f xs⟩)::rx) kp k Q s=((lk s.env f).1=true/\Bz s.env xs/\(GE T (xs.map (AV s.env)) s.H (AV s.env f)).1/\BI P T b cx rx kp k Q (s.put d true (GE T (xs.map (AV s.env)) s.H (AV s.env f)).2)):=by
 simp only[BI,DV,BW,Bg,Fe,rq,pR,GQ,Be,pT,qm]
theorem lV{d:Option Nat}{rel esz bytes:Nat}{x y:zx}{str:Bool}:BI P T b cx ((0,⟨d,none,.app rel esz bytes x y str⟩)::rx) kp k Q s=((lk s.env x).1=true/\(lk s.env y).1=true/\(Hs s.H (b+rel) esz bytes (AV s.env x) (CG s.H (AV s.env) esz y str)).1/\
  BI P T b cx rx kp k Q ({s with H:=(Hs s.H (b+rel) esz bytes (AV s.env x) (CG s.H (AV s.env) esz y str)).2.1}.put d true (Hs s.H (b+rel) esz bytes (AV s.env x) (CG s.H (AV s.env) esz y str)).2.2)):=by
 simp only[BI,DV,BW,Bg,Fe,rq,pR];rw[Qt,Ps]
def IV(P:Program)(T:Bk)(b:Nat)(cx:Nat->Fs)(d:Option Nat)(rx:List (Nat×xj))(kp:List Nat)(k:List Item)(Q:x5->AS->Prop)(s:AS)(H':AB)(v:Fs):Prop:=BI P T b cx rx kp k Q ({s with H:=H'}.put d true v)
theorem dM{d:Option Nat}{rel esz bytes:Nat}{z:Fs}{x y:zx}{str:Bool}:BI P T b cx ((2,⟨d,none,.uF rel esz bytes z x y str⟩)::rx) kp k Q s=((lk s.env x).1=true/\(lk s.env y).1=true/\
  Jr s.H (b+rel) esz bytes z (IV P T b cx d rx kp k Q s) (AV s.env x) (CG s.H (AV s.env) esz y str)):=by
 simp only[BI,DV,BW,Bg,rq,pR];rw[OK];simp only[FF,Pt];rw[Rm];rfl
theorem Y9{m:Nat}{d:Option Nat}{f:zx}{xs:List zx}:BI P T b cx ((m+3,⟨d,none,.call false f xs⟩)::rx) kp k Q s=((300000<=m/\m % 2=0)/\(lk s.env f).1=true/\Bz s.env xs/\M4 P (xs.map (AV s.env)) s.H s.n (EW P T b cx m d rx kp k Q s) (gH P T b cx m d rx kp k Q s) (AV s.env f)):=by
 simp only[BI,DV,BW,AX,GQ,Be,BB,Bz,Io.sF,Bg,pR,pT,seval,qr,qz,qm];refine congrArg (λz=>300000<=m/\m % 2=0/\(lk s.env f).1=true/\Bz s.env xs/\z) ?_;generalize AV s.env f=v;cases v<;>try rfl
 rename_i ff first cap
 cases ff<;>try rfl
 ·refine congrArg (AO P _ _ s.H s.n) ?_;funext o H' n';cases o with
  |ret v=>simp only[EW,FF,Pt];rfl
  |tJ v=>rfl
 ·cases first<;>cases cap<;>try rfl
  refine congrArg (Cf P _ _ s.H s.n) ?_;funext o H' n';simp only[gH,FF,Pt];rfl
theorem dN{env:List (Nat×Bool×Fs)}{n t:Nat}:Sl env n t=if 100000<=t then .ptr (n+(t-100000)) 0 else AV env (.t t):=rfl
theorem Rn{a:Fs}{H:AB}:Gt a H H=True:=o7 λ_ _ _=>rfl
theorem TR{id off:Nat}{H:AB}{ob:xq}:Gt (.ptr id off) H (sA H id ob)=True:=o7 λi h _=>by
 rw[AA _ _ _ _ (λe=>h e)]
theorem Ro{id off:Nat}{H:AB}{a b:xq}:Gt (.ptr id off) (sA H id a) (sA H id b)=True:=o7 λi h _=>by
 rw[AA _ _ _ _ (λe=>h e),AA _ _ _ _ (λe=>h e)]
theorem r_pan{d:Option Nat}{x:zx}:BK P T b (⟨d,none,.tJ x⟩::r) kp k Q s=((lk s.env x).1=true/\Vw (AV s.env x)/\CS P T Q k (.tJ (AV s.env x)) ⟨[],s.H,s.n⟩):=by
 simp only[BK,Eb,BW];exact YW
end
theorem dO{T:Bk}(st:α->AS)(inv:α->Prop)(m:α->Nat)(a0:α)(h0:s=st a0)(hi:inv a0)
  (hs:∀a,inv a->ev P T c (λe s'=>match e with
   | .normal=>∃a',KK (st a) s' (st a')/\inv a'/\m a'<m a
   |e=>Q e s') (st a)):ev P T (.loop c) Q s:=by
 classical
 let J:AS->Nat->Prop:=λs k=>∃a,s=st a/\inv a/\m a=k
 let μ:AS->Nat:=λs=>if hx:∃k,J s k then Classical.choose (Of _ hx)else 0
 have hμ:∀s,(∃k,J s k)->J s (μ s)/\∀j,J s j->μ s<=j:=by
  intro s hx;have e:μ s=Classical.choose (Of _ hx):=by simp only[μ];rw[dif_pos hx]
  rw[e];exact Classical.choose_spec (Of _ hx)
 refine⟨λs=>∃k,J s k,μ,⟨_,a0,h0,hi,rfl⟩,?_⟩;intro s1 hx;obtain⟨⟨a,e1,i1,m1⟩,-⟩:=hμ s1 hx;have h:=hs a i1;rw[<-e1]at h;refine Fh c _ _ s1 (λe s' q=>?_) h;cases e with
 |normal=>
  obtain⟨a',w1,i2,m2⟩:=q;have hx':∃k,J (st a') k:=⟨_,a',rfl,i2,rfl⟩;have:=(hμ _ hx').2 _ ⟨a',rfl,i2,rfl⟩;exact⟨st a',w1,hx',zo⟩
 |_=>exact q
def lpQ(st:α->AS)(inv:α->Prop)(m:α->Nat)(a:α)(Q:x5->AS->Prop):x5->AS->Prop
 | .normal,s'=>∃a',KK (st a) s' (st a')/\inv a'/\m a'<m a
 |e,s'=>Q e s'
def ZA(st:α->AS)(inv:α->Prop)(m:α->Nat)(a:α)(s':AS):Prop:=∃a',KK (st a) s' (st a')/\inv a'/\m a'<m a
section
variable {α:Type} {st:α->AS} {inv:α->Prop} {m:α->Nat} {a:α} {Q:x5->AS->Prop} {s:AS}
theorem lpQ_n:lpQ st inv m a Q .normal s=ZA st inv m a s:=rfl
theorem lpQ_e{i:Nat}:lpQ st inv m a Q (.exit i) s=Q (.exit i) s:=rfl
theorem lpQ_r:lpQ st inv m a Q .ret s=Q .ret s:=rfl
theorem lpQ_p{v:Fs}:lpQ st inv m a Q (.tJ v) s=Q (.tJ v) s:=rfl
theorem ZA.mk(a':α)(h:s=st a')(hi:inv a')(hm:m a'<m a):ZA st inv m a s:=⟨a',.inl h.symm,hi,hm⟩
end
theorem AQ{T:Bk}{k:List Item}(st:α->AS)(inv:α->Prop)(m:α->Nat)(a0:α)(h0:s=st a0)(hi:inv a0)
  (hs:∀a,inv a->Fi P T c [] (lpQ st inv m a (CS P T Q k)) (st a)):Fi P T (.loop c) k Q s:=
 dO st inv m a0 h0 hi λa ha=>Fh c _ _ _ (λe s' q=>by cases e<;>exact q) (AF (hs a ha))
theorem natE1{a b:Nat}:(a=a+b)=(b=0):=propext ⟨λh=>zo,λh=>zo⟩
theorem natE2{a b:Nat}:(a+b=a)=(b=0):=propext ⟨λh=>zo,λh=>zo⟩
theorem impA1{a b:Prop}:(a->a/\b)=(a->b):=propext ⟨λh x=>(h x).2,λh x=>⟨x,h x⟩⟩
theorem impA2{a b:Prop}:(a->b->a/\b)=True:=o7 λx y=>⟨x,y⟩
def Ok(r:Fs):xx->AB->Nat->Prop:=λout _ _=>∃v,out= .ret v/\Wk v r
theorem A6.mk{args:List Fs}(h1:sN 0 args)(h2:r.under 0)(h:AO P f args Ac 0 (Ok r)):A6 P f args r:=⟨h1,h2,h⟩
theorem lW{r v:Fs}{H:AB}{n:Nat}:Ok r (.ret v) H n=Wk v r:=by
 simp only[Ok,xx.ret.injEq,exists_eq_left']
theorem dP{r v:Fs}{H:AB}{n:Nat}:Ok r (.tJ v) H n=False:=by simp [Ok]
def g0:z8:=⟨λ_=>none,λ_ _=>none⟩
theorem dQ{a b:Bool}:Wk (.bool a) (.bool b)=(a=b):=by
 refine propext ⟨λh=>?_,λh=>h▸Wk.refl _⟩;have:Value.bool a= .bool b:=h g0 (.bool a) rfl;cases this;rfl
theorem lX{k k':IntKind}{a b:Int}:Wk (.int k a) (.int k' b)=(k=k'/\a=b):=by
 refine propext ⟨λh=>?_,λ⟨h1,h2⟩=>by rw[h1,h2];exact Wk.refl _⟩;have:Value.int k a= .int k' b:=h g0 (.int k a) rfl;cases this;exact⟨rfl,rfl⟩
theorem lY{a b:List UInt8}:Wk (.str a) (.str b)=(a=b):=by
 refine propext ⟨λh=>?_,λh=>h▸Wk.refl _⟩;have:Value.string ⟨a.toArray⟩= .string ⟨b.toArray⟩:=h g0 (.string ⟨a.toArray⟩) rfl;simpa using this
def AU(H:AB)(n:Nat):Prop:=∀id,n<=id->AD H id=none
theorem AU.nil:AU Ac n:=λ_ _=>rfl
theorem AU.lt{ob:xq}(h:AU H n)(ho:AD H id=some ob):id<n:=Nat.lt_of_not_le λhle=>by rw[h id hle]at ho;cases ho
theorem AU.sA{m:Nat}{ob:xq}(h:AU H n)(hn:n<=m)(s5:id<m):AU (sA H id ob) m:=λi hi=>by
 rw[AN,og zo];exact h i zo
theorem AO.fresh{R:xx->AB->Nat->Prop}(hc:CF P f)(h:AU H n->AO P f a H n R):AO P f a H n R:=
 ⟨hc,λg w vs r v=>(h λid s5=>by
  cases ho:AD H id with
  |none=>rfl
  |some ob=>have:=r.hd id ob ho;omega).2 g w vs r v⟩
def Cr(H H':AB):Prop:=∀id ob,AD H id=some ob->AD H' id=some ob
theorem Cr.refl(H:AB):Cr H H:=λ_ _ h=>h
theorem Cr.trans{H'':AB}(h:Cr H H')(k:Cr H' H''):Cr H H'':=λid ob x=>k id ob (h id ob x)
theorem Cr.new{i:Nat}{ob':xq}(hf:AU H n)(hi:n<=i)(h:Cr H H'):Cr H (sA H' i ob'):=λid ob ho=>by
 rw[AN,og (by have:=hf.lt ho;omega)];exact h id ob ho
def Wb(H:AB)(r:Fs):xx->AB->Nat->Prop:=λout H' _=>(∃v,out= .ret v/\Wk v r)/\Cr H H'
theorem dW{H H':AB}{r v:Fs}{n:Nat}:Wb H r (.ret v) H' n=(Wk v r/\Cr H H'):=by
 simp only[Wb,xx.ret.injEq,exists_eq_left']
theorem Ad.of(hc:CF P f)(hr:r.under n)(h:AU H n->AO P f a H n (Wb H r)):Ad P f a H n r:=by
 refine AO.fresh hc λhf=>?_
 refine AO.forget (R':=λout H' n'=>out= .ret r/\H'=H/\n'=n) (h hf) ?_;rintro o H' n' ⟨⟨v,rfl,hw⟩,hk⟩;refine⟨.ret r,H,⟨rfl,rfl,rfl⟩,⟨λid ob ho=>⟨hf.lt ho,⟨ob,hk id ob ho,YR.refl ob⟩,.inr ho⟩,λid h=>h⟩,hw,hr⟩
def Pu:List Nat->Bool
 |[]=>true
 |x::r=>!r.contains x&&Pu r
theorem LK:∀(l:List Nat),Pu l=true->l.Nodup
 |[],_=>List.nodup_nil
 |x::r,h=>by
  simp only[Pu,oo,qM,List.contains_eq_mem,qq]at h;exact qO.2 ⟨h.1,LK r h.2⟩
theorem TS{env:List (Nat×Bool×Fs)}(h:(env.map (·.1)).Nodup):Qo env env:=by
 suffices key:∀(l pre:List (Nat×Bool×Fs)),env=pre++l->Qo env l from key env [] rfl
 intro l;induction l with
 |nil=>intro _ _;trivial
 |cons x l ih=>
  obtain⟨t,g,v⟩:=x;intro pre e;refine⟨⟨v,?_,Wk.refl v⟩,ih (pre++[(t,g,v)]) (by rw[e];simp)⟩;rw[e]at h⊢;have hp:∀(pre:List (Nat×Bool×Fs)),t∉pre.map (·.1)->BC (pre++(t,g,v)::l) t=some (g,v):=by
   intro pre;induction pre with
   |nil=>intro _;simp [BC]
   |cons y pre ih2=>simp_all [oL,ph,not_or,pp,BC]<;>omega
  apply hp;intro hm;rw[oD,qD]at h;exact h.2.2 t hm t zw rfl
theorem ZA.drop{st:α->AS}{inv:α->Prop}{m:α->Nat}{a:α}{s':AS}(a':α)(he:s'.env=(st a').env)(hH:(st a').H=(st a).H)(hn:(st a').n=(st a).n)(hd:Pu ((st a').env.map (·.1))=true)
  (e9:AU (st a).H (st a).n) (hk:Cr (st a).H s'.H) (hu:JW (st a).n (st a').env) (hi:inv a') (hm:m a'<m a):ZA st inv m a s':=by
 refine⟨a',.inr ⟨by rw[he];exact TS (LK _ hd),.inr ⟨hn,?_,hu⟩⟩,hi,hm⟩;rw[hH];exact⟨λid ob ho=>⟨e9.lt ho,⟨ob,hk id ob ho,YR.refl ob⟩,.inr ho⟩,λid h=>h⟩
def sE:Bk:=λ_ _ _=>(False,.sH [])
def AJ(f0:FuncId)(sp:List Fs->AB->Prop×Fs)(T:Bk):Bk:=λf args H=>if f=f0 then sp args H else T f args H
theorem AG.sE:AG P sE:=λ_ _ _ _ h=>h.elim
theorem AG.add{T:Bk}(hT:AG P T){f0:FuncId}{sp:List Fs->AB->Prop×Fs}(h:∀args H n,(sp args H).1->Ad P f0 args H n (sp args H).2):AG P (AJ f0 sp T):=by
 intro f args H n q;unfold AJ at q⊢;split at q
 ·rename_i e;subst e;simpa using h args H n q
 ·rename_i e;simpa [e]using hT f args H n q
theorem AO.args{a':List Fs}{R:xx->AB->Nat->Prop}(h:AO P f a H n R)(hw:∀g vs,sG g a' vs->sG g a vs):AO P f a' H n R:=
 ⟨h.1,λg w vs r v=>h.2 g w vs r (hw g vs v)⟩
theorem Wk.sl{tok:xv}{e:Nat}(h:tok.esz=e\/l=[]):Wk (.sl tok l) (.sl (.none e) l):=by
 intro g v hv;rcases hv with⟨rfl,rfl,_⟩|⟨ht,b,o,cap,⟨sp,rfl,uE⟩,hc,hs,hk⟩
 ·exact .inl ⟨rfl,rfl,zt⟩
 ·refine .inr ⟨zt,b,o,cap,⟨sp,rfl,uE.imp id λq=>⟨q.1,.inr ⟨e,rfl⟩⟩⟩,hc,?_,zt⟩;rcases h with h|h
  ·rw[h]at hs;exact hs
  ·subst h;trivial
theorem Af{f:α->Fs}(h:∀x,(f x).under n):∀(l:List α),sN n (l.map f)
 |[]=>trivial
 |x::l=>⟨h x,Af h l⟩
end
end Go.AM
namespace Go.AM
open Go.Proofs Go.Lib
def gW(W:World):z8:=⟨λ_=>none,λb o=>W.cell? ⟨b,o,none⟩⟩
def lZ{W:World}(h:EN (gW W))(hz:F7 W):x6 (gW W) Ac 0 W where
 σw:=λ_ _ _ h=>h
 obj:=λ_ _ h=>by simp [AD,Ac]at h
 uu:=λ_ _ h=>by simp [gW]at h
 hd:=λ_ _ h=>by simp [AD,Ac]at h
 ap:=λ_ _ _ _ _ _ _ h=>by simp [AD,Ac]at h
 un:=λ_ _ _ _ h=>by simp [AD,Ac]at h
 gl:=h
 gz:=hz
structure Grown(W W':World):Prop where
 os:W'.os=W.os
 tape:W'.tape=W.tape
 output:W'.output=W.output
 size:W.heap.size<=W'.heap.size
 old:∀(b:Nat) ob,W.heap[b]?=some ob->W'.heap[b]?=some ob
theorem A6.calls{P:Program}{f:FuncId}{args:List Fs}{b:Bool}(h:A6 P f args (.bool b)){W:World}{vs:List Value}(hg:EN (gW W))(hgz:F7 W)(hv:sG (gW W) args vs):
  Calls P f vs.toArray W λe W'=>e= .returned (.bool b)/\Grown W W':=by
 refine(h.2.2.2 (gW W) W vs (lZ hg hgz) hv).mono ?_;rintro e W' ⟨g',out,H',n',⟨v,rfl,hw⟩,he,hR',-,ht⟩;cases e with
 |panicked c=>exact he.elim
 |outgrown=>exact he.elim
 |returned x=>
  have hx:AP g' (.bool b) x:=hw _ _ he;refine⟨by rw[show x= .bool b from hx],ht.os,ht.tape,ht.output,ht.size,λi ob hb=>?_⟩;have hk:=ht.kept i ob hb;cases ob<;>first|exact hk.resolve_left Em|skip
  obtain⟨c',h1,h2,h3⟩:=hk;rw[h1];congr 2;exact Array.ext_getElem? λj=>h3 j Em
def Grown.kept{W W':World}(h:Grown W W')(may:MemPlace->Prop):W.keptBut W' may:=by
 refine⟨h.os,h.output,λi hi=>?_⟩;have e:W'.heap[i]?=W.heap[i]?:=by
  obtain⟨ob,hb⟩:∃ob,W.heap[i]?=some ob:=⟨_,qj hi⟩;rw[hb];exact h.old i ob hb
 rw[e];exact(World.keptBut_refl W may).2.2 i hi
def Grown.same{W W':World}(h:Grown W W'){p:MemPlace}(hp:p.block<W.heap.size):W.sameAt W' p:=by
 have e:∀b,b<W.heap.size->W'.heap[b]?=W.heap[b]?:=λb hb=>by
  obtain⟨ob,hb'⟩:∃ob,W.heap[b]?=some ob:=⟨_,qj hb⟩;rw[hb'];exact h.old b ob hb'
 cases p with
 |cell b off=>simp only[World.sameAt,World.cell?];rw[e b hp]
 |map b=>exact e b hp
open Go.ChangeShapes in
def M7{H:Type}{enc:TypeId×Value->H}{P:Program}{f:Func}{s:ChangeSpec}{apart fresh handsOn again:Bool}{W W':World}{args:Array Value}{v:Value}{ds gs:List (DataW H)}{before pa pv:List MemPlace}
  (hg:Grown W W') (hW:DataW.Whole enc P f.params.toList s.vars apart W args.toList ds gs before)
  (uq:∀(b:Nat) (sp:Nat->Bool) (hd:Bool),DataW.TrodAll enc P W' b sp hd f.resultTypes.toList (v.resultList f.resultTypes.size) (s.fn H (ds++gs)).results [])
  (uv:∀sp:Nat->Bool,(∀p∈before,sp p.block=true)->DataW.TrodAll enc P W' 0 sp true f.params.toList args.toList (s.fn H (ds++gs)).args pa)
  (hvars:∀sp:Nat->Bool,(∀p∈before,sp p.block=true)->DataW.TrodVars enc P W' sp s.vars (s.fn H (ds++gs)).vars pv)
  (td:before=pa++pv)
  (t9:∀(j:Nat) (t:TypeId) (r:Value),f.resultTypes[j]?=some t->(v.resultList f.resultTypes.size)[j]?=some r->Value.okWide P W' .any 0 t r):
  s.post enc P f apart fresh handsOn again W args v W':=by
 have e9:=hW.lt;have hold:∀p∈before,(λb=>decide (b<W.heap.size)) p.block=true:=λp hp=>by simpa using e9 p hp
 refine⟨ds,gs,before,[],pa,pv,hW,uq _ _ _,uv _ hold,hvars _ hold,hg.kept _,λ_=>?_⟩;obtain⟨_,_,_,_,_,hz,hn⟩:=hW;refine⟨t9,_,_,([]++pa)++pv,⟨[]++pa,pv,trodAll_append (uv _ (λ_ _=>rfl)) (uq _ _ _),hvars _ (λ_ _=>rfl),rfl,?_,?_⟩,?_⟩
 ·intro b off hp;have hp':MemPlace.cell b off∈before:=by rw[td];simpa using hp
  have hb:b<W.heap.size:=e9 _ hp';have e:W'.heap[b]?=W.heap[b]?:=by
   obtain⟨ob,hb'⟩:∃ob,W.heap[b]?=some ob:=⟨_,qj hb⟩;rw[hb'];exact hg.old b ob hb'
  have:=hz b off hp';simp only[World.frozen?]at this⊢;rw[e];exact this
 ·simp_all
 ·intro p hp _;rw[td];simpa using hp
open Go.ChangeShapes in
theorem Ht{H:Type}{enc:TypeId×Value->H}{P:Program}{W W':World}(hg:Grown W W'){b:Nat}{sp:Nat->Bool}{hd:Bool}:∀{ts:List TypeId} {vs:List Value} {ds:List (DataW H)} {ps:List MemPlace},
  DataW.TrodAll enc P W b sp hd ts vs ds ps->(∀p∈ps,p.block<W.heap.size)->DataW.TrodAll enc P W' b sp hd ts vs ds ps
 |[],vs,ds,ps,h,hp=>by
  obtain⟨rfl,rfl,rfl⟩:=trodAll_nil h;exact rfl
 |t::ts,vs,ds,ps,h,hp=>by
  obtain⟨v,vs1,d,ds1,a,c,rfl,rfl,rfl,h1,h2⟩:=trodAll_cons h;obtain⟨n,hn⟩:=h1;exact⟨a,c,⟨n,DataW.trod_carry n _ _ _ hn λp q=>hg.same (hp p (by simp [q]))⟩,Ht hg h2 λp q=>hp p (by simp [q]),rfl⟩
inductive Sh where
 |bool
 |int (k:IntKind)
 |str
 |sl (e:Sh)
 |st (fs:List Sh)
 |ar (n:Nat) (k:IntKind)
mutual
def Sh.size:Sh->Nat
 | .st fs=>Sh.uZ fs
 | .ar n _=>n
 |_=>1
def Sh.uZ:List Sh->Nat
 |[]=>0
 |s::r=>s.size+Sh.uZ r
end
mutual
def Sh.fits(P:Program):Sh->TypeId->Bool
 | .bool,t=>match P.underlying t with|some .bool=>true|_=>false
 | .int k,t=>match P.underlying t with|some (.int k')=>decide (k'=k)|_=>false
 | .str,t=>match P.underlying t with|some .string=>true|_=>false
 | .sl e,t=>match P.underlying t with|some (.slice u)=>P.cellsOf u==e.size&&decide (0<e.size)&&decide (0<P.bytesOf u)&&e.fits P u|_=>false
 | .st fs,t=>match P.underlying t with|some (.struct gs)=>P.cellsOf t==Sh.uZ fs&&Sh.fitsL P fs gs.toList 0|_=>false
 | .ar n k,t=>match P.underlying t with|some (.array m e)=>m==n&&P.cellsOf t==n&&P.cellsOf e==1&&(match P.underlying e with|some (.int k')=>decide (k'=k)|_=>false)|_=>false
def Sh.fitsL(P:Program):List Sh->List Field->Nat->Bool
 |[],[],_=>true
 |s::r,f::fs,o=>s.fits P f.type&&f.offset==o&&P.cellsOf f.type==s.size&&Sh.fitsL P r fs (o+s.size)
 |_,_,_=>false
end
def Sh.wrap:Sh->List Fs->Fs
 | .st _,as=>.agg as
 | .ar _ _,as=>.agg as
 |_,as=>as.headD (.bool false)
mutual
def Sh.rd:Sh->List Fs->Prop
 | .bool,as=>∃b,as=[.bool b]
 | .int k,as=>∃n,as=[.int k n]/\(Lit.int k n).wf=true
 | .str,as=>∃s,as=[.str s]/\s.length<=reachBytes
 | .sl e,as=>∃l:List (List Fs),as=[.sl (.none e.size) (l.map e.wrap)]/\l.length<=reachBytes/\∀x∈l,e.rd x
 | .st fs,as=>Sh.rdL fs as
 | .ar n k,as=>∃l:List Int,as=l.map (.int k)/\l.length=n/\∀x∈l,(Lit.int k x).wf=true
def Sh.rdL:List Sh->List Fs->Prop
 |[],as=>as=[]
 |s::r,as=>∃a b,as=a++b/\s.rd a/\Sh.rdL r b
end
mutual
theorem Sh.rd_length:∀(s:Sh) (as:List Fs),s.rd as->as.length=s.size
 | .bool,_,⟨_,h⟩=>by rw[h];rfl
 | .int _,_,⟨_,h,_⟩=>by rw[h];rfl
 | .str,_,⟨_,h,_⟩=>by rw[h];rfl
 | .sl _,_,⟨_,h,_⟩=>by rw[h];rfl
 | .st fs,as,h=>Sh.rdL_length fs as (by simpa only[Sh.rd]using h)
 | .ar _ _,_,⟨_,h,h1,_⟩=>by rw[h,o6,h1];rfl
theorem Sh.rdL_length:∀(s:List Sh) (as:List Fs),Sh.rdL s as->as.length=Sh.uZ s
 |[],as,h=>by
  simp only[Sh.rdL]at h;subst h;rfl
 |s::r,as,h=>by
  simp only[Sh.rdL]at h;obtain⟨a,b,rfl,h1,h2⟩:=h;rw[ou,Sh.rd_length s a h1,Sh.rdL_length r b h2];rfl
end
def C4{v:Value}(h:v.oneCell'=true):v.cells= #[v]:=by
 cases v<;>first|rfl|simp [Value.oneCell']at h
theorem Sh.elem{g:z8}(s:Sh){as:List Fs}{cs:List Value}(h:s.rd as)(hv:sG g as cs)(h1:∀c∈cs,c.oneCell'=true):
  ∃v,AP g (s.wrap as) v/\EM s.size v/\v.cells.toList=cs:=by
 have hl:=s.rd_length as h;have hlc:=sG.length _ _ hv;cases s with
 |st fs=>
  refine⟨.agg cs.toArray,⟨cs.toArray,rfl,by simpa using hv,by simpa using h1⟩,⟨by show cs.toArray.size=_;simp;omega,by simpa [Value.cells]using h1⟩,by simp [Value.cells]⟩
 |ar n k=>
  refine⟨.agg cs.toArray,⟨cs.toArray,rfl,by simpa using hv,by simpa using h1⟩,⟨by show cs.toArray.size=_;simp;omega,by simpa [Value.cells]using h1⟩,by simp [Value.cells]⟩
 |_=>
  match as,hl with
  |[a],_=>
   obtain⟨v,rest,rfl,k1,k2⟩:=hv;have k3:rest=[]:=k2;subst k3;have o:=h1 v zw;refine⟨v,k1,⟨by rw[C4 o];rfl,by rw[C4 o];simpa using o⟩,by rw[C4 o]⟩
section
variable {H:Type} {enc:TypeId×Value->H} {P:Program} {W:World} {base:Nat} {spare:Nat->Bool} {held:Bool}
open Go.ChangeShapes Go.WideShapes Go.ChangeAt Go.RowKit Go.WideElems Go.WideMaps Go.Joins
theorem Pv{g:z8}{esz:Nat}{f:Nat->Option Value}:∀(l:List Fs) (o:Nat),(∀(i:Nat) e,l[i]?=some e->∃v,AP g e v/\EM esz v/\∀(j:Nat) x,v.cells[j]?=some x->f (o+i*esz+j)=some x)->sK g esz f o l
 |[],_,_=>trivial
 |e::l,o,h=>⟨by simpa using h 0 e rfl,Pv l (o+esz) λi e' he=>by
   obtain⟨v,h1,h2,h3⟩:=h (i+1) e' (by simpa using he);exact⟨v,h1,h2,λj x hx=>by rw[<-h3 j x hx];congr 1;rw[Nat.succ_mul];omega⟩⟩
theorem Pw{k:IntKind}:∀(cs:List Value),(∀i,i<cs.length->∃m,cs[i]?=some (.int k m)/\(Lit.int k m).wf=true)->∃l:List Int,cs=l.map (.int k)/\∀x∈l,(Lit.int k x).wf=true
 |[],_=>⟨[],rfl,zw⟩
 |c::r,h=>by
  obtain⟨m,h1,h2⟩:=h 0 zw;obtain⟨l,h3,h4⟩:=Pw r λi hi=>by simpa using h (i+1) (by simpa using hi)
  simp only[pQ,Option.some.injEq]at h1;exact⟨m::l,by rw[h1,h3];rfl,by simpa using⟨h2,h4⟩⟩
theorem M8{g:z8}{k:IntKind}:∀l:List Int,sG g (l.map (.int k)) (l.map (.int k))
 |[]=>rfl
 |_::r=>⟨_,_,rfl,rfl,M8 r⟩
theorem HH{H:Type}{P:Program}{e:TypeId}:∀{l:List (DataW H)} {d:DataW H},d∈l->∀k∈d.weights P e,k∈DataW.weightsAll P e l
 |[],d,h,_,_=>by cases h
 |y::r,d,h,k,hk=>by
  simp only[DataW.weightsAll,pI];rcases ph.1 h with rfl|h
  ·exact .inl hk
  ·exact .inr (HH h k hk)
mutual
theorem Sh.reads(s:Sh)(t:TypeId)(cs:List Value)(n:Nat)(x:DataW H×List MemPlace)(hf:s.fits P t=true)
  (h:DataW.trod enc P W base spare held n t cs=some x) (hw:∀k∈x.1.weights P t,k<=reachBytes):∃as,s.rd as/\sG (gW W) as cs/\∀c∈cs,c.oneCell'=true:=by
 match s,hf with
 | .bool,hf=>
  simp only[Sh.fits]at hf;split at hf
  ·rename_i ht;obtain⟨b,rfl,_⟩:=DataW.trod_bool ht h;exact⟨[.bool b],⟨b,rfl⟩,⟨_,_,rfl,rfl,rfl⟩,by simp [Value.oneCell']⟩
  ·cases hf
 | .int k,hf=>
  simp only[Sh.fits]at hf;split at hf
  ·rename_i k' ht;simp only[oC]at hf;subst hf;obtain⟨m,rfl,_,hw⟩:=DataW.trod_int ht h;exact⟨[.int k' m],⟨m,rfl,hw⟩,⟨_,_,rfl,rfl,rfl⟩,by simp [Value.oneCell']⟩
  ·cases hf
 | .str,hf=>
  simp only[Sh.fits]at hf;split at hf
  ·rename_i ht;obtain⟨b,rfl,rfl,hl⟩:=DataW.trod_string ht h;exact⟨[.str b.data.toList],⟨_,rfl,hw _ (by simp [DataW.weights])⟩,⟨_,_,rfl,by simp [AP],rfl⟩,by simp [Value.oneCell']⟩
  ·cases hf
 | .sl e,hf=>
  simp only[Sh.fits]at hf;split at hf
  ·rename_i u ht;simp only[oo,qF,oC]at hf;obtain⟨⟨⟨hc,hpos⟩,hby⟩,hfe⟩:=hf;rcases Go.Deep.open_slice ht h with⟨rfl,_⟩|⟨a,len,cap,m,n',D,Pl,rfl,_,l9,hcap,hm,hx,hel⟩
   ·exact⟨[.sl (.none e.size) []],⟨[],rfl,zw,zw⟩,⟨_,_,rfl,.inl ⟨rfl,rfl,zt⟩,rfl⟩,by simp [Value.oneCell']⟩
   ·subst hx;simp only[DataW.weights,ht]at hw;have hlr:len<=reachBytes:=by
     have h1:=hw _ (po ..);simp only[o6,qi]at h1;exact pu (py len _) (pu (Nat.le_mul_of_pos_right _ hby) h1)
    have hwe:∀i,i<len->∀k∈(D i).weights P u,k<=reachBytes:=λi hi k hk=>
     hw k (pE _ (List.mem_append_left _ (HH (pz.2 ⟨i,px.2 hi,rfl⟩) k hk)))
    by_cases sf:len=0
    ·subst sf;obtain⟨b,o,sp⟩:=a;exact⟨[.sl (.none e.size) []],⟨[],rfl,zw,zw⟩,⟨_,_,rfl,.inr ⟨zt,b,o,cap,⟨sp,rfl,.inr ⟨rfl,.inr ⟨e.size,rfl⟩⟩⟩,oq _,zt,zt⟩,rfl⟩,by simp [Value.oneCell']⟩
    have uE:a.spot=none:=by
     obtain⟨cs',h1,_⟩:=hel 0 (by rw[hm];split<;>omega);obtain⟨_,_,tK⟩:=World.cells?_some h1;have hc0:=tK 0 (by rw[hc];exact hpos);rw[qR]at hc0;have h2:cs'[0]?≠none:=by
      obtain⟨_,hl',_⟩:=World.cells?_some h1;rw[o8 zo];simp
     obtain⟨y,hy⟩:=Option.ne_none_iff_exists'.1 h2;have:=World.cell?_spot (hc0.trans hy);obtain⟨b,o,sp⟩:=a;exact this
    obtain⟨b,o,sp⟩:=a;have hsp':sp=none:=uE;subst hsp';have hml:len<=m:=by rw[hm];split<;>omega
    have key:∀i,i<len->∃as,e.rd as/\∃v,AP (gW W) (e.wrap as) v/\EM e.size v/\∀(j:Nat) y,v.cells[j]?=some y->(gW W).σ b (o+i*e.size+j)=some y:=by
     intro i hi;obtain⟨cs',h1,h2⟩:=hel i zo;obtain⟨_,hl',tK⟩:=World.cells?_some h1;have hadd:∀j,((⟨b,o,none⟩:Addr).add (i*P.cellsOf u)).add j=⟨b,o+i*e.size+j,none⟩:=by
      intro j;rw[hc];unfold Addr.add;split<;>split<;>simp_all<;>omega
     have hcs:∀j,j<e.size->W.cell? ⟨b,o+i*e.size+j,none⟩=cs'[j]?:=λj hj=>by
      rw[<-hadd j];exact tK j (by rw[hc];exact hj)
     obtain⟨as,k1,k2,k3⟩:=Sh.reads e u cs' n' _ hfe h2 (hwe i hi);obtain⟨v,q1,q2,q3⟩:=e.elem k1 k2 k3;refine⟨as,k1,v,q1,q2,λj y hy=>?_⟩;have ug:cs'[j]?=some y:=by rw[<-q3];simpa using hy
     have hj:j<e.size:=by
      have:=(pK.1 ug).1;omega
     show W.cell? ⟨b,o+i*e.size+j,none⟩=some y;rw[hcs j hj,ug]
    have hch:∃F:Nat->List Fs,∀i,i<len->e.rd (F i)/\∃v,AP (gW W) (e.wrap (F i)) v/\EM e.size v/\∀(j:Nat) y,v.cells[j]?=some y->(gW W).σ b (o+i*e.size+j)=some y:=by
     refine⟨λi=>if hi:i<len then(key i hi).choose else[],λi hi=>?_⟩;simp only[hi,dif_pos];exact(key i hi).choose_spec
    obtain⟨F,hF⟩:=hch;refine⟨[.sl (.none e.size) (((List.range len).map F).map e.wrap)],⟨(List.range len).map F,rfl,by simpa using hlr,?_⟩,⟨_,_,rfl,.inr ⟨zt,b,o,cap,⟨none,zw,.inl rfl⟩,by simpa using l9,?_,zt⟩,rfl⟩,by simp [Value.oneCell']⟩
    ·simp_all
    ·refine Pv _ _ λi y hy=>?_
     rw[oO,oO]at hy;by_cases hi:i<len
     ·rw[qP hi]at hy;simp only[pr,Option.some.injEq]at hy;subst hy;exact(hF i hi).2
     ·rw[qY (by simp;omega)]at hy;simp at hy
  ·cases hf
 | .st fs,hf=>
  simp only[Sh.fits]at hf;split at hf
  ·rename_i gs ht;simp only[oo,qF]at hf;obtain⟨xs,m,_,hx,hl,l9,hfi⟩:=DataW.trod_struct ht h;subst hx;simp only[DataW.weights,ht]at hw;obtain⟨as,k1,k2,k3⟩:=Sh.readsL fs gs.toList 0 cs m (λf hfm=>by
    obtain⟨i,hi,he⟩:=List.getElem_of_mem hfm;have hfg:gs[i]?=some f:=by rw[<-he];simp at hi;simp [hi]
    have:=hfi i f hfg;have v7:i<xs.length:=by rw[l9];simpa using hi
    rw[o8 v7]at this;exact⟨_,this,λk hk=>hw k (DataW.weights_mem_each (j:=i) (t:=f.type) (d:=xs[i].1) (by rw[oO,show gs.toList[i]?=some f by simpa using hfg];rfl) (by rw[oO,o8 v7];rfl) k hk)⟩) hf.2 (by rw[hl,hf.1];simp)
   exact⟨as,by simpa only[Sh.rd]using k1,by simpa using k2,by simpa using k3⟩
  ·cases hf
 | .ar n' k,hf=>
  simp only[Sh.fits]at hf;split at hf
  ·rename_i m e ht;simp only[oo,qF]at hf;obtain⟨⟨⟨rfl,hc⟩,he⟩,hi⟩:=hf;split at hi
   ·rename_i k' hu;simp only[oC]at hi;subst hi;obtain⟨xs,q,_,_,hl,l9,hfi⟩:=DataW.trod_array ht h;obtain⟨l,h1,h2⟩:=Pw (k:=k') cs λi hi=>by
     have v7:i<m:=zo
     have hx:=hfi i v7;rw[he,qI,o8 zo]at hx;obtain⟨z,hz,_,hw'⟩:=DataW.trod_int hu hx;refine⟨z,?_,hw'⟩;have:=congrArg (λl=>l[0]?) hz;simpa [List.getElem?_take,rp]using this
    subst h1;exact⟨l.map (.int k'),⟨l,rfl,by simpa [hc]using hl,h2⟩,M8 l,by simp [Value.oneCell']⟩
   ·cases hi
  ·cases hf
theorem Sh.readsL(ss:List Sh)(fs:List Field)(o:Nat)(cs:List Value)(n:Nat)(hr:∀f∈fs,∃x,DataW.trod enc P W base spare held n f.type ((cs.drop f.offset).take (P.cellsOf f.type))=some x/\∀k∈x.1.weights P f.type,k<=reachBytes)(hf:Sh.fitsL P ss fs o=true)
  (hl:cs.length=o+Sh.uZ ss):∃as,Sh.rdL ss as/\sG (gW W) as (cs.drop o)/\∀c∈cs.drop o,c.oneCell'=true:=by
 match ss,fs,hf with
 |[],[],hf=>
  refine⟨[],rfl,?_,?_⟩
  ·rw[qS (by simp [Sh.uZ]at hl;omega)];rfl
  ·rw[qS (by simp [Sh.uZ]at hl;omega)];simp
 |s::r,f::fs,hf=>
  simp only[Sh.fitsL,oo,qF]at hf;obtain⟨⟨⟨h1,h2⟩,h3⟩,h4⟩:=hf;obtain⟨x,hx,hxw⟩:=hr f zw;rw[h2,h3]at hx;have tB:cs.length=o+(s.size+Sh.uZ r):=hl;obtain⟨a,k1,k2,k3⟩:=Sh.reads s f.type ((cs.drop o).take s.size) n x h1 hx hxw;obtain⟨b,q1,q2,q3⟩:=Sh.readsL r fs (o+s.size) cs n (λg hg=>hr g (by simp [hg])) h4 zo;have e:cs.drop o=(cs.drop o).take s.size++cs.drop (o+s.size):=by
   rw[<-rf,qX]
  refine⟨a++b,⟨a,b,rfl,k1,q1⟩,by rw[e];exact sG.append _ _ _ _ k2 q2,λc hc=>?_⟩;rw[e]at hc;rcases pI.1 hc with hc|hc
  ·exact k3 c hc
  ·exact q3 c hc
end
theorem Sh.arg(s:Sh){t:TypeId}{v:Value}{b0:Nat}(hf:s.fits P t=true)(hv:Value.okWide P W .any b0 t v){d:DataW H}{ps:List MemPlace}(h:DataW.Trod enc P W base spare held t v d ps)(hw:∀k∈d.weights P t,k<=reachBytes):
  ∃as,s.rd as/\AP (gW W) (s.wrap as) v:=by
 obtain⟨n,hn⟩:=h;obtain⟨as,h1,h2,h3⟩:=s.reads t v.cells.toList n _ hf hn hw;refine⟨as,h1,?_⟩;cases s with
 |st fs=>
  simp only[Sh.fits]at hf;split at hf
  ·rename_i gs ht;obtain⟨cs,rfl,_⟩:=okWide_struct ht hv;exact⟨cs,rfl,h2,h3⟩
  ·cases hf
 |ar n k=>
  simp only[Sh.fits]at hf;split at hf
  ·rename_i m e ht;simp only[Value.okWide,ht]at hv;obtain⟨cs,rfl,_⟩:=hv;exact⟨cs,rfl,h2,h3⟩
  ·cases hf
 |_=>
  have hl:=Sh.rd_length _ _ h1
  match as,hl with
  |[a],_=>
   obtain⟨u,rest,hu,k1,k2⟩:=h2;have k3:rest=[]:=k2;subst k3;have o:=h3 u (by rw[hu];simp);have huv:v=u:=by
    simp only[Sh.fits]at hf;split at hf
    ·rename_i ht;first
      |(obtain⟨b,rfl⟩:=okWide_bool ht hv;simpa [Value.cells]using hu)
      |(obtain⟨b,rfl⟩:=okWide_int ht hv;simpa [Value.cells]using hu)
      |(obtain⟨b,rfl⟩:=okWide_string ht hv;simpa [Value.cells]using hu)
      |(obtain⟨b,l,c,rfl⟩:=okWide_slice ht hv;simpa [Value.cells]using hu)
    ·cases hf
   subst huv;exact k1
open Go.ChangeShapes in
theorem Hu:∀{ts:List TypeId} {vs:List Value} {ds:List (DataW H)} {ps:List MemPlace},DataW.TrodAll enc P W base spare held ts vs ds ps->vs.length=ts.length/\ds.length=ts.length
 |[],_,_,_,h=>by
  obtain⟨rfl,rfl,_⟩:=trodAll_nil h;exact⟨rfl,rfl⟩
 |_::_,_,_,_,h=>by
  obtain⟨v,vs1,d,ds1,a,b,rfl,rfl,rfl,_,h2⟩:=trodAll_cons h;have:=Hu h2;simp [this.1,this.2]
def Sh.rdA:List Sh->List Fs->Prop
 |[],as=>as=[]
 |s::r,as=>∃x b,as=s.wrap x::b/\s.rd x/\Sh.rdA r b
def Sh.fitsA(P:Program):List Sh->List TypeId->Bool
 |[],[]=>true
 |s::r,t::ts=>s.fits P t&&Sh.fitsA P r ts
 |_,_=>false
open Go.ChangeShapes in
theorem Sh.args{b0:Nat}:∀(ss:List Sh) (ts:List TypeId) (vs:List Value) (ds:List (DataW H)) (ps:List MemPlace),Sh.fitsA P ss ts=true->
  (∀(j:Nat) t v,ts[j]?=some t->vs[j]?=some v->Value.okWide P W .any b0 t v)->DataW.TrodAll enc P W base spare held ts vs ds ps->(∀(j:Nat) t d,ts[j]?=some t->ds[j]?=some d->∀k∈d.weights P t,k<=reachBytes)->∃as,Sh.rdA ss as/\sG (gW W) as vs
 |[],[],vs,ds,ps,_,_,h,_=>by
  obtain⟨rfl,rfl,rfl⟩:=trodAll_nil h;exact⟨[],rfl,rfl⟩
 |s::r,t::ts,vs,ds,ps,hf,hv,h,hw=>by
  obtain⟨v,vs1,d,ds1,a,c,rfl,rfl,rfl,h1,h2⟩:=trodAll_cons h;simp only[Sh.fitsA,oo]at hf;have hv0:=hv 0 t v rfl rfl;obtain⟨x,k1,k2⟩:=s.arg hf.1 hv0 h1 (hw 0 t d rfl rfl);obtain⟨b,q1,q2⟩:=Sh.args r ts vs1 ds1 _ hf.2 (λj t' v' e1 e2=>hv (j+1) t' v' e1 e2) h2 (λj t' d' e1 e2=>hw (j+1) t' d' e1 e2);exact⟨_,⟨x,b,rfl,k1,q1⟩,_,_,rfl,k2,q2⟩
 |[],_::_,_,_,_,hf,_,_,_=>by cases hf
 |_::_,[],_,_,_,hf,_,_,_=>by cases hf
open Go.ChangeShapes in
theorem TT{f:FuncId}{fn:Func}{s:ChangeSpec}{apart fresh handsOn again:Bool}{args:Array Value}{ds gs:List (DataW H)}{before:List MemPlace}{b0:Nat}{tb:TypeId}(ss:List Sh)
  (hval:∀(j:Nat) t v,fn.params[j]?=some t->args[j]?=some v->Value.okWide P W .any b0 t v)
  (hW:DataW.Whole enc P fn.params.toList s.vars apart W args.toList ds gs before)
  (hwt:(DataW.weightsEach P (fn.params.toList++s.plain.varTypes P) (ds++gs)).all (· <=reachBytes)=true)
  (hvars:s.vars=[]) (uA:∀ds:List (DataW H),ds.length=ss.length->s.fn H ds={results:=[.lit (.bool true)],args:=ds,vars:=[]})
  (tO:Sh.fitsA P ss fn.params.toList=true)
  (uq:fn.resultTypes= #[tb]) (htb:P.underlying tb=some .bool)
  (hk:laidOutB P=true) (hm:mapsRowed P=true) (hfull:((List.range P.types.size).all λt=>match P.underlying t with|some (.slice e)=>decide (0<P.cellsOf e)|_=>true)=true)
  (hts:(fn.params.toList.all λt=>decide (t<P.types.size))=true)
  (hg:EN (gW W)) (hgz:F7 W) (hpur:∀as,Sh.rdA ss as->sG (gW W) as args.toList->A6 P f as (.bool true)):
  Calls P f args W λe W'=>∃v,e= .returned v/\s.post enc P fn apart fresh handsOn again W args v W':=by
 have hW':=hW;obtain⟨p,q,hA,hV,rfl,hfz,sg⟩:=hW;rw[hvars]at hV;obtain⟨rfl,rfl⟩:=trodVars_none hV;simp only[oR]at hW';have l9:=Hu hA;have hwd:∀(j:Nat) t d,fn.params.toList[j]?=some t->ds[j]?=some d->∀k∈d.weights P t,k<=reachBytes:=λj t d h1 h2 k hk=>by
  have l1:j<fn.params.toList.length:=(pK.1 h1).1;have l2:j<ds.length:=(pK.1 h2).1;simpa using oM.1 hwt k (DataW.weights_mem_each (j:=j) (t:=t) (d:=d) (by rw[pH l1];exact h1) (by rw[pH l2];exact h2) k hk)
 have hss:ss.length=fn.params.toList.length:=by
  clear hpur uA hval hW' l9 hA hts hwd hwt;generalize fn.params.toList=ts at tO;induction ss generalizing ts with
  |nil=>cases ts<;>first|rfl|cases tO
  |cons s r ih=>
   cases ts with
   |nil=>cases tO
   |cons t ts=>simp only[Sh.fitsA,oo]at tO;simp [ih ts tO.2]
 have uE:=uA ds (by rw[l9.2,hss]);have hspn:s.fn H (ds++[])={results:=[.lit (.bool true)],args:=ds,vars:=[]}:=by rw[oR];exact uE
 obtain⟨as,h1,h2⟩:=Sh.args ss _ _ _ _ tO (λj t v e1 e2=>hval j t v (by simpa using e1) (by simpa using e2)) hA hwd;have e9:=hW'.lt;refine((hpur as h1 h2).calls hg hgz h2).mono ?_;rintro e W' ⟨rfl,hgr⟩;have t9:Value.okWide P W' .any 0 tb (.bool true):=by simp [Value.okWide,htb,Cell.okWide,Cell.ok]
 refine⟨_,rfl,M7 (pa:=p) (pv:=[]) hgr hW' (λb sp hd=>?_) (λsp hsp'=>?_) (λ_ _=>?_) zw ?_⟩
 ·rw[hspn,uq];exact trodAll_mk1 ⟨1,by simp [DataW.trod,Value.cells,htb]⟩
 ·rw[hspn];refine Ht hgr (DataW.TrodAll.respare (T:=(· <P.types.size)) (kids_rows hk hm) (slices_full_of P hfull) (λt ht=>by simpa using oM.1 hts t ht) hA hsp') λy hy=>e9 y hy
 ·rw[hspn,hvars];exact rfl
 ·rw[uq];intro j t r e1 e2
  match j,e1,e2 with
  |0,e1,e2=>simp_all [Value.resultList]
  |j+1,e1,e2=>simp at e1
theorem Ol{f:FuncId}{fn:Func}{s:ChangeSpec}{apart fresh handsOn again:Bool}{args:Array Value}{ds gs:List (DataW H)}{before:List MemPlace}{b0:Nat}{tb:TypeId}(ss:List Sh)
  (hval:∀(j:Nat) t v,fn.params[j]?=some t->args[j]?=some v->Value.okWide P W .any b0 t v)
  (hW:DataW.Whole enc P fn.params.toList s.vars apart W args.toList ds gs before)
  (hwt:(DataW.weightsEach P (fn.params.toList++s.plain.varTypes P) (ds++gs)).all (· <=reachBytes)=true)
  (hvars:s.vars=[]) (uA:∀ds:List (DataW H),ds.length=ss.length->s.fn H ds={results:=[.lit (.bool true)],args:=ds,vars:=[]})
  (tO:Sh.fitsA P ss fn.params.toList=true)
  (uq:fn.resultTypes= #[tb]) (htb:P.underlying tb=some .bool)
  (hk:laidOutB P=true) (hm:mapsRowed P=true) (hfull:((List.range P.types.size).all λt=>match P.underlying t with|some (.slice e)=>decide (0<P.cellsOf e)|_=>true)=true)
  (hts:(fn.params.toList.all λt=>decide (t<P.types.size))=true)
  (hg:EN (gW W)) (hgz:F7 W) (hpur:∀as,Sh.rdA ss as->A6 P f as (.bool true)):
  Calls P f args W λe W'=>∃v,e= .returned v/\s.post enc P fn apart fresh handsOn again W args v W':=
 TT ss hval hW hwt hvars uA tO uq htb hk hm hfull hts hg hgz λas h _=>hpur as h
end
theorem Rp{g:z8}{f:Nat->Option Value}:∀(l:List Fs) (o:Nat),(∀(i:Nat) c,l[i]?=some c->∃x,f (o+i)=some x/\AP g c x/\x.oneCell'=true)->sL g f o l
 |[],_,_=>trivial
 |c::l,o,h=>⟨by simpa using h 0 c rfl,Rp l (o+1) λi c' hc'=>by
   have:=h (i+1) c' (by simpa using hc')
   rwa[show o+1+i=o+(i+1)by omega]⟩
def LL{H:Type}{enc:TypeId×Value->H}{P:Program}{W:World}{base:Nat}{spare:Nat->Bool}{held:Bool}{t e:TypeId}{k:IntKind}{n fuel gi:Nat}{cs:Array Value}{ns:List Int}{ps:List MemPlace}
  (ht:P.underlying t=some (.array n e)) (he:P.underlying e=some (.int k)) (hc:P.cellsOf e=1) (tK:∀off,W.cell? ⟨gi,off,none⟩=cs[off]?)
  (h:DataW.trod enc P W base spare held fuel t cs.toList=some (.agg (ns.map λz=>.lit (.int k z)),ps)):sL (gW W) ((gW W).σ gi) 0 (ns.map (.int k)):=by
 obtain⟨xs,m,_,hx,hl,l9,hf⟩:=DataW.trod_array ht h;simp only[Prod.mk.injEq,DataW.agg.injEq]at hx;refine Rp _ _ λi c hi=>?_
 rw[oO]at hi;have v7:i<ns.length:=by grind
 have hlen2:ns.length=xs.length:=by simpa using congrArg List.length hx.1
 have h1:=hf i zo;rw[o8 (by omega:i<xs.length)]at h1;obtain⟨z,e1,e2,_⟩:=DataW.trod_int he h1;rw[o8 v7]at hi;simp only[pr,Option.some.injEq]at hi;subst hi;have e3:(ns.map λz=>(DataW.lit (.int k z):DataW H))[i]?=(xs.map (·.1))[i]?:=by rw[hx.1]
 rw[oO,oO,o8 v7,o8 (by omega:i<xs.length)]at e3;simp only[pr,Option.some.injEq,e2,DataW.lit.injEq,Lit.int.injEq,pR]at e3;rw[hc]at e1;refine⟨.int k ns[i],?_,rfl,rfl⟩;show W.cell? ⟨gi,0+i,none⟩=_;rw[tK,e3];have:(List.take 1 (cs.toList.drop (i*1)))[0]?=some (Value.int k z):=by rw[e1];rfl
 simpa using this
end Go.AM
namespace Go.AM
open Go.Lib Go.Proofs Go.RowKit
def M9{g:z8}{w w':World}(h:x6 g Ac 0 w)(hb:Below w.heap.size w w'):x6 g Ac 0 w' where
 σw:=λb o v e=>by
  have h1:=h.σw b o v e;have h2:b<w.heap.size:=Lib.lt_of_cell (a:=⟨b,o,none⟩) h1;exact(hb.cell (p:=⟨b,o,none⟩) h2).trans h1
 obj:=λ_ _ h=>by simp [AD,Ac]at h
 uu:=λid L e=>absurd ((h.uu id L e).1) (by simp [AD,Ac])
 hd:=λ_ _ h=>by simp [AD,Ac]at h
 ap:=λ_ _ _ _ _ _ _ h=>by simp [AD,Ac]at h
 un:=λ_ _ _ _ h=>by simp [AD,Ac]at h
 gl:=h.gl
 gz:=h.gz.kept (own:=λ_ _=>False) (λb ob e=>by
  have h2:b<w.heap.size:=(oU.1 e).1;rw[hb.block b h2,e];exact Iu.same _ _)
def Kd{g:z8}{w w':World}(hb:Below w.heap.size w w'):q8 0 g Ac w g Ac w' where
 le:=.refl g
 βn:=λ_ _ h=>.inl h
 os:=hb.os
 tape:=hb.tape
 output:=hb.output
 size:=hb.size
 kept:=λb ob e=>by
  have h2:b<w.heap.size:=(oU.1 e).1;rw[hb.block b h2,e];exact Iu.same _ _
 now:=λ_ _ _ h=>h
 nσ:=λ_ _ _ _ h=>.inl h
def Gz{P:Program}{f:FuncId}{args:List Fs}{r:Fs}(hc:CF P f)(hu:sN 0 args)(hr:r.under 0)
  (h:∀g w vs,x6 g Ac 0 w->sG g args vs->Calls P f vs.toArray w λe w'=>(∃v,e= .returned v/\AP g r v)/\Below w.heap.size w w'):A6 P f args r:=by
 refine⟨hu,hr,hc,λg w vs hR hv=>(h g w vs hR hv).mono ?_⟩;rintro e w' ⟨⟨v,rfl,hv⟩,hb⟩;exact⟨g,.ret r,Ac,0,⟨r,rfl,.refl r⟩,hv,M9 hR hb,od 0,Kd hb⟩
section
variable {P:Program} {T:Bk} {Q:x5->AS->Prop} {k:List Item} {s:AS} {x y:q9}
def Om(P:Program)(T:Bk)(x y:q9)(k:List Item)(Q:x5->AS->Prop)(s:AS):Bool->Prop
 |true=>Fi P T x k Q s
 |false=>Fi P T y k Q s
theorem dX{c:zx}:Fi P T (.cond c x y) k Q s=((lk s.env c).1=true/\JV (AV s.env c)/\Om P T x y k Q s (FZ (AV s.env c))):=by
 rw[lB];cases FZ (AV s.env c)<;>simp [Om]
theorem cK_t:Om P T x y k Q s true=Fi P T x k Q s:=rfl
theorem cK_f:Om P T x y k Q s false=Fi P T y k Q s:=rfl
theorem cK_i{b:Bool}:Om P T x y k Q s b=((b=true->Fi P T x k Q s)/\(b=false->Fi P T y k Q s)):=by
 cases b<;>simp [Om]
end
def sel_t{x y:Fs}:QF true x y=x:=by cases x<;>cases y<;>rfl
def sel_f{x y:Fs}:QF false x y=y:=by cases x<;>cases y<;>rfl
theorem lf{b x y:Bool}:QF b (.bool x) (.bool y)= .bool (bif b then x else y):=rfl
def eX:=(⟨@lP, @fZ.eq_1, @dM, @Y9, @lV, @dN, @TR, @EF.eq_1, @EF.eq_2, @lF, @lG, @lH, @Ro⟩:_/\_/\_/\_/\_/\_/\_/\_/\_/\_/\_/\_/\_)
abbrev A{a b:Prop}(x:a)(y:b):a/\b:=⟨x,y⟩
def eN:=A @DK @Rl
def eC:=A @Rn<|A @lU<|A @lL<|A (A (A @dX (A @cK_t @cK_f)) (A @sel_t (A @sel_f @lf))) (A (A @lI @M6.eq_1) (A (A @M6.eq_2 @M6.eq_3) (A (A @M6.eq_4 (A @M6.eq_5 @M6.eq_6)) (A (A @r_cpu @lT) (A @Nn.eq_1 (A @OE @r_mnx))))))
def eE:=A @x0.sF.eq_34<|A @x0.sF.eq_35<|A @x0.sF.eq_36<|A @GP.eq_1<|A @GP.eq_2<|A (A (A (A (A (A (A (A @Rl @ku) (A @kw (A @kz @cn))) (A (A @co @cq) (A @cu (A @k9 @lA)))) (A (A (A @k_ret @k_seq) (A @cy (A @k_reg @lC))) (A (A @lD (A @k_frz @lE)) (A @r_ext (A @lK @r_nil))))) (A (A (A (A @lM @r_v) (A @r_vg (A @lN @dA))) (A (A @dF @r_box) (A @r_st (A @lO @dG)))) (A (A (A @dH @Y7) (A @r_app (A @r_slA @r_mks))) (A (A @r_pan (A @rx_v @rx_v1)) (A @lQ (A @rx_vK @lR)))))) (A (A (A (A (A @rx_vg @lS) (A @dJ (A @Y8 @dK))) (A (A @Pr.eq_1 @Pr.eq_2) (A @Pr.eq_3 (A @Hs.eq_1 @Hs.eq_2)))) (A (A (A @I6.eq_1 @I6.eq_2) (A @TP.eq_1 (A @Ka.eq_1 @HG.eq_1))) (A (A @GE.eq_1 (A @GE.eq_2 @M4.eq_1)) (A @M4.eq_2 (A @M4.eq_3 @AJ.eq_1))))) (A (A (A (A @lpQ_n @lpQ_e) (A @lpQ_r (A @lpQ_p @Ev.eq_1))) (A (A @Ev.eq_2 (A @Co.eq_1 @Co.eq_2)) (A @Co.eq_3 (A @Co.eq_4 @J5.eq_1)))) (A (A (A @J5.eq_2 @kr.eq_1) (A @kr.eq_2 (A @Ul.eq_1 @Ul.eq_2))) (A (A @GQ.eq_1 (A @GQ.eq_2 @Be.eq_1)) (A @Be.eq_2 (A @BC.eq_1 @BC.eq_2))))))) (A (A (A (A (A (A @lk.eq_1 @lk.eq_2) (A @AV.eq_1 (A @Bz.eq_1 @Bz.eq_2))) (A (A @AS.put.eq_1 @AS.put.eq_2) (A @AS.keep.eq_1 (A @BN.eq_1 @BN.eq_2)))) (A (A (A @BN.eq_3 @BN.eq_4) (A @BN.eq_5 (A @BN.eq_6 @BN.eq_7))) (A (A @BN.eq_8 (A @BN.eq_9 @BN.eq_10)) (A @BN.eq_11 (A @BN.eq_12 @BN.eq_13))))) (A (A (A (A @BN.eq_14 @BN.eq_15) (A @BN.eq_16 (A @BN.eq_17 @BN.eq_18))) (A (A @BN.eq_19 (A @BN.eq_20 @BN.eq_21)) (A @BN.eq_22 (A @BN.eq_23 @BN.eq_24)))) (A (A (A @BN.eq_25 @BN.eq_26) (A @BN.eq_27 (A @BN.eq_28 @BN.eq_29))) (A (A @BN.eq_30 (A @BN.eq_31 @BN.eq_32)) (A (A @BN.eq_33 (A @BN.eq_34 (A @BN.eq_35 @BN.eq_36))) (A @Vy @Qq.eq_1)))))) (A (A (A (A (A @Qq.eq_2 @KL.eq_1) (A @KL.eq_2 (A @kB @Sm.eq_1))) (A (A @Sm.eq_2 @OH.eq_1) (A @OH.eq_2 (A @kC @Sn.eq_1)))) (A (A (A @Sn.eq_2 @OI.eq_1) (A @OI.eq_2 (A @sQ.eq_1 @x0.sF.eq_1))) (A (A @x0.sF.eq_2 (A @x0.sF.eq_3 @x0.sF.eq_4)) (A @x0.sF.eq_5 (A @x0.sF.eq_6 @x0.sF.eq_7))))) (A (A (A (A @x0.sF.eq_8 @x0.sF.eq_9) (A @x0.sF.eq_10 (A @x0.sF.eq_11 @x0.sF.eq_12))) (A (A @x0.sF.eq_13 (A @x0.sF.eq_14 @x0.sF.eq_15)) (A @x0.sF.eq_16 (A @x0.sF.eq_17 @x0.sF.eq_18)))) (A (A (A @x0.sF.eq_19 @x0.sF.eq_20) (A @x0.sF.eq_21 (A @x0.sF.eq_22 @x0.sF.eq_23))) (A (A @x0.sF.eq_24 (A @x0.sF.eq_25 @x0.sF.eq_26)) (A @x0.sF.eq_27 (A @x0.sF.eq_28 @x0.sF.eq_29)))))))) (A (A (A (A (A (A (A @x0.sF.eq_30 @x0.sF.eq_31) (A @x0.sF.eq_32 (A @x0.sF.eq_33 @A4.eq_1))) (A (A @A4.eq_2 @A4.eq_3) (A @A4.eq_4 (A @Iv.eq_1 @Iv.eq_2)))) (A (A (A @Cl.eq_1 @Cl.eq_2) (A @BV.eq_1 (A @BV.eq_2 @JV.eq_1))) (A (A @JV.eq_2 (A @FZ.eq_1 @FZ.eq_2)) (A @MU.eq_1 (A @MU.eq_2 @HN.eq_1))))) (A (A (A (A @HN.eq_2 @mk.eq_1) (A @icmp.eq_1 (A @icmp.eq_2 @icmp.eq_3))) (A (A @icmp.eq_4 (A @icmp.eq_5 @icmp.eq_6)) (A @Du.eq_1 (A @Du.eq_2 @Du.eq_3)))) (A (A (A @Du.eq_4 @Du.eq_5) (A @Du.eq_6 (A @sS.eq_1 @sS.eq_2))) (A (A @CK.eq_1 (A @CK.eq_2 @nT.eq_1)) (A @nT.eq_2 (A @Bg.eq_1 @Bg.eq_2)))))) (A (A (A (A (A @Bg.eq_3 @Bg.eq_4) (A @Bg.eq_5 (A @Bg.eq_6 @Ga.eq_1))) (A (A @Ga.eq_2 @Ga.eq_3) (A @Il.eq_1 (A @Il.eq_2 @Il.eq_3)))) (A (A (A @OF.eq_1 @OF.eq_2) (A @OF.eq_3 (A @OF.eq_4 @QG.eq_1))) (A (A @AN (A @YQ @Fs.cells.eq_1)) (A @Fs.cells.eq_2 (A @xv.esz.eq_1 @xv.esz.eq_2))))) (A (A (A (A @xv.esz.eq_3 @xv.esz.eq_4) (A @Option.toList.eq_1.{0} (A @Option.toList.eq_2.{0} @oI.{0}))) (A (A @pd.{0} (A @List.filterMap.eq_1.{0,0} @List.filterMap.eq_2.{0,0})) (A @oL.{0,0} (A @pc.{0,0} @oR.{0})))) (A (A (A @oW.{0} @pp.{0}) (A @pr.{0,0} (A @qd.{0,0} @pG.{0}))) (A (A @pG.{1} (A @pb.{0} @pb.{1})) (A @qz (A @pR @pT.{0}))))))) (A (A (A (A (A (A @pT.{1} @oP) (A @List.drop.eq_1.{0} (A @List.drop.eq_2.{0} @List.drop.eq_3.{0}))) (A (A @List.take.eq_1.{0} @List.take.eq_2.{0}) (A @List.take.eq_3.{0} (A @qC.{0} @List.drop_succ_cons.{0})))) (A (A (A @List.take_succ_cons.{0} @pZ.{0}) (A @List.set_cons_zero.{0} (A @List.set_cons_succ.{0} @rX.{0}))) (A (A @List.replicate_zero.{0} (A @od @List.headD_cons.{0})) (A @qK (A @Bool.and_true @beq_self_eq_true.{0}))))) (A (A (A (A @K3.eq_1 @K3.eq_2) (A @K3.eq_3 (A @Ef.eq_1 @Ef.eq_2))) (A (A @Ef.eq_3 (A @Ef.eq_4 @Ef.eq_5)) (A @Ef.eq_6 (A @Ef.eq_7 @qr)))) (A (A (A @rq.{0} @rq.{1}) (A @pn (A @Bool.cond_true_left @Bool.cond_false_right))) (A (A @imp_self (A @beq_true @beq_false)) (A @qM (A @rl @oV)))))) (A (A (A (A (A @qA @oo) (A @oC (A @qq @ne_eq.{1}))) (A (A @ra @rC) (A @natE1 (A @natE2 @impA1)))) (A (A (A @impA2 @sb) (A @or_true (A @true_or @false_or))) (A (A @or_false (A @lW @dW)) (A @qQ (A @Nat.add_assoc @py))))) (A (A (A (A @AR.eq_1 @AR.eq_2) (A @At.eq_1 (A @At.eq_2 @At.eq_3))) (A (A @At.eq_4 (A @CG.eq_1 @CG.eq_2)) (A @dP (A @dQ @lX)))) (A (A (A @lY @decide_true) (A @se (A @qB @Bool.and_false))) (A (A @Bool.true_or (A @Bool.or_true @qT)) (A @Bool.or_false (A @cond_true.{1} @cond_false.{1}))))))))
def eZ:=A eE (A eC eN)
end Go.AM
