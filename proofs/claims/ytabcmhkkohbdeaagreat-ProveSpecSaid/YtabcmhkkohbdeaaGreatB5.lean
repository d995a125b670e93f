/-
  Parts of the proof. Conditions: none.
-/
import Derived.Test.YtabcmhkkohbdeaaGreatB4
import Derived.RangeFuncLeaves
import Derived.RecoverIn
import Derived.KernelRfl
import Derived.SizedLaws
import Derived.ChangeSame
import Derived.ReadAgain
import Derived.RowKit
import Derived.ProofKit
import Derived.Lib.SmallJoins
import Derived.LaidMore
import Derived.OpenShut
import Derived.Stop.Joined
import Derived.MakeChecks
import Derived.Below
import Derived.Lib.AtoiErrMem
import Derived.Lib.LaidTab
set_option maxRecDepth 20000
set_option linter.all false
namespace Go.AM
def HD:Nat->List Fs->List (Nat×Bool×Fs)
 |_,[]=>[]
 |i,a::as=>(i,true,a)::HD (i+1) as
theorem KM{g:q8}:∀(as:List Fs) (vs pre:List Value) (rest:Array Value),wI g as vs->B1 g (HD pre.length as) ((pre++vs).toArray++rest)
 |[],vs,pre,rest,_=>λt gd v h=>by simp [HD,BI]at h
 |a::as,vs,pre,rest,h=>by
  obtain⟨v,vs',rfl,h1,h2⟩:=h;intro t gd x hg;simp only[HD,BI]at hg;split at hg
  ·grind
  ·have:=KM as vs' (pre++[v]) rest h2 t gd x (by simpa using hg);simpa using this
def Q3{g:q8}{env:List (Nat×Bool×Fs)}{tmps:Array Value}(he:B1 g env tmps){t:Nat}(s9:(lk env (.t t)).1=true):AR g (AY env (.t t)) (tmps.getD t undef):=by
 simp only[lk,AY]at s9⊢;cases hg:BI env t with
 |none=>simp [hg]at s9
 |some gv=>
  obtain⟨gd,v⟩:=gv;simp only[hg]at s9⊢;obtain⟨x,h1,h2,_⟩:=he t gd v hg;have:tmps.getD t undef=x:=by simp [Array.getD_eq_getD_getElem?,h1]
  rw[this];exact h2 s9
theorem AX.forget{P:Program}{f:FuncId}{args:List Fs}{H:AB}{n:Nat}{R R':xw->AB->Nat->Prop}(h:AX P f args H n R)
  (hr:∀o H' n',R o H' n'->∃o2 H2,R' o2 H2 n/\IP n H H' H2/\match o,o2 with
   | .ret v,.ret v2=>Wk v v2/\v2.under n
   | .xM v,.xM v2=>Wk v v2/\v2.under n
   |_,_=>False):AX P f args H n R':=by
 refine⟨h.1,λg w vs r v=>(h.2 g w vs r v).mono ?_⟩;rintro e w' ⟨g',out,H',n',q,he,hR',hn,ht⟩;obtain⟨o2,H2,q1,q2,q3⟩:=hr _ _ _ q;obtain⟨r2,t2,ag⟩:=AM.forget r hR' ht q2;refine⟨⟨g.β,g'.σ⟩,o2,H2,n,q1,?_,r2,sj _,t2⟩;cases out with
 |ret a=>cases o2 with
  |xM b=>exact q3.elim
  |ret b=>
   cases e with
   |returned x=>exact AR.agree ag b x q3.2 (q3.1 _ _ he)
   |panicked c=>exact he.elim
   |outgrown=>exact he.elim
 |xM a=>cases o2 with
  |ret b=>exact q3.elim
  |xM b=>
   cases e with
   |returned x=>exact he.elim
   |outgrown=>exact he.elim
   |panicked c=>obtain⟨x,rfl,k⟩:=he;exact⟨x,rfl,AR.agree ag b x q3.2 (q3.1 _ _ k)⟩
section
inductive RC where
 |t (i:Nat)
 |c (i sz:Nat) (ag:Bool)
def OY(P:Program):List ResultVar->Option (List RC)
 |[]=>some []
 | .tmp i::r=>(OY P r).map (RC.t i:: ·)
 | .cell i t::r=>match Fp P t,OY P r with
  |some sz,some l=>some (.c i sz (IA P t)::l)
  |_,_=>none
def BO(H:AB)(sz:Nat)(ag:Bool):Fs->Prop×Fs
 | .ptr id off=>match AD H id with
  |some (.box cs)=>(off=0/\cs.length=sz,mk ag cs)
  |_=>(False,.wJ [])
 |_=>(False,.wJ [])
def oX(s:AS):RC->Prop×Fs
 | .t i=>((lk s.env (.t i)).1=true,AY s.env (.t i))
 | .c i sz ag=>((lk s.env (.t i)).1=true/\(BO s.H sz ag (AY s.env (.t i))).1,(BO s.H sz ag (AY s.env (.t i))).2)
def L9(s:AS):List RC->Prop×List Fs
 |[]=>(True,[])
 |r::l=>((oX s r).1/\(L9 s l).1,(oX s r).2::(L9 s l).2)
def Yh(vs:List Fs):Fs:=match vs with
 |[v]=>v
 |vs=>.wJ vs
def Dj(rs:List RC)(R:xw->AB->Nat->Prop):x6->AS->Prop
 | .ret,s=>(L9 s rs).1/\R (.ret (Yh (L9 s rs).2)) s.H s.n
 | .normal,s=>(L9 s rs).1/\R (.ret (Yh (L9 s rs).2)) s.H s.n
 | .xM v,s=>R (.xM v) s.H s.n
 | .exit _,_=>False
def bq(tmps:Array Value):ResultVar->Sem Value
 | .tmp t=>pure (tmps.getD t undef)
 | .cell a t=>do loadVar t (<-asAddr (tmps.getD a undef))
def Us(fn:Func)(tmps:Array Value):results fn tmps=(do
  let vs<-fn.results.mapM (bq tmps)
  pure (if h:vs.size=1 then vs[0]else .tuple vs)):=by
 unfold results;congr 1
variable {tmps:Array Value} {fn:Func} {g:q8} {P:Program}
theorem YG{s:AS}{w:World}(hR:x7 g s.H s.n w)(he:B1 g s.env tmps){r:ResultVar}{x:RC}(hx:OY P [r]=some [x])(s9:(oX s x).1):
  ∃v,(bq tmps r).run P w= .ok v w/\AR g (oX s x).2 v:=by
 cases r with
 |tmp t=>
  simp [OY]at hx;subst hx;exact⟨_,rfl,Q3 he s9⟩
 |cell a t=>
  simp only[OY]at hx;cases hz:Fp P t with
  |none=>simp [hz]at hx
  |some sz=>
   simp [hz]at hx;subst hx;obtain⟨h1,h2⟩:=s9;have hv:=Q3 he h1;simp only[oX];generalize AY s.env (.t a)=av at h2 hv⊢;cases av<;>simp only[BO]at h2⊢ <;>first|exact h2.elim|skip
   rename_i id off;obtain⟨L,p1,p2,p3⟩:=hv;cases ho:AD s.H id with
   |none=>simp [ho]at h2
   |some ob=>
    cases ob<;>simp only[ho]at h2⊢ <;>first|exact h2.elim|skip
    rename_i cs;obtain⟨rfl,hl⟩:=h2;obtain⟨L',c,e,k1,k2,k3,k4,k5,k6⟩:=hR.obj id _ ho;rw[p1]at k1;cases k1;have hp:wM g (λo=>w.cell? ⟨L.wR,o,none⟩) 0 cs:=wM.cell k4 k6;obtain⟨v,q1,q2⟩:=Lz hz hp hl;exact⟨v,by simp [bq,p3,asAddr,q1],q2⟩
theorem br{r:ResultVar}{l:List ResultVar}{xs:List RC}(h:OY P (r::l)=some xs):∃x l',xs=x::l'/\OY P [r]=some [x]/\OY P l=some l':=by
 cases r with
 |tmp t=>
  simp only[OY]at h;cases h1:OY P l with
  |none=>simp [h1]at h
  |some l'=>simp [h1]at h;subst h;exact⟨_,_,rfl,by simp [OY],rfl⟩
 |cell a t=>
  simp only[OY]at h;split at h
  ·rename_i sz l' h1 h2;cases h;exact⟨_,_,rfl,by simp [OY,h1],h2⟩
  ·cases h
theorem FM{s:AS}{w:World}(hR:x7 g s.H s.n w)(he:B1 g s.env tmps){rs:List RC}(hrs:OY P fn.results.toList=some rs)(s9:(L9 s rs).1):
  ∃v,(results fn tmps).run P w= .ok v w/\AR g (Yh (L9 s rs).2) v:=by
 have key:∀(l:List ResultVar) (xs:List RC),OY P l=some xs->(L9 s xs).1->∃vs:List Value,(l.mapM (bq tmps)).run P w= .ok vs w/\wI g (L9 s xs).2 vs:=by
  intro l;induction l with
  |nil=>intro xs h _;simp [OY]at h;subst h;exact⟨[],rfl,rfl⟩
  |cons r l ih=>
   intro xs h hk;obtain⟨x,l',rfl,h1,h2⟩:=br h;obtain⟨v,q1,q2⟩:=YG hR he h1 hk.1;obtain⟨vs,q3,q4⟩:=ih l' h2 hk.2;refine⟨v::vs,?_,⟨v,vs,rfl,q2,q4⟩⟩;rw[List.mapM_cons,Sem.run_bind,q1];simp only[Result.andThen_ok,Sem.run_bind,q3];rfl
 obtain⟨vs,h1,h2⟩:=key _ _ hrs s9;have wS:(fn.results.mapM (bq tmps)).run P w= .ok vs.toArray w:=by
  rw[<-vv (xs:=fn.results),List.mapM_toArray];simp only[map_eq_pure_bind,Sem.run_bind,h1,Result.andThen_ok];rfl
 rw[Us,Sem.run_bind,wS];simp only[Result.andThen_ok];refine⟨_,rfl,?_⟩;generalize (L9 s rs).2=as at h2
 match as,vs,h2 with
 |[],_,h2=>simp only[wI]at h2;subst h2;exact⟨#[],rfl,rfl⟩
 |[a],_,h2=>
  obtain⟨v,r,rfl,k1,k2⟩:=h2;simp only[wI]at k2;subst k2;exact k1
 |a::b::l,_,h2=>
  obtain⟨v,r,rfl,k1,k2⟩:=h2;obtain⟨u,r',rfl,k3,k4⟩:=k2;have:¬((v::u::r').toArray.size=1):=zw
  rw[dif_neg this];exact⟨_,rfl,⟨_,_,rfl,k1,_,_,rfl,k3,k4⟩⟩
theorem HV{F:Fence}{nn m fl:Nat}{R:Ending->World->Prop}{base:List Deferred}{u:FrameMode}{g0:q8}{H0 H:AB}{n:Nat}{w0:World}(hfl:w0.heap.size<=fl)(hu:u≠ .run)
  (h:∀w',x7 g H n w'->q9 m g0 H0 w0 g H w'->LeavesInM F nn P fn tmps R base u w'):∀(ms:List Deferred) (w:World),x7 g H n w->q9 m g0 H0 w0 g H w->OW fl g H ms w->LeavesInM F nn P fn tmps R (ms++base) u w
 |[],w,r,t,_=>h w r t
 |d::ms,w,r,t,⟨⟨b,h1,h2,h3,h4,h5⟩,hm⟩=>by
  refine⟨hu,.inl ⟨b,_,h1,run_takeDeferred h3,HV hfl hu h ms _ (r.dblk h3) ?_ ?_⟩⟩
  ·refine⟨t.le,t.βn,t.os,t.tape,t.output,by simpa [World.putObj]using t.size,λk ob hk=>?_,t.now,t.nσ⟩;have e9:k<w0.heap.size:=(sW.1 hk).1;have:(w.putObj b (.deferred none)).heap[k]?=w.heap[k]?:=by grind [World.putObj,Array.getElem?_setIfInBounds_ne]
   rw[this];exact t.kept k ob hk
  ·have:∀(l:List Deferred),(∀d'∈l,d'.target≠ .collected b)->OW fl g H l w->OW fl g H l (w.putObj b (.deferred none)):=by
    intro l;induction l with
    |nil=>intro _ _;trivial
    |cons d' l ih=>
     rintro s8 ⟨⟨b',p1,p2,p3,p4,p5⟩,hl⟩;have hbb:b≠b':=by rintro rfl;exact s8 d' (tu ..) p1
     exact⟨⟨b',p1,p2,by simp only[World.putObj];rw[uj hbb];exact p3,p4,p5⟩,ih (λx hx=>s8 x (tM _ hx)) hl⟩
   exact this ms h5 hm
theorem Nx{f:FuncId}{c:Code}{ac:z8}{fz im:List (Nat×Nat)}{kp:Nat->List Nat}{rs:List RC}{args:List Fs}{H:AB}{n:Nat}{R:xw->AB->Nat->Prop}
  (hf:P.funcs[f]?=some fn) (hb:fn.body=some c) (hname:(fn.name== "runtime.NumGoroutine")=false) (hc:BQ P fn.ntmps fz im kp c=some ac) (hr:OY P fn.results.toList=some rs)
  (h:IE P ac (Dj rs R) ⟨HD 0 args,H,n⟩):AX P f args H n R:=by
 refine⟨⟨fn,hf,by simp [hb],hname⟩,λg w vs hR hV=>?_⟩;have hsim:Em n g H w fn.ntmps ⟨w.heap.size,[],false,0, #[]⟩ ⟨HD 0 args,H,n⟩ {tmps:=vs.toArray++Array.replicate (fn.ntmps-vs.toArray.size) undef,defers:=[]} w:=
  ⟨g,hR,KM args vs [] _ hV,q9.refl _ _ _ _,sj _,by simp;omega,Ki.nil zw⟩
 refine(callsIn_wide (n:=0)).1 (callsIn_of_wp_marks (F:=FR none) hf hb zt (wpIn_mono (Cc c hc (.inl ⟨rfl,rfl⟩) ⟨sj _,sk _⟩ h hsim) λe a' w' hq=>?_) rfl);have ret:∀s,(L9 s rs).1/\R (.ret (Yh (L9 s rs).2)) s.H s.n->Em n g H w fn.ntmps ⟨w.heap.size,[],false,0, #[]⟩ s a' w'->
   LeavesInM (FR none) 0 P fn a'.tmps (λe w'=>∃g' out H' n',R out H' n'/\Xl g' out e/\x7 g' H' n' w'/\n<=n'/\q9 n g H w g' H' w') a'.defers .returning w':=by
  rintro s ⟨q1,q2⟩ ⟨g',p1,p2,p3,p4,p5,ms,p6,p7,-⟩;rw[p6];refine HV (m:=n) (g0:=g) (H0:=H) (w0:=w) (sj _) zw (λw2 r2 t2=>?_) ms w' p1 p3 p7;obtain⟨v,k1,k2⟩:=FM r2 p2 hr q1;exact⟨v,k1,g',_,_,_,q2,k2,r2,p4,t2⟩
 cases e with
 |normal=>obtain⟨s,q,hs⟩:=hq;exact ret s q hs
 |ret=>obtain⟨s,q,hs⟩:=hq;exact ret s q hs
 |exit i=>obtain⟨s,q,hs⟩:=hq;exact q.elim
 |goto l=>exact hq
 |outgrown=>exact hq.elim
 |panic chain=>
  obtain⟨v,H',n',q,⟨g',x,p1,p2,p3,rfl,p5,ms,p6,p7,-⟩⟩:=hq;show LeavesInM _ _ _ _ _ _ a'.defers _ _;rw[p6];refine HV (m:=n) (g0:=g) (H0:=H) (w0:=w) (sj _) zw (λw2 r2 t2=>?_) ms w' p1 p2 p7;exact⟨g',.xM v,H',n',q,⟨x,rfl,p5⟩,r2,p3,t2⟩
end
def S7:Code->List (Array Tmp×Code×Code)
 | .seq a b| .cond _ a b=>S7 a++S7 b
 | .block _ c| .loop c| .scope c=>S7 c
 | .rangeFunc _ ps a b=>[(ps,a,b)]
 |_=>[]
def Gv(ps:List Nat)(args:List Fs)(env:List (Nat×Bool×Fs)):List (Nat×Bool×Fs):=(ps.zip args).foldl (λenv (t,a)=>(t,true,a)::env) env
theorem S8{g:q8}:∀(ps:List Nat) (args:List Fs) (vs:List Value) (env:List (Nat×Bool×Fs)) (tmps:Array Value),B1 g env tmps->wI g args vs->(∀p∈ps,p<tmps.size)->
  B1 g (Gv ps args env) ((ps.zip vs).foldl (λtmps (t,a)=>tmps.setIfInBounds t a) tmps)/\((ps.zip vs).foldl (λtmps (t,a)=>tmps.setIfInBounds t a) tmps).size=tmps.size
 |[],args,vs,env,tmps,he,hv,hp=>⟨by simpa [Gv]using he,zw⟩
 |p::ps,[],vs,env,tmps,he,hv,hp=>by
  simp only[wI]at hv;subst hv;exact⟨by simpa [Gv]using he,zw⟩
 |p::ps,a::args,vs,env,tmps,he,hv,hp=>by
  obtain⟨v,vs',rfl,h1,h2⟩:=hv;have xg:=hp p (tu ..);have he':B1 g ((p,true,a)::env) (tmps.setIfInBounds p v):=by
   intro t gd x hg;simp only[BI]at hg;split at hg
   ·simp_all
   ·rename_i e;obtain⟨y,q1,q2,q3⟩:=he t gd x hg;exact⟨y,by rw[uj e];exact q1,q2,q3⟩
  obtain⟨k1,k2⟩:=S8 ps args vs' ((p,true,a)::env) (tmps.setIfInBounds p v) he' h2 (λq hq=>by simpa using hp q (tM _ hq));exact⟨by simpa [Gv]using k1,by simpa using k2⟩
def S9{P:Program}{g:q8}{H:AB}{n m id:Nat}{w:World}{x:LoopA}(hR:x7 g H n w)(ho:AD H id=some (.lp x))(st:LoopState)(xQ:Option Code):
  ∃r:Loop,∃w',(Instr.getLoop x.l).run P w= .ok r w/\r.state=x.st/\r.pending=x.xQ/\(setObj x.l (.loop {r with state:=st,pending:=xQ})).run P w= .ok () w'/\
   x7 g (wB H id (.lp {x with st:=st,xQ:=xQ})) n w'/\q9 m g H w g (wB H id (.lp {x with st:=st,xQ:=xQ})) w':=by
 obtain⟨L,h1,h2,h3,h4,r,k1,k2,k3,k4,k5,k6,k7,k8⟩:=hR.obj id _ ho;rw[h4]at k1;have e9:x.l<w.heap.size:=(sW.1 k1).1;refine⟨r,{w with heap:=w.heap.setIfInBounds x.l (.loop {r with state:=st,pending:=xQ})},?_,k2,k3,?_,?_⟩
 ·simp [Instr.getLoop,getObj,Sem.run,k1]
 ·simp [setObj,Sem.run,k1]
 ·refine hR.upd ho rfl h1 rfl rfl rfl zw (λb hb=>?_) (.inr ⟨h2,h3,_,by rw[h4];exact k1,zw⟩) ?_
  ·grind
  ·exact⟨L,h1,h2,h3,h4,{r with state:=st,pending:=xQ},by rw[h4];simp [e9],rfl,rfl,k4,k5,k6,k7,k8⟩
def bt(id:Nat)(R:Bool->AB->Nat->Prop):x6->AS->Prop
 | .normal,s=>∃x,AD s.H id=some (.lp x)/\R true (wB s.H id (.lp {x with st:=.ready,xQ:=none})) s.n
 | .ret,s=>∃x,AD s.H id=some (.lp x)/\R false (wB s.H id (.lp {x with st:=.done,xQ:=some .ret})) s.n
 | .exit i,s=>∃x,AD s.H id=some (.lp x)/\R false (wB s.H id (.lp {x with st:=.done,xQ:=some (.exit i)})) s.n
 | .xM _,_=>False
def IZ(P:Program)(id:Nat)(ab:z8)(R:Bool->AB->Nat->Prop):x6->AS->Prop
 | .normal,s=>∃x,AD s.H id=some (.lp x)/\x.st= .ready/\IE P ab (bt id R) {s with H:=wB s.H id (.lp {x with st:=.busy,xQ:=x.xQ})}
 |_,_=>False
theorem Cz{P:Program}{l id:Nat}{x:LoopA}{aa ab:z8}{fz im fz2 im2:List (Nat×Nat)}{kp kp2:Nat->List Nat}{args:List Fs}{H:AB}{n:Nat}{R:Bool->AB->Nat->Prop}
  (ho:AD H id=some (.lp x)) (hl:x.l=l) (hps:args.length=x.ps.size) (hpn0:(x.ps.toList.all λp=>Nat.ble (p+1) x.nt)=true) (hca:BQ P x.nt fz im kp x.asg=some aa) (wo:BQ P x.nt fz2 im2 kp2 x.body=some ab) (hpa:aa.plain=true) (hpb:ab.plain=true)
  (h:IE P aa (IZ P id ab R) ⟨Gv x.ps.toList args x.env,H,n⟩):CY P l args H n R:=by
 intro r g w vs hR hV;subst hl;have hpn:∀p∈x.ps.toList,p<x.nt:=λp hp=>Nat.le_of_ble_eq_true ((sE.1 hpn0) p hp)
 obtain⟨L,h1,h2,h3,h4,r0,k1,k2,k3,k4,k5,k6,k7,k8⟩:=hR.obj id _ ho;rw[h4]at k1;have hlen:=wI.length _ _ hV;obtain⟨e1,e2⟩:=S8 x.ps.toList args vs x.env r0.tmps k7 hV (λp hp=>uw (hpn p hp) k8);have hfold:(r0.params.zip vs.toArray).foldl (λtmps (t,a)=>tmps.setIfInBounds t a) r0.tmps=(x.ps.toList.zip vs).foldl (λtmps (t,a)=>tmps.setIfInBounds t a) r0.tmps:=by
  rw[k4,<-Array.foldl_toList,Array.toList_zip]
 have hsim:Em n g H w x.nt ⟨w.heap.size,[],false,0, #[]⟩ ⟨Gv x.ps.toList args x.env,H,n⟩ {tmps:=(r0.params.zip vs.toArray).foldl (λtmps (t,a)=>tmps.setIfInBounds t a) r0.tmps,defers:=[]} w:=by
  refine⟨g,hR,?_,q9.refl _ _ _ _,sj _,?_,Ki.nil zw⟩
  ·simp only[hfold];exact e1
  ·simp only[hfold,e2];exact k8
 have hβ:∀{g':q8} {H':AB} {w':World} {n':Nat} {x':LoopA},x7 g' H' n' w'->q9 n g H w g' H' w'->AD H' id=some (.lp x')->x'.l=x.l:=by
  intro g' H' w' n' x' r1 t1 h';obtain⟨L',q1,_,_,q4,_⟩:=r1.obj id _ h';have:=t1.le.β _ _ h1;rw[q1]at this;cases this;rw[<-q4,h4]
 refine⟨r0.fn,(r0.params.zip vs.toArray).foldl (λtmps (t,a)=>tmps.setIfInBounds t a) r0.tmps,r0.assign,r0.body,?_,roundIn_of_wpIn (F:=FR r) (n:=0) zt ?_⟩
 ·simp_all [Instr.yield,Instr.getLoop,getObj,Sem.run]
 rw[k5,k6];refine wpIn_mono (Cc (r:=some x.l) x.asg hca (.inr hpa) ⟨sj _,sk _⟩ h hsim) λe a1 w1 hq=>?_
 cases e with
 |exit i=>obtain⟨s1,q,_⟩:=hq;exact q.elim
 |ret=>obtain⟨s1,q,_⟩:=hq;exact q.elim
 |panic c=>obtain⟨v,H1,n1,q,_⟩:=hq;exact q.elim
 |goto l=>exact hq.elim
 |outgrown=>exact hq.elim
 |normal=>
  obtain⟨s1,⟨x1,p1,p2,p3⟩,g1,R1,E1,T1,m1,N1,D1⟩:=hq;have hx1:=hβ R1 T1 p1;obtain⟨r1,w2,q1,q2,q3,q4,R2,T2⟩:=S9 (P:=P) (m:=n) R1 p1 .busy x1.xQ;rw[hx1]at q1 q4;refine⟨w2,?_,?_⟩
  ·simp_all [Instr.beginRound,Sem.run_bind,Result.andThen_ok]
  ·have yc:Em n g H w x.nt ⟨w.heap.size,[],false,0, #[]⟩ {s1 with H:=wB s1.H id (.lp {x1 with st:=.busy,xQ:=x1.xQ})} a1 w2:=⟨g1,R2,E1.mono T2.le,T1.trans T2,m1,N1,D1.step T2⟩;refine wpIn_mono (Cc (r:=some x.l) x.body wo (.inr hpb) ⟨sj _,sk _⟩ p3 yc) λe a3 w3 hq=>?_
   have fin:∀(s3:AS) (jump:Option Code) (x3:LoopA),AD s3.H id=some (.lp x3)->R jump.isNone (wB s3.H id (.lp {x3 with st:=if jump.isNone then .ready else .done,xQ:=jump})) s3.n->Em n g H w x.nt ⟨w.heap.size,[],false,0, #[]⟩ s3 a3 w3->
     ∃v w',(Instr.endRound x.l jump).run P w3= .ok v w'/\∃b g' H' n',Ending.returned v= .returned (.bool b)/\R b H' n'/\x7 g' H' n' w'/\n<=n'/\q9 n g H w g' H' w':=by
    rintro s3 jump x3 u1 u2 ⟨g3,R3,E3,T3,m3,N3,D3⟩;have hx3:=hβ R3 T3 u1;obtain⟨r3,w4,v1,v2,v3,v4,R4,T4⟩:=S9 (P:=P) (m:=n) R3 u1 (if jump.isNone then .ready else .done) jump;rw[hx3]at v1 v4;refine⟨.bool jump.isNone,w4,?_,_,g3,_,_,rfl,u2,R4,m3,T3.trans T4⟩;simp only[Instr.endRound,Sem.run_bind,v1,Result.andThen_ok,v4];rfl
   cases e with
   |normal=>obtain⟨s3,⟨x3,u1,u2⟩,hs3⟩:=hq;exact fin s3 none x3 u1 u2 hs3
   |ret=>obtain⟨s3,⟨x3,u1,u2⟩,hs3⟩:=hq;exact fin s3 (some .ret) x3 u1 u2 hs3
   |exit i=>obtain⟨s3,⟨x3,u1,u2⟩,hs3⟩:=hq;exact fin s3 (some (.exit i)) x3 u1 u2 hs3
   |panic c=>obtain⟨v,H1,n1,q,_⟩:=hq;exact q.elim
   |goto l=>exact hq.elim
   |outgrown=>exact hq.elim
section
def D8(P:Program)(y9:FuncId)(args:List Fs)(rv:Fs)(H:AB)(n:Nat)(Rc:AB->Nat->Prop):Prop:=
 ∀g w vs u,x7 g H n w->wI g args vs->((u= .returning/\rv= .xA)\/∃x,AR g rv x/\u= .panicking [{v:=x,recovered:=false}])->
  CallsDIn (FR none) 0 P y9 vs.toArray u w λe u' w'=>(∃v,e= .returned v)/\settle u'= .returning/\∃g' H' n',Rc H' n'/\x7 g' H' n' w'/\n<=n'/\q9 n g H w g' H' w'
variable {y:z8} {H:AB} {ops:Array Oper} {X:Code} {fn:Func} {fz im:List (Nat×Nat)} {args:List Fs} {t y9 id n:Nat} {kp:Nat->List Nat} {o0 o1:Oper} {P:Program}
theorem Ny{g:q8}{env:List (Nat×Bool×Fs)}{tmps:Array Value}(h:B1 g env tmps){v:Fs}{x:Value}(ht:t<tmps.size)(hv:AR g v x):B1 g ((t,true,v)::env) (tmps.setIfInBounds t x):=by
 intro i gd u hu;rw[Iz]at hu;by_cases e:t=i
 ·simp_all
 ·rw[sg e]at hu;obtain⟨y,h1,h2⟩:=h i gd u hu;exact⟨y,by rw[uj e];exact h1,h2⟩
theorem P3{rv:Fs}{Rc:AB->Nat->Prop}{t3 t4:Nat}{ty:TypeId}{cl:Call}
  (hf:P.funcs[y9]?=some fn) (hb:fn.body=some (.seq (.region id ops false) X)) (hs:ops.size=2) (h0:ops[0]?=some o0) (h1:ops[1]?=some o1) (hg0:o0.guard=none) (hg1:o1.guard=none)
  (hop0:o0.op= .call cl) (wi:cl.callee= .builtin .recover) (hd0:o0.dst=some t4) (hop1:o1.op= .move (.tmp t4)\/o1.op= .assign (.tmp t4)) (hd1:o1.dst=some t3) (yj:t3<fn.ntmps) (ht4:t4<fn.ntmps) (hca:cl.args= #[])
  (hX:BQ P fn.ntmps fz im kp X=some y) (xg:y.plain=true) (hr:fn.results= #[])
  (h:IE P y (Dj [] λo H' n'=>o= .ret (.wJ [])/\Rc H' n') ⟨(t3,true,rv)::(t4,true,rv)::HD 0 args,H,n⟩):D8 P y9 args rv H n Rc:=by
 intro g w vs u hR hV hu;refine callsDIn_of_wpSIn hf hb zt λc₀ cs ym=>wpSIn_seq (wpSIn_region ?_)
 have xG:(vs.toArray++Array.replicate (fn.ntmps-vs.toArray.size) undef).size≥fn.ntmps:=by simp;omega
 have hE0:B1 g (HD 0 args) (vs.toArray++Array.replicate (fn.ntmps-vs.toArray.size) undef):=KM args vs [] _ hV;generalize vs.toArray++Array.replicate (fn.ntmps-vs.toArray.size) undef=tm at xG hE0;rw[hs]
 have key:∀(x:Value) (cs':List Frame) (u':FrameMode),AR g rv x->cs'={c₀ with mode:=u'}::cs->settle u'= .returning->
   wpOpsSIn (FR none) 0 P ops (Exit.thenS (X.wpSIn (FR none) 0 P (bodyPostS P fn c₀ cs λe u' w'=>(∃v,e= .returned v)/\settle u'= .returning/\∃g' H' n',Rc H' n'/\x7 g' H' n' w'/\n<=n'/\q9 n g H w g' H' w')) (bodyPostS P fn c₀ cs λe u' w'=>(∃v,e= .returned v)/\settle u'= .returning/\∃g' H' n',Rc H' n'/\x7 g' H' n' w'/\n<=n'/\q9 n g H w g' H' w')) [1] (({tmps:=tm,defers:=[]}:Act).put o0.dst x) cs' w:=by
  intro x cs' u' hx hcs' wB;have hev:(({tmps:=tm,defers:=[]}:Act).put o0.dst x).eval (.tmp t4)=x:=by
   rw[hd0];simp [Act.put,Act.eval,Array.getD,show t4<tm.size by omega]
  have hrun1:(execOp (({tmps:=tm,defers:=[]}:Act).put o0.dst x).eval o1).run P w= .ok (.value x) w:=by
   rcases hop1 with hop1|hop1<;>simp [execOp,hop1,hev]
  simp only[wpOpsSIn,h1,Region.wanted,hg1,tD,hrun1];refine⟨λ_ _=>zt,?_⟩;show X.wpSIn _ _ _ _ _ _ _;refine wpSIn_of_wpIn rfl ?_;have hsim:Em n g H w fn.ntmps ⟨w.heap.size,[],true,0, #[]⟩ ⟨(t3,true,rv)::(t4,true,rv)::HD 0 args,H,n⟩ ((({tmps:=tm,defers:=[]}:Act).put o0.dst x).put o1.dst x) w:=by
   rw[hd0,hd1];refine⟨g,hR,?_,q9.refl _ _ _ _,sj _,by simp [Act.put];omega,Ki.nil zw⟩;exact Ny (Ny hE0 zo hx) (by simp;omega) hx
  refine wpIn_mono (Cc (r:=none) X hX (.inr xg) ⟨sj _,sk _⟩ h hsim) λe a' w' hq=>?_
  have ret:∀s,(L9 s []).1/\(xw.ret (Yh (L9 s []).2)= .ret (.wJ [])/\Rc s.H s.n)->Em n g H w fn.ntmps ⟨w.heap.size,[],true,0, #[]⟩ s a' w'->
    a'.defers=[]/\∃u',cs'={c₀ with mode:=u'}::cs/\∃v,(results fn a'.tmps).run P w'= .ok v w'/\((∃v',Ending.returned v= .returned v')/\settle u'= .returning/\∃g' H' n',Rc H' n'/\x7 g' H' n' w'/\n<=n'/\q9 n g H w g' H' w'):=by
   rintro s ⟨q1,q2,q3⟩ ⟨g',p1,p2,p3,p4,p5,ms,p6,p7,p8⟩;obtain⟨v,k1,k2⟩:=FM (rs:=[]) p1 p2 (by rw[hr];rfl) q1;refine⟨by rw[p6,(p8 rfl).1];rfl,u',hcs',v,k1,⟨v,rfl⟩,wB,g',_,_,q3,p1,p4,p3⟩
  cases e with
  |normal=>obtain⟨s,q,hs'⟩:=hq;exact ret s q hs'
  |ret=>obtain⟨s,q,hs'⟩:=hq;exact ret s q hs'
  |exit i=>obtain⟨s,q,hs'⟩:=hq;exact q.elim
  |goto l=>exact hq
  |outgrown=>exact hq.elim
  |panic chain=>obtain⟨v,H',n',q,_⟩:=hq;cases q.1
 have hrun0:(execOp ({tmps:=tm,defers:=[]}:Act).eval o0).run P w= .ok .recover w:=by
  simp [execOp,hop0,resolve,wi,invoke,builtin]
 show wpOpsSIn _ _ _ _ _ [0,1] _ _ _;rw[wpOpsSIn];simp only[h0,Region.wanted,hg0,tD,hrun0];refine⟨λ_ _=>zt,?_⟩;rcases hu with⟨rfl,rfl⟩|⟨x,hx,rfl⟩
 ·have hrec:recoverD (c₀::cs)=none:=by simp [recoverD,ym]
  rw[hrec];exact key .nilIface _ .returning rfl (by rw[<-ym]) rfl
 ·have hrec:recoverD (c₀::cs)=some (x,{c₀ with mode:=.panicking ({v:=x,recovered:=true}::[])}::cs):=by simp [recoverD,ym]
  rw[hrec];exact key x _ _ hx rfl rfl
def We:List Code->Code->Code
 |[],c=>c
 |x::l,c=>.seq x (We l c)
def Ja:List z8->z8
 |[]=>.skip
 |y::l=>.seq y (Ja l)
def P4(P:Program)(N:Nat)(fz im:List (Nat×Nat))(kp:Nat->List Nat):List Code->Option (List z8)
 |[]=>some []
 |c::l=>match BQ P N fz im kp c,P4 P N fz im kp l with
  |some y,some ys=>some (y::ys)
  |_,_=>none
theorem MA{N:Nat}{D:DP}{m:Nat}{g0:q8}{H0:AB}{w0:World}{rest:Code}{Q:x6->AS->Prop}{QQ:Exit->Act->World->Prop}
  (hDw:D.fl<=w0.heap.size/\D.lo<=dv fz) (hrest:∀s a w,Q .normal s->Em m g0 H0 w0 N D s a w->rest.wpIn (FR none) 0 P QQ a w)
  (hoth:∀e a w,e≠ .normal->QM m g0 H0 w0 N D Q e a w->QQ e a w):
  ∀(pre:List Code) (ys:List z8) (s:AS) (a:Act) (w:World),P4 P N fz im kp pre=some ys->ys.all (·.plain)=true->IE P (Ja ys) Q s->Em m g0 H0 w0 N D s a w->(We pre rest).wpIn (FR none) 0 P QQ a w
 |[],ys,s,a,w,hc,hp,h,hs=>by
  simp only[P4]at hc;cases hc;exact hrest s a w h hs
 |c::pre,ys,s,a,w,hc,hp,h,hs=>by
  simp only[P4]at hc;split at hc
  ·rename_i y yl h1 h2;cases hc;simp only[uR,sf]at hp;rw[Ja,fp]at h;refine wpIn_seq (wpIn_mono (Cc (r:=none) c h1 (.inr hp.1) hDw h hs) λe a' w' hq=>?_);cases e with
   |normal=>obtain⟨s',q1,q2⟩:=hq;exact MA hDw hrest hoth pre yl s' a' w' h2 hp.2 q1 q2
   |exit i=>exact hoth _ _ _ zw hq
   |ret=>exact hoth _ _ _ zw hq
   |panic c=>exact hoth _ _ _ zw hq
   |goto l=>exact hoth _ _ _ zw hq
   |outgrown=>exact hoth _ _ _ zw hq
  ·cases hc
def YH(rs:List RC)(env:List (Nat×Bool×Fs))(R:xw->AB->Nat->Prop)(H':AB)(n':Nat):Prop:=(L9 ⟨env,H',n'⟩ rs).1/\R (.ret (Yh (L9 ⟨env,H',n'⟩ rs).2)) H' n'
def kF(P:Program)(y9:FuncId)(fc:List Fs)(rs:List RC)(env:List (Nat×Bool×Fs))(R:xw->AB->Nat->Prop):x6->AS->Prop
 | .ret,s=>D8 P y9 fc .xA s.H s.n (YH rs env R)
 | .normal,s=>D8 P y9 fc .xA s.H s.n (YH rs env R)
 | .xM v,s=>D8 P y9 fc v s.H s.n (YH rs env R)
 | .exit _,_=>False
def TA(P:Program)(t:Nat)(o:xq)(y:z8)(lo:Nat)(y9:FuncId)(rs:List RC)(R:xw->AB->Nat->Prop):x6->AS->Prop
 | .normal,s=>Af P (λ_ _ _=>False) s.n o (λs1=>(lk s1.env (.t t)).1=true/\∃first cap,AY s1.env (.t t)= .fn (.func y9) first cap/\IE P y (kF P y9 (first++cap) rs (s1.env.filter λe=>Nat.blt e.1 lo) R) s1) s
 | .ret,s=>(L9 s rs).1/\R (.ret (Yh (L9 s rs).2)) s.H s.n
 | .xM v,s=>R (.xM v) s.H s.n
 | .exit _,_=>False
theorem Ia{lo:Nat}:∀(env:List (Nat×Bool×Fs)) (t:Nat) (x:Bool×Fs),BI (env.filter λe=>Nat.blt e.1 lo) t=some x->t<lo/\BI env t=some x
 |[],t,x,h=>by cases h
 |(i,gv)::r,t,x,h=>by
  rw[tE]at h;rw[Iz];split at h
  ·rename_i hb;rw[Iz]at h;by_cases e:i=t
   ·simp_all
   ·rw[sg e]at h⊢;exact Ia r t x h
  ·rename_i hb;obtain⟨h1,h2⟩:=Ia r t x h;by_cases e:i=t
   ·subst e;exact absurd (by simpa using h1) hb
   ·rw[sg e];exact⟨h1,h2⟩
theorem Q4{f:Nat}{pre:List Code}{ys:List z8}{fzX:List (Nat×Nat)}{rs:List RC}{R:xw->AB->Nat->Prop}{k:xx}{cl:Call}
  (hf:P.funcs[f]?=some fn) (hb:fn.body=some (We pre (.seq (.region id ops false) X))) (hname:(fn.name== "runtime.NumGoroutine")=false) (hpre:P4 P fn.ntmps fz im kp pre=some ys) (hppl:ys.all (·.plain)=true)
  (hs:ops.size=2) (h0:ops[0]?=some o0) (h1:ops[1]?=some o1) (hg0:o0.guard=none) (hg1:o1.guard=none) (hk0:BJ P false false 0 o0.op=some (.v k)) (hd0:o0.dst.all (λd=>decide (d<fn.ntmps))=true)
  (hop1:o1.op= .defer cl) (wi:cl.callee= .value (.tmp t)) (hca:cl.args= #[]) (hd1:o1.dst=none) (hX:BQ P fn.ntmps fzX im kp X=some y) (xg:y.plain=true) (hr:OY P fn.results.toList=some rs) (hcall:C3 P y9)
  (h:IE P (Ja ys) (TA P t ⟨o0.dst,none,.v k⟩ y (dv fzX) y9 rs R) ⟨HD 0 args,H,n⟩):AX P f args H n R:=by
 refine⟨⟨fn,hf,by simp [hb],hname⟩,λg w vs hR hV=>?_⟩;have hsim:Em n g H w fn.ntmps ⟨w.heap.size,[],true,0, #[]⟩ ⟨HD 0 args,H,n⟩ {tmps:=vs.toArray++Array.replicate (fn.ntmps-vs.toArray.size) undef,defers:=[]} w:=
  ⟨g,hR,KM args vs [] _ hV,q9.refl _ _ _ _,sj _,by simp;omega,Ki.nil zw⟩
 refine(callsIn_wide (n:=0)).1 (callsIn_of_wp_marks (F:=FR none) hf hb zt (MA (fz:=fz) ⟨sj _,sk _⟩ (λs a w1 hq hsm=>?_) (λe a' w' s8 hq=>?_) pre ys _ _ _ hpre hppl h hsim) rfl)
 ·
  obtain⟨g1,p1,p2,p3,p4,p5,ms0,p6,p7,p8⟩:=hsm;have hdef:a.defers=[]:=by rw[p6,(p8 rfl).1];rfl
  refine wpIn_seq (wpIn_region ?_);rw[hs];show wpOpsIn _ _ _ _ _ [0,1] _ _;rw[wpOpsIn_cons];have hsim0:Em s.n g1 s.H w1 fn.ntmps ⟨w1.heap.size,[],true,0, #[]⟩ s a w1:=⟨g1,p1,p2,q9.refl _ _ _ _,sj _,p5,ms0,p6,by rw[(p8 rfl).1];trivial,p8⟩;simp only[TA]at hq;refine Nq (Qp:=λ_ _ _=>False) (mkv:=false) (imp:=false) (gd:=none) (k:=.v k) (base:=s.n) h0 (by rw[hg0];rfl) hk0 hq hsim0 (sj _) (by simp [Io.news]) (λd e=>?_) (λs1 a1 w2 hk wr to=>?_) (λv H' n' chain a' w' q=>q.elim)
  ·simp_all
  obtain⟨q1,first,cap,q2,q3⟩:=hk;obtain⟨g2,r1,r2,r3,r4,r5,ms1,r6,r7,r8⟩:=wr;have hdef1:a1.defers=[]:=by rw[r6,(r8 rfl).1];rfl
  have hv:=Q3 r2 q1;have hev:a1.eval (.tmp t)=a1.tmps.getD t undef:=rfl;rw[q2]at hv;obtain⟨fv,cv,e1,k1,k2⟩:=hv;rw[wpOpsIn_cons];have wS:(o1.semAt (FR none).round a1.eval).run P w2= .ok (.defer ⟨.fn (.func y9) cv,fv⟩) w2:=by
   rw[show(FR none).round=none from rfl,Oper.semAt_none];simp [execOp,hop1,resolve,wi,hca,hev,e1,Deferred.ofValue]
  unfold wpOpIn;simp only[h1,Region.wanted,hg1,tD];refine⟨λ_ _=>zt,?_⟩;rw[wS];simp only[Oper.uponIn,wpOpsIn,hd1,Act.put];show X.wpIn _ _ _ _ _ _;obtain⟨fn2,c1,c2,c3⟩:=hcall;have hinv:∀W:World,(invoke (.fn (.func y9) cv) fv).run P W= .ok (.enter y9 (fv++cv)) W:=by
   intro W;have c3':¬fn2.name= "runtime.NumGoroutine" :=by simpa using c3
   have c4:¬fn2.body=none:=by cases hb:fn2.body<;>simp_all
   simp [invoke,callFunc,c1,c3',c4]
  have hsim2:Em s1.n g2 s1.H w2 fn.ntmps ⟨w2.heap.size,[⟨.fn (.func y9) cv,fv⟩],true,dv fzX,a1.tmps⟩ s1 {a1 with defers:=⟨.fn (.func y9) cv,fv⟩::a1.defers} w2:=
   ⟨g2,r1,r2,q9.refl _ _ _ _,sj _,r5,by rw[hdef1];exact Ki.nil (λ_ _ _=>rfl)⟩
  refine wpIn_mono (Cc (r:=none) X hX (.inr xg) ⟨sj _,sj _⟩ q3 hsim2) λe a3 w3 hq3=>?_
  have fin:∀(rv:Fs) (u:FrameMode) (H3:AB) (n3:Nat) (g3:q8),u≠ .run->D8 P y9 (first++cap) rv H3 n3 (YH rs (s1.env.filter λe=>Nat.blt e.1 (dv fzX)) R)->x7 g3 H3 n3 w3->q9 s1.n g2 s1.H w2 g3 H3 w3->s1.n<=n3->
    Ki ⟨w2.heap.size,[⟨.fn (.func y9) cv,fv⟩],true,dv fzX,a1.tmps⟩ g3 H3 a3.defers a3.tmps w3->((u= .returning/\rv= .xA)\/∃x,AR g3 rv x/\u= .panicking [{v:=x,recovered:=false}])->
    LeavesInM (FR none) 0 P fn a3.tmps (λe w'=>∃g' out H' n',R out H' n'/\Xl g' out e/\x7 g' H' n' w'/\n<=n'/\q9 n g H w g' H' w') a3.defers u w3:=by
   rintro rv u H3 n3 g3 hu hA R3 T3 hn3 ⟨ms3,d1,d2,d3⟩ hmode;rw[d1,(d3 rfl).1];refine⟨hu,.inr ⟨by simp [FR,Fence.wide],.func y9,cv,y9,fv++cv,rfl,hinv w3,λ_ _=>zt,?_⟩⟩;have hvs:wI g3 (first++cap) (fv.toList++cv.toList):=wI.append' (wI.mono T3.le _ _ k1) (wI.mono T3.le _ _ k2);have hc:=hA g3 w3 _ u R3 hvs hmode;rw[show(fv.toList++cv.toList).toArray=fv++cv by apply uv;simp]at hc;refine CallsDIn.mono hc ?_;rintro e u' w' ⟨⟨v,rfl⟩,wB,g',H',n',⟨x1,x2⟩,R',hn',T'⟩;show LeavesInM _ _ _ _ _ _ [] (settle u') w';rw[wB];have hE:B1 g' (s1.env.filter λe=>Nat.blt e.1 (dv fzX)) a3.tmps:=by
    intro i gd z hz;obtain⟨z1,z2⟩:=Ia _ _ _ hz;obtain⟨z3,z4,z5,z6⟩:=r2 i gd z z2;exact⟨z3,by rw[(d3 rfl).2 i z1];exact z4,λq=>(z5 q).mono (T3.le.trans T'.le),z6⟩
   obtain⟨v',y1,y2⟩:=FM (s:=⟨s1.env.filter λe=>Nat.blt e.1 (dv fzX),H',n'⟩) R' hE hr x1;exact⟨v',y1,g',_,_,_,x2,y2,R',zo,((p3.trans (r3.floor p4)).trans (T3.floor zo)).trans (T'.floor zo)⟩
  cases e with
  |normal=>obtain⟨s3,q,g3,z1,z2,z3,z4,z5,z6⟩:=hq3;exact fin .xA .returning _ _ g3 zw q z1 z3 z4 z6 (.inl ⟨rfl,rfl⟩)
  |ret=>obtain⟨s3,q,g3,z1,z2,z3,z4,z5,z6⟩:=hq3;exact fin .xA .returning _ _ g3 zw q z1 z3 z4 z6 (.inl ⟨rfl,rfl⟩)
  |exit i=>obtain⟨s3,q,_⟩:=hq3;exact q.elim
  |goto l=>exact hq3
  |outgrown=>exact hq3.elim
  |panic chain=>
   obtain⟨v,H',n',q,g3,x,z1,z2,z3,rfl,z5,z6⟩:=hq3;exact fin v _ _ _ g3 zw q z1 z2 z3 z6 (.inr ⟨x,z5,rfl⟩)
 ·have ret:∀s,(L9 s rs).1/\R (.ret (Yh (L9 s rs).2)) s.H s.n->Em n g H w fn.ntmps ⟨w.heap.size,[],true,0, #[]⟩ s a' w'->
    LeavesInM (FR none) 0 P fn a'.tmps (λe w'=>∃g' out H' n',R out H' n'/\Xl g' out e/\x7 g' H' n' w'/\n<=n'/\q9 n g H w g' H' w') a'.defers .returning w':=by
   rintro s ⟨q1,q2⟩ ⟨g',p1,p2,p3,p4,p5,ms,p6,p7,p8⟩;rw[p6,(p8 rfl).1];obtain⟨v,k1,k2⟩:=FM p1 p2 hr q1;exact⟨v,k1,g',_,_,_,q2,k2,p1,p4,p3⟩
  cases e with
  |normal=>exact absurd rfl s8
  |ret=>obtain⟨s,q,hs'⟩:=hq;exact ret s q hs'
  |exit i=>obtain⟨s,q,hs'⟩:=hq;exact q.elim
  |goto l=>exact hq
  |outgrown=>exact hq.elim
  |panic chain=>
   obtain⟨v,H',n',q,⟨g',x,p1,p2,p3,rfl,p5,ms,p6,p7,p8⟩⟩:=hq;show LeavesInM _ _ _ _ _ _ a'.defers _ _;rw[p6,(p8 rfl).1];exact⟨g',.xM v,H',n',q,⟨x,rfl,p5⟩,p1,p3,p2⟩
def sqH:Code->Code
 | .seq a _=>a
 |c=>c
def sqT:Code->Code
 | .seq _ b=>b
 |c=>c
def bu:Code->Array Oper
 | .region _ ops _=>ops
 |_=> #[]
def Wf(P:Program)(N:Nat)(ops:Array Oper):Option (xx×Option Nat×Nat):=match ops.toList with
 |[o0,o1]=>match o0.guard,o1.guard,BJ P false false 0 o0.op,o1.op,o1.dst with
  |none,none,some (.v k),.defer {callee:=.value (.tmp t),args,.. },none=>if args.toList.isEmpty&&o0.dst.all (λd=>decide (d<N))then some (k,o0.dst,t)else none
  |_,_,_,_,_=>none
 |_=>none
def kG(N:Nat)(ops:Array Oper):Option (Nat×Nat):=match ops.toList with
 |[o0,o1]=>match o0.guard,o1.guard,o0.op,o0.dst,o1.op,o1.dst with
  |none,none,.call {callee:=.builtin .recover,args,.. },some t4,.move (.tmp t),some t3=>if args.toList.isEmpty&&decide (t=t4)&&decide (t3<N)&&decide (t4<N)then some (t3,t4)else none
  |none,none,.call {callee:=.builtin .recover,args,.. },some t4,.assign (.tmp t),some t3=>if args.toList.isEmpty&&decide (t=t4)&&decide (t3<N)&&decide (t4<N)then some (t3,t4)else none
  |_,_,_,_,_,_=>none
 |_=>none
theorem Wg(h:ops.toList=[o0,o1]):ops.size=2/\ops[0]?=some o0/\ops[1]?=some o1:=by
 have:ops= #[o0,o1]:=by apply uv;simpa using h
 subst this;exact⟨rfl,rfl,rfl⟩
theorem Ut{rv:Fs}{Rc:AB->Nat->Prop}{t3 t4:Nat}
  (hf:P.funcs[y9]?=some fn) (hb:fn.body=some (.seq (.region id ops false) X)) (ho:kG fn.ntmps ops=some (t3,t4)) (hX:BQ P fn.ntmps fz im kp X=some y) (xg:y.plain=true) (hr:fn.results.toList.isEmpty=true)
  (h:IE P y (Dj [] λo H' n'=>o= .ret (.wJ [])/\Rc H' n') ⟨(t3,true,rv)::(t4,true,rv)::HD 0 args,H,n⟩):D8 P y9 args rv H n Rc:=by
 unfold kG at ho;split at ho
 ·rename_i o0 o1 hl;obtain⟨h1,h2,h3⟩:=Wg hl;split at ho
  ·rename_i q1 q2 q3 q4 q5 q6;split at ho
   ·rename_i hh;cases ho;simp only[sf,si]at hh;obtain⟨⟨⟨k1,k2⟩,k3⟩,k4⟩:=hh;subst k2;exact P3 (ty:=0) hf hb h1 h2 h3 q1 q2 q3 rfl q4 (.inl q5) q6 k3 k4 (by apply uv;simpa using k1) hX xg (by apply uv;simpa using hr) h
   ·cases ho
  ·rename_i q1 q2 q3 q4 q5 q6;split at ho
   ·rename_i hh;cases ho;simp only[sf,si]at hh;obtain⟨⟨⟨k1,k2⟩,k3⟩,k4⟩:=hh;subst k2;exact P3 (ty:=0) hf hb h1 h2 h3 q1 q2 q3 rfl q4 (.inr q5) q6 k3 k4 (by apply uv;simpa using k1) hX xg (by apply uv;simpa using hr) h
   ·cases ho
  ·cases ho
 ·cases ho
theorem Ot{f:Nat}{pre:List Code}{ys:List z8}{fzX:List (Nat×Nat)}{rs:List RC}{R:xw->AB->Nat->Prop}{d0:Option Nat}{k:xx}
  (hf:P.funcs[f]?=some fn) (hb:fn.body=some (We pre (.seq (.region id ops false) X))) (hname:(fn.name== "runtime.NumGoroutine")=false) (hpre:P4 P fn.ntmps fz im kp pre=some ys) (hppl:ys.all (·.plain)=true)
  (ho:Wf P fn.ntmps ops=some (k,d0,t)) (hX:BQ P fn.ntmps fzX im kp X=some y) (xg:y.plain=true) (hr:OY P fn.results.toList=some rs) (hcall:C3 P y9)
  (h:IE P (Ja ys) (TA P t ⟨d0,none,.v k⟩ y (dv fzX) y9 rs R) ⟨HD 0 args,H,n⟩):AX P f args H n R:=by
 unfold Wf at ho;split at ho
 ·rename_i o0 o1 hl;obtain⟨h1,h2,h3⟩:=Wg hl;split at ho
  ·rename_i q1 q2 q3 q4 q5;split at ho
   ·rename_i hh;cases ho;simp only[sf]at hh;exact Q4 hf hb hname hpre hppl h1 h2 h3 q1 q2 q3 hh.2 q4 rfl (by apply uv;simpa using hh.1) q5 hX xg hr hcall h
   ·cases ho
  ·cases ho
 ·cases ho
end
abbrev tm(i:Nat):zz:=.t i
abbrev ci(n:Int):zz:=.c (.int .i64 n)
abbrev cT:zz:=.c (.bool true)
abbrev cF:zz:=.c (.bool false)
abbrev z0:Fs:=.int .i64 0
abbrev zs:Fs:=.sl .nil []
abbrev zb:Fs:=.bool false
abbrev zr:Fs:=.str []
abbrev sq(a b:z8):z8:=.seq a b
abbrev rg(ops:List xq)(kp:List Nat):z8:=.reg 0 ops kp
abbrev ov(d:Nat)(k:xx):xq:=⟨some d,none,.v k⟩
abbrev om(d i:Nat):xq:=⟨some d,none,.v (.mv (.t i))⟩
abbrev oi(d:Nat)(n:Int):xq:=⟨some d,none,.v (.mv (.c (.int .i64 n)))⟩
abbrev ob(d:Nat)(b:Bool):xq:=⟨some d,none,.v (.mv (.c (.bool b)))⟩
abbrev ol(d i:Nat):xq:=⟨some d,none,.v (.ld 1 false (.t i))⟩
abbrev of(d k i:Nat):xq:=⟨some d,none,.v (.fa k (.t i))⟩
abbrev oa(d k i j:Nat):xq:=⟨some d,none,.v (.ia k (.t i) (.t j))⟩
abbrev ox(d k i:Nat):xq:=⟨some d,none,.v (.ext k (.t i))⟩
abbrev on(d i:Nat):xq:=⟨some d,none,.v (.len (.t i))⟩
abbrev ot(d i:Nat):xq:=⟨some d,none,.v (.not (.t i))⟩
abbrev oy(d i j:Nat):xq:=⟨some d,none,.pick (.t i) (.t j) (.c (.bool false))⟩
abbrev oz(d i j:Nat):xq:=⟨some d,none,.pick (.t i) (.c (.bool true)) (.t j)⟩
abbrev oc(d f:Nat)(xs:List zz):xq:=⟨some d,none,.call true (.c (.fn (.func f) [] [])) xs⟩
abbrev oe(d f:Nat)(xs:List zz):xq:=⟨some d,none,.call false (.c (.fn (.func f) [] [])) xs⟩
abbrev gv(d g:Nat)(b:Bool)(k:xx):xq:=⟨some d,some (g,b),.v k⟩
abbrev gm(d g:Nat)(b:Bool)(i:Nat):xq:=⟨some d,some (g,b),.v (.mv (.t i))⟩
abbrev gl(d g:Nat)(b:Bool)(i:Nat):xq:=⟨some d,some (g,b),.v (.ld 1 false (.t i))⟩
abbrev gf(d g:Nat)(b:Bool)(k i:Nat):xq:=⟨some d,some (g,b),.v (.fa k (.t i))⟩
abbrev ga(d g:Nat)(b:Bool)(k i j:Nat):xq:=⟨some d,some (g,b),.v (.ia k (.t i) (.t j))⟩
abbrev Tk(P:Program)(f:FuncId)(c:z8)(rs:List RC):Prop:=∀{args:List Fs} {H:AB} {n:Nat} {R:xw->AB->Nat->Prop},IE P c (Dj rs R) ⟨HD 0 args,H,n⟩->AX P f args H n R
def YI{P:Program}{f:FuncId}{fn:Func}{c:Code}{ac:z8}{fz im:List (Nat×Nat)}{rs:List RC}(kp:Nat->List Nat)
  (hf:P.funcs[f]?=some fn:=by kernel_rfl) (hb:fn.body=some c:=by kernel_rfl) (hname:(fn.name== "runtime.NumGoroutine")=false:=by kernel_rfl) (hc:BQ P fn.ntmps fz im kp c=some ac:=by kernel_rfl) (hr:OY P fn.results.toList=some rs:=by kernel_rfl):Tk P f ac rs:=
 λh=>Nx hf hb hname hc hr h
abbrev Kc(P:Program)(fn:Func)(fz im:List (Nat×Nat))(kl:List (List Nat)):={c:z8//BQ P fn.ntmps fz im (λr=>kl.getD r []) (fn.body.getD .skip)=some c}
def mkB{P:Program}{f:FuncId}{fn:Func}{fz im:List (Nat×Nat)}{kl:List (List Nat)}{c:Kc P fn fz im kl}{rs:List RC}(h:(P.funcs[f]?,fn.body.isSome,(fn.name== "runtime.NumGoroutine"),OY P fn.results.toList)=(some fn,true,false,some rs):=by kernel_rfl):Tk P f c.1 rs:=by
 simp only[Prod.mk.injEq]at h
 obtain⟨h1,h2,h3,h4⟩:=h
 obtain⟨b,hb⟩:=Option.isSome_iff_exists.1 h2
 obtain⟨c,hc⟩:=c
 rw[hb]at hc
 exact YI (fz:=fz) (im:=im) (λr=>kl.getD r []) h1 hb h3 hc h4
def mkL{P:Program}{f:FuncId}(fn:Func)(h:(P.funcs[f]?,fn.body.isNone,(fn.name== "runtime.NumGoroutine"))=(some fn,false,false):=by kernel_rfl):C3 P f:=by
 simp only[Prod.mk.injEq]at h
 exact⟨fn,h⟩
structure Kf(P:Program)(f:FuncId)(fn:Func)(fz im:List (Nat×Nat))(kl:List (List Nat))(rs:List RC) where
 c:Kc P fn fz im kl:=by constructor;conv=>lhs;reduce;simp only[seval]
 h:(P.funcs[f]?,fn.body.isSome,(fn.name== "runtime.NumGoroutine"),OY P fn.results.toList)=(some fn,true,false,some rs):=by kernel_rfl
abbrev Kg(P:Program)(f:FuncId)(fn:Func)(kl:List (List Nat))(rs:List RC):=Kf P f fn [] [] kl rs
section
variable {P:Program} {f:FuncId} {fn:Func} {fz im:List (Nat×Nat)} {kl:List (List Nat)} {rs:List RC}
instance :CoeOut (Kf P f fn fz im kl rs) z8:=⟨λk=>k.c.1⟩
theorem Kf.a(k:Kf P f fn fz im kl rs):Tk P f k.c.1 rs:=mkB k.h
theorem Kf.l(k:Kf P f fn fz im kl rs):C3 P f:=mkL fn (by
 have h:=k.h
 simp only[Prod.mk.injEq]at h⊢
 obtain⟨h1,h2,h3,h4⟩:=h
 exact⟨h1,by cases hb:fn.body<;>simp_all,h3⟩)
end
def kI(n:Nat)(h:n<256):UInt8.ofBitVec (BitVec.ofFin ⟨n,h⟩)=UInt8.ofNat n:=by
 apply UInt8.toNat_inj.1
 show n=(UInt8.ofNat n).toNat
 rw[UInt8.toNat_ofNat',Nat.mod_eq_of_lt h]
section
abbrev Bg:=FuncId->List Fs->AB->Prop×Fs
def AH(P:Program)(T:Bg):Prop:=∀f args H n,(T f args H).1->Ao P f args H n (T f args H).2
def Ge(T:Bg)(args:List Fs)(H:AB):Fs->Prop×Fs
 | .fn (.func f) first cap=>T f (first++args++cap) H
 |_=>(False,.wJ [])
def Ou(T:Bg)(args:List Fs):Fs->Prop×Fs
 | .fn (.func f) first cap=>((T f (first++args++cap) Ak).1/\wN 0 (first++args++cap)/\(T f (first++args++cap) Ak).2.under 0,(T f (first++args++cap) Ak).2)
 |_=>(False,.wJ [])
section
variable (P:Program) (T:Bg) (Qp:Fs->AB->Nat->Prop) (base:Nat)
def Be(o:xq)(K:AS->Prop)(s:AS):Prop:=match o.k with
 | .call true f args=>GS s.env o.guard/\(Bl s.env o.guard=true->(lk s.env f).1=true/\C2 s.env args/\(Ge T (args.map (AY s.env)) s.H (AY s.env f)).1)/\
   K (s.put o.dst (Bl s.env o.guard) (Ge T (args.map (AY s.env)) s.H (AY s.env f)).2)
 | .cpu f args=>GS s.env o.guard/\(Bl s.env o.guard=true->((lk s.env f).1=true/\C2 s.env args/\(Ou T (args.map (AY s.env)) (AY s.env f)).1)/\K (s.put o.dst true (Ou T (args.map (AY s.env)) (AY s.env f)).2))/\
   (Bl s.env o.guard=false->K (s.put o.dst false (.wJ [])))
 |_=>Af P Qp base o K s
def E5:List xq->(AS->Prop)->AS->Prop
 |[],K,s=>K s
 |o::r,K,s=>Be P T Qp base o (E5 r K) s
def DV(cx:Nat->Fs):List (Nat×xq)->(AS->Prop)->AS->Prop
 |[],K,s=>K s
 |o::r,K,s=>(Bl s.env o.2.guard=true->Bp base cx (AY s.env) o.1 o.2.k)/\Be P T Qp base o.2 (λs'=>Fo cx o.1 o.2.k s.H s'.H/\DV cx r K s') s
end
def ev(P:Program)(T:Bg):z8->(x6->AS->Prop)->AS->Prop
 | .skip,Q,s=>Q .normal s
 | .reg yL ops keep,Q,s=>E5 P T (λv H n=>Q (.xM v) ⟨[],H,n⟩) s.n ops (λs'=>Q .normal (s'.keep keep)) {s with n:=s.n+yL}
 | .seq a b,Q,s=>ev P T a (λe s'=>match e with
  | .normal=>ev P T b Q s'
  |e=>Q e s') s
 | .cond c a b,Q,s=>(lk s.env c).1=true/\J4 (AY s.env c)/\(Fm (AY s.env c)=true->ev P T a Q s)/\(Fm (AY s.env c)=false->ev P T b Q s)
 | .block id c,Q,s=>ev P T c (λe s'=>match e with
  | .exit i=>if i=id then Q .normal s' else Q (.exit i) s'
  |e=>Q e s') s
 | .loop c,Q,s=>∃(I:AS->Prop) (μ:AS->Nat),I s/\∀s1,I s1->ev P T c (λe s'=>match e with
  | .normal=>∃s2,K0 s1 s' s2/\I s2/\μ s2<μ s1
  |e=>Q e s') s1
 | .exit id,Q,s=>Q (.exit id) s
 | .ret,Q,s=>Q .ret s
 | .rfun g ps nt asg body,Q,s=>(lk s.env g).1=true/\GE P s Q ps nt asg body (AY s.env g)
 | .frz t,Q,s=>I7 Q s t (BI s.env t)
 | .frzo t,Q,s=>Ga Q s t (BI s.env t)
 | .regx yL ops keep,Q,s=>DV P T (λv H n=>Q (.xM v) ⟨[],H,n⟩) s.n (UO s.env s.n) ops (λs'=>Q .normal (s'.keep keep)) {s with n:=s.n+yL}
section
variable {P:Program} {T:Bg} (hT:AH P T) {Qp:Fs->AB->Nat->Prop} {base:Nat}
include hT
variable {K K':AS->Prop}
theorem MB{o:xq}{s:AS}(hK:∀s,K s->K' s)(h:Be P T Qp base o K s):Af P Qp base o K' s:=by
 obtain⟨d,g,k⟩:=o;unfold Be at h;split at h
 ·rename_i f args hk;simp only at hk h;subst hk;obtain⟨h0,h1,h2⟩:=h;refine⟨h0,_,λq=>?_,hK _ h2⟩;obtain⟨p1,p2,p3⟩:=h1 q;refine⟨p1,p2,?_⟩;generalize AY s.env f=fv at p3⊢;unfold Ge at p3⊢;split at p3
  ·exact hT _ _ _ _ p3
  ·exact p3.elim
 ·rename_i f args hk;simp only at hk h;subst hk;obtain⟨h0,h1,h2⟩:=h;refine⟨h0,λq=>?_,λq=>hK _ (h2 q)⟩;obtain⟨⟨p1,p2,p3⟩,p4⟩:=h1 q;refine⟨⟨p1,p2⟩,?_⟩;simp only[BS];generalize AY s.env f=fv at p3 p4⊢;unfold Ou at p3 p4;split at p3
  ·rename_i y9 first cap
   obtain⟨k1,k2,k3⟩:=p3;have hq:=hT _ _ Ak 0 k1;exact⟨_,⟨k2,k3,hq.mono λout H' n' hh=>⟨_,hh.1,Wk.refl _⟩⟩,hK _ p4⟩
  ·exact p3.elim
 ·exact Gc hK h
theorem Nz(hK:∀s,K s->K' s):∀(l:List xq) (s:AS),E5 P T Qp base l K s->D4 P Qp base l K' s
 |[],s,h=>hK s h
 |o::r,s,h=>MB hT (Nz hK r) h
theorem MC{cx:Nat->Fs}(hK:∀s,K s->K' s):∀(l:List (Nat×xq)) (s:AS),DV P T Qp base cx l K s->JT P Qp base cx l K' s
 |[],s,h=>hK s h
 |o::r,s,h=>⟨h.1,MB hT (λs' k=>⟨k.1,MC hK r s' k.2⟩) h.2⟩
end
variable {c:z8} {Q:x6->AS->Prop} {H' H:AB} {s:AS} {K K':AS->Prop} {v r:Fs} {Qp Qp':Fs->AB->Nat->Prop} {f:FuncId} {l a:List Fs} {id base esz bytes n:Nat} {P:Program} {α:Type}
theorem N0{Q':x6->AS->Prop}(hQ:∀e s,Q e s->Q' e s){out:xw}{n':Nat}(h:GD Q s id out H' n'):GD Q' s id out H' n':=by
 cases out with
 |xM v=>exact hQ _ _ h
 |ret v=>grind [GD]
theorem LD{o:xq}(hQ:∀v H n,Qp v H n->Qp' v H n)(hK:∀s,K s->K' s)(h:Af P Qp base o K s):Af P Qp' base o K' s:=by
 have h':=Gc hK h;obtain⟨d,g,k⟩:=o;refine⟨h'.1,?_⟩;have h2:=h'.2;cases k with
 |call q f args=>
  cases q with
  |true=>exact h2
  |false=>
   refine⟨λq=>⟨(h2.1 q).1,?_⟩,h2.2⟩;have h3:=(h2.1 q).2;simp only[BS]at h3⊢;generalize AY s.env f=v at h3⊢;cases v<;>(try simp only at h3⊢)<;>first|exact h3.elim|skip
   rename_i ff first cap
   cases ff with
   |func f=>
    refine AX.mono (R:=λout H' n'=>match out with
     | .ret v=>K' ({s with H:=H',n:=n'}.put d true v)
     | .xM v=>Qp v H' n') h3 λo H' n' hh=>?_
    cases o with
    |ret v=>exact hh
    |xM v=>exact hQ _ _ _ hh
   |yield l=>cases first with
    |cons _ _=>exact h3.elim
    |nil=>cases cap with
     |cons _ _=>exact h3.elim
     |nil=>exact h3
   |_=>exact h3.elim
 |xM x=>exact⟨λq=>⟨(h2.1 q).1,(h2.1 q).2.1,hQ _ _ _ (h2.1 q).2.2⟩,h2.2⟩
 |_=>exact h2
theorem P5(hQ:∀v H n,Qp v H n->Qp' v H n):∀(l:List xq) (s:AS),D4 P Qp base l K s->D4 P Qp' base l K s
 |[],s,h=>h
 |o::r,s,h=>LD hQ (P5 hQ r) h
theorem Wh{cx:Nat->Fs}(hQ:∀v H n,Qp v H n->Qp' v H n):∀(l:List (Nat×xq)) (s:AS),JT P Qp base cx l K s->JT P Qp' base cx l K s
 |[],s,h=>h
 |o::r,s,h=>⟨h.1,LD hQ (λs' k=>⟨k.1,Wh hQ r s' k.2⟩) h.2⟩
theorem GJ{T:Bg}(hT:AH P T):∀(c:z8) (Q Q':x6->AS->Prop) (s:AS),(∀e s,Q e s->Q' e s)->ev P T c Q s->IE P c Q' s
 | .skip,Q,Q',s,hQ,h=>hQ _ _ h
 | .exit _,Q,Q',s,hQ,h=>hQ _ _ h
 | .ret,Q,Q',s,hQ,h=>hQ _ _ h
 | .reg yL ops keep,Q,Q',s,hQ,h=>by
  have h1:=Nz (Qp:=λv H n=>Q (.xM v) ⟨[],H,n⟩) hT (K':=λs'=>Q' .normal (s'.keep keep)) (λs h=>hQ _ _ h) ops _ h;exact P5 (λv H n=>hQ _ _) ops _ h1
 | .regx yL ops keep,Q,Q',s,hQ,h=>by
  have h1:=MC (Qp:=λv H n=>Q (.xM v) ⟨[],H,n⟩) hT (K':=λs'=>Q' .normal (s'.keep keep)) (λs h=>hQ _ _ h) ops _ h;exact Wh (λv H n=>hQ _ _) ops _ h1
 | .seq a b,Q,Q',s,hQ,h=>GJ hT a _ _ s (λe s h=>by
   cases e with
   |normal=>exact GJ hT b _ _ s hQ h
   |_=>exact hQ _ _ h) h
 | .cond c a b,Q,Q',s,hQ,h=>⟨h.1,h.2.1,λq=>GJ hT a _ _ s hQ (h.2.2.1 q),λq=>GJ hT b _ _ s hQ (h.2.2.2 q)⟩
 | .block id c,Q,Q',s,hQ,h=>GJ hT c _ _ s (λe s h=>by
   cases e with
   |exit i=>grind
   |_=>exact hQ _ _ h) h
 | .loop c,Q,Q',s,hQ,⟨I,μ,h1,h2⟩=>⟨I,μ,h1,λs1 i1=>GJ hT c _ _ s1 (λe s h=>by
   cases e with
   |normal=>exact h
   |_=>exact hQ _ _ h) (h2 s1 i1)⟩
 | .rfun g ps nt asg body,Q,Q',s,hQ,h=>by
  refine⟨h.1,?_⟩;have h2:=h.2;generalize AY s.env g=v at h2⊢;cases v<;>simp only[GE]at h2⊢ <;>first|exact h2.elim|skip
  rename_i f first cap
  cases f<;>simp only at h2⊢ <;>first|exact h2.elim|skip
  exact λl=>(h2 l).mono λo H' n' q=>N0 hQ q
 | .frz t,Q,Q',s,hQ,h=>by
  have h2:I7 Q s t (BI s.env t):=h;show I7 Q' s t (BI s.env t);unfold I7 at h2⊢;split at h2
  ·grind
  ·exact h2.elim
 | .frzo t,Q,Q',s,hQ,h=>by
  have h2:Ga Q s t (BI s.env t):=h;show Ga Q' s t (BI s.env t);unfold Ga at h2⊢;split at h2
  ·grind
  ·exact hQ _ _ h2
  ·exact h2.elim
theorem N2{T:Bg}{o:xq}(hQ:∀v H n,Qp v H n->Qp' v H n)(hK:∀s,K s->K' s)(h:Be P T Qp base o K s):Be P T Qp' base o K' s:=by
 obtain⟨d,g,k⟩:=o;unfold Be at h⊢;split at h
 ·exact⟨h.1,h.2.1,hK _ h.2.2⟩
 ·simp_all
 ·exact LD hQ hK h
theorem P6{T:Bg}(hQ:∀v H n,Qp v H n->Qp' v H n)(hK:∀s,K s->K' s):∀(l:List xq) (s:AS),E5 P T Qp base l K s->E5 P T Qp' base l K' s
 |[],s,h=>hK s h
 |o::r,s,h=>N2 hQ (P6 hQ hK r) h
theorem N4{T:Bg}{cx:Nat->Fs}(hQ:∀v H n,Qp v H n->Qp' v H n)(hK:∀s,K s->K' s):∀(l:List (Nat×xq)) (s:AS),DV P T Qp base cx l K s->DV P T Qp' base cx l K' s
 |[],s,h=>hK s h
 |o::r,s,h=>⟨h.1,N2 hQ (λs' k=>⟨k.1,N4 hQ hK r s' k.2⟩) h.2⟩
theorem Fx{T:Bg}:∀(c:z8) (Q Q':x6->AS->Prop) (s:AS),(∀e s,Q e s->Q' e s)->ev P T c Q s->ev P T c Q' s
 | .skip,Q,Q',s,hQ,h=>hQ _ _ h
 | .exit _,Q,Q',s,hQ,h=>hQ _ _ h
 | .ret,Q,Q',s,hQ,h=>hQ _ _ h
 | .reg yL ops keep,Q,Q',s,hQ,h=>P6 (λv H n=>hQ _ _) (λs=>hQ _ _) ops _ h
 | .regx yL ops keep,Q,Q',s,hQ,h=>N4 (λv H n=>hQ _ _) (λs=>hQ _ _) ops _ h
 | .seq a b,Q,Q',s,hQ,h=>Fx a _ _ s (λe s h=>by
   cases e with
   |normal=>exact Fx b _ _ s hQ h
   |_=>exact hQ _ _ h) h
 | .cond c a b,Q,Q',s,hQ,h=>⟨h.1,h.2.1,λq=>Fx a _ _ s hQ (h.2.2.1 q),λq=>Fx b _ _ s hQ (h.2.2.2 q)⟩
 | .block id c,Q,Q',s,hQ,h=>Fx c _ _ s (λe s h=>by
   cases e with
   |exit i=>grind
   |_=>exact hQ _ _ h) h
 | .loop c,Q,Q',s,hQ,⟨I,μ,h1,h2⟩=>⟨I,μ,h1,λs1 i1=>Fx c _ _ s1 (λe s h=>by
   cases e with
   |normal=>exact h
   |_=>exact hQ _ _ h) (h2 s1 i1)⟩
 | .rfun g ps nt asg body,Q,Q',s,hQ,h=>by
  refine⟨h.1,?_⟩;have h2:=h.2;generalize AY s.env g=v at h2⊢;cases v<;>simp only[GE]at h2⊢ <;>first|exact h2.elim|skip
  rename_i f first cap
  cases f<;>simp only at h2⊢ <;>first|exact h2.elim|skip
  exact λl=>(h2 l).mono λo H' n' q=>N0 hQ q
 | .frz t,Q,Q',s,hQ,h=>by
  have h2:I7 Q s t (BI s.env t):=h;show I7 Q' s t (BI s.env t);unfold I7 at h2⊢;split at h2
  ·grind
  ·exact h2.elim
 | .frzo t,Q,Q',s,hQ,h=>by
  have h2:Ga Q s t (BI s.env t):=h;show Ga Q' s t (BI s.env t);unfold Ga at h2⊢;split at h2
  ·grind
  ·exact hQ _ _ h2
  ·exact h2.elim
theorem AI{T:Bg}(hT:AH P T)(h:ev P T c Q s):IE P c Q s:=GJ hT c Q Q s (λ_ _ h=>h) h
inductive Item where
 |c (c:z8)
 |wR (id:Nat)
section
variable (P:Program) (T:Bg)
def Cj(Q:x6->AS->Prop):List Item->x6->AS->Prop
 |[],e,s=>Q e s
 | .c c::k,e,s=>match e with
  | .normal=>ev P T c (Cj Q k) s
  |e=>Cj Q k e s
 | .wR id::k,e,s=>match e with
  | .exit i=>if i=id then Cj Q k .normal s else Cj Q k (.exit i) s
  |e=>Cj Q k e s
def Gw(c:z8)(k:List Item)(Q:x6->AS->Prop)(s:AS):Prop:=ev P T c (Cj P T Q k) s
def BV(b:Nat)(ops:List xq)(kp:List Nat)(k:List Item)(Q:x6->AS->Prop)(s:AS):Prop:=
 E5 P T (λv H n=>Cj P T Q k (.xM v) ⟨[],H,n⟩) b ops (λs'=>Cj P T Q k .normal (s'.keep kp)) s
def A8(b:Nat)(cx:Nat->Fs)(ops:List (Nat×xq))(kp:List Nat)(k:List Item)(Q:x6->AS->Prop)(s:AS):Prop:=
 DV P T (λv H n=>Cj P T Q k (.xM v) ⟨[],H,n⟩) b cx ops (λs'=>Cj P T Q k .normal (s'.keep kp)) s
def BL(b:Nat)(d:Option Nat)(r:List xq)(kp:List Nat)(k:List Item)(Q:x6->AS->Prop)(s:AS):xw->AB->Nat->Prop
 | .ret v,H',n'=>BV P T b r kp k Q ({s with H:=H',n:=n'}.put d true v)
 | .xM v,H',n'=>Cj P T Q k (.xM v) ⟨[],H',n'⟩
def FX(b:Nat)(cx:Nat->Fs)(m:Nat)(d:Option Nat)(r:List (Nat×xq))(kp:List Nat)(k:List Item)(Q:x6->AS->Prop)(s:AS):xw->AB->Nat->Prop
 | .ret v,H',n'=>IR (cx ((m-300000)/2)) s.H H'/\A8 P T b cx r kp k Q ({s with H:=H',n:=n'}.put d true v)
 | .xM v,H',n'=>Cj P T Q k (.xM v) ⟨[],H',n'⟩
def Ov(b:Nat)(d:Option Nat)(r:List xq)(kp:List Nat)(k:List Item)(Q:x6->AS->Prop)(s:AS)(x:Bool)(H':AB)(n':Nat):Prop:=BV P T b r kp k Q ({s with H:=H',n:=n'}.put d true (.bool x))
def kJ(b:Nat)(cx:Nat->Fs)(m:Nat)(d:Option Nat)(r:List (Nat×xq))(kp:List Nat)(k:List Item)(Q:x6->AS->Prop)(s:AS)(x:Bool)(H':AB)(n':Nat):Prop:=IR (cx ((m-300000)/2)) s.H H'/\A8 P T b cx r kp k Q ({s with H:=H',n:=n'}.put d true (.bool x))
end
def MD(P:Program)(args:List Fs)(H:AB)(n:Nat)(R:xw->AB->Nat->Prop)(Y:Bool->AB->Nat->Prop):Fs->Prop
 | .fn (.func f) first cap=>AX P f (first++args++cap) H n R
 | .fn (.yield l) [] []=>CY P l args H n Y
 |_=>False
def Q5(H:AB)(sz:Nat)(v:Fs):Fs->Prop×AB
 | .ptr id off=>match AD H id with
  |some (.box cs)=>(off+sz<=cs.length,wB H id (.box (wZ cs off v.cells)))
  |_=>(False,H)
 | .ap id esz i off=>match AD H id with
  |some (.arr e l)=>(e=esz/\i<l.length/\(Di (l[i]?.getD (.wJ [])) off sz esz v).1,wB H id (.arr e (l.set i (Di (l[i]?.getD (.wJ [])) off sz esz v).2)))
  |_=>(False,H)
 |_=>(False,H)
theorem N5{sz:Nat}{a:Fs}{K:AB->Prop}:Ok H sz v K a=((Q5 H sz v a).1/\K (Q5 H sz v a).2):=by
 cases a<;>simp only[Ok,Q5,false_and]
 ·grind
 ·grind
def Ib(H:AB)(id esz bytes:Nat):Fs->Option (List Fs)->Prop×AB×Fs
 | .sl tok l,some l'=>(AD H id=none/\BB H esz tok/\Al (l.length+l'.length) bytes/\l.length+l'.length<=35184372088832/\0<esz,wB (AU H tok) id .tok,.sl (.own id esz) (l++l'))
 |_,_=>(False,H,.wJ [])
theorem Q6{K:AB->Fs->Prop}{x:Option (List Fs)}:Na H id esz bytes K v x=((Ib H id esz bytes v x).1/\K (Ib H id esz bytes v x).2.1 (Ib H id esz bytes v x).2.2):=by
 cases v<;>cases x<;>simp [Na,Ib,ux]
def Jb(H:AB)(n:Nat)(lo hi:Int):Fs->Prop×AB×Fs
 | .ptr id 0=>match AD H id with
  |some (.box cs)=>(cs.length=n/\0<=lo/\lo<=hi/\hi<=n/\lo<n,wB H id (.arr 1 cs),.ref id 1 lo.toNat (hi.toNat-lo.toNat) (n-lo.toNat))
  |some (.arr e cs)=>(e=1/\cs.length=n/\0<=lo/\lo<=hi/\hi<=n/\lo<n,H,.ref id 1 lo.toNat (hi.toNat-lo.toNat) (n-lo.toNat))
  |_=>(False,H,.wJ [])
 |_=>(False,H,.wJ [])
theorem Wi{lo hi:Int}{K:AB->Fs->Prop}:IQ H n lo hi K v=((Jb H n lo hi v).1/\K (Jb H n lo hi v).2.1 (Jb H n lo hi v).2.2):=by
 cases v<;>simp only[IQ,Jb,false_and];rename_i id off;cases off with
 |succ o=>simp
 |zero=>grind
def Uu(H:AB)(id esz bytes:Nat)(zero:Fs)(v:Fs):Prop×AB×Fs:=
 (AD H id=none/\C4 v/\0<=A9 v/\Al (A9 v).toNat bytes/\A9 v<=35184372088832/\zero.cells.length=esz,wB H id (.arr esz (List.replicate (A9 v).toNat zero)),.ref id esz 0 (A9 v).toNat (A9 v).toNat)
def LE(s:AS)(t:Nat):Prop×AS:=match BI s.env t with
 |some (true,.ref id e off len cap)=>match AD s.H id with
  |some (.arr e' l)=>(e'=e/\off+len<=l.length/\len<=cap,{s with env:=(t,true,.sl (if len=cap then .exact e else .none e) ((l.drop off).take len))::s.env,H:=wB s.H id (.frz e l)})
  |some (.frz e' l)=>(e'=e/\off+len<=l.length/\len<=cap,{s with env:=(t,true,.sl (if len=cap then .exact e else .none e) ((l.drop off).take len))::s.env})
  |_=>(False,s)
 |_=>(False,s)
theorem Wj{t:Nat}:I7 Q s t (BI s.env t)=((LE s t).1/\Q .normal (LE s t).2):=by
 unfold LE;cases BI s.env t with
 |none=>simp [I7]
 |some gv=>
  obtain⟨g,v⟩:=gv;cases g<;>cases v<;>simp only[I7,false_and];rename_i id e off len cap;cases AD s.H id with
  |none=>simp
  |some ob=>cases ob<;>simp [ux]
def Hw(s:AS)(t:Nat):Prop×AS:=match BI s.env t with
 |some (true,.ref id e off len cap)=>match AD s.H id with
  |some (.arr e' l)=>(e'=e/\off=0/\l.length=cap/\len<=cap,{env:=(t,true,.sl (.own s.n e) (l.take len))::s.env,H:=wB (wB s.H id .dead) s.n .tok,n:=s.n+1})
  |_=>(False,s)
 |some (true,.sl tok l)=>(True,{s with env:=(t,true,.sl tok l)::s.env})
 |_=>(False,s)
theorem TB{t:Nat}:Ga Q s t (BI s.env t)=((Hw s t).1/\Q .normal (Hw s t).2):=by
 unfold Hw;cases BI s.env t with
 |none=>simp [Ga]
 |some gv=>
  obtain⟨g,v⟩:=gv;cases g<;>cases v<;>simp only[Ga,false_and,uf];rename_i id e off len cap;cases AD s.H id with
  |none=>simp
  |some ob=>cases ob<;>simp [ux]
def JJ(H:AB)(id esz bytes:Nat)(zero:Fs)(K:AB->Fs->Prop)(v:Fs)(x:Option (List Fs)):Prop:=Fe H id esz bytes zero K v x
theorem DW{zero:Fs}{K:AB->Fs->Prop}{tok:v8}{l':List Fs}:JJ H id esz bytes zero K (.sl tok l) (some l')=
  (AD H id=none/\0<esz/\zero.cells.length=esz/\(tok= .nil\/tok= .exact esz)/\Al (l.length+l'.length) bytes/\l.length+l'.length<=35184372088832/\
   (l'=[]->K H (.sl tok l))/\
   (l'≠[]->∀cap,l.length+l'.length<=cap->K (wB H id (.arr esz (l++l'++List.replicate (cap-(l.length+l'.length)) zero))) (.ref id esz 0 (l.length+l'.length) cap))):=rfl
theorem LG{zero:Fs}{K:AB->Fs->Prop}{i0 e off len cap e':Nat}{l':List Fs}(h:AD H i0=some (.arr e' l)):JJ H id esz bytes zero K (.ref i0 e off len cap) (some l')=
  (AD H id=none/\0<esz/\zero.cells.length=esz/\e=esz/\off=0/\Al (len+l'.length) bytes/\len+l'.length<=35184372088832/\e'=esz/\l.length=cap/\len<=cap/\
     (len+l'.length<=cap->K (wB H i0 (.arr esz (l.take len++l'++l.drop (len+l'.length)))) (.ref i0 esz 0 (len+l'.length) cap))/\
     (cap<len+l'.length->∀yK,len+l'.length<=yK->K (wB H id (.arr esz (l.take len++l'++List.replicate (yK-(len+l'.length)) zero))) (.ref id esz 0 (len+l'.length) yK))):=by
 simp only[JJ,Fe,h]
section
variable {P:Program} {T:Bg} {Q:x6->AS->Prop} {k:List Item} {s:AS} {b:Nat} {cx:Nat->Fs} {kp:List Nat} {r:List xq} {rx:List (Nat×xq)}
variable {c:z8} {H:AB} {v z:Fs} {w str ag:Bool} {xs:List zz} {i id t m rel esz bytes sz:Nat} {x f y a:zz} {o:xx} {d:Option Nat}
theorem AJ(h:Gw P T c [] Q s):ev P T c Q s:=by
 have:Cj P T Q []=Q:=by funext e s;rfl
 unfold Gw at h;rwa[this]at h
theorem TC{e:x6}:Cj P T Q [] e s=Q e s:=rfl
theorem GK{c:z8}:Cj P T Q (.c c::k) .normal s=Gw P T c k Q s:=rfl
theorem oY{c:z8}{i:Nat}:Cj P T Q (.c c::k) (.exit i) s=Cj P T Q k (.exit i) s:=rfl
theorem oZ{c:z8}:Cj P T Q (.c c::k) .ret s=Cj P T Q k .ret s:=rfl
theorem od{c:z8}{v:Fs}:Cj P T Q (.c c::k) (.xM v) s=Cj P T Q k (.xM v) s:=rfl
theorem gK{i:Nat}:Cj P T Q (.wR i::k) .normal s=Cj P T Q k .normal s:=rfl
theorem gL{id i:Nat}:Cj P T Q (.wR id::k) (.exit i) s=if i=id then Cj P T Q k .normal s else Cj P T Q k (.exit i) s:=rfl
theorem gM{i:Nat}:Cj P T Q (.wR i::k) .ret s=Cj P T Q k .ret s:=rfl
theorem gN{i:Nat}{v:Fs}:Cj P T Q (.wR i::k) (.xM v) s=Cj P T Q k (.xM v) s:=rfl
theorem og:Gw P T .skip k Q s=Cj P T Q k .normal s:=rfl
theorem oh{i:Nat}:Gw P T (.exit i) k Q s=Cj P T Q k (.exit i) s:=rfl
theorem k_ret:Gw P T .ret k Q s=Cj P T Q k .ret s:=rfl
theorem k_seq{x y:z8}:Gw P T (.seq x y) k Q s=Gw P T x (.c y::k) Q s:=by
 unfold Gw;simp only[ev];exact congrArg (λq=>ev P T x q s) (by funext e s';cases e<;>rfl)
theorem gO{i:Nat}{x:z8}:Gw P T (.block i x) k Q s=Gw P T x (.wR i::k) Q s:=by
 unfold Gw;simp only[ev];exact congrArg (λq=>ev P T x q s) (by funext e s';cases e<;>rfl)
theorem Ic{c:zz}{x y:z8}:Gw P T (.cond c x y) k Q s=((lk s.env c).1=true/\J4 (AY s.env c)/\(Fm (AY s.env c)=true->Gw P T x k Q s)/\(Fm (AY s.env c)=false->Gw P T y k Q s)):=rfl
theorem k_reg{yL:Nat}{ops:List xq}{kp:List Nat}:Gw P T (.reg yL ops kp) k Q s=BV P T s.n ops kp k Q {s with n:=s.n+yL}:=rfl
theorem oo{yL:Nat}{ops:List (Nat×xq)}{kp:List Nat}:Gw P T (.regx yL ops kp) k Q s=A8 P T s.n (UO s.env s.n) ops kp k Q {s with n:=s.n+yL}:=rfl
theorem oq{g:zz}{ps:Array Tmp}{nt:Nat}{x y:Code}:Gw P T (.rfun g ps nt x y) k Q s=((lk s.env g).1=true/\GE P s (Cj P T Q k) ps nt x y (AY s.env g)):=rfl
theorem k_frz{t:Nat}:Gw P T (.frz t) k Q s=((LE s t).1/\Cj P T Q k .normal (LE s t).2):=Wj
theorem ou{t:Nat}:Gw P T (.frzo t) k Q s=((Hw s t).1/\Cj P T Q k .normal (Hw s t).2):=TB
theorem r_ext{d:Option Nat}{x:XOp}{xs:List zz}:BV P T b (⟨d,none,.ext x xs⟩::r) kp k Q s=(C2 s.env xs/\(xE b x s.H (xs.map (AY s.env))).1/\BV P T b r kp k Q ({s with H:=(xE b x s.H (xs.map (AY s.env))).2.1}.put d true (xE b x s.H (xs.map (AY s.env))).2.2)):=by
 simp only[BV,E5,Be];exact SX
def gP(P:Program)(T:Bg)(b:Nat)(d:Option Nat)(x:XOp)(xs:List zz)(r:List xq)(kp:List Nat)(k:List Item)(Q:x6->AS->Prop)(s:AS):Bool->Prop
 |true=>C2 s.env xs/\(xE b x s.H (xs.map (AY s.env))).1/\BV P T b r kp k Q ({s with H:=(xE b x s.H (xs.map (AY s.env))).2.1}.put d true (xE b x s.H (xs.map (AY s.env))).2.2)
 |false=>BV P T b r kp k Q (s.put d false (.wJ []))
theorem o6{d:Option Nat}{t:Nat}{w:Bool}{x:XOp}{xs:List zz}:BV P T b (⟨d,some (t,w),.ext x xs⟩::r) kp k Q s=(GS s.env (some (t,w))/\gP P T b d x xs r kp k Q s (Bl s.env (some (t,w)))):=by
 simp only[BV,E5,Be,Af,BS,Io.wH];cases Bl s.env (some (t,w))<;>simp [gP,BV]
theorem o7{d:Option Nat}{x:XOp}{xs:List zz}:gP P T b d x xs r kp k Q s true=(C2 s.env xs/\(xE b x s.H (xs.map (AY s.env))).1/\BV P T b r kp k Q ({s with H:=(xE b x s.H (xs.map (AY s.env))).2.1}.put d true (xE b x s.H (xs.map (AY s.env))).2.2)):=rfl
theorem o8{d:Option Nat}{x:XOp}{xs:List zz}:gP P T b d x xs r kp k Q s false=BV P T b r kp k Q (s.put d false (.wJ [])):=rfl
def Fg(P:Program)(T:Bg)(b:Nat)(d:Option Nat)(r:List xq)(kp:List Nat)(k:List Item)(Q:x6->AS->Prop)(s:AS)(H':AB)(v:Fs):Prop:=BV P T b r kp k Q ({s with H:=H'}.put d true v)
theorem r_cpu{d:Option Nat}{f:zz}{xs:List zz}:BV P T b (⟨d,none,.cpu f xs⟩::r) kp k Q s=((lk s.env f).1=true/\C2 s.env xs/\(Ou T (xs.map (AY s.env)) (AY s.env f)).1/\BV P T b r kp k Q (s.put d true (Ou T (xs.map (AY s.env)) (AY s.env f)).2)):=by
 simp only[BV,E5,Be,GS,Bl,uf,tX,seval,uq,uJ,ux]
def N6(P:Program)(T:Bg)(b:Nat)(d:Option Nat)(r:List xq)(kp:List Nat)(k:List Item)(Q:x6->AS->Prop)(s:AS)(neq:Bool):Fs->Prop
 | .sl .nil []=>BV P T b r kp k Q (s.put d true (.bool (!neq)))
 | .sl (.none _) []=>BV P T b r kp k Q (s.put d true (.bool neq))/\BV P T b r kp k Q (s.put d true (.bool (!neq)))
 | .sl (.exact _) []=>BV P T b r kp k Q (s.put d true (.bool neq))/\BV P T b r kp k Q (s.put d true (.bool (!neq)))
 | .sl (.own _ _) []=>BV P T b r kp k Q (s.put d true (.bool neq))/\BV P T b r kp k Q (s.put d true (.bool (!neq)))
 | .sl _ (_::_)=>BV P T b r kp k Q (s.put d true (.bool neq))
 | .ref _ _ _ _ _=>BV P T b r kp k Q (s.put d true (.bool neq))
 |_=>False
theorem o9{d:Option Nat}{neq:Bool}{x:zz}:BV P T b (⟨d,none,.nils neq x⟩::r) kp k Q s=((lk s.env x).1=true/\N6 P T b d r kp k Q s neq (AY s.env x)):=by
 simp only[BV,E5,Be];rw[Xr];congr 1;cases AY s.env x<;>try rfl
 rename_i tok l;cases tok<;>cases l<;>rfl
def pA(P:Program)(T:Bg)(b:Nat)(d:Option Nat)(r:List xq)(kp:List Nat)(k:List Item)(Q:x6->AS->Prop)(s:AS):Fs->Prop:=JF s.H λH' v=>BV P T b r kp k Q ({s with H:=H'}.put d true v)
theorem r_mnx{d:Option Nat}{x:zz}:BV P T b (⟨d,none,.mnx x⟩::r) kp k Q s=((lk s.env x).1=true/\pA P T b d r kp k Q s (AY s.env x)):=by
 simp only[BV,E5,Be];exact bI
theorem gQ{c yu last:Nat}{seen:List Nat}{es:List (Fs×Fs×Nat)}(h1:AD s.H id=some (.mit m c seen last))(h2:AD s.H m=some (.map es yu)):pA P T b d r kp k Q s (.ptr id 0)=
  (c<=yu/\(∀e∈es,e.2.2<c)/\(G7 es seen=[]->BV P T b r kp k Q (s.put d true (.wJ [.bool false])))/\∀e∈G7 es seen,BV P T b r kp k Q ({s with H:=wB s.H id (.mit m c (seen++[e.2.2]) yu)}.put d true (.wJ [.bool true,e.1,e.2.1]))):=by
 simp only[pA,JF,h1,h2]
theorem pB{d:Option Nat}{rel esz bytes:Nat}{z:Fs}{x y:zz}{str:Bool}:BV P T b (⟨d,none,.yM rel esz bytes z x y str⟩::r) kp k Q s=((lk s.env x).1=true/\(lk s.env y).1=true/\
  JJ s.H (b+rel) esz bytes z (Fg P T b d r kp k Q s) (AY s.env x) (CF s.H (AY s.env) esz y str)):=by
 simp only[BV,E5,Be];exact Pm
theorem r_nil:BV P T b [] kp k Q s=Cj P T Q k .normal (s.keep kp):=rfl
theorem N7(s:AS)(d:Option Nat)(g:Bool)(v:Fs):(s.put d g v).H=s.H:=by cases d<;>rfl
theorem pC:A8 P T b cx [] kp k Q s=Cj P T Q k .normal (s.keep kp):=rfl
theorem r_v{d:Option Nat}{o:xx}:BV P T b (⟨d,none,.v o⟩::r) kp k Q s=(C2 s.env o.wH/\(Bd s.H (AY s.env) o).1/\BV P T b r kp k Q (s.put d true (Bd s.H (AY s.env) o).2)):=by
 simp only[BV,E5,Be];exact NY
theorem r_vg{d:Option Nat}{t:Nat}{w:Bool}{o:xx}:BV P T b (⟨d,some (t,w),.v o⟩::r) kp k Q s=(GS s.env (some (t,w))/\(Bl s.env (some (t,w))=true->C2 s.env o.wH/\(Bd s.H (AY s.env) o).1)/\BV P T b r kp k Q (s.put d (Bl s.env (some (t,w))) (Bd s.H (AY s.env) o).2)):=by
 simp only[BV,E5,Be];exact Mh
theorem pD{d:Option Nat}{x y z:zz}:BV P T b (⟨d,none,.pick x y z⟩::r) kp k Q s=((lk s.env x).1=true/\J4 (AY s.env x)/\(Fm (AY s.env x)=true->(lk s.env y).1=true)/\(Fm (AY s.env x)=false->(lk s.env z).1=true)/\BV P T b r kp k Q (s.put d true (Lv (Fm (AY s.env x)) (AY s.env y) (AY s.env z)))):=by
 simp only[BV,E5,Be];exact Pk
theorem gR{d:Option Nat}{t:Nat}{w:Bool}{x y z:zz}:BV P T b (⟨d,some (t,w),.pick x y z⟩::r) kp k Q s=(GS s.env (some (t,w))/\(Bl s.env (some (t,w))=true->(lk s.env x).1=true/\J4 (AY s.env x)/\(Fm (AY s.env x)=true->(lk s.env y).1=true)/\(Fm (AY s.env x)=false->(lk s.env z).1=true))/\
  BV P T b r kp k Q (s.put d (Bl s.env (some (t,w))) (Lv (Fm (AY s.env x)) (AY s.env y) (AY s.env z)))):=by
 simp only[BV,E5,Be];exact UR
theorem gS{d:Option Nat}{rel:Nat}{cs:List Fs}:BV P T b (⟨d,none,.alloc rel cs⟩::r) kp k Q s=(AD s.H (b+rel)=none/\BV P T b r kp k Q ({s with H:=wB s.H (b+rel) (.box cs)}.put d true (.ptr (b+rel) 0))):=by
 simp only[BV,E5,Be];exact NZ
theorem r_box{d:Option Nat}{rel sz:Nat}{x:zz}:BV P T b (⟨d,none,.box rel sz x⟩::r) kp k Q s=((lk s.env x).1=true/\AD s.H (b+rel)=none/\nT (AY s.env x)/\(AY s.env x).cells.length=sz/\BV P T b r kp k Q ({s with H:=wB s.H (b+rel) (.box (AY s.env x).cells)}.put d true (.ptr (b+rel) 0))):=by
 simp only[BV,E5,Be];exact bF
theorem r_st{d:Option Nat}{sz:Nat}{a x:zz}:BV P T b (⟨d,none,.st sz a x⟩::r) kp k Q s=((lk s.env a).1=true/\(lk s.env x).1=true/\nT (AY s.env x)/\(AY s.env x).cells.length=sz/\(Q5 s.H sz (AY s.env x) (AY s.env a)).1/\BV P T b r kp k Q ({s with H:=(Q5 s.H sz (AY s.env x) (AY s.env a)).2}.put d true (.wJ []))):=by
 simp only[BV,E5,Be];rw[Mi,N5]
theorem pE{d:Option Nat}{f:zz}{xs:List zz}:BV P T b (⟨d,none,.call true f xs⟩::r) kp k Q s=((lk s.env f).1=true/\C2 s.env xs/\(Ge T (xs.map (AY s.env)) s.H (AY s.env f)).1/\BV P T b r kp k Q (s.put d true (Ge T (xs.map (AY s.env)) s.H (AY s.env f)).2)):=by
 simp only[BV,E5,Be,GS,Bl,tX,uf,ux]
theorem gT{d:Option Nat}{t:Nat}{w:Bool}{f:zz}{xs:List zz}:BV P T b (⟨d,some (t,w),.call true f xs⟩::r) kp k Q s=(GS s.env (some (t,w))/\(Bl s.env (some (t,w))=true->(lk s.env f).1=true/\C2 s.env xs/\(Ge T (xs.map (AY s.env)) s.H (AY s.env f)).1)/\
   BV P T b r kp k Q (s.put d (Bl s.env (some (t,w))) (Ge T (xs.map (AY s.env)) s.H (AY s.env f)).2)):=rfl
theorem gU{d:Option Nat}{f:zz}{xs:List zz}:BV P T b (⟨d,none,.call false f xs⟩::r) kp k Q s=((lk s.env f).1=true/\C2 s.env xs/\MD P (xs.map (AY s.env)) s.H s.n (BL P T b d r kp k Q s) (Ov P T b d r kp k Q s) (AY s.env f)):=by
 simp only[BV,E5,Be,Af,GS,Bl,BS,C2,Io.wH,uf,tX,seval,uq,uJ,ux];refine congrArg (λz=>(lk s.env f).1=true/\C2 s.env xs/\z) ?_;generalize AY s.env f=v;cases v<;>try rfl
 rename_i ff first cap
 cases ff<;>try rfl
 ·refine congrArg (AX P _ _ s.H s.n) ?_;funext o H' n';cases o<;>rfl
 ·cases first<;>cases cap<;>rfl
theorem bw{d:Option Nat}{t:Nat}{w:Bool}{f:zz}{xs:List zz}:BV P T b (⟨d,some (t,w),.call false f xs⟩::r) kp k Q s=(GS s.env (some (t,w))/\(Bl s.env (some (t,w))=true->(lk s.env f).1=true/\C2 s.env xs/\MD P (xs.map (AY s.env)) s.H s.n (BL P T b d r kp k Q s) (Ov P T b d r kp k Q s) (AY s.env f))/\
  (Bl s.env (some (t,w))=false->BV P T b r kp k Q (s.put d false (.wJ [])))):=by
 simp only[BV,E5,Be,Af,BS,C2,Io.wH,ux];refine congrArg (λz=>GS s.env (some (t,w))/\(Bl s.env (some (t,w))=true->(lk s.env f).1=true/\C2 s.env xs/\z)/\(Bl s.env (some (t,w))=false->BV P T b r kp k Q (s.put d false (.wJ [])))) ?_;generalize AY s.env f=v;cases v<;>try rfl
 rename_i ff first cap
 cases ff<;>try rfl
 ·refine congrArg (AX P _ _ s.H s.n) ?_;funext o H' n';cases o<;>rfl
 ·cases first<;>cases cap<;>rfl
theorem r_app{d:Option Nat}{rel esz bytes:Nat}{x y:zz}{str:Bool}:BV P T b (⟨d,none,.app rel esz bytes x y str⟩::r) kp k Q s=((lk s.env x).1=true/\(lk s.env y).1=true/\(Ib s.H (b+rel) esz bytes (AY s.env x) (CF s.H (AY s.env) esz y str)).1/\
  BV P T b r kp k Q ({s with H:=(Ib s.H (b+rel) esz bytes (AY s.env x) (CF s.H (AY s.env) esz y str)).2.1}.put d true (Ib s.H (b+rel) esz bytes (AY s.env x) (CF s.H (AY s.env) esz y str)).2.2)):=by
 simp only[BV,E5,Be];rw[SW,Q6]
theorem r_slA{d:Option Nat}{n:Nat}{x:zz}{lo hi:Option zz}:BV P T b (⟨d,none,.slA n x lo hi⟩::r) kp k Q s=(C2 s.env (x::(lo.toList++hi.toList))/\Co (AY s.env) lo/\Co (AY s.env) hi/\(Jb s.H n (wT (AY s.env) 0 lo) (wT (AY s.env) n hi) (AY s.env x)).1/\
  BV P T b r kp k Q ({s with H:=(Jb s.H n (wT (AY s.env) 0 lo) (wT (AY s.env) n hi) (AY s.env x)).2.1}.put d true (Jb s.H n (wT (AY s.env) 0 lo) (wT (AY s.env) n hi) (AY s.env x)).2.2)):=by
 simp only[BV,E5,Be];rw[bH,Wi]
theorem r_mks{d:Option Nat}{rel esz bytes:Nat}{z:Fs}{x:zz}:BV P T b (⟨d,none,.mks rel esz bytes z x⟩::r) kp k Q s=((lk s.env x).1=true/\(Uu s.H (b+rel) esz bytes z (AY s.env x)).1/\
  BV P T b r kp k Q ({s with H:=(Uu s.H (b+rel) esz bytes z (AY s.env x)).2.1}.put d true (Uu s.H (b+rel) esz bytes z (AY s.env x)).2.2)):=by
 simp only[BV,E5,Be,Af,GS,Bl,BS,C2,Io.wH,Uu,uf,tX,seval,uq,uJ,ux]
theorem rx_v{d:Option Nat}{o:xx}:A8 P T b cx ((0,⟨d,none,.v o⟩)::rx) kp k Q s=(C2 s.env o.wH/\(Bd s.H (AY s.env) o).1/\A8 P T b cx rx kp k Q (s.put d true (Bd s.H (AY s.env) o).2)):=by
 simp only[A8,DV,Be,Bp,FH,uZ,uf];exact NY
theorem TD{g:Option (Nat×Bool)}:A8 P T b cx ((m,⟨d,g,.v o⟩)::rx) kp k Q s=((Bl s.env g=true->Bp b cx (AY s.env) m (.v o))/\Af P (λv H n=>Cj P T Q k (.xM v) ⟨[],H,n⟩) b ⟨d,g,.v o⟩ (DV P T (λv H n=>Cj P T Q k (.xM v) ⟨[],H,n⟩) b cx rx λs'=>Cj P T Q k .normal (s'.keep kp)) s):=by
 simp only[A8,DV,Be,WM,uf]
theorem pF{d:Option Nat}{sz:Nat}{ag:Bool}{x:zz}:A8 P T b cx ((2,⟨d,none,.v (.ld sz ag x)⟩)::rx) kp k Q s=(fo (AY s.env x)/\(lk s.env x).1=true/\(A7 s.H sz ag (AY s.env x)).1/\A8 P T b cx rx kp k Q (s.put d true (A7 s.H sz ag (AY s.env x)).2)):=by
 rw[TD,NY];simp only[Bl,tX,C2,xx.wH,Bd,uJ];rfl
theorem ME{zero:Fs}{K:AB->Fs->Prop}{x:Option (List Fs)}:Fe H id esz bytes zero (λH' v'=>Qn H H'/\K H' v') v x=Fe H id esz bytes zero K v x:=by
 refine propext ⟨λh=>Lw (λ_ _ q=>q.2) h,λh=>?_⟩;have new:∀{l:List Fs},AD H id=none->Qn H (wB H id (.arr esz l)):=λh0 i cs hi=>by
  rw[AA _ _ _ _ (λe=>by subst e;rw[h0]at hi;cases hi)];exact hi
 unfold Fe at h⊢;split at h
 ·obtain⟨a1,a2,a3,a4,a5,a6,a7,a8⟩:=h;exact⟨a1,a2,a3,a4,a5,a6,λe=>⟨λ_ _ q=>q,a7 e⟩,λe c hc=>⟨new a1,a8 e c hc⟩⟩
 ·rename_i i0 e off len cap l';obtain⟨a1,a2,a3,a4,a5,a6,a7,a8⟩:=h;refine⟨a1,a2,a3,a4,a5,a6,a7,?_⟩;split at a8
  ·rename_i e' l hh;obtain⟨b1,b2,b3,b4,b5⟩:=a8;refine⟨b1,b2,b3,λq=>⟨λi cs hi=>?_,b4 q⟩,λq c hc=>⟨new a1,b5 q c hc⟩⟩;rw[AA _ _ _ _ (λe=>by subst e;rw[hh]at hi;cases hi)];exact hi
  ·exact a8
 ·exact h
theorem Uv{g:Option (Nat×Bool)}:A8 P T b cx ((m,⟨d,g,.st sz a x⟩)::rx) kp k Q s=((Bl s.env g=true->Bp b cx (AY s.env) m (.st sz a x))/\Af P (λv H n=>Cj P T Q k (.xM v) ⟨[],H,n⟩) b ⟨d,g,.st sz a x⟩ (DV P T (λv H n=>Cj P T Q k (.xM v) ⟨[],H,n⟩) b cx rx λs'=>Cj P T Q k .normal (s'.keep kp)) s):=by
 simp only[A8,DV,Be,SR,uf]
theorem rx_v1{d:Option Nat}{sz:Nat}{ag:Bool}{x:zz}:A8 P T b cx ((1,⟨d,none,.v (.ld sz ag x)⟩)::rx) kp k Q s=(G8 b (AY s.env x)/\(lk s.env x).1=true/\(A7 s.H sz ag (AY s.env x)).1/\A8 P T b cx rx kp k Q (s.put d true (A7 s.H sz ag (AY s.env x)).2)):=by
 rw[TD,NY];simp only[Bl,tX,C2,xx.wH,Bd,uJ];rfl
theorem pG{d:Option Nat}{sz:Nat}{a x:zz}:A8 P T b cx ((2,⟨d,none,.st sz a x⟩)::rx) kp k Q s=(JG b (AY s.env a)/\(lk s.env a).1=true/\(lk s.env x).1=true/\nT (AY s.env x)/\(AY s.env x).cells.length=sz/\(Q5 s.H sz (AY s.env x) (AY s.env a)).1/\A8 P T b cx rx kp k Q ({s with H:=(Q5 s.H sz (AY s.env x) (AY s.env a)).2}.put d true (.wJ []))):=by
 rw[Uv,Mi,N5];simp only[Bl,tX];rfl
theorem rx_vK{d:Option Nat}{m sz:Nat}{ag:Bool}{x:zz}:A8 P T b cx ((m+3,⟨d,none,.v (.ld sz ag x)⟩)::rx) kp k Q s=(Pg b cx m (AY s.env x)/\(lk s.env x).1=true/\(A7 s.H sz ag (AY s.env x)).1/\A8 P T b cx rx kp k Q (s.put d true (A7 s.H sz ag (AY s.env x)).2)):=by
 rw[TD,NY];simp only[Bl,tX,C2,xx.wH,Bd,uJ];rfl
theorem pH{d:Option Nat}{m sz:Nat}{a x:zz}:A8 P T b cx ((m+3,⟨d,none,.st sz a x⟩)::rx) kp k Q s=(Pg b cx m (AY s.env a)/\(lk s.env a).1=true/\(lk s.env x).1=true/\nT (AY s.env x)/\(AY s.env x).cells.length=sz/\(Q5 s.H sz (AY s.env x) (AY s.env a)).1/\A8 P T b cx rx kp k Q ({s with H:=(Q5 s.H sz (AY s.env x) (AY s.env a)).2}.put d true (.wJ []))):=by
 rw[Uv,Mi,N5];simp only[Bl,tX];rfl
theorem rx_vg{d:Option Nat}{t:Nat}{w:Bool}{o:xx}:A8 P T b cx ((0,⟨d,some (t,w),.v o⟩)::rx) kp k Q s=(GS s.env (some (t,w))/\(Bl s.env (some (t,w))=true->C2 s.env o.wH/\(Bd s.H (AY s.env) o).1)/\A8 P T b cx rx kp k Q (s.put d (Bl s.env (some (t,w))) (Bd s.H (AY s.env) o).2)):=by
 simp only[A8,DV,Be,Bp,FH,uZ,uf];exact Mh
theorem pI{d:Option Nat}{t m sz:Nat}{w ag:Bool}{x:zz}:A8 P T b cx ((m+3,⟨d,some (t,w),.v (.ld sz ag x)⟩)::rx) kp k Q s=((Bl s.env (some (t,w))=true->Pg b cx m (AY s.env x))/\GS s.env (some (t,w))/\(Bl s.env (some (t,w))=true->C2 s.env [x]/\(Bd s.H (AY s.env) (.ld sz ag x)).1)/\A8 P T b cx rx kp k Q (s.put d (Bl s.env (some (t,w))) (Bd s.H (AY s.env) (.ld sz ag x)).2)):=by
 rw[TD,Mh];rfl
theorem gV{d:Option Nat}{x y z:zz}:A8 P T b cx ((0,⟨d,none,.pick x y z⟩)::rx) kp k Q s=((lk s.env x).1=true/\J4 (AY s.env x)/\(Fm (AY s.env x)=true->(lk s.env y).1=true)/\(Fm (AY s.env x)=false->(lk s.env z).1=true)/\A8 P T b cx rx kp k Q (s.put d true (Lv (Fm (AY s.env x)) (AY s.env y) (AY s.env z)))):=by
 simp only[A8,DV,Be,Bp,FH,uZ,uf];exact Pk
theorem bz{d:Option Nat}{rel:Nat}{cs:List Fs}:A8 P T b cx ((0,⟨d,none,.alloc rel cs⟩)::rx) kp k Q s=(AD s.H (b+rel)=none/\A8 P T b cx rx kp k Q ({s with H:=wB s.H (b+rel) (.box cs)}.put d true (.ptr (b+rel) 0))):=by
 simp only[A8,DV,Be,Bp,FH,uZ,uf];exact NZ
theorem pJ{d:Option Nat}{f:zz}{xs:List zz}:A8 P T b cx ((0,⟨d,none,.cpu f xs⟩)::rx) kp k Q s=((lk s.env f).1=true/\C2 s.env xs/\(Ou T (xs.map (AY s.env)) (AY s.env f)).1/\A8 P T b cx rx kp k Q (s.put d true (Ou T (xs.map (AY s.env)) (AY s.env f)).2)):=by
 simp only[A8,DV,Be,GS,Bl,Bp,FH,uZ,uf,tX,seval,uq,uJ,ux]
theorem pK{d:Option Nat}{x:XOp}{xs:List zz}:A8 P T b cx ((0,⟨d,none,.ext x xs⟩)::rx) kp k Q s=(C2 s.env xs/\(xE b x s.H (xs.map (AY s.env))).1/\A8 P T b cx rx kp k Q ({s with H:=(xE b x s.H (xs.map (AY s.env))).2.1}.put d true (xE b x s.H (xs.map (AY s.env))).2.2)):=by
 simp only[A8,DV,Be,Bp,FH,uZ,uf];exact SX
theorem gX{d:Option Nat}{f:zz}{xs:List zz}:A8 P T b cx ((0,⟨d,none,.call true f xs⟩)::rx) kp k Q s=((lk s.env f).1=true/\C2 s.env xs/\(Ge T (xs.map (AY s.env)) s.H (AY s.env f)).1/\A8 P T b cx rx kp k Q (s.put d true (Ge T (xs.map (AY s.env)) s.H (AY s.env f)).2)):=by
 simp only[A8,DV,Be,Bp,FH,uZ,uf,GS,Bl,tX,ux]
theorem pL{d:Option Nat}{rel esz bytes:Nat}{x y:zz}{str:Bool}:A8 P T b cx ((0,⟨d,none,.app rel esz bytes x y str⟩)::rx) kp k Q s=((lk s.env x).1=true/\(lk s.env y).1=true/\(Ib s.H (b+rel) esz bytes (AY s.env x) (CF s.H (AY s.env) esz y str)).1/\
  A8 P T b cx rx kp k Q ({s with H:=(Ib s.H (b+rel) esz bytes (AY s.env x) (CF s.H (AY s.env) esz y str)).2.1}.put d true (Ib s.H (b+rel) esz bytes (AY s.env x) (CF s.H (AY s.env) esz y str)).2.2)):=by
 simp only[A8,DV,Be,Bp,FH,uZ,uf];rw[SW,Q6]
def KN(P:Program)(T:Bg)(b:Nat)(cx:Nat->Fs)(d:Option Nat)(rx:List (Nat×xq))(kp:List Nat)(k:List Item)(Q:x6->AS->Prop)(s:AS)(H':AB)(v:Fs):Prop:=A8 P T b cx rx kp k Q ({s with H:=H'}.put d true v)
theorem gY{d:Option Nat}{rel esz bytes:Nat}{z:Fs}{x y:zz}{str:Bool}:A8 P T b cx ((2,⟨d,none,.yM rel esz bytes z x y str⟩)::rx) kp k Q s=((lk s.env x).1=true/\(lk s.env y).1=true/\
  JJ s.H (b+rel) esz bytes z (KN P T b cx d rx kp k Q s) (AY s.env x) (CF s.H (AY s.env) esz y str)):=by
 simp only[A8,DV,Be,Bp,uZ,uf];rw[Pm];simp only[Fo,N7];rw[ME];rfl
theorem cA{m:Nat}{d:Option Nat}{f:zz}{xs:List zz}:A8 P T b cx ((m+3,⟨d,none,.call false f xs⟩)::rx) kp k Q s=((300000<=m/\m % 2=0)/\(lk s.env f).1=true/\C2 s.env xs/\MD P (xs.map (AY s.env)) s.H s.n (FX P T b cx m d rx kp k Q s) (kJ P T b cx m d rx kp k Q s) (AY s.env f)):=by
 simp only[A8,DV,Be,Af,GS,Bl,BS,C2,Io.wH,Bp,uf,tX,seval,uq,uJ,ux];refine congrArg (λz=>300000<=m/\m % 2=0/\(lk s.env f).1=true/\C2 s.env xs/\z) ?_;generalize AY s.env f=v;cases v<;>try rfl
 rename_i ff first cap
 cases ff<;>try rfl
 ·refine congrArg (AX P _ _ s.H s.n) ?_;funext o H' n';cases o with
  |ret v=>simp only[FX,Fo,N7];rfl
  |xM v=>rfl
 ·cases first<;>cases cap<;>try rfl
  refine congrArg (CY P _ _ s.H s.n) ?_;funext o H' n';simp only[kJ,Fo,N7];rfl
theorem gZ{env:List (Nat×Bool×Fs)}{n t:Nat}:UO env n t=if 100000<=t then .ptr (n+(t-100000)) 0 else AY env (.t t):=rfl
theorem TE{a:Fs}{H:AB}:IR a H H=True:=r9 λ_ _ _=>rfl
theorem Uw{id off:Nat}{H:AB}{ob:x9}:IR (.ptr id off) H (wB H id ob)=True:=r9 λi h _=>by
 rw[AA _ _ _ _ (λe=>h e)]
theorem TF{id off:Nat}{H:AB}{a b:x9}:IR (.ptr id off) (wB H id a) (wB H id b)=True:=r9 λi h _=>by
 rw[AA _ _ _ _ (λe=>h e),AA _ _ _ _ (λe=>h e)]
theorem r_pan{d:Option Nat}{x:zz}:BV P T b (⟨d,none,.xM x⟩::r) kp k Q s=((lk s.env x).1=true/\Xm (AY s.env x)/\Cj P T Q k (.xM (AY s.env x)) ⟨[],s.H,s.n⟩):=by
 simp only[BV,E5,Be];exact bG
end
theorem gb{T:Bg}(st:α->AS)(inv:α->Prop)(m:α->Nat)(a0:α)(h0:s=st a0)(hi:inv a0)
  (hs:∀a,inv a->ev P T c (λe s'=>match e with
   | .normal=>∃a',K0 (st a) s' (st a')/\inv a'/\m a'<m a
   |e=>Q e s') (st a)):ev P T (.loop c) Q s:=by
 classical
 let J:AS->Nat->Prop:=λs k=>∃a,s=st a/\inv a/\m a=k
 let μ:AS->Nat:=λs=>if hx:∃k,J s k then Classical.choose (Hv _ hx)else 0
 have hμ:∀s,(∃k,J s k)->J s (μ s)/\∀j,J s j->μ s<=j:=by
  intro s hx;have e:μ s=Classical.choose (Hv _ hx):=by simp only[μ];rw[dif_pos hx]
  rw[e];exact Classical.choose_spec (Hv _ hx)
 refine⟨λs=>∃k,J s k,μ,⟨_,a0,h0,hi,rfl⟩,?_⟩;intro s1 hx;obtain⟨⟨a,e1,i1,m1⟩,-⟩:=hμ s1 hx;have h:=hs a i1;rw[<-e1]at h;refine Fx c _ _ s1 (λe s' q=>?_) h;cases e with
 |normal=>
  obtain⟨a',w1,i2,m2⟩:=q;have hx':∃k,J (st a') k:=⟨_,a',rfl,i2,rfl⟩;have:=(hμ _ hx').2 _ ⟨a',rfl,i2,rfl⟩;exact⟨st a',w1,hx',zo⟩
 |_=>exact q
def lpQ(st:α->AS)(inv:α->Prop)(m:α->Nat)(a:α)(Q:x6->AS->Prop):x6->AS->Prop
 | .normal,s'=>∃a',K0 (st a) s' (st a')/\inv a'/\m a'<m a
 |e,s'=>Q e s'
def dw(st:α->AS)(inv:α->Prop)(m:α->Nat)(a:α)(s':AS):Prop:=∃a',K0 (st a) s' (st a')/\inv a'/\m a'<m a
section
variable {α:Type} {st:α->AS} {inv:α->Prop} {m:α->Nat} {a:α} {Q:x6->AS->Prop} {s:AS}
theorem lpQ_n:lpQ st inv m a Q .normal s=dw st inv m a s:=rfl
theorem lpQ_e{i:Nat}:lpQ st inv m a Q (.exit i) s=Q (.exit i) s:=rfl
theorem lpQ_r:lpQ st inv m a Q .ret s=Q .ret s:=rfl
theorem lpQ_p{v:Fs}:lpQ st inv m a Q (.xM v) s=Q (.xM v) s:=rfl
theorem dw.mk(a':α)(h:s=st a')(hi:inv a')(hm:m a'<m a):dw st inv m a s:=⟨a',.inl h.symm,hi,hm⟩
end
theorem AQ{T:Bg}{k:List Item}(st:α->AS)(inv:α->Prop)(m:α->Nat)(a0:α)(h0:s=st a0)(hi:inv a0)
  (hs:∀a,inv a->Gw P T c [] (lpQ st inv m a (Cj P T Q k)) (st a)):Gw P T (.loop c) k Q s:=
 gb st inv m a0 h0 hi λa ha=>Fx c _ _ _ (λe s' q=>by cases e<;>exact q) (AJ (hs a ha))
theorem natE1{a b:Nat}:(a=a+b)=(b=0):=propext ⟨λh=>zo,λh=>zo⟩
theorem natE2{a b:Nat}:(a+b=a)=(b=0):=propext ⟨λh=>zo,λh=>zo⟩
theorem impA1{a b:Prop}:(a->a/\b)=(a->b):=propext ⟨λh x=>(h x).2,λh x=>⟨x,h x⟩⟩
theorem impA2{a b:Prop}:(a->b->a/\b)=True:=r9 λx y=>⟨x,y⟩
def TG(r:Fs):xw->AB->Nat->Prop:=λout _ _=>∃v,out= .ret v/\Wk v r
theorem Av.mk{args:List Fs}(h1:wN 0 args)(h2:r.under 0)(h:AX P f args Ak 0 (TG r)):Av P f args r:=⟨h1,h2,h⟩
theorem pM{r v:Fs}{H:AB}{n:Nat}:TG r (.ret v) H n=Wk v r:=by
 simp only[TG,xw.ret.injEq,exists_eq_left']
theorem gc{r v:Fs}{H:AB}{n:Nat}:TG r (.xM v) H n=False:=by simp [TG]
def g0:q8:=⟨λ_=>none,λ_ _=>none⟩
theorem gg{a b:Bool}:Wk (.bool a) (.bool b)=(a=b):=by
 refine propext ⟨λh=>?_,λh=>h▸Wk.refl _⟩;have:Value.bool a= .bool b:=h g0 (.bool a) rfl;cases this;rfl
theorem pN{k k':IntKind}{a b:Int}:Wk (.int k a) (.int k' b)=(k=k'/\a=b):=by
 refine propext ⟨λh=>?_,λ⟨h1,h2⟩=>by rw[h1,h2];exact Wk.refl _⟩;have:Value.int k a= .int k' b:=h g0 (.int k a) rfl;cases this;exact⟨rfl,rfl⟩
theorem pO{a b:List UInt8}:Wk (.str a) (.str b)=(a=b):=by
 refine propext ⟨λh=>?_,λh=>h▸Wk.refl _⟩;have:Value.string ⟨a.toArray⟩= .string ⟨b.toArray⟩:=h g0 (.string ⟨a.toArray⟩) rfl;simpa using this
def AO(H:AB)(n:Nat):Prop:=∀id,n<=id->AD H id=none
theorem AO.nil:AO Ak n:=λ_ _=>rfl
theorem AO.lt{ob:x9}(h:AO H n)(ho:AD H id=some ob):id<n:=Nat.lt_of_not_le λhle=>by rw[h id hle]at ho;cases ho
theorem AO.wB{m:Nat}{ob:x9}(h:AO H n)(hn:n<=m)(s5:id<m):AO (wB H id ob) m:=λi hi=>by
 rw[AT,sg zo];exact h i zo
theorem AX.fresh{R:xw->AB->Nat->Prop}(hc:C3 P f)(h:AO H n->AX P f a H n R):AX P f a H n R:=
 ⟨hc,λg w vs r v=>(h λid s5=>by
  cases ho:AD H id with
  |none=>rfl
  |some ob=>have:=r.hd id ob ho;omega).2 g w vs r v⟩
def C0(H H':AB):Prop:=∀id ob,AD H id=some ob->AD H' id=some ob
theorem C0.refl(H:AB):C0 H H:=λ_ _ h=>h
theorem C0.new{i:Nat}{ob':x9}(hf:AO H n)(hi:n<=i)(h:C0 H H'):C0 H (wB H' i ob'):=λid ob ho=>by
 rw[AT,sg (by have:=hf.lt ho;omega)];exact h id ob ho
def Ux(H:AB)(r:Fs):xw->AB->Nat->Prop:=λout H' _=>(∃v,out= .ret v/\Wk v r)/\C0 H H'
theorem gn{H H':AB}{r v:Fs}{n:Nat}:Ux H r (.ret v) H' n=(Wk v r/\C0 H H'):=by
 simp only[Ux,xw.ret.injEq,exists_eq_left']
theorem Ao.of(hc:C3 P f)(hr:r.under n)(h:AO H n->AX P f a H n (Ux H r)):Ao P f a H n r:=by
 refine AX.fresh hc λhf=>?_
 refine AX.forget (R':=λout H' n'=>out= .ret r/\H'=H/\n'=n) (h hf) ?_;rintro o H' n' ⟨⟨v,rfl,hw⟩,hk⟩;refine⟨.ret r,H,⟨rfl,rfl,rfl⟩,⟨λid ob ho=>⟨hf.lt ho,⟨ob,hk id ob ho,fk.refl ob⟩,.inr ho⟩,λid h=>h⟩,hw,hr⟩
def Q7:List Nat->Bool
 |[]=>true
 |x::r=>!r.contains x&&Q7 r
theorem MF:∀(l:List Nat),Q7 l=true->l.Nodup
 |[],_=>wd
 |x::r,h=>by
  simp only[Q7,sf,tJ,vP,ti]at h;exact uH.2 ⟨h.1,MF r h.2⟩
theorem Uy{env:List (Nat×Bool×Fs)}(h:(env.map (·.1)).Nodup):SS env env:=by
 suffices key:∀(l pre:List (Nat×Bool×Fs)),env=pre++l->SS env l from key env [] rfl
 intro l;induction l with
 |nil=>intro _ _;trivial
 |cons x l ih=>
  obtain⟨t,g,v⟩:=x;intro pre e;refine⟨⟨v,?_,Wk.refl v⟩,ih (pre++[(t,g,v)]) (by rw[e];simp)⟩;rw[e]at h⊢;have hp:∀(pre:List (Nat×Bool×Fs)),t∉pre.map (·.1)->BI (pre++(t,g,v)::l) t=some (g,v):=by
   intro pre;induction pre with
   |nil=>intro _;simp [BI]
   |cons y pre ih2=>simp_all [sS,tg,not_or,sJ,BI]<;>omega
  apply hp;intro hm;rw[su,uD]at h;exact h.2.2 t hm t zw rfl
theorem dw.drop{st:α->AS}{inv:α->Prop}{m:α->Nat}{a:α}{s':AS}(a':α)(he:s'.env=(st a').env)(hH:(st a').H=(st a).H)(hn:(st a').n=(st a).n)(hd:Q7 ((st a').env.map (·.1))=true)
  (e9:AO (st a).H (st a).n) (hk:C0 (st a).H s'.H) (hu:J5 (st a).n (st a').env) (hi:inv a') (hm:m a'<m a):dw st inv m a s':=by
 refine⟨a',.inr ⟨by rw[he];exact Uy (MF _ hd),.inr ⟨hn,?_,hu⟩⟩,hi,hm⟩;rw[hH];exact⟨λid ob ho=>⟨e9.lt ho,⟨ob,hk id ob ho,fk.refl ob⟩,.inr ho⟩,λid h=>h⟩
def wD:Bg:=λ_ _ _=>(False,.wJ [])
def AF(f0:FuncId)(sp:List Fs->AB->Prop×Fs)(T:Bg):Bg:=λf args H=>if f=f0 then sp args H else T f args H
theorem AH.wD:AH P wD:=λ_ _ _ _ h=>h.elim
theorem AH.add{T:Bg}(hT:AH P T){f0:FuncId}{sp:List Fs->AB->Prop×Fs}(h:∀args H n,(sp args H).1->Ao P f0 args H n (sp args H).2):AH P (AF f0 sp T):=by
 intro f args H n q;unfold AF at q⊢;split at q
 ·rename_i e;subst e;simpa using h args H n q
 ·rename_i e;simpa [e]using hT f args H n q
theorem AX.args{a':List Fs}{R:xw->AB->Nat->Prop}(h:AX P f a H n R)(hw:∀g vs,wI g a' vs->wI g a vs):AX P f a' H n R:=
 ⟨h.1,λg w vs r v=>h.2 g w vs r (hw g vs v)⟩
theorem Wk.sl{tok:v8}{e:Nat}(h:tok.esz=e\/l=[]):Wk (.sl tok l) (.sl (.none e) l):=by
 intro g v hv;rcases hv with⟨rfl,rfl,_⟩|⟨ht,b,o,cap,⟨sp,rfl,yS⟩,hc,hs,hk⟩
 ·exact .inl ⟨rfl,rfl,zt⟩
 ·refine .inr ⟨zt,b,o,cap,⟨sp,rfl,yS.imp id λq=>⟨q.1,.inr ⟨e,rfl⟩⟩⟩,hc,?_,zt⟩;rcases h with h|h
  ·rw[h]at hs;exact hs
  ·subst h;trivial
theorem BW{f:α->Fs}(h:∀x,(f x).under n):∀(l:List α),wN n (l.map f)
 |[]=>trivial
 |x::l=>⟨h x,BW h l⟩
end
end Go.AM
namespace Go.AM
open Go.Proofs Go.Lib
def gW(W:World):q8:=⟨λ_=>none,λb o=>W.cell? ⟨b,o,none⟩⟩
def pP{W:World}(h:Et (gW W))(hz:G5 W):x7 (gW W) Ak 0 W where
 σw:=λ_ _ _ h=>h
 obj:=λ_ _ h=>by simp [AD,Ak]at h
 yJ:=λ_ _ h=>by simp [gW]at h
 hd:=λ_ _ h=>by simp [AD,Ak]at h
 ap:=λ_ _ _ _ _ _ _ h=>by simp [AD,Ak]at h
 un:=λ_ _ _ _ h=>by simp [AD,Ak]at h
 gl:=h
 gz:=hz
structure Grown(W W':World):Prop where
 os:W'.os=W.os
 tape:W'.tape=W.tape
 output:W'.output=W.output
 size:W.heap.size<=W'.heap.size
 old:∀(b:Nat) ob,W.heap[b]?=some ob->W'.heap[b]?=some ob
theorem Av.calls{P:Program}{f:FuncId}{args:List Fs}{b:Bool}(h:Av P f args (.bool b)){W:World}{vs:List Value}(hg:Et (gW W))(hgz:G5 W)(hv:wI (gW W) args vs):
  Calls P f vs.toArray W λe W'=>e= .returned (.bool b)/\Grown W W':=by
 refine(h.2.2.2 (gW W) W vs (pP hg hgz) hv).mono ?_;rintro e W' ⟨g',out,H',n',⟨v,rfl,hw⟩,he,hR',-,ht⟩;cases e with
 |panicked c=>exact he.elim
 |outgrown=>exact he.elim
 |returned x=>
  have hx:AR g' (.bool b) x:=hw _ _ he;refine⟨by rw[show x= .bool b from hx],ht.os,ht.tape,ht.output,ht.size,λi ob hb=>?_⟩;have hk:=ht.kept i ob hb;cases ob<;>first|exact hk.resolve_left Eu|skip
  obtain⟨c',h1,h2,h3⟩:=hk;rw[h1];congr 2;exact Array.ext_getElem? λj=>h3 j Eu
def Grown.kept{W W':World}(h:Grown W W')(may:MemPlace->Prop):W.keptBut W' may:=by
 refine⟨h.os,h.output,λi hi=>?_⟩;have e:W'.heap[i]?=W.heap[i]?:=by
  obtain⟨ob,hb⟩:∃ob,W.heap[i]?=some ob:=⟨_,uu hi⟩;rw[hb];exact h.old i ob hb
 rw[e];exact(World.keptBut_refl W may).2.2 i hi
def Grown.same{W W':World}(h:Grown W W'){p:MemPlace}(hp:p.block<W.heap.size):W.sameAt W' p:=by
 have e:∀b,b<W.heap.size->W'.heap[b]?=W.heap[b]?:=λb hb=>by
  obtain⟨ob,hb'⟩:∃ob,W.heap[b]?=some ob:=⟨_,uu hb⟩;rw[hb'];exact h.old b ob hb'
 cases p with
 |cell b off=>simp only[World.sameAt,World.cell?];rw[e b hp]
 |map b=>exact e b hp
open Go.ChangeShapes in
def Uz{H:Type}{enc:TypeId×Value->H}{P:Program}{f:Func}{s:ChangeSpec}{apart fresh handsOn again:Bool}{W W':World}{args:Array Value}{v:Value}{ds gs:List (DataW H)}{before pa pv:List MemPlace}
  (hg:Grown W W') (hW:DataW.Whole enc P f.params.toList s.vars apart W args.toList ds gs before)
  (xR:∀(b:Nat) (sp:Nat->Bool) (hd:Bool),DataW.TrodAll enc P W' b sp hd f.resultTypes.toList (v.resultList f.resultTypes.size) (s.fn H (ds++gs)).results [])
  (yG:∀sp:Nat->Bool,(∀p∈before,sp p.block=true)->DataW.TrodAll enc P W' 0 sp true f.params.toList args.toList (s.fn H (ds++gs)).args pa)
  (hvars:∀sp:Nat->Bool,(∀p∈before,sp p.block=true)->DataW.TrodVars enc P W' sp s.vars (s.fn H (ds++gs)).vars pv)
  (hps:before=pa++pv)
  (s9:∀(j:Nat) (t:TypeId) (r:Value),f.resultTypes[j]?=some t->(v.resultList f.resultTypes.size)[j]?=some r->Value.okWide P W' .any 0 t r):
  s.post enc P f apart fresh handsOn again W args v W':=by
 have e9:=hW.lt;have hold:∀p∈before,(λb=>decide (b<W.heap.size)) p.block=true:=λp hp=>by simpa using e9 p hp
 refine⟨ds,gs,before,[],pa,pv,hW,xR _ _ _,yG _ hold,hvars _ hold,hg.kept _,λ_=>?_⟩;obtain⟨_,_,_,_,_,hz,hn⟩:=hW;refine⟨s9,_,_,([]++pa)++pv,⟨[]++pa,pv,trodAll_append (yG _ (λ_ _=>rfl)) (xR _ _ _),hvars _ (λ_ _=>rfl),rfl,?_,?_⟩,?_⟩
 ·intro b off hp;have hp':MemPlace.cell b off∈before:=by rw[hps];simpa using hp
  have hb:b<W.heap.size:=e9 _ hp';have e:W'.heap[b]?=W.heap[b]?:=by
   obtain⟨ob,hb'⟩:∃ob,W.heap[b]?=some ob:=⟨_,uu hb⟩;rw[hb'];exact hg.old b ob hb'
  have:=hz b off hp';simp only[World.frozen?]at this⊢;rw[e];exact this
 ·simp_all
 ·intro p hp _;rw[hps];simpa using hp
open Go.ChangeShapes in
theorem MG{H:Type}{enc:TypeId×Value->H}{P:Program}{W W':World}(hg:Grown W W'){b:Nat}{sp:Nat->Bool}{hd:Bool}:∀{ts:List TypeId} {vs:List Value} {ds:List (DataW H)} {ps:List MemPlace},
  DataW.TrodAll enc P W b sp hd ts vs ds ps->(∀p∈ps,p.block<W.heap.size)->DataW.TrodAll enc P W' b sp hd ts vs ds ps
 |[],vs,ds,ps,h,hp=>by
  obtain⟨rfl,rfl,rfl⟩:=trodAll_nil h;exact rfl
 |t::ts,vs,ds,ps,h,hp=>by
  obtain⟨v,vs1,d,ds1,a,c,rfl,rfl,rfl,h1,h2⟩:=trodAll_cons h;obtain⟨n,hn⟩:=h1;exact⟨a,c,⟨n,DataW.trod_carry n _ _ _ hn λp q=>hg.same (hp p (by simp [q]))⟩,MG hg h2 λp q=>hp p (by simp [q]),rfl⟩
inductive Sh where
 |bool
 |int (k:IntKind)
 |str
 |sl (e:Sh)
 |st (fs:List Sh)
mutual
def Sh.size:Sh->Nat
 | .st fs=>Sh.sizes fs
 |_=>1
def Sh.sizes:List Sh->Nat
 |[]=>0
 |s::r=>s.size+Sh.sizes r
end
mutual
def Sh.fits(P:Program):Sh->TypeId->Bool
 | .bool,t=>match P.underlying t with|some .bool=>true|_=>false
 | .int k,t=>match P.underlying t with|some (.int k')=>decide (k'=k)|_=>false
 | .str,t=>match P.underlying t with|some .string=>true|_=>false
 | .sl e,t=>match P.underlying t with|some (.slice u)=>P.cellsOf u==e.size&&decide (0<e.size)&&decide (0<P.bytesOf u)&&e.fits P u|_=>false
 | .st fs,t=>match P.underlying t with|some (.struct gs)=>P.cellsOf t==Sh.sizes fs&&Sh.fitsL P fs gs.toList 0|_=>false
def Sh.fitsL(P:Program):List Sh->List Field->Nat->Bool
 |[],[],_=>true
 |s::r,f::fs,o=>s.fits P f.type&&f.offset==o&&P.cellsOf f.type==s.size&&Sh.fitsL P r fs (o+s.size)
 |_,_,_=>false
end
def Sh.wrap:Sh->List Fs->Fs
 | .st _,as=>.agg as
 |_,as=>as.headD (.bool false)
mutual
def Sh.rd:Sh->List Fs->Prop
 | .bool,as=>∃b,as=[.bool b]
 | .int k,as=>∃n,as=[.int k n]/\(Lit.int k n).wf=true
 | .str,as=>∃s,as=[.str s]/\s.length<=reachBytes
 | .sl e,as=>∃l:List (List Fs),as=[.sl (.none e.size) (l.map e.wrap)]/\l.length<=reachBytes/\∀x∈l,e.rd x
 | .st fs,as=>Sh.rdL fs as
def Sh.rdL:List Sh->List Fs->Prop
 |[],as=>as=[]
 |s::r,as=>∃a b,as=a++b/\s.rd a/\Sh.rdL r b
end
mutual
theorem Sh.rd_length:∀(s:Sh) (as:List Fs),s.rd as->as.length=s.size
 | .bool,_,⟨_,h⟩=>by rw[h];rfl
 | .int _,_,⟨_,h,_⟩=>by rw[h];rfl
 | .str,_,⟨_,h,_⟩=>by rw[h];rfl
 | .sl _,_,⟨_,h,_⟩=>by rw[h];rfl
 | .st fs,as,h=>Sh.rdL_length fs as (by simpa only[Sh.rd]using h)
theorem Sh.rdL_length:∀(s:List Sh) (as:List Fs),Sh.rdL s as->as.length=Sh.sizes s
 |[],as,h=>by
  simp only[Sh.rdL]at h;subst h;rfl
 |s::r,as,h=>by
  simp only[Sh.rdL]at h;obtain⟨a,b,rfl,h1,h2⟩:=h;rw[sH,Sh.rd_length s a h1,Sh.rdL_length r b h2];rfl
end
def Gx{v:Value}(h:v.oneCell'=true):v.cells= #[v]:=by
 cases v<;>first|rfl|simp [Value.oneCell']at h
theorem Sh.elem{g:q8}(s:Sh){as:List Fs}{cs:List Value}(h:s.rd as)(hv:wI g as cs)(h1:∀c∈cs,c.oneCell'=true):
  ∃v,AR g (s.wrap as) v/\GB s.size v/\v.cells.toList=cs:=by
 have hl:=s.rd_length as h;have xm:=wI.length _ _ hv;cases s with
 |st fs=>
  refine⟨.agg cs.toArray,⟨cs.toArray,rfl,by simpa using hv,by simpa using h1⟩,⟨by show cs.toArray.size=_;simp;omega,by simpa [Value.cells]using h1⟩,by simp [Value.cells]⟩
 |_=>
  match as,hl with
  |[a],_=>
   obtain⟨v,rest,rfl,k1,k2⟩:=hv;have k3:rest=[]:=k2;subst k3;have o:=h1 v zw;refine⟨v,k1,⟨by rw[Gx o];rfl,by rw[Gx o];simpa using o⟩,by rw[Gx o]⟩
section
variable {H:Type} {enc:TypeId×Value->H} {P:Program} {W:World} {base:Nat} {spare:Nat->Bool} {held:Bool}
open Go.ChangeShapes Go.WideShapes Go.ChangeAt Go.RowKit Go.WideElems Go.WideMaps Go.Joins
theorem Wl{g:q8}{esz:Nat}{f:Nat->Option Value}:∀(l:List Fs) (o:Nat),(∀(i:Nat) e,l[i]?=some e->∃v,AR g e v/\GB esz v/\∀(j:Nat) x,v.cells[j]?=some x->f (o+i*esz+j)=some x)->wL g esz f o l
 |[],_,_=>trivial
 |e::l,o,h=>⟨by simpa using h 0 e rfl,Wl l (o+esz) λi e' he=>by
   obtain⟨v,h1,h2,h3⟩:=h (i+1) e' (by simpa using he);exact⟨v,h1,h2,λj x hx=>by rw[<-h3 j x hx];congr 1;rw[Nat.succ_mul];omega⟩⟩
theorem Hx{H:Type}{P:Program}{e:TypeId}:∀{l:List (DataW H)} {d:DataW H},d∈l->∀k∈d.weights P e,k∈DataW.weightsAll P e l
 |[],d,h,_,_=>by cases h
 |y::r,d,h,k,hk=>by
  simp only[DataW.weightsAll,tP];rcases tg.1 h with rfl|h
  ·exact .inl hk
  ·exact .inr (Hx h k hk)
mutual
theorem Sh.reads(s:Sh)(t:TypeId)(cs:List Value)(n:Nat)(x:DataW H×List MemPlace)(hf:s.fits P t=true)
  (h:DataW.trod enc P W base spare held n t cs=some x) (hw:∀k∈x.1.weights P t,k<=reachBytes):∃as,s.rd as/\wI (gW W) as cs/\∀c∈cs,c.oneCell'=true:=by
 match s,hf with
 | .bool,hf=>
  simp only[Sh.fits]at hf;split at hf
  ·rename_i ht;obtain⟨b,rfl,_⟩:=DataW.trod_bool ht h;exact⟨[.bool b],⟨b,rfl⟩,⟨_,_,rfl,rfl,rfl⟩,by simp [Value.oneCell']⟩
  ·cases hf
 | .int k,hf=>
  simp only[Sh.fits]at hf;split at hf
  ·rename_i k' ht;simp only[si]at hf;subst hf;obtain⟨m,rfl,_,hw⟩:=DataW.trod_int ht h;exact⟨[.int k' m],⟨m,rfl,hw⟩,⟨_,_,rfl,rfl,rfl⟩,by simp [Value.oneCell']⟩
  ·cases hf
 | .str,hf=>
  simp only[Sh.fits]at hf;split at hf
  ·rename_i ht;obtain⟨b,rfl,rfl,hl⟩:=DataW.trod_string ht h;exact⟨[.str b.data.toList],⟨_,rfl,hw _ (by simp [DataW.weights])⟩,⟨_,_,rfl,by simp [AR],rfl⟩,by simp [Value.oneCell']⟩
  ·cases hf
 | .sl e,hf=>
  simp only[Sh.fits]at hf;split at hf
  ·rename_i u ht;simp only[sf,vz,si]at hf;obtain⟨⟨⟨hc,hpos⟩,hby⟩,hfe⟩:=hf;rcases Go.Deep.open_slice ht h with⟨rfl,_⟩|⟨a,len,cap,m,n',D,Pl,rfl,_,hlen,xO,hm,hx,hel⟩
   ·exact⟨[.sl (.none e.size) []],⟨[],rfl,zw,zw⟩,⟨_,_,rfl,.inl ⟨rfl,rfl,zt⟩,rfl⟩,by simp [Value.oneCell']⟩
   ·subst hx;simp only[DataW.weights,ht]at hw;have hlr:len<=reachBytes:=by
     have h1:=hw _ (tu ..);simp only[ry,uE]at h1;exact sX (tO len _) (sX (Nat.le_mul_of_pos_right _ hby) h1)
    have hwe:∀i,i<len->∀k∈(D i).weights P u,k<=reachBytes:=λi hi k hk=>
     hw k (tM _ (List.mem_append_left _ (Hx (tn.2 ⟨i,tF.2 hi,rfl⟩) k hk)))
    by_cases hl0:len=0
    ·subst hl0;obtain⟨b,o,sp⟩:=a;exact⟨[.sl (.none e.size) []],⟨[],rfl,zw,zw⟩,⟨_,_,rfl,.inr ⟨zt,b,o,cap,⟨sp,rfl,.inr ⟨rfl,.inr ⟨e.size,rfl⟩⟩⟩,sk _,zt,zt⟩,rfl⟩,by simp [Value.oneCell']⟩
    have yS:a.spot=none:=by
     obtain⟨cs',h1,_⟩:=hel 0 (by rw[hm];split<;>omega);obtain⟨_,_,xZ⟩:=World.cells?_some h1;have ym:=xZ 0 (by rw[hc];exact hpos);rw[vi]at ym;have h2:cs'[0]?≠none:=by
      obtain⟨_,hl',_⟩:=World.cells?_some h1;rw[rz zo];simp
     obtain⟨y,hy⟩:=Option.ne_none_iff_exists'.1 h2;have:=World.cell?_spot (ym.trans hy);obtain⟨b,o,sp⟩:=a;exact this
    obtain⟨b,o,sp⟩:=a;have hsp':sp=none:=yS;subst hsp';have hml:len<=m:=by rw[hm];split<;>omega
    have key:∀i,i<len->∃as,e.rd as/\∃v,AR (gW W) (e.wrap as) v/\GB e.size v/\∀(j:Nat) y,v.cells[j]?=some y->(gW W).σ b (o+i*e.size+j)=some y:=by
     intro i hi;obtain⟨cs',h1,h2⟩:=hel i zo;obtain⟨_,hl',xZ⟩:=World.cells?_some h1;have hadd:∀j,((⟨b,o,none⟩:Addr).add (i*P.cellsOf u)).add j=⟨b,o+i*e.size+j,none⟩:=by
      intro j;rw[hc];unfold Addr.add;split<;>split<;>simp_all<;>omega
     have xl:∀j,j<e.size->W.cell? ⟨b,o+i*e.size+j,none⟩=cs'[j]?:=λj hj=>by
      rw[<-hadd j];exact xZ j (by rw[hc];exact hj)
     obtain⟨as,k1,k2,k3⟩:=Sh.reads e u cs' n' _ hfe h2 (hwe i hi);obtain⟨v,q1,q2,q3⟩:=e.elem k1 k2 k3;refine⟨as,k1,v,q1,q2,λj y hy=>?_⟩;have hy':cs'[j]?=some y:=by rw[<-q3];simpa using hy
     have hj:j<e.size:=by
      have:=(t8.1 hy').1;omega
     show W.cell? ⟨b,o+i*e.size+j,none⟩=some y;rw[xl j hj,hy']
    have hch:∃F:Nat->List Fs,∀i,i<len->e.rd (F i)/\∃v,AR (gW W) (e.wrap (F i)) v/\GB e.size v/\∀(j:Nat) y,v.cells[j]?=some y->(gW W).σ b (o+i*e.size+j)=some y:=by
     refine⟨λi=>if hi:i<len then(key i hi).choose else[],λi hi=>?_⟩;simp only[hi,dif_pos];exact(key i hi).choose_spec
    obtain⟨F,hF⟩:=hch;refine⟨[.sl (.none e.size) (((List.range len).map F).map e.wrap)],⟨(List.range len).map F,rfl,by simpa using hlr,?_⟩,⟨_,_,rfl,.inr ⟨zt,b,o,cap,⟨none,zw,.inl rfl⟩,by simpa using hlen,?_,zt⟩,rfl⟩,by simp [Value.oneCell']⟩
    ·simp_all
    ·refine Wl _ _ λi y hy=>?_
     rw[sF,sF]at hy;by_cases hi:i<len
     ·rw[vU hi]at hy;simp only[td,Option.some.injEq]at hy;subst hy;exact(hF i hi).2
     ·rw[uG (by simp;omega)]at hy;simp at hy
  ·cases hf
 | .st fs,hf=>
  simp only[Sh.fits]at hf;split at hf
  ·rename_i gs ht;simp only[sf,vz]at hf;obtain⟨xs,m,_,hx,hl,hlen,xa⟩:=DataW.trod_struct ht h;subst hx;simp only[DataW.weights,ht]at hw;obtain⟨as,k1,k2,k3⟩:=Sh.readsL fs gs.toList 0 cs m (λf hfm=>by
    obtain⟨i,hi,he⟩:=List.getElem_of_mem hfm;have hfg:gs[i]?=some f:=by rw[<-he];simp at hi;simp [hi]
    have:=xa i f hfg;have z9:i<xs.length:=by rw[hlen];simpa using hi
    rw[rz z9]at this;exact⟨_,this,λk hk=>hw k (DataW.weights_mem_each (j:=i) (t:=f.type) (d:=xs[i].1) (by rw[sF,show gs.toList[i]?=some f by simpa using hfg];rfl) (by rw[sF,rz z9];rfl) k hk)⟩) hf.2 (by rw[hl,hf.1];simp)
   exact⟨as,by simpa only[Sh.rd]using k1,by simpa using k2,by simpa using k3⟩
  ·cases hf
theorem Sh.readsL(ss:List Sh)(fs:List Field)(o:Nat)(cs:List Value)(n:Nat)(hr:∀f∈fs,∃x,DataW.trod enc P W base spare held n f.type ((cs.drop f.offset).take (P.cellsOf f.type))=some x/\∀k∈x.1.weights P f.type,k<=reachBytes)(hf:Sh.fitsL P ss fs o=true)
  (hl:cs.length=o+Sh.sizes ss):∃as,Sh.rdL ss as/\wI (gW W) as (cs.drop o)/\∀c∈cs.drop o,c.oneCell'=true:=by
 match ss,fs,hf with
 |[],[],hf=>
  refine⟨[],rfl,?_,?_⟩
  ·rw[uy (by simp [Sh.sizes]at hl;omega)];rfl
  ·rw[uy (by simp [Sh.sizes]at hl;omega)];simp
 |s::r,f::fs,hf=>
  simp only[Sh.fitsL,sf,vz]at hf;obtain⟨⟨⟨h1,h2⟩,h3⟩,h4⟩:=hf;obtain⟨x,hx,hxw⟩:=hr f zw;rw[h2,h3]at hx;have xG:cs.length=o+(s.size+Sh.sizes r):=hl;obtain⟨a,k1,k2,k3⟩:=Sh.reads s f.type ((cs.drop o).take s.size) n x h1 hx hxw;obtain⟨b,q1,q2,q3⟩:=Sh.readsL r fs (o+s.size) cs n (λg hg=>hr g (by simp [hg])) h4 zo;have e:cs.drop o=(cs.drop o).take s.size++cs.drop (o+s.size):=by
   rw[<-List.drop_drop,List.take_append_drop]
  refine⟨a++b,⟨a,b,rfl,k1,q1⟩,by rw[e];exact wI.append _ _ _ _ k2 q2,λc hc=>?_⟩;rw[e]at hc;rcases tP.1 hc with hc|hc
  ·exact k3 c hc
  ·exact q3 c hc
end
theorem Sh.arg(s:Sh){t:TypeId}{v:Value}{b0:Nat}(hf:s.fits P t=true)(hv:Value.okWide P W .any b0 t v){d:DataW H}{ps:List MemPlace}(h:DataW.Trod enc P W base spare held t v d ps)(hw:∀k∈d.weights P t,k<=reachBytes):
  ∃as,s.rd as/\AR (gW W) (s.wrap as) v:=by
 obtain⟨n,hn⟩:=h;obtain⟨as,h1,h2,h3⟩:=s.reads t v.cells.toList n _ hf hn hw;refine⟨as,h1,?_⟩;cases s with
 |st fs=>
  simp only[Sh.fits]at hf;split at hf
  ·rename_i gs ht;obtain⟨cs,rfl,_⟩:=okWide_struct ht hv;exact⟨cs,rfl,h2,h3⟩
  ·cases hf
 |_=>
  have hl:=Sh.rd_length _ _ h1
  match as,hl with
  |[a],_=>
   obtain⟨u,rest,hu,k1,k2⟩:=h2;have k3:rest=[]:=k2;subst k3;have o:=h3 u (by rw[hu];simp);have huv:v=u:=by
    simp only[Sh.fits]at hf;split at hf
    ·rename_i ht;first
      |(obtain⟨b,rfl⟩:=okWide_bool ht hv;simpa [Value.cells]using hu)
      |(obtain⟨b,rfl⟩:=okWide_int ht hv;simpa [Value.cells]using hu)
      |(obtain⟨b,rfl⟩:=okWide_string ht hv;simpa [Value.cells]using hu)
      |(obtain⟨b,l,c,rfl⟩:=okWide_slice ht hv;simpa [Value.cells]using hu)
    ·cases hf
   subst huv;exact k1
open Go.ChangeShapes in
theorem MH:∀{ts:List TypeId} {vs:List Value} {ds:List (DataW H)} {ps:List MemPlace},DataW.TrodAll enc P W base spare held ts vs ds ps->vs.length=ts.length/\ds.length=ts.length
 |[],_,_,_,h=>by
  obtain⟨rfl,rfl,_⟩:=trodAll_nil h;exact⟨rfl,rfl⟩
 |_::_,_,_,_,h=>by
  obtain⟨v,vs1,d,ds1,a,b,rfl,rfl,rfl,_,h2⟩:=trodAll_cons h;have:=MH h2;simp [this.1,this.2]
def Sh.rdA:List Sh->List Fs->Prop
 |[],as=>as=[]
 |s::r,as=>∃x b,as=s.wrap x::b/\s.rd x/\Sh.rdA r b
def Sh.fitsA(P:Program):List Sh->List TypeId->Bool
 |[],[]=>true
 |s::r,t::ts=>s.fits P t&&Sh.fitsA P r ts
 |_,_=>false
open Go.ChangeShapes in
theorem Sh.args{b0:Nat}:∀(ss:List Sh) (ts:List TypeId) (vs:List Value) (ds:List (DataW H)) (ps:List MemPlace),Sh.fitsA P ss ts=true->
  (∀(j:Nat) t v,ts[j]?=some t->vs[j]?=some v->Value.okWide P W .any b0 t v)->DataW.TrodAll enc P W base spare held ts vs ds ps->(∀(j:Nat) t d,ts[j]?=some t->ds[j]?=some d->∀k∈d.weights P t,k<=reachBytes)->∃as,Sh.rdA ss as/\wI (gW W) as vs
 |[],[],vs,ds,ps,_,_,h,_=>by
  obtain⟨rfl,rfl,rfl⟩:=trodAll_nil h;exact⟨[],rfl,rfl⟩
 |s::r,t::ts,vs,ds,ps,hf,hv,h,hw=>by
  obtain⟨v,vs1,d,ds1,a,c,rfl,rfl,rfl,h1,h2⟩:=trodAll_cons h;simp only[Sh.fitsA,sf]at hf;have hv0:=hv 0 t v rfl rfl;obtain⟨x,k1,k2⟩:=s.arg hf.1 hv0 h1 (hw 0 t d rfl rfl);obtain⟨b,q1,q2⟩:=Sh.args r ts vs1 ds1 _ hf.2 (λj t' v' e1 e2=>hv (j+1) t' v' e1 e2) h2 (λj t' d' e1 e2=>hw (j+1) t' d' e1 e2);exact⟨_,⟨x,b,rfl,k1,q1⟩,_,_,rfl,k2,q2⟩
 |[],_::_,_,_,_,hf,_,_,_=>by cases hf
 |_::_,[],_,_,_,hf,_,_,_=>by cases hf
open Go.ChangeShapes in
theorem U0{f:FuncId}{fn:Func}{s:ChangeSpec}{apart fresh handsOn again:Bool}{args:Array Value}{ds gs:List (DataW H)}{before:List MemPlace}{b0:Nat}{tb:TypeId}(ss:List Sh)
  (hval:∀(j:Nat) t v,fn.params[j]?=some t->args[j]?=some v->Value.okWide P W .any b0 t v)
  (hW:DataW.Whole enc P fn.params.toList s.vars apart W args.toList ds gs before)
  (hwt:(DataW.weightsEach P (fn.params.toList++s.plain.varTypes P) (ds++gs)).all (· <=reachBytes)=true)
  (hvars:s.vars=[]) (zg:∀ds:List (DataW H),ds.length=ss.length->s.fn H ds={results:=[.lit (.bool true)],args:=ds,vars:=[]})
  (yw:Sh.fitsA P ss fn.params.toList=true)
  (xR:fn.resultTypes= #[tb]) (htb:P.underlying tb=some .bool)
  (hk:laidOutB P=true) (hm:mapsRowed P=true) (hfull:((List.range P.types.size).all λt=>match P.underlying t with|some (.slice e)=>decide (0<P.cellsOf e)|_=>true)=true)
  (hts:(fn.params.toList.all λt=>decide (t<P.types.size))=true)
  (hg:Et (gW W)) (hgz:G5 W) (hpur:∀as,Sh.rdA ss as->wI (gW W) as args.toList->Av P f as (.bool true)):
  Calls P f args W λe W'=>∃v,e= .returned v/\s.post enc P fn apart fresh handsOn again W args v W':=by
 have hW':=hW;obtain⟨p,q,hA,hV,rfl,hfz,hnd⟩:=hW;rw[hvars]at hV;obtain⟨rfl,rfl⟩:=trodVars_none hV;simp only[sR]at hW';have hlen:=MH hA;have hwd:∀(j:Nat) t d,fn.params.toList[j]?=some t->ds[j]?=some d->∀k∈d.weights P t,k<=reachBytes:=λj t d h1 h2 k hk=>by
  have l1:j<fn.params.toList.length:=(t8.1 h1).1;have l2:j<ds.length:=(t8.1 h2).1;simpa using sE.1 hwt k (DataW.weights_mem_each (j:=j) (t:=t) (d:=d) (by rw[tQ l1];exact h1) (by rw[tQ l2];exact h2) k hk)
 have yg:ss.length=fn.params.toList.length:=by
  clear hpur zg hval hW' hlen hA hts hwd hwt;generalize fn.params.toList=ts at yw;induction ss generalizing ts with
  |nil=>cases ts<;>first|rfl|cases yw
  |cons s r ih=>
   cases ts with
   |nil=>cases yw
   |cons t ts=>simp only[Sh.fitsA,sf]at yw;simp [ih ts yw.2]
 have yS:=zg ds (by rw[hlen.2,yg]);have hspn:s.fn H (ds++[])={results:=[.lit (.bool true)],args:=ds,vars:=[]}:=by rw[sR];exact yS
 obtain⟨as,h1,h2⟩:=Sh.args ss _ _ _ _ yw (λj t v e1 e2=>hval j t v (by simpa using e1) (by simpa using e2)) hA hwd;have e9:=hW'.lt;refine((hpur as h1 h2).calls hg hgz h2).mono ?_;rintro e W' ⟨rfl,hgr⟩;have s9:Value.okWide P W' .any 0 tb (.bool true):=by simp [Value.okWide,htb,Cell.okWide,Cell.ok]
 refine⟨_,rfl,Uz (pa:=p) (pv:=[]) hgr hW' (λb sp hd=>?_) (λsp hsp'=>?_) (λ_ _=>?_) zw ?_⟩
 ·rw[hspn,xR];exact trodAll_mk1 ⟨1,by simp [DataW.trod,Value.cells,htb]⟩
 ·rw[hspn];refine MG hgr (DataW.TrodAll.respare (T:=(· <P.types.size)) (kids_rows hk hm) (slices_full_of P hfull) (λt ht=>by simpa using sE.1 hts t ht) hA hsp') λy hy=>e9 y hy
 ·rw[hspn,hvars];exact rfl
 ·rw[xR];intro j t r e1 e2
  match j,e1,e2 with
  |0,e1,e2=>simp_all [Value.resultList]
  |j+1,e1,e2=>simp at e1
theorem YJ{f:FuncId}{fn:Func}{s:ChangeSpec}{apart fresh handsOn again:Bool}{args:Array Value}{ds gs:List (DataW H)}{before:List MemPlace}{b0:Nat}{tb:TypeId}(ss:List Sh)
  (hval:∀(j:Nat) t v,fn.params[j]?=some t->args[j]?=some v->Value.okWide P W .any b0 t v)
  (hW:DataW.Whole enc P fn.params.toList s.vars apart W args.toList ds gs before)
  (hwt:(DataW.weightsEach P (fn.params.toList++s.plain.varTypes P) (ds++gs)).all (· <=reachBytes)=true)
  (hvars:s.vars=[]) (zg:∀ds:List (DataW H),ds.length=ss.length->s.fn H ds={results:=[.lit (.bool true)],args:=ds,vars:=[]})
  (yw:Sh.fitsA P ss fn.params.toList=true)
  (xR:fn.resultTypes= #[tb]) (htb:P.underlying tb=some .bool)
  (hk:laidOutB P=true) (hm:mapsRowed P=true) (hfull:((List.range P.types.size).all λt=>match P.underlying t with|some (.slice e)=>decide (0<P.cellsOf e)|_=>true)=true)
  (hts:(fn.params.toList.all λt=>decide (t<P.types.size))=true)
  (hg:Et (gW W)) (hgz:G5 W) (hpur:∀as,Sh.rdA ss as->Av P f as (.bool true)):
  Calls P f args W λe W'=>∃v,e= .returned v/\s.post enc P fn apart fresh handsOn again W args v W':=
 U0 ss hval hW hwt hvars zg yw xR htb hk hm hfull hts hg hgz λas h _=>hpur as h
end
end Go.AM
namespace Go.AM
open Go.Lib Go.Proofs Go.RowKit
def N8{g:q8}{w w':World}(h:x7 g Ak 0 w)(hb:Below w.heap.size w w'):x7 g Ak 0 w' where
 σw:=λb o v e=>by
  have h1:=h.σw b o v e;have h2:b<w.heap.size:=Lib.lt_of_cell (a:=⟨b,o,none⟩) h1;exact(hb.cell (p:=⟨b,o,none⟩) h2).trans h1
 obj:=λ_ _ h=>by simp [AD,Ak]at h
 yJ:=λid L e=>absurd ((h.yJ id L e).1) (by simp [AD,Ak])
 hd:=λ_ _ h=>by simp [AD,Ak]at h
 ap:=λ_ _ _ _ _ _ _ h=>by simp [AD,Ak]at h
 un:=λ_ _ _ _ h=>by simp [AD,Ak]at h
 gl:=h.gl
 gz:=h.gz.kept (own:=λ_ _=>False) (λb ob e=>by
  have h2:b<w.heap.size:=(sW.1 e).1;rw[hb.block b h2,e];exact JQ.same _ _)
def LH{g:q8}{w w':World}(hb:Below w.heap.size w w'):q9 0 g Ak w g Ak w' where
 le:=.refl g
 βn:=λ_ _ h=>.inl h
 os:=hb.os
 tape:=hb.tape
 output:=hb.output
 size:=hb.size
 kept:=λb ob e=>by
  have h2:b<w.heap.size:=(sW.1 e).1;rw[hb.block b h2,e];exact JQ.same _ _
 now:=λ_ _ _ h=>h
 nσ:=λ_ _ _ _ h=>.inl h
def KO{P:Program}{f:FuncId}{args:List Fs}{r:Fs}(hc:C3 P f)(hu:wN 0 args)(hr:r.under 0)
  (h:∀g w vs,x7 g Ak 0 w->wI g args vs->Calls P f vs.toArray w λe w'=>(∃v,e= .returned v/\AR g r v)/\Below w.heap.size w w'):Av P f args r:=by
 refine⟨hu,hr,hc,λg w vs hR hv=>(h g w vs hR hv).mono ?_⟩;rintro e w' ⟨⟨v,rfl,hv⟩,hb⟩;exact⟨g,.ret r,Ak,0,⟨r,rfl,.refl r⟩,hv,N8 hR hb,sj 0,LH hb⟩
section
variable {P:Program} {T:Bg} {Q:x6->AS->Prop} {k:List Item} {s:AS} {x y:z8}
def P7(P:Program)(T:Bg)(x y:z8)(k:List Item)(Q:x6->AS->Prop)(s:AS):Bool->Prop
 |true=>Gw P T x k Q s
 |false=>Gw P T y k Q s
theorem gq{c:zz}:Gw P T (.cond c x y) k Q s=((lk s.env c).1=true/\J4 (AY s.env c)/\P7 P T x y k Q s (Fm (AY s.env c))):=by
 rw[Ic];cases Fm (AY s.env c)<;>simp [P7]
theorem cK_t:P7 P T x y k Q s true=Gw P T x k Q s:=rfl
theorem cK_f:P7 P T x y k Q s false=Gw P T y k Q s:=rfl
theorem cK_i{b:Bool}:P7 P T x y k Q s b=((b=true->Gw P T x k Q s)/\(b=false->Gw P T y k Q s)):=by
 cases b<;>simp [P7]
end
def sel_t{x y:Fs}:Lv true x y=x:=by cases x<;>cases y<;>rfl
def sel_f{x y:Fs}:Lv false x y=y:=by cases x<;>cases y<;>rfl
theorem pQ{b x y:Bool}:Lv b (.bool x) (.bool y)= .bool (bif b then x else y):=rfl
def eX:=(⟨@pF, @fo.eq_1, @gY, @cA, @pL, @gZ, @Uw, @ER.eq_1, @ER.eq_2, @o6, @o7, @o8, @TF⟩:_/\_/\_/\_/\_/\_/\_/\_/\_/\_/\_/\_/\_)
abbrev A{a b:Prop}(x:a)(y:b):a/\b:=⟨x,y⟩
def eN:=A @GK @TC
def eC:=A @TE<|A @pK<|A (A (A @gq (A @cK_t @cK_f)) (A @sel_t (A @sel_f @pQ))) (A (A @o9 @N6.eq_1) (A (A @N6.eq_2 @N6.eq_3) (A (A @N6.eq_4 (A @N6.eq_5 @N6.eq_6)) (A (A @r_cpu @pJ) (A @Ou.eq_1 (A @Pf @r_mnx))))))
def eE:=A @Gr.eq_1<|A @Gr.eq_2<|A (A (A (A (A (A (A (A @TC @oY) (A @oZ (A @od @gK))) (A (A @gL @gM) (A @gN (A @og @oh)))) (A (A (A @k_ret @k_seq) (A @gO (A @k_reg @oo))) (A (A @oq (A @k_frz @ou)) (A @r_ext (A @pB @r_nil))))) (A (A (A (A @pC @r_v) (A @r_vg (A @pD @gR))) (A (A @gS @r_box) (A @r_st (A @pE @gT)))) (A (A (A @gU @bw) (A @r_app (A @r_slA @r_mks))) (A (A @r_pan (A @rx_v @rx_v1)) (A @pG (A @rx_vK @pH)))))) (A (A (A (A (A @rx_vg @pI) (A @gV (A @bz @gX))) (A (A @Q5.eq_1 @Q5.eq_2) (A @Q5.eq_3 (A @Ib.eq_1 @Ib.eq_2)))) (A (A (A @Jb.eq_1 @Jb.eq_2) (A @Uu.eq_1 (A @LE.eq_1 @Hw.eq_1))) (A (A @Ge.eq_1 (A @Ge.eq_2 @MD.eq_1)) (A @MD.eq_2 (A @MD.eq_3 @AF.eq_1))))) (A (A (A (A @lpQ_n @lpQ_e) (A @lpQ_r (A @lpQ_p @HD.eq_1))) (A (A @HD.eq_2 (A @Dj.eq_1 @Dj.eq_2)) (A @Dj.eq_3 (A @Dj.eq_4 @L9.eq_1)))) (A (A (A @L9.eq_2 @oX.eq_1) (A @oX.eq_2 (A @Yh.eq_1 @Yh.eq_2))) (A (A @GS.eq_1 (A @GS.eq_2 @Bl.eq_1)) (A @Bl.eq_2 (A @BI.eq_1 @BI.eq_2))))))) (A (A (A (A (A (A @lk.eq_1 @lk.eq_2) (A @AY.eq_1 (A @C2.eq_1 @C2.eq_2))) (A (A @AS.put.eq_1 @AS.put.eq_2) (A @AS.keep.eq_1 (A @Bd.eq_1 @Bd.eq_2)))) (A (A (A @Bd.eq_3 @Bd.eq_4) (A @Bd.eq_5 (A @Bd.eq_6 @Bd.eq_7))) (A (A @Bd.eq_8 (A @Bd.eq_9 @Bd.eq_10)) (A @Bd.eq_11 (A @Bd.eq_12 @Bd.eq_13))))) (A (A (A (A @Bd.eq_14 @Bd.eq_15) (A @Bd.eq_16 (A @Bd.eq_17 @Bd.eq_18))) (A (A @Bd.eq_19 (A @Bd.eq_20 @Bd.eq_21)) (A @Bd.eq_22 (A @Bd.eq_23 @Bd.eq_24)))) (A (A (A @Bd.eq_25 @Bd.eq_26) (A @Bd.eq_27 (A @Bd.eq_28 @Bd.eq_29))) (A (A @Bd.eq_30 (A @Bd.eq_31 @Bd.eq_32)) (A @Bd.eq_33 (A @Xp @ST.eq_1)))))) (A (A (A (A (A @ST.eq_2 @K1.eq_1) (A @K1.eq_2 (A @oO @UP.eq_1))) (A (A @UP.eq_2 @Pi.eq_1) (A @Pi.eq_2 (A @oP @UQ.eq_1)))) (A (A (A @UQ.eq_2 @Pj.eq_1) (A @Pj.eq_2 (A @wZ.eq_1 @xx.wH.eq_1))) (A (A @xx.wH.eq_2 (A @xx.wH.eq_3 @xx.wH.eq_4)) (A @xx.wH.eq_5 (A @xx.wH.eq_6 @xx.wH.eq_7))))) (A (A (A (A @xx.wH.eq_8 @xx.wH.eq_9) (A @xx.wH.eq_10 (A @xx.wH.eq_11 @xx.wH.eq_12))) (A (A @xx.wH.eq_13 (A @xx.wH.eq_14 @xx.wH.eq_15)) (A @xx.wH.eq_16 (A @xx.wH.eq_17 @xx.wH.eq_18)))) (A (A (A @xx.wH.eq_19 @xx.wH.eq_20) (A @xx.wH.eq_21 (A @xx.wH.eq_22 @xx.wH.eq_23))) (A (A @xx.wH.eq_24 (A @xx.wH.eq_25 @xx.wH.eq_26)) (A @xx.wH.eq_27 (A @xx.wH.eq_28 @xx.wH.eq_29)))))))) (A (A (A (A (A (A (A @xx.wH.eq_30 @xx.wH.eq_31) (A @xx.wH.eq_32 (A @xx.wH.eq_33 @A7.eq_1))) (A (A @A7.eq_2 @A7.eq_3) (A @A7.eq_4 (A @J3.eq_1 @J3.eq_2)))) (A (A (A @C4.eq_1 @C4.eq_2) (A @A9.eq_1 (A @A9.eq_2 @J4.eq_1))) (A (A @J4.eq_2 (A @Fm.eq_1 @Fm.eq_2)) (A @JR.eq_1 (A @JR.eq_2 @GR.eq_1))))) (A (A (A (A @GR.eq_2 @mk.eq_1) (A @icmp.eq_1 (A @icmp.eq_2 @icmp.eq_3))) (A (A @icmp.eq_4 (A @icmp.eq_5 @icmp.eq_6)) (A @GC.eq_1 (A @GC.eq_2 @GC.eq_3)))) (A (A (A @GC.eq_4 @GC.eq_5) (A @GC.eq_6 (A @wT.eq_1 @wT.eq_2))) (A (A @Co.eq_1 (A @Co.eq_2 @nT.eq_1)) (A @nT.eq_2 (A @Bp.eq_1 @Bp.eq_2)))))) (A (A (A (A (A @Bp.eq_3 @Bp.eq_4) (A @Bp.eq_5 (A @Bp.eq_6 @G8.eq_1))) (A (A @G8.eq_2 @G8.eq_3) (A @JG.eq_1 (A @JG.eq_2 @JG.eq_3)))) (A (A (A @Pg.eq_1 @Pg.eq_2) (A @Pg.eq_3 (A @Pg.eq_4 @Rj.eq_1))) (A (A @AT (A @az @Fs.cells.eq_1)) (A @Fs.cells.eq_2 (A @v8.esz.eq_1 @v8.esz.eq_2))))) (A (A (A (A @v8.esz.eq_3 @v8.esz.eq_4) (A @Option.toList.eq_1.{0} (A @Option.toList.eq_2.{0} @sM.{0}))) (A (A @tI.{0} (A @List.filterMap.eq_1.{0,0} @List.filterMap.eq_2.{0,0})) (A @sS.{0,0} (A @t6.{0,0} @sR.{0})))) (A (A (A @sI.{0} @sJ.{0}) (A @td.{0,0} (A @tU.{0,0} @tD.{0}))) (A (A @tD.{1} (A @sY.{0} @sY.{1})) (A @uJ (A @uf @tX.{0}))))))) (A (A (A (A (A (A @tX.{1} @sN) (A @List.drop.eq_1.{0} (A @List.drop.eq_2.{0} @List.drop.eq_3.{0}))) (A (A @List.take.eq_1.{0} @List.take.eq_2.{0}) (A @List.take.eq_3.{0} (A @vI.{0} @List.drop_succ_cons.{0})))) (A (A (A @List.take_succ_cons.{0} @uo.{0}) (A @List.set_cons_zero.{0} (A @List.set_cons_succ.{0} @List.replicate_succ.{0}))) (A (A @List.replicate_zero.{0} (A @sj @List.headD_cons.{0})) (A @tS (A @Bool.and_true @beq_self_eq_true.{0}))))) (A (A (A (A @Lu.eq_1 @Lu.eq_2) (A @Lu.eq_3 (A @El.eq_1 @El.eq_2))) (A (A @El.eq_3 (A @El.eq_4 @El.eq_5)) (A @El.eq_6 (A @El.eq_7 @uq)))) (A (A (A @uZ.{0} @uZ.{1}) (A @tx (A @Bool.cond_true_left @Bool.cond_false_right))) (A (A @imp_self (A @beq_true @beq_false)) (A @tJ (A @vg @sQ)))))) (A (A (A (A (A @tY @sf) (A @si (A @ti @ne_eq.{1}))) (A (A @uN @vu) (A @natE1 (A @natE2 @impA1)))) (A (A (A @impA2 @and_self) (A @or_true (A @true_or @false_or))) (A (A @vZ (A @pM @gn)) (A @um (A @Nat.add_assoc @tO))))) (A (A (A (A @AU.eq_1 @AU.eq_2) (A @BB.eq_1 (A @BB.eq_2 @BB.eq_3))) (A (A @BB.eq_4 (A @CF.eq_1 @CF.eq_2)) (A @gc (A @gg @pN)))) (A (A (A @pO @decide_true) (A @wc (A @uk @vh))) (A (A @vK (A @Bool.or_true @ub)) (A @Bool.or_false (A @cond_true.{1} @cond_false.{1}))))))))
def eZ:=A eE (A eC eN)
end Go.AM
