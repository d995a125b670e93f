/-
  The law of sound on further and missing nodes and trees.
  Conditions: none beyond those of its parts.
-/
import Derived.Test.YtncahiacfdihpaaGreatDoorB16

set_option maxRecDepth 20000
set_option linter.all false
set_option maxHeartbeats 1000000
namespace Go.AM
open Go.Proofs Go.Lib
def Tsx:Tab:=tadd 18 (s3 dKn dX dPw (λk x p=>FewD k.d/\FewL x/\Fg p) Ay) tnil
theorem Tsx_ok:AH Tryz.prog Tsx:=AH.tnil.add (q3 λk x p h=>p18 k x p h.1 h.2.1 h.2.2.1 h.2.2.2)
theorem Tsx_c(a:List AVal)(H:AB):Tsx 18 a H=s3 dKn dX dPw (λk x p=>FewD k.d/\FewL x/\Fg p) Ay a H:=rfl
def refB(k:Knd)(x:Lma)(q:List (List Cas)):Bool:=decide (BQ k x=0)&& !BI (AR k) x q
theorem p27(k:Knd)(x:Lma)(q:List (List Cas))(hk:FewD k.d)(hx:FewL x)(hq:Fg q):Pur Tryz.prog 27 [EC q,.ep (AL k),.ep (Ae x)] (.bool (refB k x q)):=by
 have u1:dKn.ok (.agg (AL k))=True:=EF k
 have u2:dKn.dec (.agg (AL k))=k:=Ct k
 simp only[AL,AG,AO,Vu,Vw]at u1 u2
 have v1:dX.ok (.agg (Ae x))=True:=Ns x
 have v2:dX.dec (.agg (Ae x))=x:=IF x
 simp only[Ae]at v1 v2
 have t1:dPw.ok (.agg [eTr q])=True:=Ot q
 have t2:dPw.dec (.agg [eTr q])=q:=Ou q
 refine .mk ⟨CX 0 q,Aj 0 k,Bb 0 x,trivial⟩ trivial (a27 (AE Tsx_ok (AF ?_)))
 unfold refB
 by_cases hv:BQ k x=0
 ·have hs:Ay k x q= .tup [.bool (BI (AR k) x q),.int .i64 0]:=by unfold Ay;rw[Vb (by simpa using hv)]
  rw[VJ hv,WU]
  simp only[eE,eC,eN,reduceCtorEq,Nat.reduceEqDiff,↓reduceIte,Nat.reduceAdd,Nat.reduceLT,V1,Va,Vc,c27,AL,AG,AO,Ae,Tsx_c,s3,u1,u2,v1,v2,t1,t2,V3 hk,V3 hx,V3 hq,hs]
 ·have hs:Ay k x q= .tup [.bool false,.int .i64 (BQ k x)]:=by unfold Ay;rw[Vk hv]
  rw[VN hv,Xo]
  simp only[eE,eC,eN,reduceCtorEq,Nat.reduceEqDiff,↓reduceIte,Nat.reduceAdd,Nat.reduceLT,Ve,V1,Va,Vc,c27,AL,AG,AO,Ae,Tsx_c,s3,u1,u2,v1,v2,t1,t2,V3 hk,V3 hx,V3 hq,hs,Vd hv]
def HQ(k:Knd)(x:Lma):List AVal->AB->Prop×AVal:=λa H=>match a with
 |[q,.ptr kp 0,.ptr xp 0]=>(hget H kp=some (.box (AL k))/\hget H xp=some (.box (Ae x))/\dPw.ok q/\Fg (dPw.dec q),.bool (refB k x (dPw.dec q)))
 |_=>(False,.tup [])
theorem Tx{k:Knd}{x:Lma}(hk:FewD k.d)(hx:FewL x):∀args H n,(HQ k x args H).1->AZ Tryz.prog 27 args H n (HQ k x args H).2:=by
 intro args H n hh
 unfold HQ at hh⊢
 split at hh
 ·obtain⟨h1,h2,h3,h4⟩:=hh
  exact(p27 k x _ hk hx h4).view trivial (.cons (.wk (dPw.wk _ h3)) (.cons (View.ptr (off:=0) h1) (.cons (View.ptr (off:=0) h2) .nil))) n
 ·exact hh.elim
theorem AI.frzR{P:Program}{f:FuncId}{a:List AVal}{H:AB}{n:Nat}{R:AOut->AB->Nat->Prop}
  (h:AI P f a H n λo H' n'=>∃id e l len cap,o= .ret (.agg [.ref id e 0 len cap])/\hget H' id=some (.arr e l)/\len<=l.length/\len<=cap/\R (.ret (.agg [.sl (.none e) (l.take len)])) (hset H' id (.frz e l)) n'):AI P f a H n R:=by
 refine⟨h.1,λg w vs r v=>(h.2 g w vs r v).mono ?_⟩
 rintro e' w' ⟨g',out,H',n',⟨id,e,l,len,cap,rfl,ho,h1,h2,hR⟩,he,hR',hn,ht⟩
 obtain⟨σ',r1,t1⟩:=hR'.freeze (m:=n) ho
 refine⟨⟨g'.β,σ'⟩,_,_,n',hR,?_,r1,hn,ht.trans t1⟩
 cases e' with
 |panicked c=>exact he.elim
 |outgrown=>exact he.elim
 |returned x=>
  obtain⟨vs,rfl,⟨v,rest,q1,⟨L,k1,k2,rfl⟩,q3⟩,q4⟩:=he
  obtain rfl:rest=[]:=q3
  refine⟨vs,rfl,⟨_,[],q1,.inr ⟨trivial,L.blk,0*e,cap,⟨none,?_,.inl rfl⟩,?_,?_,trivial⟩,rfl⟩,q4⟩
  ·rw[Vt,Xu h1]
  ·rw[Vt,Xu h1];exact h2
  ·obtain⟨L',j1,j2,j3⟩:=r1.obj id _ (AC ..)
   have:(⟨g'.β,σ'⟩:Ghost).β id=some L:=k1
   rw[this]at j1;cases j1
   rw[WX]
   exact Stab.take len _ _ j3
theorem q28{ts:List (List Cas)}{t:List Cas}{i:Nat}{pp ip n:Nat}{H:AB}(h1:hget H pp=some (.box [eTr ts]))(h2:hget H ip=some (.box [.int .i64 (i:Int)]))(hi:i<ts.length)(hts:few ts):AZ Tryz.prog 28 [eCs t,.ptr pp 0,.ptr ip 0] H n (EC (ts.set i t)):=by
 refine AZ.of l28 (CX n _) λhf=>AI.frzR (a28 (AE AH.tnil (AF ?_)))
 have hl:ts.length<1000000000:=hts
 have hne:ts.map eCs≠[]:=λe=>by rw[List.map_eq_nil_iff]at e;rw[e]at hi;simp at hi
 have l1:=hf.lt h1
 have l2:=hf.lt h2
 have z1:∀c,(n+c=pp)=False:=λc=>Vd (by omega)
 have z2:∀c,(n+c=ip)=False:=λc=>Vd (by omega)
 have z3:(n=pp)=False:=Vd (by omega)
 have z4:(n=ip)=False:=Vd (by omega)
 simp only[eE,eN,reduceCtorEq,Nat.reduceEqDiff,↓reduceIte,Nat.reduceAdd,Nat.reduceLeDiff,Nat.reduceMul,Nat.reduceLT,V0,c28,h1,Bk,V0,fr0 hf,fr1 hf,z3]
 refine⟨AX (by omega) (by decide),by omega,λq=>absurd q hne,λ_ cap hcap=>?_⟩
 have z5:(0<=(i:Int))=True:=V3 (by omega)
 have z6:((i:Int)<(ts.length:Int))=True:=V3 (by omega)
 simp only[eE,eC,eN,reduceCtorEq,Nat.reduceEqDiff,↓reduceIte,Nat.reduceAdd,CN,V2,DY,h2,fr1 hf,z2,z4,z5,z6]
 have hpt:List.take ts.length (((ts.map eCs)++List.replicate (cap-ts.length) (AVal.sl .nil [])).set i (eCs t))=(ts.set i t).map eCs:=by
  rw[Xf _ _ (by rw[V0];exact hi),Wt (by rw[WI,V0];omega),VZ (by rw[WI,V0];omega),List.map_set]
 refine⟨by rw[Vm,V0];omega,n+4,1,_,ts.length,cap,rfl,by rw[Vb (by omega),Vk rfl],?_,hcap,?_,?_⟩
 ·rw[WI,Vm,V0];omega
 ·rw[hpt];exact Wk.refl _
 ·intro j ob hj
  have:=hf.lt hj
  repeat rw[AA _ _ _ _ (by omega)]
  exact hj
def dCz:Dc (List Cas):=⟨eCs,Tw,okL 2 encC decC,MQ⟩
theorem dCz_ok(l:List Cas):dCz.ok (eCs l)=True:=V3 ⟨.inl rfl,by rw[Bl IS]⟩
def HS(ts:List (List Cas))(i:Nat):List AVal->AB->Prop×AVal:=λa H=>match a with
 |[T,.ptr pp 0,.ptr ip 0]=>(hget H pp=some (.box [eTr ts])/\hget H ip=some (.box [.int .i64 (i:Int)])/\dCz.ok T,EC (ts.set i (dCz.dec T)))
 |_=>(False,.tup [])
theorem Ty{ts:List (List Cas)}{i:Nat}(hi:i<ts.length)(hts:few ts):∀args H n,(HS ts i args H).1->AZ Tryz.prog 28 args H n (HS ts i args H).2:=by
 intro args H n hh
 unfold HS at hh⊢
 split at hh
 ·obtain⟨h1,h2,h3⟩:=hh
  refine AI.args (q28 h1 h2 hi hts) ?_
  rintro g vs ⟨v1,r1,rfl,k1,k2⟩
  exact⟨v1,_,rfl,dCz.wk _ h3 _ _ k1,k2⟩
 ·exact hh.elim
def Tle(k:Knd)(x:Lma)(ts:List (List Cas))(i:Nat):Tab:=tadd 9 (s0v (.bool true)) (tadd 16 (s2 dKn dX (λk _=>WdS k) λk x=>.bool (JJ k x)) (tadd 17 (s1 dPw (λp=>wide p) λp=>.bool (G9 p)) (tadd 18 (s3 dKn dX dPw (λk x p=>FewD k.d/\FewL x/\Fg p) Ay) (tadd 27 (HQ k x) (tadd 28 (HS ts i) tnil)))))
def Tle0:Tab:=tadd 9 (s0v (.bool true)) (tadd 16 (s2 dKn dX (λk _=>WdS k) λk x=>.bool (JJ k x)) (tadd 17 (s1 dPw (λp=>wide p) λp=>.bool (G9 p)) (tadd 18 (s3 dKn dX dPw (λk x p=>FewD k.d/\FewL x/\Fg p) Ay) tnil)))
theorem Tle_ok{k:Knd}{x:Lma}{ts:List (List Cas)}{i:Nat}(hk:FewD k.d)(hx:FewL x)(hi:i<ts.length)(hts:few ts):AH Tryz.prog (Tle k x ts i):=((((((AH.tnil.add (Ty hi hts)).add (Tx hk hx)).add (q3 λk x p h=>p18 k x p h.1 h.2.1 h.2.2.1 h.2.2.2)).add (q1 λp h=>p17 p h)).add (q2 λk x h=>p16 k x h)).add (q0v p9))
theorem GJ:AH Tryz.prog Tle0:=((((AH.tnil.add (q3 λk x p h=>p18 k x p h.1 h.2.1 h.2.2.1 h.2.2.2)).add (q1 λp h=>p17 p h)).add (q2 λk x h=>p16 k x h)).add (q0v p9))
section
variable (k:Knd) (x:Lma) (ts:List (List Cas)) (i:Nat) (a:List AVal) (H:AB)
theorem Tle_n:Tle k x ts i 9 a H=s0v (.bool true) a H:=rfl
theorem Tle_f:Tle k x ts i 16 a H=s2 dKn dX (λk _=>WdS k) (λk x=>.bool (JJ k x)) a H:=rfl
theorem Tle_p:Tle k x ts i 17 a H=s1 dPw (λp=>wide p) (λp=>.bool (G9 p)) a H:=rfl
theorem Tle_c:Tle k x ts i 18 a H=s3 dKn dX dPw (λk x p=>FewD k.d/\FewL x/\Fg p) Ay a H:=rfl
theorem Tle_1:Tle k x ts i 27 a H=HQ k x a H:=rfl
theorem Tle_2:Tle k x ts i 28 a H=HS ts i a H:=rfl
theorem JO:Tle0 9 a H=s0v (.bool true) a H:=rfl
theorem JP:Tle0 16 a H=s2 dKn dX (λk _=>WdS k) (λk x=>.bool (JJ k x)) a H:=rfl
theorem Lr:Tle0 17 a H=s1 dPw (λp=>wide p) (λp=>.bool (G9 p)) a H:=rfl
theorem Ov:Tle0 18 a H=s3 dKn dX dPw (λk x p=>FewD k.d/\FewL x/\Fg p) Ay a H:=rfl
end
theorem p8(k:Knd)(x:Lma)(ts:List (List Cas))(at':Int)(c:Cas)(hw:WdS k)(hwp:wide ts):Pur Tryz.prog 8 [Bq k,encL x,EC ts,.int .i64 at',encC c] (.bool true):=by
 have u1:dKn.ok (.agg (AL k))=True:=EF k
 have u2:dKn.dec (.agg (AL k))=k:=Ct k
 simp only[AL,AG,AO,Vu,Vw]at u1 u2
 have v1:dX.ok (.agg (Ae x))=True:=Ns x
 have v2:dX.dec (.agg (Ae x))=x:=IF x
 simp only[Ae]at v1 v2
 have t1:dPw.ok (.agg [eTr ts])=True:=Ot ts
 have t2:dPw.dec (.agg [eTr ts])=ts:=Ou ts
 have hc2:encC c= .agg [.int .i64 c.k,.int .i64 c.a]:=rfl
 refine .mk ⟨Aj 0 k,Bb 0 x,CX 0 ts,trivial,⟨trivial,trivial,trivial⟩,trivial⟩ trivial (a8 ?_)
 cases hf:JJ k x with
 |false=>
  refine AE GJ (AF ?_)
  simp only[eE,eC,eN,reduceCtorEq,Nat.reduceEqDiff,↓reduceIte,Nat.reduceAdd,V8,Ve,c8,JO,JP,s0v,s2,AL,AG,AO,u1,u2,v1,v2,V3 hw,hf,Ve,V8,hc2]
 |true=>
 cases hp:G9 ts with
 |false=>
  refine AE GJ (AF ?_)
  simp only[eE,eC,eN,reduceCtorEq,Nat.reduceEqDiff,↓reduceIte,Nat.reduceAdd,V8,Ve,c8,JO,JP,Lr,s0v,s1,s2,AL,AG,AO,u1,u2,v1,v2,t1,t2,V3 hw,V3 hwp,hf,hp,Ve,V8,hc2]
 |true=>
 obtain⟨hD,hx⟩:=Om hf
 obtain⟨hl1,hl2⟩:=On hp
 have hpf:Fg ts:=⟨show ts.length<_ by omega,λl hl=>show l.length<_ by have:=hl2 l hl;omega⟩
 by_cases hv:BQ k x=0
 case neg=>
  have hs:Ay k x ts= .tup [.bool false,.int .i64 (BQ k x)]:=by unfold Ay;rw[Vk hv]
  refine AE GJ (AF ?_)
  simp only[eE,eC,eN,reduceCtorEq,Nat.reduceEqDiff,↓reduceIte,Nat.reduceAdd,Nat.reduceLT,V8,Ve,V1,V0,Va,Vc,c8,JO,JP,Lr,Ov,s0v,s1,s2,s3,AL,AG,AO,u1,u2,v1,v2,t1,t2,V3 hw,V3 hwp,hf,hp,Ve,V8,hc2,V3 hD,V3 hx,V3 hpf,hs,Vd hv]
 have hs:Ay k x ts= .tup [.bool (BI (AR k) x ts),.int .i64 0]:=by unfold Ay;rw[Vb (by simpa using hv)]
 cases hr:BI (AR k) x ts with
 |false=>
  rw[hr]at hs
  refine AE GJ (AF ?_)
  simp only[eE,eC,eN,reduceCtorEq,Nat.reduceEqDiff,↓reduceIte,Nat.reduceAdd,Nat.reduceLT,V8,Ve,V1,V0,Va,Vc,c8,JO,JP,Lr,Ov,s0v,s1,s2,s3,AL,AG,AO,u1,u2,v1,v2,t1,t2,V3 hw,V3 hwp,hf,hp,Ve,V8,hc2,V3 hD,V3 hx,V3 hpf,hs]
 |true=>
 rw[hr]at hs
 by_cases hn:ts.length=0
 ·have hn':((ts.length:Int)=0)=True:=V3 (by omega)
  refine AE GJ (AF ?_)
  simp only[eE,eC,eN,reduceCtorEq,Nat.reduceEqDiff,↓reduceIte,Nat.reduceAdd,Nat.reduceLT,V8,V1,V0,Va,Vc,c8,JO,JP,Lr,Ov,s0v,s1,s2,s3,AL,AG,AO,u1,u2,v1,v2,t1,t2,V3 hw,V3 hwp,hf,hp,V8,hc2,V3 hD,V3 hx,V3 hpf,hs,hn']
 have hn':((ts.length:Int)=0)=False:=Vd (by omega)
 obtain⟨j,hj,hje⟩:∃j,j<ts.length/\j=(IntKind.wrap .u64 at').toNat % ts.length:=⟨_,Nat.mod_lt _ (by omega),rfl⟩
 have hu:IntKind.wrap .u64 (ts.length:Int)=(ts.length:Int):=by
  show((ts.length:Int) % 18446744073709551616)=_
  omega
 have hJ:IntKind.wrap .i64 ((IntKind.wrap .u64 at').tmod (ts.length:Int))=(j:Int):=by
  obtain⟨M,hM⟩:∃M:Nat,IntKind.wrap .u64 at'=(M:Int):=⟨(IntKind.wrap .u64 at').toNat,by
   have:0<=IntKind.wrap .u64 at':=by show 0<=at' % 18446744073709551616;omega
   omega⟩
  rw[hM]at hje⊢
  rw[V2]at hje
  show IntKind.wrap .i64 ((M % ts.length:Nat):Int)=_
  rw[<-hje,Aq (by omega) (by omega)]
 have hg:=V5 hj
 have htl:=hl2 _ (Vn hj)
 have hne:=RG hr hg
 generalize ts[j]=tree at hg htl hne
 have hnl:tree.length≠0:=λq=>hne (WA.1 q)
 have w1:((tree.length:Int)=0)=False:=Vd (by omega)
 have w2:((j:Int)<(ts.length:Int))=True:=V3 (by omega)
 have w3:(0<=(j:Int))=True:=V3 (by omega)
 have e1:tree.map encC++[.agg [.int .i64 c.k,.int .i64 c.a]]=(tree++[c]).map encC:=by rw[Vl];rfl
 have e2:(tree.map encC).take (tree.length-1)=(tree.take (tree.length-1)).map encC:=by rw[List.map_take]
 have e3:ts.map eCs++[eCs tree]=(ts++[tree]).map eCs:=by rw[Vl];rfl
 have e4:(ts.map eCs).take (ts.length-1)=(ts.take (ts.length-1)).map eCs:=by rw[List.map_take]
 have y1:∀id,dCz.ok (.sl (.own id 2) ((tree++[c]).map encC))=True:=λid=>V3 ⟨.inl rfl,by rw[Bl IS]⟩
 have y2:∀id,dCz.dec (.sl (.own id 2) ((tree++[c]).map encC))=tree++[c]:=λid=>GH _
 have y3:dCz.ok (.sl (.none 2) ((tree.take (tree.length-1)).map encC))=True:=dCz_ok _
 have y4:dCz.dec (.sl (.none 2) ((tree.take (tree.length-1)).map encC))=tree.take (tree.length-1):=GH _
 have pok:∀q:List (List Cas),dPw.ok (.agg [.sl (.none 1) (q.map eCs)])=True:=λq=>Ot q
 have pdec:∀(q:List (List Cas)) (tk:Tok),dPw.dec (.agg [.sl tk (q.map eCs)])=q:=λq tk=>GI q
 have pown:∀(q:List (List Cas)) id,dPw.ok (.agg [.sl (.own id 1) (q.map eCs)])=True:=λq id=>V3 (by
  show Wk (.agg [.sl (.own id 1) (q.map eCs)]) (EC (dPw.dec (.agg [.sl (.own id 1) (q.map eCs)])))
  rw[pdec]
  exact Wk.agg (.cons (Wk.sl (.inl rfl)) .nil))
 have rA:refB k x (ts.set j (tree++[c]))=true:=by unfold refB;rw[VJ hv,M2 hr hg];rfl
 have rB:refB k x (ts.set j (tree.take (tree.length-1)))=true:=by unfold refB;rw[VJ hv,<-List.dropLast_eq_take,Kg hr hg];rfl
 have rC:refB k x (ts++[tree])=true:=by unfold refB;rw[VJ hv,JN hr (by rw[Vm,Xp];omega)];rfl
 have rD:refB k x (ts.take (ts.length-1))=true:=by unfold refB;rw[VJ hv,JN hr (by rw[Vt];omega)];rfl
 have fS:∀t:List Cas,t.length<=300->Fg (ts.set j t)=True:=λt ht=>V3 ⟨show(ts.set j t).length<_ by rw[WI];omega,λl hl=>show l.length<_ by
  rcases X4 hl with q|q
  ·have:=hl2 l q;omega
  ·rw[q];omega⟩
 have fA:=fS (tree++[c]) (by rw[Vm,Xp];omega)
 have fB:=fS (tree.take (tree.length-1)) (by rw[Vt];omega)
 have fC:Fg (ts++[tree])=True:=V3 ⟨show(ts++[tree]).length<_ by rw[Vm,Xp];omega,λl hl=>show l.length<_ by
  rcases W7.1 hl with q|q
  ·have:=hl2 l q;omega
  ·rw[Wp.1 q];omega⟩
 have fD:Fg (ts.take (ts.length-1))=True:=V3 ⟨show(ts.take (ts.length-1)).length<_ by rw[Vt];omega,λl hl=>show l.length<_ by have:=hl2 l (Xe hl);omega⟩
 have w4:IntKind.wrap .i64 ((tree.length:Int)-1)=((tree.length-1:Nat):Int):=by rw[Aq (by omega) (by omega)];omega
 have w5:IntKind.wrap .i64 ((ts.length:Int)-1)=((ts.length-1:Nat):Int):=by rw[Aq (by omega) (by omega)];omega
 have a1:Al tree.length 16=True:=V3 (AX (by omega) (by decide))
 have a2:Al (tree.length+1) 16=True:=V3 (AX (by omega) (by decide))
 have a3:Al ts.length 24=True:=V3 (AX (by omega) (by decide))
 have a4:Al (ts.length+1) 24=True:=V3 (AX (by omega) (by decide))
 have b1:(tree.length<=35184372088832)=True:=V3 (by omega)
 have b2:(tree.length<=35184372088831)=True:=V3 (by omega)
 have b3:(ts.length<=35184372088832)=True:=V3 (by omega)
 have b4:(ts.length<=35184372088831)=True:=V3 (by omega)
 have b5:(((tree.length-1:Nat):Int)<=(tree.length:Int))=True:=V3 (by omega)
 have b6:(((ts.length-1:Nat):Int)<=(ts.length:Int))=True:=V3 (by omega)
 refine AE (Tle_ok hD hx hj hpf.1) (AF ?_)
 simp only[eE,eC,eN,reduceCtorEq,Nat.reduceEqDiff,↓reduceIte,Nat.reduceAdd,Nat.reduceLeDiff,Nat.reduceMul,Nat.reduceLT,Int.reduceEq,V8,V1,Wb,W3,V2,V4,V0,V6,Va,Vc,c8,Tle_n,Tle_f,Tle_p,Tle_c,s0v,s1,s2,s3,AL,AG,AO,Ae,u1,u2,v1,v2,t1,t2,V3 hw,V3 hwp,hf,hp,V8,hc2,V3 hD,V3 hx,V3 hpf,hs,hn',hu,hJ,w1,w2,w3,hg,Tle_1,Tle_2,HQ,HS,a1,a2,a3,a4,b1,b2,b3,b4,b5,b6,e1,e2,e3,e4,y1,y2,y3,y4,pok,pdec,pown,rA,rB,rC,rD,fA,fB,fC,fD,w4,w5,EC,eTr]
end Go.AM
