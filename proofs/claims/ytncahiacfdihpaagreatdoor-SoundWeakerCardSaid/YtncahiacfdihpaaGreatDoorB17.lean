/-
  The law of sound on further conditions and premises.
  Conditions: none beyond those of its parts.
-/
import Derived.Test.YtncahiacfdihpaaGreatDoorB16

set_option maxRecDepth 20000
set_option linter.all false
set_option maxHeartbeats 1000000
namespace Go.AM
open Go.Proofs Go.Lib
def Tw:Tab:=tadd 9 (s0v (.bool true)) (tadd 16 (s2 dKn dX (λk _=>WdS k) λk x=>.bool (KZ k x)) (tadd 20 (s2 dKn dXw (λk x=>FewD k.d/\FewL x) CG) (tadd 26 (s1 dXw (λ_=>True) λx=>.bool (fewB x)) (tadd 23 (s1 dXw FewL λx=>eI (chk x)) tnil))))
theorem Tw_ok:AH Tryz.prog Tw:=((((AH.tnil.add (q1 λx h=>p23 x h)).add (q1 λx _=>p26 x)).add (q2 λk x h=>p20 k x h.1 h.2)).add (q2 λk x h=>p16 k x h)).add (q0v p9)
section
variable (a:List AVal) (H:AB)
theorem Tw_n:Tw 9 a H=s0v (.bool true) a H:=rfl
theorem Tw_f:Tw 16 a H=s2 dKn dX (λk _=>WdS k) (λk x=>.bool (KZ k x)) a H:=rfl
theorem Tw_t:Tw 20 a H=s2 dKn dXw (λk x=>FewD k.d/\FewL x) CG a H:=rfl
theorem Tw_z:Tw 26 a H=s1 dXw (λ_=>True) (λx=>.bool (fewB x)) a H:=rfl
theorem Tw_c:Tw 23 a H=s1 dXw FewL (λx=>eI (chk x)) a H:=rfl
end
theorem p7(k:Knd)(x:Lma)(c:Cnd)(m:Prm)(hw:WdS k)(hwc:wide c.cs/\wide c.ls/\wide m.ls):Pur Tryz.prog 7 [Br k,encL x,encQ c,encM m] (.bool true):=by
 have u1:dKn.ok (.agg (AL k))=True:=Ep k
 have u2:dKn.dec (.agg (AL k))=k:=DE k
 simp only[AL,AG,AO,Vv,Vy]at u1 u2
 have v1:dX.ok (.agg (Ah x))=True:=LU x
 have v2:dX.dec (.agg (Ah x))=x:=HF x
 have v3:dXw.ok (.agg (Ah x))=True:=dXw_ok x
 have v4:dXw.dec (.agg (Ah x))=x:=T0 x
 simp only[Ah]at v1 v2 v3 v4
 refine .mk ⟨Am 0 k,BS 0 x,EJ 0 c,IG 0 m,trivial⟩ trivial (a7 (AE Tw_ok (AF ?_)))
 cases hf:KZ k x with
 |false=>simp only[eE,eC,eN,reduceCtorEq,Nat.reduceEqDiff,↓reduceIte,Nat.reduceAdd,V8,Vf,c7,Tw_n,Tw_f,s0v,s2,AL,AG,AO,u1,u2,v1,v2,V3 hw,hf,Vf,V8]
 |true=>
 obtain⟨hD,hx⟩:=Ot hf
 have hfb:fewB x=true:=by
  unfold KZ at hf
  simp only[V7]at hf
  exact hf.1.1.2
 have hqn:x.qs.length<1000:=by
  unfold fewB at hfb
  simp only[V7,Vd]at hfb
  omega
 have hpn:x.ps.length<1000:=by
  unfold fewB at hfb
  simp only[V7,Vd]at hfb
  omega
 by_cases hv:BK k x=0
 case neg=>
  have h2:CG k x= .tup [.bool false,.int .i64 (BK k x)]:=by unfold CG;rw[Vk hv]
  simp only[eE,eC,eN,reduceCtorEq,Nat.reduceEqDiff,↓reduceIte,Nat.reduceAdd,Nat.reduceLT,V8,Vf,V1,V9,Vb,c7,Tw_n,Tw_f,Tw_t,s0v,s2,AL,AG,AO,u1,u2,v1,v2,v3,v4,V3 hw,hf,Vf,V8,V3 hD,V3 hx,h2,Ve hv]
 have h2:CG k x= .tup [.bool (Da (AR k) x),.int .i64 0]:=by unfold CG;rw[Vc (by simpa using hv)]
 cases hs:Da (AR k) x with
 |false=>
  rw[hs]at h2
  simp only[eE,eC,eN,reduceCtorEq,Nat.reduceEqDiff,↓reduceIte,Nat.reduceAdd,Nat.reduceLT,V8,Vf,V1,V9,Vb,c7,Tw_n,Tw_f,Tw_t,s0v,s2,AL,AG,AO,u1,u2,v1,v2,v3,v4,V3 hw,hf,Vf,V8,V3 hD,V3 hx,h2]
 |true=>
 rw[hs]at h2
 have y2:∀id,dXw.dec (.agg [.str x.nm,.int .i64 x.lv,eSs x.cs,eSs x.ls,.sl (.own id 4) (x.qs.map encQ++[encQ c]),.sl (.none 2) (x.ps.map encM),.int .i64 x.c,.int .i64 x.l])=RK x c:=λid=>by
  have:=EK (RK x c)
  unfold RK at this⊢
  simp only[encL,Vl,Vs,VP]at this
  exact this
 have y1:∀id,dXw.ok (.agg [.str x.nm,.int .i64 x.lv,eSs x.cs,eSs x.ls,.sl (.own id 4) (x.qs.map encQ++[encQ c]),.sl (.none 2) (x.ps.map encM),.int .i64 x.c,.int .i64 x.l])=True:=λid=>V3 (by
  show Wk _ (encL (dXw.dec _))
  rw[y2 id]
  refine Wk.agg (.cons (Wk.refl _) (.cons (Wk.refl _) (.cons (Wk.refl _) (.cons (Wk.refl _) (.cons ?_ (.cons (Wk.refl _) (.cons (Wk.refl _) (.cons (Wk.refl _) .nil))))))))
  show Wk _ (.sl (.none 4) ((x.qs++[c]).map encQ))
  rw[Vl]
  exact Wk.sl (.inl rfl))
 have z2:∀id,dXw.dec (.agg [.str x.nm,.int .i64 x.lv,eSs x.cs,eSs x.ls,.sl (.none 4) (x.qs.map encQ),.sl (.own id 2) (x.ps.map encM++[encM m]),.int .i64 x.c,.int .i64 x.l])=RL x m:=λid=>by
  have:=EK (RL x m)
  unfold RL at this⊢
  simp only[encL,Vl,Vs,VP]at this
  exact this
 have z1:∀id,dXw.ok (.agg [.str x.nm,.int .i64 x.lv,eSs x.cs,eSs x.ls,.sl (.none 4) (x.qs.map encQ),.sl (.own id 2) (x.ps.map encM++[encM m]),.int .i64 x.c,.int .i64 x.l])=True:=λid=>V3 (by
  show Wk _ (encL (dXw.dec _))
  rw[z2 id]
  refine Wk.agg (.cons (Wk.refl _) (.cons (Wk.refl _) (.cons (Wk.refl _) (.cons (Wk.refl _) (.cons (Wk.refl _) (.cons ?_ (.cons (Wk.refl _) (.cons (Wk.refl _) .nil))))))))
  show Wk _ (.sl (.none 2) ((x.ps++[m]).map encM))
  rw[Vl]
  exact Wk.sl (.inl rfl))
 have a1:Al x.qs.length 64=True:=V3 (AX (by omega) (by decide))
 have a2:Al (x.qs.length+1) 64=True:=V3 (AX (by omega) (by decide))
 have a3:Al x.ps.length 32=True:=V3 (AX (by omega) (by decide))
 have a4:Al (x.ps.length+1) 32=True:=V3 (AX (by omega) (by decide))
 have b1:(x.qs.length<=35184372088832)=True:=V3 (by omega)
 have b2:(x.qs.length<=35184372088831)=True:=V3 (by omega)
 have b3:(x.ps.length<=35184372088832)=True:=V3 (by omega)
 have b4:(x.ps.length<=35184372088831)=True:=V3 (by omega)
 have key:∀y:Lma,y.cs=x.cs->y.ls=x.ls->y.c=x.c->y.l=x.l->(∀q∈x.qs,q∈y.qs)->(∀p∈x.ps,p∈y.ps)->
   fewB y=false\/(fewB y=true/\FewL y/\chk y≠0)\/(fewB y=true/\FewL y/\chk y=0/\CG k y= .tup [.bool true,.int .i64 0]):=λy g1 g2 g3 g4 g5 g6=>by
  cases fy:fewB y with
  |false=>exact .inl rfl
  |true=>
   by_cases cy:chk y=0
   ·exact .inr (.inr ⟨rfl,IT fy,cy,Ox hD hx hv cy g1 g2 g3 g4 g5 g6 hs⟩)
   ·exact .inr (.inl ⟨rfl,IT fy,cy⟩)
 rcases key (RK x c) rfl rfl rfl rfl (λq hq=>List.mem_append_left _ hq) (λp hp=>hp)with fa|⟨fa,gya,ca⟩|⟨fa,gya,ca,ta⟩<;>
  rcases key (RL x m) rfl rfl rfl rfl (λq hq=>hq) (λp hp=>List.mem_append_left _ hp)with fb|⟨fb,gyb,cb⟩|⟨fb,gyb,cb,tb⟩
 ·simp only[eE,eC,eN,reduceCtorEq,Nat.reduceEqDiff,↓reduceIte,Nat.reduceAdd,Nat.reduceLeDiff,Nat.reduceMul,Nat.reduceLT,V8,V1,V0,V9,Vb,c7,Tw_n,Tw_f,Tw_t,Tw_z,Tw_c,s0v,s1,s2,AL,AG,AO,u1,u2,v1,v2,v3,v4,V3 hw,hf,V8,V3 hD,V3 hx,h2,AI,a1,a2,a3,a4,b1,b2,b3,b4,y1,y2,z1,z2,fa,fb]
 ·simp only[eE,eC,eN,reduceCtorEq,Nat.reduceEqDiff,↓reduceIte,Nat.reduceAdd,Nat.reduceLeDiff,Nat.reduceMul,Nat.reduceLT,V8,V1,V0,V9,Vb,c7,Tw_n,Tw_f,Tw_t,Tw_z,Tw_c,s0v,s1,s2,AL,AG,AO,u1,u2,v1,v2,v3,v4,V3 hw,hf,V8,V3 hD,V3 hx,h2,AI,a1,a2,a3,a4,b1,b2,b3,b4,y1,y2,z1,z2,fa,fb,V3 gyb,Ve cb]
 ·simp only[eE,eC,eN,reduceCtorEq,Nat.reduceEqDiff,↓reduceIte,Nat.reduceAdd,Nat.reduceLeDiff,Nat.reduceMul,Nat.reduceLT,V8,V1,V0,V9,Vb,c7,Tw_n,Tw_f,Tw_t,Tw_z,Tw_c,s0v,s1,s2,AL,AG,AO,u1,u2,v1,v2,v3,v4,V3 hw,hf,V8,V3 hD,V3 hx,h2,AI,a1,a2,a3,a4,b1,b2,b3,b4,y1,y2,z1,z2,fa,fb,V3 gyb,V3 cb,tb]
 ·simp only[eE,eC,eN,reduceCtorEq,Nat.reduceEqDiff,↓reduceIte,Nat.reduceAdd,Nat.reduceLeDiff,Nat.reduceMul,Nat.reduceLT,V8,V1,V0,V9,Vb,c7,Tw_n,Tw_f,Tw_t,Tw_z,Tw_c,s0v,s1,s2,AL,AG,AO,u1,u2,v1,v2,v3,v4,V3 hw,hf,V8,V3 hD,V3 hx,h2,AI,a1,a2,a3,a4,b1,b2,b3,b4,y1,y2,z1,z2,fa,V3 gya,Ve ca,fb]
 ·simp only[eE,eC,eN,reduceCtorEq,Nat.reduceEqDiff,↓reduceIte,Nat.reduceAdd,Nat.reduceLeDiff,Nat.reduceMul,Nat.reduceLT,V8,V1,V0,V9,Vb,c7,Tw_n,Tw_f,Tw_t,Tw_z,Tw_c,s0v,s1,s2,AL,AG,AO,u1,u2,v1,v2,v3,v4,V3 hw,hf,V8,V3 hD,V3 hx,h2,AI,a1,a2,a3,a4,b1,b2,b3,b4,y1,y2,z1,z2,fa,V3 gya,Ve ca,fb,V3 gyb,Ve cb]
 ·simp only[eE,eC,eN,reduceCtorEq,Nat.reduceEqDiff,↓reduceIte,Nat.reduceAdd,Nat.reduceLeDiff,Nat.reduceMul,Nat.reduceLT,V8,V1,V0,V9,Vb,c7,Tw_n,Tw_f,Tw_t,Tw_z,Tw_c,s0v,s1,s2,AL,AG,AO,u1,u2,v1,v2,v3,v4,V3 hw,hf,V8,V3 hD,V3 hx,h2,AI,a1,a2,a3,a4,b1,b2,b3,b4,y1,y2,z1,z2,fa,V3 gya,Ve ca,fb,V3 gyb,V3 cb,tb]
 ·simp only[eE,eC,eN,reduceCtorEq,Nat.reduceEqDiff,↓reduceIte,Nat.reduceAdd,Nat.reduceLeDiff,Nat.reduceMul,Nat.reduceLT,V8,V1,V0,V9,Vb,c7,Tw_n,Tw_f,Tw_t,Tw_z,Tw_c,s0v,s1,s2,AL,AG,AO,u1,u2,v1,v2,v3,v4,V3 hw,hf,V8,V3 hD,V3 hx,h2,AI,a1,a2,a3,a4,b1,b2,b3,b4,y1,y2,z1,z2,fa,V3 gya,V3 ca,ta,fb]
 ·simp only[eE,eC,eN,reduceCtorEq,Nat.reduceEqDiff,↓reduceIte,Nat.reduceAdd,Nat.reduceLeDiff,Nat.reduceMul,Nat.reduceLT,V8,V1,V0,V9,Vb,c7,Tw_n,Tw_f,Tw_t,Tw_z,Tw_c,s0v,s1,s2,AL,AG,AO,u1,u2,v1,v2,v3,v4,V3 hw,hf,V8,V3 hD,V3 hx,h2,AI,a1,a2,a3,a4,b1,b2,b3,b4,y1,y2,z1,z2,fa,V3 gya,V3 ca,ta,fb,V3 gyb,Ve cb]
 ·simp only[eE,eC,eN,reduceCtorEq,Nat.reduceEqDiff,↓reduceIte,Nat.reduceAdd,Nat.reduceLeDiff,Nat.reduceMul,Nat.reduceLT,V8,V1,V0,V9,Vb,c7,Tw_n,Tw_f,Tw_t,Tw_z,Tw_c,s0v,s1,s2,AL,AG,AO,u1,u2,v1,v2,v3,v4,V3 hw,hf,V8,V3 hD,V3 hx,h2,AI,a1,a2,a3,a4,b1,b2,b3,b4,y1,y2,z1,z2,fa,V3 gya,V3 ca,ta,fb,V3 gyb,V3 cb,tb]
end Go.AM
