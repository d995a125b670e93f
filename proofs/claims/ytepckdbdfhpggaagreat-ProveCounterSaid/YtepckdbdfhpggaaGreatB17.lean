/-
  Proofs of lemmas, plainly: the examples; small kinds · A run: code of plain operations carried out, step for step, from .
  Conditions: none beyond those of its parts.
-/
import Derived.Test.YtepckdbdfhpggaaGreatB16
import Derived.Test.YtepckdbdfhpggaaGreatB7
import Derived.KernelRfl
import Derived.Test.YtepckdbdfhpggaaGreatRows
import Derived.SizedLaws
import Derived.LaidLaws

set_option maxRecDepth 20000
set_option linter.all false
namespace Go.AM
open Go.Proofs Go.Lib
def dk0:Dcl:=⟨[112,97,105,114],1,1,2,1,[],[⟨[97],0⟩,⟨[98],1⟩],[],[],[⟨[114],[],6,0,[],[],0,0,0,0,[],-1⟩]⟩
def k0:Knd:=⟨dk0,⟨1,2,1,[],[0,1]⟩,[[1],[0]],[[[0],[1]],[[0,1]],[[0],[1]],[],[[1],[0]],[[0,1],[0,1]],[[0,1]],[[0,1]]]⟩
theorem hkd:k0.d=dk0:=rfl
def x0:Lma:=⟨[115,105,110,103,108,101],1,[[112],[113]],[[120]],[⟨1,[0,1],[],0⟩],[⟨0,[0]⟩],1,0⟩
def QL:Lma:=⟨[115,105,110,103,108,101],1,[[112],[113]],[[120]],[],[],1,0⟩
def S4:Lma:=⟨[115,105,110,103,108,101],1,[[112],[113]],[[120],[121],[122]],[],[],1,0⟩
def oth0:Lma:=⟨[111,116,104,101,114],1,[[112],[113]],[[120]],[⟨1,[0,1],[],0⟩],[⟨0,[0]⟩],1,0⟩
def two0:List Cas:=[⟨1,0⟩,⟨2,0⟩]
def p0:List (List Cas):=[two0,two0]
def la0:List Int:=[0]
def lb0:List Int:=[0,0]
def lib0:Lbr:=⟨[],[]⟩
def lib1:Lbr:=⟨[x0],[p0]⟩
def lib2:Lbr:=⟨[],[p0]⟩
def pe0:List (List Cas):=[]
theorem fk0:FewD k0.d:=by
 rw[hkd]
 exact⟨by decide,by decide,by decide,λr hr=>(by cases hr),by decide,by decide,λr hr=>by rw[XV.1 hr];exact⟨by decide,by decide⟩⟩
theorem fx0:FewL x0:=⟨by decide,by decide,by decide,by decide,λq hq=>by rw[XV.1 hq];exact⟨by decide,by decide⟩,λp hp=>by rw[XV.1 hp];decide⟩
theorem fb0:FewL QL:=⟨by decide,by decide,by decide,by decide,λq hq=>(by cases hq),λp hp=>(by cases hp)⟩
theorem fm0:FewL S4:=⟨by decide,by decide,by decide,by decide,λq hq=>(by cases hq),λp hp=>(by cases hp)⟩
theorem fo0:FewL oth0:=⟨by decide,by decide,by decide,by decide,λq hq=>by rw[XV.1 hq];exact⟨by decide,by decide⟩,λp hp=>by rw[XV.1 hp];decide⟩
theorem fp0:Em p0:=⟨by decide,λl hl=>by
 have:l=two0:=by simpa [p0]using hl
 rw[this];decide⟩
theorem fpe:Em pe0:=⟨by decide,λl hl=>(by cases hl)⟩
theorem z1:Cv k0 x0= .tup [Bg p0,.int .i64 0]:=by kernel_rfl
theorem z2:A5 k0 x0= .tup [.sl .nil [],.sl .nil [],.bool false,.int .i64 0]:=by kernel_rfl
theorem z3:A5 k0 QL= .tup [eIs la0,eIs lb0,.bool true,.int .i64 0]:=by kernel_rfl
theorem z4:Cv k0 QL= .tup [noPf,.int .i64 320]:=by kernel_rfl
theorem z5:Cv k0 S4= .tup [Bg pe0,.int .i64 0]:=by kernel_rfl
theorem z6:Et k0 lib0 x0 p0= .tup [E7 lib1,.int .i64 0]:=by kernel_rfl
theorem z7:Et k0 lib1 x0 p0= .tup [noLb,.int .i64 161]:=by kernel_rfl
theorem z8:Et k0 lib1 oth0 pe0= .tup [noLb,.int .i64 310]:=by kernel_rfl
theorem z9:CC k0 lib0=0:=by kernel_rfl
theorem z10:CC k0 lib1=0:=by kernel_rfl
theorem z11:CC k0 lib2=310:=by kernel_rfl
theorem fl0:FewB lib0:=⟨by decide,by decide,λx h=>(by cases h),λp h=>(by cases h)⟩
theorem fl1:FewB lib1:=⟨by decide,by decide,λx h=>by rw[XV.1 h];exact fx0,λp h=>by rw[XV.1 h];exact fp0⟩
theorem fl2:FewB lib2:=⟨by decide,by decide,λx h=>(by cases h),λp h=>by rw[XV.1 h];exact fp0⟩
structure WdK (k:Knd):Prop where
 rg:∀r∈k.d.regs,∀l∈r.ls,wide l
 ru:∀r∈k.d.ruls,wide r.ns/\wide r.os
 nb:∀l∈k.nb,wide l
 ls:∀l∈k.ls,∀m∈l,wide m
theorem few_rf {k:Knd} (h:fewK k=true) (hw:WdK k):RfK k:=by
 unfold fewK ST at h
 simp only[X9,Yc,Z6,Ye,Xj,Xd]at h
 obtain⟨⟨⟨⟨⟨⟨⟨⟨⟨⟨h1,h2⟩,h3⟩,h4⟩,h5⟩,h6⟩,h7⟩,h8⟩,h9⟩,hl⟩,hr⟩:=h
 have hD:FewD k.d:=⟨show k.d.holes.length<_ by omega,show k.d.syms.length<_ by omega,show k.d.regs.length<_ by omega,λr hm=>⟨show r.ls.length<_ by have:=hr r hm;omega,hw.rg r hm⟩,show k.d.clus.length<_ by omega,show k.d.ruls.length<_ by omega,hw.ru⟩
 exact⟨⟨hD,show k.g.holes.length<_ by omega,show k.g.cells.length<_ by omega,⟨show k.nb.length<_ by omega,hw.nb⟩,show k.ls.length<_ by omega,λl hm=>⟨show l.length<_ by have:=hl l hm;omega,hw.ls l hm⟩⟩,by omega⟩
theorem Ld (k:Knd) (x:Lma):At k x=if An k≠0 then An k else chk x:=rfl
theorem QN (x:Lma):chk x=0\/chk x=300:=by
 unfold chk
 split
 ·exact .inl rfl
 ·exact .inr rfl
theorem Le (k:Knd):An k=0\/An k=180:=by
 unfold An
 split
 ·exact .inl rfl
 ·exact .inr rfl
theorem Lf (k:Knd) (x:Lma):At k x=0\/At k x=180\/At k x=300:=by
 rw[Ld]
 rcases Le k with h|h<;>rcases QN x with h2|h2<;>rw[h,h2]<;>decide
inductive PrEnd (k:Knd) (x:Lma):Prop
 |bad (e:Int):e=180\/e=300->At k x=e->Cv k x= .tup [noPf,.int .i64 e]->A5 k x= .tup [.sl .nil [],.sl .nil [],.bool false,.int .i64 e]->PrEnd k x
 |no (q:List Int×List Int):At k x=0->OKL x->An k=0->Cv k x= .tup [noPf,.int .i64 320]->A5 k x= .tup [eIs q.1,eIs q.2,.bool true,.int .i64 0]->EY (AP k) x=false->q.1∈chs k.d.syms.length x.ls.length->Refutes (AP k) x q.1 q.2->PrEnd k x
 |many:At k x=0->OKL x->An k=0->Cv k x= .tup [noPf,.int .i64 2]->A5 k x= .tup [.sl .nil [],.sl .nil [],.bool false,.int .i64 0]->EY (AP k) x=true->PrEnd k x
 |ok (ts:List (List Cas)):At k x=0->OKL x->An k=0->Cv k x= .tup [Bg ts,.int .i64 0]->A5 k x= .tup [.sl .nil [],.sl .nil [],.bool false,.int .i64 0]->EY (AP k) x=true->CZ (AP k) x ts=true->Bk ts<=65536->ts.length=(chs k.d.syms.length x.ls.length).length->PrEnd k x
theorem pr_end {k:Knd} {x:Lma} (hk:FewD k.d) (hx:FewL x):PrEnd k x:=by
 have hvl:(AP k).length=k.d.syms.length:=by unfold AP;rw[X0]
 rcases Lf k x with hv|hv
 case inr=>
  have hne:At k x≠0:=by rcases hv with h|h<;>rw[h]<;>decide
  exact .bad (At k x) hv rfl (by unfold Cv;rw[Xh hne]) (by unfold A5;rw[Xh hne])
 obtain⟨hck,hox⟩:=JP hk hx hv
 have hP:Cv k x=Gz (AP k) x:=by unfold Cv;rw[Xc (by simpa using hv)]
 have hC:A5 k x=EZ k x:=by unfold A5;rw[Xc (by simpa using hv)]
 have hs:=Ma (vals:=AP k) hox
 cases ht:Fi (AP k) x with
 |none=>
  rw[ht]at hs
  have hsf:EY (AP k) x=false:=hs.symm
  cases hq:cexP (AP k) x with
  |none=>rw[Nh hox]at hq;rw[hq]at hsf;cases hsf
  |some q=>
   obtain⟨h1,h2⟩:=UE hox hq
   rw[hvl]at h1
   exact .no q hv hox hck (by rw[hP];unfold Gz LE;rw[ht]) (by rw[hC];unfold EZ;rw[hq]) hsf h1 h2
 |some ts=>
  rw[ht]at hs
  have hst:EY (AP k) x=true:=hs.symm
  have hcn:cexP (AP k) x=none:=(Nh hox).2 hst
  have hCo:A5 k x= .tup [.sl .nil [],.sl .nil [],.bool false,.int .i64 0]:=by rw[hC];unfold EZ;rw[hcn]
  by_cases hN:65536<Bk ts
  ·exact .many hv hox hck (by rw[hP];unfold Gz LE;rw[ht];simp only[];rw[Xh hN]) hCo hst
  ·have hln:ts.length=(chs k.d.syms.length x.ls.length).length:=by
    unfold Fi at ht
    rw[hvl]at ht
    exact(Hw ht).1.symm
   exact .ok ts hv hox hck (by rw[hP];unfold Gz LE;rw[ht];simp only[];rw[Xc hN]) hCo hst (Hx ht) (by omega) hln
theorem OD {k:Knd} {x:Lma} {l c:List Int} (h:Refutes (AP k) x l c):FlC k x c:=⟨h.len,λs hs=>by
 have:=h.rng s hs
 have hvl:(AP k).length=k.d.syms.length:=by unfold AP;rw[X0]
 rw[hvl]at this;exact this⟩
end Go.AM
namespace Go.AM
open Go.Proofs
mutual
def QO:AVal->AVal
 | .sl .nil []=>.sl .nil []
 | .sl t l=>.sl (.none t.esz) (strips l)
 | .agg l=>.agg (strips l)
 | .tup l=>.tup (strips l)
 |v=>v
def strips:List AVal->List AVal
 |[]=>[]
 |v::r=>QO v::strips r
end
mutual
def wkB:AVal->AVal->Bool
 | .sl .nil [],.sl .nil []=>true
 | .sl t l,.sl (.none e) m=>(decide (t.esz=e)||l.isEmpty)&&wksB l m
 | .agg l,.agg m=>wksB l m
 | .tup l,.tup m=>wksB l m
 | .int k n,.int k' n'=>decide (k=k')&&decide (n=n')
 | .bool b,.bool b'=>b==b'
 | .str s,.str s'=>decide (s=s')
 |_,_=>false
def wksB:List AVal->List AVal->Bool
 |[],[]=>true
 |a::l,b::m=>wkB a b&&wksB l m
 |_,_=>false
end
mutual
theorem Mr:∀(a b:AVal),wkB a b=true->Wk a b/\b.under 0
 |a,b,h=>by
  unfold wkB at h
  split at h
  ·exact⟨Wk.refl _,trivial,trivial⟩
  ·rename_i t l e m _
   simp only[X9,Xq,Xd,List.isEmpty_iff]at h
   have k:=wksB_ok _ _ h.2
   exact⟨Wk.slx h.1 k.1,trivial,k.2⟩
  ·have k:=wksB_ok _ _ h
   exact⟨Wk.agg k.1,k.2⟩
  ·have k:=wksB_ok _ _ h
   exact⟨Wk.tup k.1,k.2⟩
  ·simp only[X9,Xd]at h
   obtain⟨rfl,rfl⟩:=h
   exact⟨Wk.refl _,trivial⟩
  ·rw[eq_of_beq h]
   exact⟨Wk.refl _,trivial⟩
  ·rw[Xd]at h
   subst h
   exact⟨Wk.refl _,trivial⟩
  ·cases h
theorem wksB_ok:∀(a b:List AVal),wksB a b=true->Wks a b/\unders 0 b
 |[],[],_=>⟨.nil,trivial⟩
 |a::l,b::m,h=>by
  simp only[wksB,X9]at h
  have k:=Mr _ _ h.1
  have k':=wksB_ok _ _ h.2
  exact⟨.cons k.1 k'.1,k.2,k'.2⟩
 |[],_::_,h=>by simp [wksB]at h
 |_::_,[],h=>by simp [wksB]at h
end
def iI (k:IntKind):AVal->Bool
 | .int k' _=>decide (k'=k)
 |_=>false
def iN:AVal->Bool
 | .int _ _=>true
 |_=>false
def iB:AVal->Bool
 | .bool _=>true
 |_=>false
def iS:AVal->Bool
 | .str _=>true
 |_=>false
def iT:AVal->Bool
 | .tup _=>false
 |_=>true
theorem OE {k:IntKind} {v:AVal} (h:iI k v=true):isI k v:=by cases v<;>simp_all [iI,isI]
theorem iN_ok {v:AVal} (h:iN v=true):Cc v:=by cases v<;>simp_all [iN,Cc]
theorem OF {v:AVal} (h:iB v=true):isB v:=by cases v<;>simp_all [iB,isB]
theorem Vv {v:AVal} (h:iS v=true):isS v:=by cases v<;>simp_all [iS,isS]
theorem S5 {v:AVal} (h:iT v=true):nT v:=by cases v<;>simp_all [iT,nT]
def fitB:List Nat->List AVal->List AVal->Bool
 |[],[],[]=>true
 |0::fs,.int k _::xs,.int k' _::ys=>decide (k=k')&&fitB fs xs ys
 |1::fs,.bool _::xs,.bool _::ys=>fitB fs xs ys
 |2::fs,.str _::xs,.str _::ys=>fitB fs xs ys
 |_,_,_=>false
theorem Vw (f:List Nat) (x y:List AVal) (h:fitB f x y=true):cfit f x y:=by
 fun_induction fitB f x y<;>simp_all [cfit]
def okv (H:AB) (ρ:Opd->AVal):Opk->Bool
 | .mv _=>true
 | .arith op k x y=>iI k (ρ x)&&iI k (ρ y)&&(!KL op||decide (toI (ρ y)≠0))
 | .shift op k ky x y=>iI k (ρ x)&&iI ky (ρ y)&&decide (0<=toI (ρ y))
 | .icmp op k x y=>iI k (ρ x)&&iI k (ρ y)
 | .beq _ x y=>iB (ρ x)&&iB (ρ y)
 | .scmp op x y=>iS (ρ x)&&iS (ρ y)
 | .not x=>iB (ρ x)
 | .fa _ x=>match ρ x with
  | .ptr _ _| .ep _=>true
  |_=>false
 | .ld sz _ x=>match ρ x with
  | .ptr id off=>(match hget H id with
   |some (.box cs)=>decide (off+sz<=cs.length)
   |_=>false)
  | .ep cs=>decide (sz<=cs.length)
  |_=>false
 | .ia esz x i=>match ρ x with
  | .sl tok l=>decide (tok.esz=esz)&&iN (ρ i)&&decide (0<=toI (ρ i))&&decide (toI (ρ i)<l.length)
  |_=>false
 | .len x=>match ρ x with
  | .sl _ _=>true
  |_=>false
 | .lenS x=>iS (ρ x)
 | .build zero parts=>parts.all λp=>iT (ρ p.2.2)&&decide ((ρ p.2.2).cells.length=p.2.1)&&decide (p.1+p.2.1<=zero.length)
 | .bs esz n zero parts=>(parts.all λp=>iT (ρ p.2)&&decide ((ρ p.2).cells.length=esz)&&decide (p.1<n))&&decide (zero.cells.length=esz)&&decide (n*esz<=16777216)
 | .fn _ _ _=>true
 | .ext i x=>match ρ x with
  | .tup vs=>decide (i<vs.length)
  |_=>false
 | .aeq _ fs x y=>match ρ x,ρ y with
  | .agg xs,.agg ys=>fitB fs xs ys
  |_,_=>false
 |_=>false
theorem okv_ok {H:AB} {ρ:Opd->AVal} {k:Opk} (h:okv H ρ k=true):(evk H ρ k).1:=by
 cases k<;>simp only[okv,Xp,X9,Xq,Yc,Xd,Xj]at h
 case mv=>trivial
 case arith=>exact⟨OE h.1.1,OE h.1.2,λq=>by
  rcases h.2 with h|h; ·rw[h]at q;cases q
  ·exact h⟩
 case shift=>exact⟨OE h.1.1,OE h.1.2,h.2⟩
 case icmp=>exact⟨OE h.1,OE h.2⟩
 case beq=>exact⟨OF h.1,OF h.2⟩
 case scmp=>exact⟨Vv h.1,Vv h.2⟩
 case not=>exact OF h
 case fa=>simp only[evk];split at h<;>simp_all
 case ld sz ag x=>
  simp only[evk]
  generalize ρ x=v at h
  cases v<;>simp only[Xp]at h
  case ptr id off=>
   simp only[Aq]
   split at h
   ·rename_i q;rw[q];exact Yz h
   ·cases h
  case ep cs=>simp only[Aq];exact Yz h
 case ia esz x i=>
  simp only[evk]
  split at h
  ·rename_i q
   simp only[X9,Xd]at h
   rw[q]
   exact⟨h.1.1.1,iN_ok h.1.1.2,h.1.2,h.2⟩
  ·cases h
 case len=>simp only[evk];split at h<;>simp_all
 case lenS=>exact Vv h
 case build=>exact λp hp=>⟨S5 (h p hp).1.1,(h p hp).1.2,(h p hp).2⟩
 case bs=>exact⟨λp hp=>⟨S5 (h.1.1 p hp).1.1,(h.1.1 p hp).1.2,(h.1.1 p hp).2⟩,h.1.2,h.2⟩
 case fn=>trivial
 case ext=>
  simp only[evk]
  split at h
  ·rename_i q
   rw[q]
   exact Yz h
  ·cases h
 case aeq=>
  simp only[evk]
  split at h
  ·rename_i q q'
   rw[q,q']
   exact Vw _ _ _ h
  ·cases h
mutual
def uB:AVal->Bool
 | .int _ _=>true
 | .bool _=>true
 | .str _=>true
 | .sl (.own _ _) _=>false
 | .sl _ l=>uBs l
 | .agg l=>uBs l
 | .tup l=>uBs l
 |_=>false
def uBs:List AVal->Bool
 |[]=>true
 |a::l=>uB a&&uBs l
end
mutual
theorem uB_ok:∀(v:AVal),uB v=true->v.under 0
 |v,h=>by
  unfold uB at h
  split at h
  ·trivial
  ·trivial
  ·trivial
  ·cases h
  ·rename_i t l ht
   refine⟨?_,uBs_ok _ h⟩
   cases t<;>first|trivial|exact absurd rfl (ht _ _)
  ·exact uBs_ok _ h
  ·exact uBs_ok _ h
  ·cases h
theorem uBs_ok:∀(l:List AVal),uBs l=true->unders 0 l
 |[],_=>trivial
 |a::l,h=>by
  simp only[uBs,X9]at h
  exact⟨uB_ok _ h.1,uBs_ok _ h.2⟩
end
def TX (C:FuncId->List AVal->Option AVal):Tab:=λf args _=>match C f args with
 |some r=>(True,r)
 |none=>(False,.tup [])
theorem TX_ok {P:Program} {C:FuncId->List AVal->Option AVal} (h:∀f args r,C f args=some r->∀H n,Aa P f args H n r):AH P (TX C):=by
 intro f args H n q
 unfold TX at q⊢
 split at q
 ·rename_i r e
  exact h _ _ _ e _ _
 ·exact q.elim
def goB (env:List (Nat×Bool×AVal)):Option (Nat×Bool)->Bool
 |none=>true
 |some (t,_)=>match eget env t with
  |none=>false
  |some (g,v)=>!g||iB v
theorem goB_ok {env:List (Nat×Bool×AVal)} {g:Option (Nat×Bool)} (h:goB env g=true):gok env g:=by
 cases g with
 |none=>trivial
 |some tw=>
  obtain⟨t,w⟩:=tw
  simp only[goB]at h
  simp only[gok]
  split at h
  ·cases h
  ·rename_i g v q
   rw[q]
   intro e
   rw[e]at h
   exact OF h
def oB (env:List (Nat×Bool×AVal)) (l:List Opd):Bool:=l.all λx=>(lk env x).1
theorem QP {env:List (Nat×Bool×AVal)}:∀{l:List Opd},oB env l=true->oks env l
 |[],_=>trivial
 |x::l,h=>by
  simp only[oB,Zv,X9]at h
  exact⟨h.1,QP h.2⟩
def apB (H:AB) (esz:Nat):Tok->Bool
 | .nil=>true
 | .none _=>false
 | .exact e=>decide (e=esz)
 | .own id e=>decide (e=esz)&&match hget H id with
  |some .tok=>true
  |_=>false
theorem apB_ok {H:AB} {esz:Nat} {t:Tok} (h:apB H esz t=true):Bh H esz t:=by
 cases t
 case nil=>trivial
 case none=>cases h
 case exact e=>exact Yz (p:=e=esz) h
 case own id e=>
  simp only[apB,X9,Xd]at h
  refine⟨h.1,?_⟩
  have h:=h.2
  split at h
  ·assumption
  ·cases h
def xeff (base:Nat) (o:AOp) (s:AS):Option AS:=match o.k with
 | .alloc rel cs=>bif (hget s.H (base+rel)).isNone then some ({s with H:=hset s.H (base+rel) (.box cs)}.put o.dst true (.ptr (base+rel) 0))else none
 | .box rel sz x=>bif (hget s.H (base+rel)).isNone&&iT (lkv s.env x)&&decide ((lkv s.env x).cells.length=sz)then some ({s with H:=hset s.H (base+rel) (.box (lkv s.env x).cells)}.put o.dst true (.ptr (base+rel) 0))else none
 | .st sz a x=>bif iT (lkv s.env x)&&decide ((lkv s.env x).cells.length=sz)then(match lkv s.env a with
  | .ptr id off=>(match hget s.H id with
   |some (.box cs)=>bif decide (off+sz<=cs.length)then some ({s with H:=hset s.H id (.box (splice cs off (lkv s.env x).cells))}.put o.dst true (.tup []))else none
   |_=>none)
  |_=>none)else none
 | .app rel esz bytes x y str=>(match lkv s.env x,Bn s.H (lkv s.env) esz y str with
  | .sl tok l,some l'=>bif (hget s.H (base+rel)).isNone&&apB s.H esz tok&&decide ((l.length+l'.length)*bytes<=35184372088832)&&decide (l.length+l'.length<=35184372088832)&&decide (0<esz)then
    some ({s with H:=hset (AW s.H tok) (base+rel) .tok}.put o.dst true (.sl (.own (base+rel) esz) (l++l')))else none
  |_,_=>none)
 |_=>none
theorem BG {α:Type} {b:Bool} {x:Option α} {y:α} (h:(bif b then x else none)=some y):b=true/\x=some y:=by
 cases b
 ·cases h
 ·exact⟨rfl,h⟩
theorem Vx {P:Program} {Qp:AVal->AB->Nat->Prop} {base:Nat} {o:AOp} {K:AS->Prop} {s s':AS} (h:xeff base o s=some s') (hK:K s'):Ax P Qp base o K s:=by
 obtain⟨d,g,k⟩:=o
 cases k<;>simp only[xeff,reduceCtorEq]at h
 case alloc=>
  obtain⟨h1,h⟩:=BG h
  cases h
  exact⟨Option.isNone_iff_eq_none.1 h1,hK⟩
 case box=>
  obtain⟨h1,h⟩:=BG h
  cases h
  simp only[X9,Xd]at h1
  exact⟨Option.isNone_iff_eq_none.1 h1.1.1,S5 h1.1.2,h1.2,hK⟩
 case st=>
  obtain⟨h1,h⟩:=BG h
  simp only[X9,Xd]at h1
  refine⟨S5 h1.1,h1.2,?_⟩
  simp only
  split at h
  ·rename_i e
   rw[e]
   simp only
   split at h
   ·rename_i e'
    rw[e']
    obtain⟨h2,h⟩:=BG h
    cases h
    exact⟨Yz h2,hK⟩
   ·cases h
  ·cases h
 case app=>
  simp only[Ax]
  split at h
  ·rename_i e e'
   rw[e,e']
   obtain⟨h1,h⟩:=BG h
   cases h
   simp only[X9,Xd]at h1
   exact⟨Option.isNone_iff_eq_none.1 h1.1.1.1.1,apB_ok h1.1.1.1.2,h1.1.1.2,h1.1.2,h1.2,hK⟩
  ·cases h
def xop (C:FuncId->List AVal->Option AVal) (base:Nat) (o:AOp) (s:AS):Option AS:=
 bif goB s.env o.guard then match o.k with
  | .v k=>bif !gvb s.env o.guard||(oB s.env k.opds&&okv s.H (lkv s.env) k)then some (s.put o.dst (gvb s.env o.guard) (evk s.H (lkv s.env) k).2)else none
  | .pick c a b=>bif !gvb s.env o.guard||((lk s.env c).1&&iB (lkv s.env c)&&(bif toB (lkv s.env c)then(lk s.env a).1 else(lk s.env b).1))then some (s.put o.dst (gvb s.env o.guard) (sel (toB (lkv s.env c)) (lkv s.env a) (lkv s.env b)))else none
  | .call true f args=>bif gvb s.env o.guard then(bif (lk s.env f).1&&oB s.env args then(match lkv s.env f with
    | .fn (.func i) first cap=>(match C i (first++args.map (lkv s.env)++cap)with
     |some r=>some (s.put o.dst true r)
     |none=>none)
    |_=>none)else none)else some (s.put o.dst false (FY (TX C) (args.map (lkv s.env)) s.H (lkv s.env f)).2)
  | .cpu f args=>bif gvb s.env o.guard then(bif (lk s.env f).1&&oB s.env args then(match lkv s.env f with
    | .fn (.func i) first cap=>(match C i (first++args.map (lkv s.env)++cap)with
     |some r=>bif uBs (first++args.map (lkv s.env)++cap)&&uB r then some (s.put o.dst true r)else none
     |none=>none)
    |_=>none)else none)else some (s.put o.dst false (.tup []))
  | .alloc .. | .box .. | .st .. | .app .. =>bif gvb s.env o.guard then(bif oB s.env o.k.opds then xeff base o s else none)else some (s.put o.dst false (.tup []))
  |_=>none
 else none
theorem xop_ok {P:Program} {C:FuncId->List AVal->Option AVal} {Qp:AVal->AB->Nat->Prop} {base:Nat} {o:AOp} {K:AS->Prop} {s s':AS} (h:xop C base o s=some s') (hK:K s'):A7 P (TX C) Qp base o K s:=by
 unfold xop at h
 have hb:=BG h
 clear h
 obtain⟨hz,h⟩:=hb
 have h0:=goB_ok hz
 clear hz
 have eff:(bif gvb s.env o.guard then(bif oB s.env o.k.opds then xeff base o s else none)else some (s.put o.dst false (.tup [])))=some s'->(gvb s.env o.guard=true->oks s.env o.k.opds/\Ax P Qp base o K s)/\(gvb s.env o.guard=false->K (s.put o.dst false (.tup []))):=by
  intro h
  cases hg:gvb s.env o.guard<;>rw[hg]at h
  ·cases h
   exact⟨λq=>(by cases q),λ_=>hK⟩
  ·obtain⟨h1,h⟩:=BG h
   exact⟨λ_=>⟨QP h1,Vx h hK⟩,λq=>(by cases q)⟩
 obtain⟨d,g,k⟩:=o
 cases k<;>simp only[reduceCtorEq]at h
 case v k=>
  obtain⟨h1,h⟩:=BG h
  cases h
  refine⟨h0,λq=>?_,hK⟩
  rw[q]at h1
  simp only[X7,YL,X9]at h1
  exact⟨QP h1.1,okv_ok h1.2⟩
 case pick c a b=>
  obtain⟨h1,h⟩:=BG h
  cases h
  refine⟨h0,λq=>?_,hK⟩
  rw[q]at h1
  simp only[X7,YL,X9]at h1
  refine⟨h1.1.1,OF h1.1.2,λe=>?_,λe=>?_⟩<;>(have:=h1.2;rw[e]at this;exact this)
 case call q f args=>
  cases q
  ·exact absurd h (by simp)
  cases hg:gvb s.env g<;>rw[hg]at h
  ·cases h
   simp only[A7,hg]
   exact⟨h0,λq=>(by cases q),hK⟩
  ·obtain⟨h1,h⟩:=BG h
   simp only[X9]at h1
   split at h
   ·rename_i i first cap e
    split at h
    ·rename_i r e'
     cases h
     have hc:FY (TX C) (args.map (lkv s.env)) s.H (lkv s.env f)=(True,r):=by rw[e];simp only[FY,TX,e']
     simp only[A7,hg,hc]
     exact⟨h0,λ_=>⟨h1.1,QP h1.2,trivial⟩,hK⟩
    ·cases h
   ·cases h
 case cpu f args=>
  cases hg:gvb s.env g<;>rw[hg]at h
  ·cases h
   simp only[A7,hg]
   exact⟨h0,λq=>(by cases q),λ_=>hK⟩
  ·obtain⟨h1,h⟩:=BG h
   simp only[X9]at h1
   split at h
   ·rename_i i first cap e
    split at h
    ·rename_i r e'
     obtain⟨h2,h⟩:=BG h
     cases h
     simp only[X9]at h2
     have hc:cpuT (TX C) (args.map (lkv s.env)) (lkv s.env f)=(True/\unders 0 (first++args.map (lkv s.env)++cap)/\r.under 0,r):=by rw[e];simp only[cpuT,TX,e']
     simp only[A7,hg,hc]
     exact⟨h0,λ_=>⟨⟨h1.1,QP h1.2,trivial,uBs_ok _ h2.1,uB_ok _ h2.2⟩,hK⟩,λq=>(by cases q)⟩
    ·cases h
   ·cases h
 all_goals exact⟨h0,eff h⟩
def xops (C:FuncId->List AVal->Option AVal) (base:Nat):List AOp->AS->Option AS
 |[],s=>some s
 |o::r,s=>match xop C base o s with
  |some s'=>xops C base r s'
  |none=>none
theorem QS {P:Program} {C:FuncId->List AVal->Option AVal} {Qp:AVal->AB->Nat->Prop} {base:Nat} {K:AS->Prop}:∀{l:List AOp} {s s':AS},xops C base l s=some s'->K s'->runT P (TX C) Qp base l K s
 |[],s,s',h,hK=>by cases h;exact hK
 |o::r,s,s',h,hK=>by
  unfold xops at h
  split at h
  ·rename_i e
   exact xop_ok e (QS h hK)
  ·cases h
def xc (C:FuncId->List AVal->Option AVal):Nat->ACode->AS->Option (AExit×AS)
 |0,_,_=>none
 |n+1,c,s=>match c with
  | .skip=>some (.normal,s)
  | .reg bump ops keep=>(match xops C s.n ops {s with n:=s.n+bump}with
   |some s'=>some (.normal,s'.keep keep)
   |none=>none)
  | .seq a b=>(match xc C n a s with
   |some (.normal,s')=>xc C n b s'
   |r=>r)
  | .cond c a b=>bif (lk s.env c).1&&iB (lkv s.env c)then(bif toB (lkv s.env c)then xc C n a s else xc C n b s)else none
  | .block id c=>(match xc C n c s with
   |some (.exit i,s')=>bif i==id then some (.normal,s')else some (.exit i,s')
   |r=>r)
  | .loop c=>(match xc C n c s with
   |some (.normal,s')=>xc C n (.loop c) s'
   |r=>r)
  | .exit id=>some (.exit id,s)
  | .ret=>some (.ret,s)
  |_=>none
theorem GO {P:Program} {C:FuncId->List AVal->Option AVal}:∀(n:Nat) (c:ACode) (s:AS) (e:AExit) (s':AS),xc C n c s=some (e,s')->∀Q:AExit->AS->Prop,Q e s'->ev P (TX C) c Q s
 |0,_,_,_,_,h,_,_=>by cases h
 |n+1,c,s,e,s',h,Q,hQ=>by
  cases c<;>simp only[xc,reduceCtorEq]at h
  case skip=>cases h;exact hQ
  case reg=>
   split at h
   ·rename_i q
    cases h
    exact QS q hQ
   ·cases h
  case seq a b=>
   split at h
   ·rename_i q
    exact GO n a s _ _ q _ (GO n b _ _ _ h Q hQ)
   ·rename_i r hr
    refine GO n a s _ _ h _ ?_
    cases e<;>first|exact hQ|exact absurd h (hr _)
  case cond c a b=>
   obtain⟨h1,h⟩:=BG h
   simp only[X9]at h1
   refine⟨h1.1,OF h1.2,λq=>?_,λq=>?_⟩<;>(rw[q]at h;exact GO n _ s _ _ h Q hQ)
  case block id c=>
   split at h
   ·rename_i i t q
    cases hi:i==id<;>rw[hi]at h<;>cases h
    ·refine GO n c s _ _ q _ ?_
     simp only
     rw[Xc (λe=>by rw[e,beq_self_eq_true]at hi;cases hi)]
     exact hQ
    ·refine GO n c s _ _ q _ ?_
     simp only
     rw[Xh (eq_of_beq hi)]
     exact hQ
   ·rename_i hr
    refine GO n c s _ _ h _ ?_
    cases e<;>first|exact hQ|exact absurd h (hr _ _)
  case loop c=>
   split at h
   ·rename_i s1 q
    obtain⟨I,μ,h1,h2⟩:=GO n (.loop c) s1 _ _ h Q hQ
    classical
    refine⟨λt=>t=s\/I t,λt=>if I t then μ t else μ s1+1,.inl rfl,λt ht=>?_⟩
    by_cases hI:I t
    ·refine Dj c _ _ t (λe s h=>?_) (h2 t hI)
     cases e
     case normal=>
      obtain⟨s2,w,i2,m2⟩:=h
      refine⟨s2,w,.inr i2,?_⟩
      simp only
      rw[Xh i2,Xh hI]
      exact m2
     all_goals exact h
    ·obtain rfl:=ht.resolve_right hI
     refine GO n c t _ _ q _ ⟨s1,.inl rfl,.inr h1,?_⟩
     simp only
     rw[Xh h1,Xc hI]
     exact Nat.lt_succ_self _
   ·rename_i hr
    refine⟨λt=>t=s,λ_=>0,rfl,λt ht=>?_⟩
    subst ht
    refine GO n c t _ _ h _ ?_
    cases e<;>first|exact hQ|exact absurd h (hr _)
  case exit=>cases h;exact hQ
  case ret=>cases h;exact hQ
def rcB (s:AS):List RC->Bool
 |[]=>true
 | .t i::l=>(lk s.env (.t i)).1&&rcB s l
 | .c i sz _::l=>(lk s.env (.t i)).1&&(match lkv s.env (.t i)with
  | .ptr id off=>(match hget s.H id with
   |some (.box cs)=>decide (off=0)&&decide (cs.length=sz)
   |_=>false)
  |_=>false)&&rcB s l
theorem Ms {s:AS}:∀{l:List RC},rcB s l=true->(rcs s l).1
 |[],_=>trivial
 | .t i::l,h=>by
  simp only[rcB,X9]at h
  exact⟨h.1,Ms h.2⟩
 | .c i sz ag::l,h=>by
  simp only[rcB,X9]at h
  refine⟨⟨h.1.1,?_⟩,Ms h.2⟩
  have h:=h.1.2
  split at h
  ·rename_i e
   rw[e]
   simp only[Be]
   split at h
   ·rename_i e'
    rw[e']
    simp only[X9,Xd]at h
    exact h
   ·cases h
  ·cases h
structure XF (P:Program) where
 f:FuncId
 c:ACode
 rs:List RC
 ok:AOf P f c rs
def xf {P:Program} (tab:List (XF P)) (m:Nat):Nat->FuncId->List AVal->Option AVal
 |0,_,_=>none
 |n+1,f,args=>match tab.find? λe=>e.f==f with
  |none=>none
  |some e=>bif wksB args (strips args)then(match xc (xf tab m n) m e.c ⟨penv 0 (strips args),hnil,0⟩with
   |some (.ret,s)=>bif rcB s e.rs&&wkB (rvS (rcs s e.rs).2) (QO (rvS (rcs s e.rs).2))then some (QO (rvS (rcs s e.rs).2))else none
   |some (.normal,s)=>bif rcB s e.rs&&wkB (rvS (rcs s e.rs).2) (QO (rvS (rcs s e.rs).2))then some (QO (rvS (rcs s e.rs).2))else none
   |_=>none)else none
theorem xf_ok {P:Program} {tab:List (XF P)} {m:Nat}:∀(n:Nat) (f:FuncId) (args:List AVal) (r:AVal),xf tab m n f args=some r->∃a,Wks args a/\Pur P f a r
 |0,_,_,_,h=>by cases h
 |n+1,f,args,r,h=>by
  have hT:AH P (TX (xf tab m n)):=TX_ok λf args r h H n=>by
   obtain⟨a,w,p⟩:=xf_ok _ _ _ _ h
   exact AO.args (p.quiet H n) λg vs hv=>w.rel vs hv
  unfold xf at h
  split at h
  ·cases h
  ·rename_i e he
   have hf:=List.find?_some he
   obtain rfl:=eq_of_beq hf
   obtain⟨h1,h⟩:=BG h
   have w:=wksB_ok _ _ h1
   refine⟨_,w.1,?_⟩
   split at h
   ·rename_i s q
    obtain⟨h2,h⟩:=BG h
    cases h
    simp only[X9]at h2
    have k:=Mr _ _ h2.2
    exact .mk w.2 k.2 (e.ok (AF hT (GO _ _ _ _ _ q _ ⟨Ms h2.1,_,rfl,k.1⟩)))
   ·rename_i s q
    obtain⟨h2,h⟩:=BG h
    cases h
    simp only[X9]at h2
    have k:=Mr _ _ h2.2
    exact .mk w.2 k.2 (e.ok (AF hT (GO _ _ _ _ _ q _ ⟨Ms h2.1,_,rfl,k.1⟩)))
   ·cases h
end Go.AM
namespace Go.AM
open Go.Proofs Go.Lib
def dXw:Dc Lma:=dWk encL decX
theorem dXw_ok (x:Lma):dXw.ok (encL x)=True:=Ez Dt x
theorem Vy (x:Lma):dXw.dec (encL x)=x:=Dt x
def dPw:Dc (List (List Cas)):=dWk Bg N8
theorem dPw_ok (p:List (List Cas)):dPw.ok (Bg p)=True:=Ez D9 p
theorem Vz (p:List (List Cas)):dPw.dec (Bg p)=p:=D9 p
def s4 {α β γ δ:Type} (A:Dc α) (B:Dc β) (C:Dc γ) (D:Dc δ) (c:α->β->γ->δ->Prop) (f:α->β->γ->δ->AVal):List AVal->AB->Prop×AVal:=λa _=>match a with
 |[x,y,z,u]=>(A.ok x/\B.ok y/\C.ok z/\D.ok u/\c (A.dec x) (B.dec y) (C.dec z) (D.dec u),f (A.dec x) (B.dec y) (C.dec z) (D.dec u))
 |_=>(False,.tup [])
theorem q4 {α β γ δ:Type} {A:Dc α} {B:Dc β} {C:Dc γ} {D:Dc δ} {c:α->β->γ->δ->Prop} {f:α->β->γ->δ->AVal} {fid:FuncId} (h:∀x y z u,c x y z u->Pur Tryz.prog fid [A.enc x,B.enc y,C.enc z,D.enc u] (f x y z u)):∀args H n,(s4 A B C D c f args H).1->Aa Tryz.prog fid args H n (s4 A B C D c f args H).2:=by
 intro args H n hh
 unfold s4 at hh⊢
 split at hh
 ·obtain⟨h1,h2,h3,h4,h5⟩:=hh
  refine AO.args ((h _ _ _ _ h5).quiet H n) ?_
  rintro g vs ⟨v,r,rfl,k1,w,r',rfl,k2,u,r'',rfl,k3,t,r3,rfl,k4,k5⟩
  exact⟨v,_,rfl,A.wk _ h1 _ _ k1,w,_,rfl,B.wk _ h2 _ _ k2,u,_,rfl,C.wk _ h3 _ _ k3,t,_,rfl,D.wk _ h4 _ _ k4,k5⟩
 ·exact hh.elim
def s0v (r:AVal):List AVal->AB->Prop×AVal:=λa _=>match a with
 |[]=>(True,r)
 |_=>(False,.tup [])
theorem q0v {fid:FuncId} {r:AVal} (h:Pur Tryz.prog fid [] r):∀args H n,(s0v r args H).1->Aa Tryz.prog fid args H n (s0v r args H).2:=by
 intro args H n hh
 unfold s0v at hh⊢
 split at hh
 ·exact h.quiet H n
 ·exact hh.elim
def tabP:List (XF Tryz.prog):=[⟨28,c28,[.c 0 17 true],a28⟩,⟨59,c59,[.c 2 17 true,.t 3],a59⟩,⟨98,c98,[.t 4,.t 5],a98⟩,⟨151,c151,[.t 4,.t 5],a151⟩,⟨147,c147,[.t 2],a147⟩,⟨95,c95,[.c 8 5 true,.t 9],a95⟩,⟨146,c146,[.t 4],a146⟩,⟨175,c175,[.t 4],a175⟩,⟨97,c97,[.t 4,.t 5],a97⟩,⟨149,c149,[.t 4],a149⟩,⟨196,c196,[.t 6],a196⟩,⟨194,c194,[.t 4],a194⟩,⟨195,c195,[.t 4],a195⟩,⟨193,c193,[.t 4],a193⟩,⟨150,c150,[.t 2],a150⟩,⟨96,c96,[.t 2,.t 3],a96⟩,⟨148,c148,[.t 6],a148⟩,⟨94,c94,[.t 2],a94⟩,⟨145,c145,[.t 2],a145⟩,⟨192,c192,[.t 2],a192⟩,⟨144,c144,[.t 2],a144⟩,⟨190,c190,[.t 4],a190⟩,⟨244,c244,[.t 8],a244⟩,⟨243,c243,[.t 4],a243⟩,⟨191,c191,[.t 2],a191⟩,⟨143,c143,[.t 4],a143⟩,⟨189,c189,[.t 4],a189⟩,⟨142,c142,[.t 4],a142⟩,⟨188,c188,[.t 4],a188⟩,⟨242,c242,[.t 4],a242⟩,⟨187,c187,[.t 4],a187⟩,⟨186,c186,[.t 4],a186⟩,⟨93,c93,[.c 2 10 true,.t 3],a93⟩,⟨141,c141,[.t 2,.t 3],a141⟩,⟨138,c138,[.t 2],a138⟩,⟨185,c185,[.c 4 12 true,.t 5],a185⟩,⟨241,c241,[.t 4,.t 5],a241⟩,⟨240,c240,[.t 4,.t 5],a240⟩,⟨263,c263,[.t 4,.t 5],a263⟩,⟨184,c184,[.t 4,.t 5],a184⟩,⟨139,c139,[.t 0],a139⟩,⟨140,c140,[.t 2,.t 3],a140⟩]
theorem wk_x0:Wk (.agg [.str [115,105,110,103,108,101],.int .i64 1,.sl (.exact 1) [.str [112],.str [113]],.sl (.exact 1) [.str [120]],.sl (.exact 4) [.agg [.int .i64 1,.sl (.exact 1) [.int .i64 0,.int .i64 1],.sl .nil [],.int .i64 0]],.sl (.exact 2) [.agg [.int .i64 0,.sl (.exact 1) [.int .i64 0]]],.int .i64 1,.int .i64 0]) (encL x0):=
 Wk.agg (.cons (Wk.refl _) (.cons (Wk.refl _) (.cons (Wk.sl (.inl rfl)) (.cons (Wk.sl (.inl rfl)) (.cons (Wk.slx (.inl rfl) (.cons (Wk.agg (.cons (Wk.refl _) (.cons (Wk.sl (.inl rfl)) (.cons (Wk.sl (.inr rfl)) (.cons (Wk.refl _) .nil))))) .nil)) (.cons (Wk.slx (.inl rfl) (.cons (Wk.agg (.cons (Wk.refl _) (.cons (Wk.sl (.inl rfl)) .nil))) .nil)) (.cons (Wk.refl _) (.cons (Wk.refl _) .nil))))))))
abbrev vBa:AVal:=.agg [.str x0.nm,.int .i64 x0.lv,eSs x0.cs,eSs x0.ls,.sl .nil [],.sl .nil [],.int .i64 x0.c,.int .i64 x0.l]
theorem vBa_ok:dXw.ok vBa=True:=X1 (show Wk vBa (encL QL)from Wk.agg (.cons (Wk.refl _) (.cons (Wk.refl _) (.cons (Wk.refl _) (.cons (Wk.refl _) (.cons (Wk.sl (.inr rfl)) (.cons (Wk.sl (.inr rfl)) (.cons (Wk.refl _) (.cons (Wk.refl _) .nil)))))))))
theorem V0:dXw.dec vBa=QL:=rfl
abbrev vMa:AVal:=.agg [.str x0.nm,.int .i64 x0.lv,eSs x0.cs,.sl (.exact 1) [.str [120],.str [121],.str [122]],.sl .nil [],.sl .nil [],.int .i64 x0.c,.int .i64 x0.l]
theorem vMa_ok:dXw.ok vMa=True:=X1 (show Wk vMa (encL S4)from Wk.agg (.cons (Wk.refl _) (.cons (Wk.refl _) (.cons (Wk.refl _) (.cons (Wk.sl (.inl rfl)) (.cons (Wk.sl (.inr rfl)) (.cons (Wk.sl (.inr rfl)) (.cons (Wk.refl _) (.cons (Wk.refl _) .nil)))))))))
theorem V1:dXw.dec vMa=S4:=rfl
abbrev vOt:AVal:=.agg [.str [111,116,104,101,114],.int .i64 x0.lv,eSs x0.cs,eSs x0.ls,.sl (.none 4) (x0.qs.map encQ),.sl (.none 2) (x0.ps.map encM),.int .i64 x0.c,.int .i64 x0.l]
theorem vOt_ok:dXw.ok vOt=True:=X1 (show Wk vOt (encL oth0)from Wk.refl _)
theorem V2:dXw.dec vOt=oth0:=rfl
theorem vL0_ok:dLb.ok (.agg [.sl .nil [],.sl .nil []])=True:=X1 (show Wk _ (E7 lib0)from Wk.agg (.cons (Wk.sl (.inr rfl)) (.cons (Wk.sl (.inr rfl)) .nil)))
theorem V3:dLb.dec (.agg [.sl .nil [],.sl .nil []])=lib0:=rfl
theorem vL1_ok:dLb.ok (.agg [eLms lib1.ls,ePfs lib1.pf])=True:=dLb_ok lib1
theorem V4:dLb.dec (.agg [eLms lib1.ls,ePfs lib1.pf])=lib1:=Vu lib1
theorem vL2_ok:dLb.ok (.agg [.sl .nil [],.sl (.exact 1) [.agg [eTr p0]]])=True:=X1 (show Wk _ (E7 lib2)from Wk.agg (.cons (Wk.sl (.inr rfl)) (.cons (Wk.sl (.inl rfl)) .nil)))
theorem V5:dLb.dec (.agg [.sl .nil [],.sl (.exact 1) [.agg [eTr p0]]])=lib2:=rfl
theorem vP0_ok:dPw.ok (.agg [eTr p0])=True:=dPw_ok p0
theorem V6:dPw.dec (.agg [eTr p0])=p0:=Vz p0
theorem vPe_ok:dPw.ok (.agg [.sl .nil []])=True:=X1 (show Wk _ (Bg pe0)from Wk.agg (.cons (Wk.sl (.inr rfl)) .nil))
theorem V7:dPw.dec (.agg [.sl .nil []])=pe0:=rfl
abbrev vPt:AVal:=.agg [.sl (.exact 1) [.sl (.exact 2) [.agg [.int .i64 1,.int .i64 0],.agg [.int .i64 2,.int .i64 0]],.sl (.exact 2) [.agg [.int .i64 1,.int .i64 0],.agg [.int .i64 2,.int .i64 0]]]]
theorem vPt_ok:dPw.ok vPt=True:=X1 (show Wk vPt (Bg p0)from Wk.agg (.cons (Wk.slx (.inl rfl) (.cons (Wk.sl (.inl rfl)) (.cons (Wk.sl (.inl rfl)) .nil))) .nil))
theorem V8:dPw.dec vPt=p0:=rfl
theorem vLa_ok:dIs.ok (.sl (.exact 1) [.int .i64 0])=True:=X1 ⟨.inl rfl,rfl⟩
theorem V9:dIs.dec (.sl (.exact 1) [.int .i64 0])=la0:=rfl
theorem vLb_ok:dIs.ok (.sl (.exact 1) [.int .i64 0,.int .i64 0])=True:=X1 ⟨.inl rfl,rfl⟩
theorem WA:dIs.dec (.sl (.exact 1) [.int .i64 0,.int .i64 0])=lb0:=rfl
theorem fla:few la0=True:=X1 (by decide)
theorem flb:few lb0=True:=X1 (by decide)
theorem ln1:((lib1.ls.length:Int)=1)=True:=X1 rfl
theorem lne:((pe0.length:Int)=0)=True:=X1 rfl
theorem p28:Pur Tryz.prog 28 [] (A3 k0):=by
 have h:(match xf tabP 300 30 28 []with
  |some v=>wkB v (A3 k0)
  |none=>false)=true:=by kernel_rfl
 split at h
 ·rename_i v e
  obtain⟨a,w,p⟩:=xf_ok _ _ _ _ e
  cases w
  have k:=Mr _ _ h
  exact⟨p.1,k.2,p.2.2.mono λo H' n' ⟨v,e,q⟩=>⟨v,e,q.trans k.1⟩⟩
 ·cases h
theorem p29:Pur Tryz.prog 29 [] (encL x0):=by
 refine .mk trivial (Ac 0 x0) (a29 (AF AH.tnil (AG ?_)))
 simp only[eE,eN,reduceCtorEq,Nat.reduceEqDiff,↓reduceIte,Nat.reduceAdd,Nat.reduceLeDiff,Nat.reduceMul,Nat.reduceLT,Be,c29]
 exact wk_x0
def Tsan:Tab:=tadd 28 (s0v (A3 k0)) (tadd 29 (s0v (encL x0)) (tadd 12 (s2 dKn dXw (λk x=>FewD k.d/\FewL x) Cv) (tadd 14 (s2 dKn dXw (λk x=>FewD k.d/\FewL x) A5) (tadd 20 (s4 dKn dLb dXw dPw (λk l x p=>FewD k.d/\FewB l/\FewL x/\Em p) Et)
 (tadd 23 (s2 dKn dLb (λk l=>FewD k.d/\FewB l) λk l=>.int .i64 (CC k l)) (tadd 17 (s2 dIs dIs (λa _=>few a) λa b=>.bool (decide (a=b))) (tadd 16 (s2 dPw dPw (λa _=>Em a) λa b=>.bool (decide (a=b))) tnil)))))))
theorem WB:AH Tryz.prog Tsan:=(((((((AH.tnil.add (q2 λa b h=>p16 a b h)).add (q2 λa b h=>p17 a b h)).add (q2 λk l h=>p23 k l h.1 h.2)).add (q4 λk l x p h=>p20 k l x p h.1 h.2.1 h.2.2.1 h.2.2.2)).add (q2 λk x h=>p14 k x h.1 h.2)).add (q2 λk x h=>p12 k x h.1 h.2)).add (q0v p29)).add (q0v p28)
section
variable (a:List AVal) (H:AB)
theorem Tsan_k:Tsan 28 a H=s0v (A3 k0) a H:=rfl
theorem Tsan_x:Tsan 29 a H=s0v (encL x0) a H:=rfl
theorem Tsan_p:Tsan 12 a H=s2 dKn dXw (λk x=>FewD k.d/\FewL x) Cv a H:=rfl
theorem Tsan_c:Tsan 14 a H=s2 dKn dXw (λk x=>FewD k.d/\FewL x) A5 a H:=rfl
theorem Tsan_a:Tsan 20 a H=s4 dKn dLb dXw dPw (λk l x p=>FewD k.d/\FewB l/\FewL x/\Em p) Et a H:=rfl
theorem Tsan_v:Tsan 23 a H=s2 dKn dLb (λk l=>FewD k.d/\FewB l) (λk l=>.int .i64 (CC k l)) a H:=rfl
theorem Tsan_i:Tsan 17 a H=s2 dIs dIs (λa _=>few a) (λa b=>.bool (decide (a=b))) a H:=rfl
theorem Tsan_s:Tsan 16 a H=s2 dPw dPw (λa _=>Em a) (λa b=>.bool (decide (a=b))) a H:=rfl
end
theorem p9:Pur Tryz.prog 9 [] (.bool true):=by
 refine .mk trivial trivial (a9 (AF WB (AG ?_)))
 have u1:dKn.ok (.agg (AD k0))=True:=Bq k0
 have u2:dKn.dec (.agg (AD k0))=k0:=BH k0
 simp only[AD,AE,AK,Xl,Xm]at u1 u2
 have v1:dXw.ok (.agg (AQ x0))=True:=dXw_ok x0
 have v2:dXw.dec (.agg (AQ x0))=x0:=Vy x0
 simp only[AQ]at v1 v2
 simp only[eE,eC,eN,reduceCtorEq,Nat.reduceEqDiff,↓reduceIte,Nat.reduceAdd,Nat.reduceLeDiff,Nat.reduceMul,Nat.reduceLT,X7,Xe,X2,X0,Xb,Xf,c9,Tsan_k,Tsan_x,Tsan_p,Tsan_c,Tsan_a,Tsan_v,Tsan_i,Tsan_s,s0v,s2,s4,AD,AE,AK,u1,u2,X1 fk0,v1,v2,X1 fx0,z1,z2,z3,z4,z5,z6,z7,z8,z9,z10,z11,
  vBa_ok,V0,X1 fb0,vMa_ok,V1,X1 fm0,vOt_ok,V2,X1 fo0,vL0_ok,V3,X1 fl0,vL1_ok,V4,X1 fl1,vL2_ok,V5,X1 fl2,vP0_ok,V6,X1 fp0,vPe_ok,V7,X1 fpe,vPt_ok,V8,Ap,Ak,vLa_ok,V9,vLb_ok,WA,fla,flb,ln1,lne,Zt]
 done
end Go.AM
namespace Go.AM
open Go.Proofs Go.Lib
section
variable (a:List AVal) (H:AB)
end
end Go.AM
namespace Go.AM
open Go.Proofs Go.Lib
section
variable (a:List AVal) (H:AB)
end
end Go.AM
namespace Go.AM
open Go.Proofs Go.Lib
section
variable (a:List AVal) (H:AB)
end
end Go.AM
namespace Go.AM
open Go.Proofs Go.Lib
def OG (k:Knd) (x:Lma):List AVal->AB->Prop×AVal:=λa _=>match a with
 |[K,X,a1,a2]=>(dKn.ok K/\dKn.dec K=k/\dX.ok X/\dX.dec X=x/\dIs.ok a1/\PrC k x (dIs.dec a1)/\dIs.ok a2/\FlC k x (dIs.dec a2),.bool (A1 (AP k) x (dIs.dec a1) (dIs.dec a2)))
 |_=>(False,.tup [])
theorem rowHoq (k:Knd) (x:Lma):∀args H n,(OG k x args H).1->Aa Tryz.prog 25 args H n (OG k x args H).2:=by
 intro args H n hh
 unfold OG at hh⊢
 split at hh
 ·obtain⟨h1,h2,h3,h4,h5,h6,h7,h8⟩:=hh
  have w1:=dKn.wk _ h1
  rw[h2]at w1
  have w2:=dX.wk _ h3
  rw[h4]at w2
  refine AO.args ((p25 k x _ _ h6 h8).quiet H n) ?_
  rintro g vs ⟨v1,r1,rfl,k1,v2,r2,rfl,k2,v3,r3,rfl,k3,v4,r4,rfl,k4,k5⟩
  exact⟨v1,_,rfl,w1 _ _ k1,v2,_,rfl,w2 _ _ k2,v3,_,rfl,dIs.wk _ h5 _ _ k3,v4,_,rfl,dIs.wk _ h7 _ _ k4,k5⟩
 ·exact hh.elim
def Tl5 (k:Knd) (x:Lma):Tab:=tadd 9 (s0v (.bool true)) (tadd 10 (s1 dKn (λ_=>True) λk=>.bool (fewK k)) (tadd 11 (s1 dX (λ_=>True) λx=>.bool (G0 x)) (tadd 14 (s2 dKn dX (λk x=>FewD k.d/\FewL x) A5) (tadd 25 (OG k x) tnil))))
theorem Tl5_ok (k:Knd) (x:Lma):AH Tryz.prog (Tl5 k x):=((((AH.tnil.add (rowHoq k x)).add (q2 λk x h=>p14 k x h.1 h.2)).add (q1 λx _=>p11 x)).add (q1 λk _=>p10 k)).add (q0v p9)
section
variable (k:Knd) (x:Lma) (a:List AVal) (H:AB)
theorem QT:Tl5 k x 9 a H=s0v (.bool true) a H:=rfl
theorem QU:Tl5 k x 10 a H=s1 dKn (λ_=>True) (λk=>.bool (fewK k)) a H:=rfl
theorem S6:Tl5 k x 11 a H=s1 dX (λ_=>True) (λx=>.bool (G0 x)) a H:=rfl
theorem WC:Tl5 k x 14 a H=s2 dKn dX (λk x=>FewD k.d/\FewL x) A5 a H:=rfl
theorem Tl5_h:Tl5 k x 25 a H=OG k x a H:=rfl
end
theorem S7 {l:List Int} (h:l.Nodup) {i j:Nat} {a b:Int} (hi:l[i]?=some a) (hj:l[j]?=some b) (hij:j<i):a≠b:=by
 obtain⟨h1,rfl⟩:=XS.1 hi
 obtain⟨h2,rfl⟩:=XS.1 hj
 intro e
 exact(YU.1 h) j i h2 h1 hij e.symm
theorem p5 (k:Knd) (x:Lma) (hw:WdK k):Pur Tryz.prog 5 [A3 k,encL x] (.bool true):=by
 have u1:dKn.ok (.agg (AD k))=True:=Bq k
 have u2:dKn.dec (.agg (AD k))=k:=BH k
 simp only[AD,AE,AK,Xl,Xm]at u1 u2
 have v1:dX.ok (.agg (AQ x))=True:=Fk x
 have v2:dX.dec (.agg (AQ x))=x:=DB x
 simp only[AQ]at v1 v2
 refine .mk ⟨AX 0 k,Ac 0 x,trivial⟩ trivial (a5 (AF (Tl5_ok k x) (AG ?_)))
 cases hf:fewK k with
 |false=>simp only[eE,eC,eN,reduceCtorEq,Nat.reduceEqDiff,↓reduceIte,Nat.reduceAdd,X7,Xe,c5,QT,QU,s0v,s1,AD,AE,AK,u1,u2,hf,Xe,X7]
 |true=>
 cases hg:G0 x with
 |false=>simp only[eE,eC,eN,reduceCtorEq,Nat.reduceEqDiff,↓reduceIte,Nat.reduceAdd,X7,Xe,c5,QT,QU,S6,s0v,s1,AD,AE,AK,u1,u2,v1,v2,hf,hg,Xe,X7]
 |true=>
 have hR:=few_rf hf hw
 have hD:=hR.kn.d
 have hx:=few_lm hg
 have hno:∀e,A5 k x= .tup [.sl .nil [],.sl .nil [],.bool false,.int .i64 e]->evK Tryz.prog (Tl5 k x) c5 [] (IH [.t 4] (Ret (.bool true))) ⟨[(0,true,A3 k),(1,true,encL x)],hnil,0⟩:=λe h3=>by
  by_cases e0:e=0
  ·simp only[eE,eC,eN,reduceCtorEq,Nat.reduceEqDiff,↓reduceIte,Nat.reduceAdd,Nat.reduceLT,X7,Xe,X2,c0,Xb,Xf,c5,QT,QU,S6,WC,s0v,s1,s2,AD,AE,AK,u1,u2,v1,v2,hf,hg,X7,Xe,X1 hD,X1 hx,h3,X1 e0,Zt]
  ·simp only[eE,eC,eN,reduceCtorEq,Nat.reduceEqDiff,↓reduceIte,Nat.reduceAdd,Nat.reduceLT,X7,Xe,X2,c0,Xb,Xf,c5,QT,QU,S6,WC,s0v,s1,s2,AD,AE,AK,u1,u2,v1,v2,hf,hg,X7,Xe,X1 hD,X1 hx,h3,X8 e0,Zt]
 rcases pr_end hD hx with⟨e,he,h1,h2,h3⟩|⟨q,h1,ho,hck,h2,h3,hs,hm,hr⟩|⟨h1,ho,hck,h2,h3,hs⟩|⟨ts,h1,ho,hck,h2,h3,hs,hrt,hN,hln⟩
 ·exact hno e h3
 ·have hP:PrC k x q.1:=⟨hck,hD,hx,ho,hm⟩
  have hF:=OD hr
  have hnd:=(EX hm).2.1
  have hql:q.1.length<1000:=by rw[(EX hm).1];have:=ho.ls.2.2.2;omega
  simp only[eE,eC,eN,reduceCtorEq,Nat.reduceEqDiff,↓reduceIte,Nat.reduceAdd,Nat.reduceLT,X7,X2,Xb,Xf,c5,QT,QU,S6,WC,s0v,s1,s2,AD,AE,AK,u1,u2,v1,v2,hf,hg,X7,X1 hD,X1 hx,h3,Zt]
  obtain⟨l,c⟩:=q
  simp only at hm hr hP hF hnd hql
  refine AU (λi:Nat=>⟨[(2,true,.ptr 0 0),(3,true,.ptr 1 0),(5,true,eIs l),(6,true,eIs c),(9,true,.int .i64 i)],Hkx k x,3⟩) (λi=>i<=l.length) (λi=>l.length-i) 0 rfl (Xg _) ?_
  intro i hi
  by_cases hlt:i<l.length
  case neg=>
   have hcx:=ho.c
   have hlx:=ho.l
   rw[<-hr.len]at hcx
   rw[<-hP.rd.ll]at hlx
   have g1:=As hcx.1 hcx.2
   have g2:=As hlx.1 hlx.2
   have hcon:=hr.con
   simp only[eE,eC,eN,reduceCtorEq,Nat.reduceEqDiff,↓reduceIte,Nat.reduceAdd,Nat.reduceLeDiff,X2,X0,X6,lt_F hlt,AD,AE,AK,AQ,Tl5_h,OG,u1,u2,v1,v2,Ap,Ak,X1 hP,X1 hF,Zt,hr.ok,X1 hcx.1,X1 hcx.2,X1 hlx.1,X1 hlx.2,g1,g2,hcon]
  have e0:=AI (k:=i) (by omega)
  have hg1:=X5 hlt
  generalize l[i]=a at hg1
  simp only[eE,eC,eN,Nat.reduceEqDiff,↓reduceIte,X0,lt_T hlt]
  refine AU (λj:Nat=>⟨[(2,true,.ptr 0 0),(3,true,.ptr 1 0),(5,true,eIs l),(6,true,eIs c),(9,true,.int .i64 i),(10,true,.int .i64 j)],Hkx k x,3⟩) (λj=>j<=i) (λj=>i-j) 0 rfl (Xg _) ?_
  intro j hj
  by_cases hlj:j<i
  ·have hjl:j<l.length:=by omega
   have ej:=AI (k:=j) (by omega)
   have hg2:=X5 hjl
   have hne:=S7 hnd hg1 hg2 hlj
   generalize l[j]=b at hg2 hne
   simp only[eE,eC,eN,Nat.reduceEqDiff,↓reduceIte,Int.reduceEq,X2,X3,X4,X0,X6,lt_T hlj,lt_T hlt,lt_T hjl,hg1,hg2,X8 hne,ej]
   exact .mk (j+1) rfl hlj (by omega)
  ·simp only[eE,eC,eN,Nat.reduceEqDiff,↓reduceIte,Int.reduceEq,lt_F hlj,e0]
   exact .mk (i+1) rfl hlt (by omega)
 ·exact hno 0 h3
 ·exact hno 0 h3
end Go.AM
namespace Go.AM
open Go.Proofs Go.Lib
section
variable (a:List AVal) (H:AB)
end
end Go.AM
namespace Go.AM
open Go.Proofs Go.Lib
section
variable (k:Knd) (l:Lbr) (x:Lma) (p:List (List Cas)) (e:Int) (a:List AVal) (H:AB)
end
end Go.AM
namespace Go.AM
open Go.Proofs Go.Lib Go.ChangeShapes Go.WideShapes Go.ChangeAt Go.WideMaps Go.WideElems Go.RowKit
abbrev big (n:Nat):Prop:=n<=140737488355328
theorem JR {α:Type} {l:List α} (h:big l.length):wide l:=by show l.length<_;omega
theorem own:ownKnob Tryz.prog.godebug=none:=by kernel_rfl
theorem QV (i:Nat):glob i=none:=by rfl
theorem Mt (W:World):DI (gW W)/\Fq W:=
 ⟨(λi cs h=>by rw[QV]at h;cases h),(λi cs h=>by rw[QV]at h;cases h)⟩
abbrev shIs:Sh:=.sl (.int .i64)
abbrev shSy:Sh:=.st [.str,.int .i64]
abbrev shRg:Sh:=.st [.str,.sl shIs]
abbrev shCl:Sh:=.st [.str,.str,.int .i64,.int .i64,.int .i64,.int .i64]
abbrev shRu:Sh:=.st [.str,.str,.int .i64,.int .i64,.sl .str,.sl .str,.int .i64,.int .i64,.int .i64,.int .i64,.str,.int .i64]
abbrev shD:Sh:=.st [.str,.int .i64,.int .i64,.int .i64,.int .i64,shIs,.sl shSy,.sl shRg,.sl shCl,.sl shRu]
abbrev shGr:Sh:=.st [.int .i64,.int .i64,.int .i64,shIs,shIs]
abbrev shKn:Sh:=.st [shD,shGr,.sl shIs,.sl (.sl shIs)]
abbrev shQ:Sh:=.st [.int .i64,shIs,shIs,.int .i64]
abbrev shM:Sh:=.st [.int .i64,shIs]
abbrev shX:Sh:=.st [.str,.int .i64,.sl .str,.sl .str,.sl shQ,.sl shM,.int .i64,.int .i64]
theorem rb {n:Nat} (h:n<=reachBytes):big n:=Y7 h (by decide)
theorem Eu {e:Sh} {α:Type} {enc:α->AVal} {Q:α->Prop} (he:∀vs,e.rd vs->∃a,Q a/\e.wrap vs=enc a) {av:List AVal} (h:(Sh.sl e).rd av):∃l:List α,big l.length/\(∀x∈l,Q x)/\av=[.sl (.none e.size) (l.map enc)]:=by
 simp only[Sh.rd]at h
 obtain⟨l,rfl,hln,h⟩:=h
 suffices ∃m:List α,m.length=l.length/\(∀x∈m,Q x)/\l.map e.wrap=m.map enc by
  obtain⟨m,hm,hq,hm2⟩:=this
  exact⟨m,by rw[hm];exact rb hln,hq,by rw[hm2]⟩
 clear hln
 induction l with
 |nil=>exact⟨[],rfl,(λx hx=>by cases hx),rfl⟩
 |cons x l ih=>
  obtain⟨m,h1,h2,h3⟩:=ih λy hy=>h y (by simp [hy])
  obtain⟨a,hq,ha⟩:=he x (h x (by simp))
  exact⟨a::m,by simp [h1],λy hy=>by
   rcases XY.1 hy with rfl|hy
   ·exact hq
   ·exact h2 y hy,by rw[Xu,Xu,h3,ha]⟩
theorem rdI' (vs:List AVal) (h:(Sh.int .i64).rd vs):∃n:Int,True/\(Sh.int .i64).wrap vs=eI n:=by
 obtain⟨n,rfl,_⟩:=h
 exact⟨n,trivial,rfl⟩
theorem rdS' (vs:List AVal) (h:Sh.str.rd vs):∃s:Bs,big s.length/\Sh.str.wrap vs= .str s:=by
 obtain⟨s,rfl,hs⟩:=h
 exact⟨s,rb hs,rfl⟩
theorem rdIs' (vs:List AVal) (h:(Sh.sl (.int .i64)).rd vs):∃l:List Int,big l.length/\(Sh.sl (.int .i64)).wrap vs=eIs l:=by
 obtain⟨l,h1,-,rfl⟩:=Eu rdI' h
 exact⟨l,h1,rfl⟩
theorem rdM0 {e:Sh} {α:Type} {enc:α->AVal} (he:∀vs,e.rd vs->∃a,e.wrap vs=enc a) {av:List AVal} (h:(Sh.sl e).rd av):∃l:List α,av=[.sl (.none e.size) (l.map enc)]:=by
 obtain⟨l,-,-,h⟩:=Eu (Q:=λ_=>True) (λvs h=>by obtain⟨a,ha⟩:=he vs h;exact⟨a,trivial,ha⟩) h
 exact⟨l,h⟩
theorem rdI0 (vs:List AVal) (h:(Sh.int .i64).rd vs):∃n:Int,(Sh.int .i64).wrap vs=eI n:=by
 obtain⟨n,-,h⟩:=rdI' vs h
 exact⟨n,h⟩
theorem rdS0 (vs:List AVal) (h:Sh.str.rd vs):∃s:Bs,Sh.str.wrap vs= .str s:=by
 obtain⟨n,-,h⟩:=rdS' vs h
 exact⟨n,h⟩
theorem WD (vs:List AVal) (h:(Sh.sl (.int .i64)).rd vs):∃l:List Int,wide l/\(Sh.sl (.int .i64)).wrap vs=eIs l:=by
 obtain⟨l,h1,h2⟩:=rdIs' vs h
 exact⟨l,JR h1,h2⟩
theorem rdLlW (vs:List AVal) (h:(Sh.sl (.sl (.int .i64))).rd vs):∃l:List (List Int),(∀m∈l,wide m)/\(Sh.sl (.sl (.int .i64))).wrap vs=eLl l:=by
 obtain⟨l,-,h2,rfl⟩:=Eu WD h
 exact⟨l,h2,rfl⟩
theorem rdSy (vs:List AVal) (h:shSy.rd vs):∃s:DSym,shSy.wrap vs=IN s:=by
 simp only[Sh.rd.eq_5,Sh.rdL]at h
 obtain⟨_,_,rfl,⟨nm,rfl,h1⟩,_,_,rfl,⟨v,rfl,_⟩,rfl⟩:=h
 exact⟨⟨nm,v⟩,rfl⟩
theorem rdRg (vs:List AVal) (h:shRg.rd vs):∃r:DReg,(∀l∈r.ls,wide l)/\shRg.wrap vs=GX r:=by
 simp only[Sh.rd.eq_5,Sh.rdL]at h
 obtain⟨_,_,rfl,⟨nm,rfl,h1⟩,_,_,rfl,h2,rfl⟩:=h
 obtain⟨ls,-,l2,rfl⟩:=Eu WD h2
 exact⟨⟨nm,ls⟩,l2,rfl⟩
theorem rdCl (vs:List AVal) (h:shCl.rd vs):∃c:DClu,shCl.wrap vs=B4 c:=by
 simp only[Sh.rd.eq_5,Sh.rdL]at h
 obtain⟨_,_,rfl,⟨nm,rfl,h1⟩,_,_,rfl,⟨on,rfl,h2⟩,_,_,rfl,⟨a,rfl,_⟩,_,_,rfl,⟨b,rfl,_⟩,_,_,rfl,⟨c,rfl,_⟩,_,_,rfl,⟨d,rfl,_⟩,rfl⟩:=h
 exact⟨⟨nm,on,a,b,c,d⟩,rfl⟩
theorem rdRu (vs:List AVal) (h:shRu.rd vs):∃r:DRul,(wide r.ns/\wide r.os)/\shRu.wrap vs=Bp r:=by
 simp only[Sh.rd.eq_5,Sh.rdL]at h
 obtain⟨_,_,rfl,⟨nm,rfl,h1⟩,_,_,rfl,⟨on,rfl,h2⟩,_,_,rfl,⟨k,rfl,_⟩,_,_,rfl,⟨f,rfl,_⟩,_,_,rfl,h3,_,_,rfl,h4,_,_,rfl,⟨set,rfl,_⟩,_,_,rfl,⟨oth,rfl,_⟩,_,_,rfl,⟨op,rfl,_⟩,_,_,rfl,⟨n,rfl,_⟩,_,_,rfl,⟨b,rfl,h5⟩,_,_,rfl,⟨c,rfl,_⟩,rfl⟩:=h
 obtain⟨ns,n1,n2,rfl⟩:=Eu rdS' h3
 obtain⟨os,o1,o2,rfl⟩:=Eu rdS' h4
 exact⟨⟨nm,on,k,f,ns,os,set,oth,op,n,b,c⟩,⟨JR n1,JR o1⟩,rfl⟩
theorem rdD (vs:List AVal) (h:shD.rd vs):∃d:Dcl,((∀r∈d.regs,∀l∈r.ls,wide l)/\∀r∈d.ruls,wide r.ns/\wide r.os)/\vs=AK d:=by
 simp only[Sh.rd.eq_5,Sh.rdL]at h
 obtain⟨_,_,rfl,⟨nm,rfl,h1⟩,_,_,rfl,⟨v,rfl,_⟩,_,_,rfl,⟨sh,rfl,_⟩,_,_,rfl,⟨w,rfl,_⟩,_,_,rfl,⟨hh,rfl,_⟩,_,_,rfl,h2,_,_,rfl,h3,_,_,rfl,h4,_,_,rfl,h5,_,_,rfl,h6,rfl⟩:=h
 obtain⟨ho,rfl⟩:=rdM0 rdI0 h2
 obtain⟨sy,rfl⟩:=rdM0 rdSy h3
 obtain⟨rg,-,c2,rfl⟩:=Eu rdRg h4
 obtain⟨cl,rfl⟩:=rdM0 rdCl h5
 obtain⟨ru,-,e2,rfl⟩:=Eu rdRu h6
 exact⟨⟨nm,v,sh,w,hh,ho,sy,rg,cl,ru⟩,⟨c2,e2⟩,rfl⟩
theorem rdGr (vs:List AVal) (h:shGr.rd vs):∃g:Grd,vs=AE g.sh g.w g.h g.holes g.cells:=by
 simp only[Sh.rd.eq_5,Sh.rdL]at h
 obtain⟨_,_,rfl,⟨sh,rfl,_⟩,_,_,rfl,⟨w,rfl,_⟩,_,_,rfl,⟨hh,rfl,_⟩,_,_,rfl,h2,_,_,rfl,h3,rfl⟩:=h
 obtain⟨ho,rfl⟩:=rdM0 rdI0 h2
 obtain⟨ce,rfl⟩:=rdM0 rdI0 h3
 exact⟨⟨sh,w,hh,ho,ce⟩,rfl⟩
theorem rdKn (vs:List AVal) (h:shKn.rd vs):∃k:Knd,WdK k/\shKn.wrap vs=A3 k:=by
 rw[Sh.rd.eq_5]at h
 simp only[Sh.rdL]at h
 obtain⟨_,_,rfl,h1,_,_,rfl,h2,_,_,rfl,h3,_,_,rfl,h4,rfl⟩:=h
 obtain⟨d,⟨w1,w2⟩,rfl⟩:=rdD _ h1
 obtain⟨g,rfl⟩:=rdGr _ h2
 obtain⟨nb,-,w3,rfl⟩:=Eu WD h3
 obtain⟨ls,-,w4,rfl⟩:=Eu rdLlW h4
 exact⟨⟨d,g,nb,ls⟩,⟨w1,w2,w3,w4⟩,rfl⟩
theorem rdQ (vs:List AVal) (h:shQ.rd vs):∃q:Cnd,shQ.wrap vs=encQ q:=by
 simp only[Sh.rd.eq_5,Sh.rdL]at h
 obtain⟨_,_,rfl,⟨k,rfl,_⟩,_,_,rfl,h1,_,_,rfl,h2,_,_,rfl,⟨n,rfl,_⟩,rfl⟩:=h
 obtain⟨cs,rfl⟩:=rdM0 rdI0 h1
 obtain⟨ls,rfl⟩:=rdM0 rdI0 h2
 exact⟨⟨k,cs,ls,n⟩,rfl⟩
theorem rdMm (vs:List AVal) (h:shM.rd vs):∃p:Prm,shM.wrap vs=encM p:=by
 simp only[Sh.rd.eq_5,Sh.rdL]at h
 obtain⟨_,_,rfl,⟨c,rfl,_⟩,_,_,rfl,h1,rfl⟩:=h
 obtain⟨ls,rfl⟩:=rdM0 rdI0 h1
 exact⟨⟨c,ls⟩,rfl⟩
theorem rdX (vs:List AVal) (h:shX.rd vs):∃x:Lma,shX.wrap vs=encL x:=by
 simp only[Sh.rd.eq_5,Sh.rdL]at h
 obtain⟨_,_,rfl,⟨nm,rfl,_⟩,_,_,rfl,⟨lv,rfl,_⟩,_,_,rfl,h1,_,_,rfl,h2,_,_,rfl,h3,_,_,rfl,h4,_,_,rfl,⟨c,rfl,_⟩,_,_,rfl,⟨l,rfl,_⟩,rfl⟩:=h
 obtain⟨cs,rfl⟩:=rdM0 rdS0 h1
 obtain⟨ls,rfl⟩:=rdM0 rdS0 h2
 obtain⟨qs,rfl⟩:=rdM0 rdQ h3
 obtain⟨ps,rfl⟩:=rdM0 rdMm h4
 exact⟨⟨nm,lv,cs,ls,qs,ps,c,l⟩,rfl⟩
theorem argKX {av:List AVal} (h:Sh.rdA [shKn,shX] av):∃(k:Knd) (x:Lma),WdK k/\av=[A3 k,encL x]:=by
 simp only[Sh.rdA]at h
 obtain⟨_,_,rfl,h1,_,_,rfl,h2,rfl⟩:=h
 obtain⟨k,hk,e1⟩:=rdKn _ h1
 obtain⟨x,e2⟩:=rdX _ h2
 exact⟨k,x,hk,by rw[e1,e2]⟩
end Go.AM
