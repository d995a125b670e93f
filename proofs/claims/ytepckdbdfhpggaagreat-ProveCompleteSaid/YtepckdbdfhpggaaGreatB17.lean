/-
  Proofs of lemmas, plainly: the examples; small kinds · A run: code of plain operations carried out, step for step, from .
  Conditions: none beyond those of its parts.
-/
import Derived.Test.YtepckdbdfhpggaaGreatB16
import Derived.Test.YtepckdbdfhpggaaGreatB7
import Derived.KernelRfl
import Derived.Test.YtepckdbdfhpggaaGreatRows
import Derived.SizedLaws
import Derived.LaidLaws

set_option maxRecDepth 20000
set_option linter.all false
namespace Go.AM
open Go.Proofs Go.Lib
def dk0:Dcl:=⟨[112,97,105,114],1,1,2,1,[],[⟨[97],0⟩,⟨[98],1⟩],[],[],[⟨[114],[],6,0,[],[],0,0,0,0,[],-1⟩]⟩
def k0:Knd:=⟨dk0,⟨1,2,1,[],[0,1]⟩,[[1],[0]],[[[0],[1]],[[0,1]],[[0],[1]],[],[[1],[0]],[[0,1],[0,1]],[[0,1]],[[0,1]]]⟩
theorem hkd:k0.d=dk0:=rfl
def x0:Lma:=⟨[115,105,110,103,108,101],1,[[112],[113]],[[120]],[⟨1,[0,1],[],0⟩],[⟨0,[0]⟩],1,0⟩
def Pu:Lma:=⟨[115,105,110,103,108,101],1,[[112],[113]],[[120]],[],[],1,0⟩
def Sd:Lma:=⟨[115,105,110,103,108,101],1,[[112],[113]],[[120],[121],[122]],[],[],1,0⟩
def oth0:Lma:=⟨[111,116,104,101,114],1,[[112],[113]],[[120]],[⟨1,[0,1],[],0⟩],[⟨0,[0]⟩],1,0⟩
def two0:List Cas:=[⟨1,0⟩,⟨2,0⟩]
def p0:List (List Cas):=[two0,two0]
def la0:List Int:=[0]
def lb0:List Int:=[0,0]
def lib0:Lbr:=⟨[],[]⟩
def lib1:Lbr:=⟨[x0],[p0]⟩
def lib2:Lbr:=⟨[],[p0]⟩
def pe0:List (List Cas):=[]
theorem fk0:FewD k0.d:=by
 rw[hkd]
 exact⟨by decide,by decide,by decide,λr hr=>(by cases hr),by decide,by decide,λr hr=>by rw[Xv.1 hr];exact⟨by decide,by decide⟩⟩
theorem fx0:FewL x0:=⟨by decide,by decide,by decide,by decide,λq hq=>by rw[Xv.1 hq];exact⟨by decide,by decide⟩,λp hp=>by rw[Xv.1 hp];decide⟩
theorem fb0:FewL Pu:=⟨by decide,by decide,by decide,by decide,λq hq=>(by cases hq),λp hp=>(by cases hp)⟩
theorem fm0:FewL Sd:=⟨by decide,by decide,by decide,by decide,λq hq=>(by cases hq),λp hp=>(by cases hp)⟩
theorem fo0:FewL oth0:=⟨by decide,by decide,by decide,by decide,λq hq=>by rw[Xv.1 hq];exact⟨by decide,by decide⟩,λp hp=>by rw[Xv.1 hp];decide⟩
theorem fp0:DR p0:=⟨by decide,λl hl=>by
 have:l=two0:=by simpa [p0]using hl
 rw[this];decide⟩
theorem fpe:DR pe0:=⟨by decide,λl hl=>(by cases hl)⟩
theorem z1:CN k0 x0= .tup [Bg p0,.int .i64 0]:=by kernel_rfl
theorem z2:A7 k0 x0= .tup [.sl .nil [],.sl .nil [],.bool false,.int .i64 0]:=by kernel_rfl
theorem z3:A7 k0 Pu= .tup [eIs la0,eIs lb0,.bool true,.int .i64 0]:=by kernel_rfl
theorem z4:CN k0 Pu= .tup [noPf,.int .i64 320]:=by kernel_rfl
theorem z5:CN k0 Sd= .tup [Bg pe0,.int .i64 0]:=by kernel_rfl
theorem z6:El k0 lib0 x0 p0= .tup [Ew lib1,.int .i64 0]:=by kernel_rfl
theorem z7:El k0 lib1 x0 p0= .tup [noLb,.int .i64 161]:=by kernel_rfl
theorem z8:El k0 lib1 oth0 pe0= .tup [noLb,.int .i64 310]:=by kernel_rfl
theorem z9:B7 k0 lib0=0:=by kernel_rfl
theorem z10:B7 k0 lib1=0:=by kernel_rfl
theorem z11:B7 k0 lib2=310:=by kernel_rfl
theorem fl0:FewB lib0:=⟨by decide,by decide,λx h=>(by cases h),λp h=>(by cases h)⟩
theorem fl1:FewB lib1:=⟨by decide,by decide,λx h=>by rw[Xv.1 h];exact fx0,λp h=>by rw[Xv.1 h];exact fp0⟩
theorem fl2:FewB lib2:=⟨by decide,by decide,λx h=>(by cases h),λp h=>by rw[Xv.1 h];exact fp0⟩
structure WdK (k:Knd):Prop where
 rg:∀r∈k.d.regs,∀l∈r.ls,wide l
 ru:∀r∈k.d.ruls,wide r.ns/\wide r.os
 nb:∀l∈k.nb,wide l
 ls:∀l∈k.ls,∀m∈l,wide m
theorem few_rf {k:Knd} (h:fewK k=true) (hw:WdK k):RfK k:=by
 unfold fewK R5 at h
 simp only[X5,Yb,Z4,Yh,Xe,Xb]at h
 obtain⟨⟨⟨⟨⟨⟨⟨⟨⟨⟨h1,h2⟩,h3⟩,h4⟩,h5⟩,h6⟩,h7⟩,h8⟩,h9⟩,hl⟩,hr⟩:=h
 have hD:FewD k.d:=⟨show k.d.holes.length<_ by omega,show k.d.syms.length<_ by omega,show k.d.regs.length<_ by omega,λr hm=>⟨show r.ls.length<_ by have:=hr r hm;omega,hw.rg r hm⟩,show k.d.clus.length<_ by omega,show k.d.ruls.length<_ by omega,hw.ru⟩
 exact⟨⟨hD,show k.g.holes.length<_ by omega,show k.g.cells.length<_ by omega,⟨show k.nb.length<_ by omega,hw.nb⟩,show k.ls.length<_ by omega,λl hm=>⟨show l.length<_ by have:=hl l hm;omega,hw.ls l hm⟩⟩,by omega⟩
theorem LX (k:Knd) (x:Lma):Ak k x=if Aj k≠0 then Aj k else chk x:=rfl
theorem Pv (x:Lma):chk x=0\/chk x=300:=by
 unfold chk
 split
 ·exact .inl rfl
 ·exact .inr rfl
theorem LY (k:Knd):Aj k=0\/Aj k=180:=by
 unfold Aj
 split
 ·exact .inl rfl
 ·exact .inr rfl
theorem LZ (k:Knd) (x:Lma):Ak k x=0\/Ak k x=180\/Ak k x=300:=by
 rw[LX]
 rcases LY k with h|h<;>rcases Pv x with h2|h2<;>rw[h,h2]<;>decide
inductive PrEnd (k:Knd) (x:Lma):Prop
 |bad (e:Int):e=180\/e=300->Ak k x=e->CN k x= .tup [noPf,.int .i64 e]->A7 k x= .tup [.sl .nil [],.sl .nil [],.bool false,.int .i64 e]->PrEnd k x
 |no (q:List Int×List Int):Ak k x=0->OKL x->Aj k=0->CN k x= .tup [noPf,.int .i64 320]->A7 k x= .tup [eIs q.1,eIs q.2,.bool true,.int .i64 0]->CY (AP k) x=false->q.1∈chs k.d.syms.length x.ls.length->Refutes (AP k) x q.1 q.2->PrEnd k x
 |many:Ak k x=0->OKL x->Aj k=0->CN k x= .tup [noPf,.int .i64 2]->A7 k x= .tup [.sl .nil [],.sl .nil [],.bool false,.int .i64 0]->CY (AP k) x=true->PrEnd k x
 |ok (ts:List (List Cas)):Ak k x=0->OKL x->Aj k=0->CN k x= .tup [Bg ts,.int .i64 0]->A7 k x= .tup [.sl .nil [],.sl .nil [],.bool false,.int .i64 0]->CY (AP k) x=true->CX (AP k) x ts=true->BL ts<=65536->ts.length=(chs k.d.syms.length x.ls.length).length->PrEnd k x
theorem pr_end {k:Knd} {x:Lma} (hk:FewD k.d) (hx:FewL x):PrEnd k x:=by
 have hvl:(AP k).length=k.d.syms.length:=by unfold AP;rw[W6]
 rcases LZ k x with hv|hv
 case inr=>
  have hne:Ak k x≠0:=by rcases hv with h|h<;>rw[h]<;>decide
  exact .bad (Ak k x) hv rfl (by unfold CN;rw[Xc hne]) (by unfold A7;rw[Xc hne])
 obtain⟨hck,hox⟩:=JF hk hx hv
 have hP:CN k x=Gs (AP k) x:=by unfold CN;rw[X8 (by simpa using hv)]
 have hC:A7 k x=ES k x:=by unfold A7;rw[X8 (by simpa using hv)]
 have hs:=MU (vals:=AP k) hox
 cases ht:Ff (AP k) x with
 |none=>
  rw[ht]at hs
  have hsf:CY (AP k) x=false:=hs.symm
  cases hq:cexP (AP k) x with
  |none=>rw[NZ hox]at hq;rw[hq]at hsf;cases hsf
  |some q=>
   obtain⟨h1,h2⟩:=To hox hq
   rw[hvl]at h1
   exact .no q hv hox hck (by rw[hP];unfold Gs K7;rw[ht]) (by rw[hC];unfold ES;rw[hq]) hsf h1 h2
 |some ts=>
  rw[ht]at hs
  have hst:CY (AP k) x=true:=hs.symm
  have hcn:cexP (AP k) x=none:=(NZ hox).2 hst
  have hCo:A7 k x= .tup [.sl .nil [],.sl .nil [],.bool false,.int .i64 0]:=by rw[hC];unfold ES;rw[hcn]
  by_cases hN:65536<BL ts
  ·exact .many hv hox hck (by rw[hP];unfold Gs K7;rw[ht];simp only[];rw[Xc hN]) hCo hst
  ·have hln:ts.length=(chs k.d.syms.length x.ls.length).length:=by
    unfold Ff at ht
    rw[hvl]at ht
    exact(Hq ht).1.symm
   exact .ok ts hv hox hck (by rw[hP];unfold Gs K7;rw[ht];simp only[];rw[X8 hN]) hCo hst (Hr ht) (by omega) hln
end Go.AM
namespace Go.AM
open Go.Proofs
mutual
def Pw:AVal->AVal
 | .sl .nil []=>.sl .nil []
 | .sl t l=>.sl (.none t.esz) (strips l)
 | .agg l=>.agg (strips l)
 | .tup l=>.tup (strips l)
 |v=>v
def strips:List AVal->List AVal
 |[]=>[]
 |v::r=>Pw v::strips r
end
mutual
def wkB:AVal->AVal->Bool
 | .sl .nil [],.sl .nil []=>true
 | .sl t l,.sl (.none e) m=>(decide (t.esz=e)||l.isEmpty)&&wksB l m
 | .agg l,.agg m=>wksB l m
 | .tup l,.tup m=>wksB l m
 | .int k n,.int k' n'=>decide (k=k')&&decide (n=n')
 | .bool b,.bool b'=>b==b'
 | .str s,.str s'=>decide (s=s')
 |_,_=>false
def wksB:List AVal->List AVal->Bool
 |[],[]=>true
 |a::l,b::m=>wkB a b&&wksB l m
 |_,_=>false
end
mutual
theorem Mn:∀(a b:AVal),wkB a b=true->Wk a b/\b.under 0
 |a,b,h=>by
  unfold wkB at h
  split at h
  ·exact⟨Wk.refl _,trivial,trivial⟩
  ·rename_i t l e m _
   simp only[X5,Xl,Xb,List.isEmpty_iff]at h
   have k:=wksB_ok _ _ h.2
   exact⟨Wk.slx h.1 k.1,trivial,k.2⟩
  ·have k:=wksB_ok _ _ h
   exact⟨Wk.agg k.1,k.2⟩
  ·have k:=wksB_ok _ _ h
   exact⟨Wk.tup k.1,k.2⟩
  ·simp only[X5,Xb]at h
   obtain⟨rfl,rfl⟩:=h
   exact⟨Wk.refl _,trivial⟩
  ·rw[eq_of_beq h]
   exact⟨Wk.refl _,trivial⟩
  ·rw[Xb]at h
   subst h
   exact⟨Wk.refl _,trivial⟩
  ·cases h
theorem wksB_ok:∀(a b:List AVal),wksB a b=true->Wks a b/\unders 0 b
 |[],[],_=>⟨.nil,trivial⟩
 |a::l,b::m,h=>by
  simp only[wksB,X5]at h
  have k:=Mn _ _ h.1
  have k':=wksB_ok _ _ h.2
  exact⟨.cons k.1 k'.1,k.2,k'.2⟩
 |[],_::_,h=>by simp [wksB]at h
 |_::_,[],h=>by simp [wksB]at h
end
def iI (k:IntKind):AVal->Bool
 | .int k' _=>decide (k'=k)
 |_=>false
def iN:AVal->Bool
 | .int _ _=>true
 |_=>false
def iB:AVal->Bool
 | .bool _=>true
 |_=>false
def iS:AVal->Bool
 | .str _=>true
 |_=>false
def iT:AVal->Bool
 | .tup _=>false
 |_=>true
theorem Nx {k:IntKind} {v:AVal} (h:iI k v=true):isI k v:=by cases v<;>simp_all [iI,isI]
theorem iN_ok {v:AVal} (h:iN v=true):Ca v:=by cases v<;>simp_all [iN,Ca]
theorem Ny {v:AVal} (h:iB v=true):isB v:=by cases v<;>simp_all [iB,isB]
theorem Vb {v:AVal} (h:iS v=true):isS v:=by cases v<;>simp_all [iS,isS]
theorem Se {v:AVal} (h:iT v=true):nT v:=by cases v<;>simp_all [iT,nT]
def fitB:List Nat->List AVal->List AVal->Bool
 |[],[],[]=>true
 |0::fs,.int k _::xs,.int k' _::ys=>decide (k=k')&&fitB fs xs ys
 |1::fs,.bool _::xs,.bool _::ys=>fitB fs xs ys
 |2::fs,.str _::xs,.str _::ys=>fitB fs xs ys
 |_,_,_=>false
theorem Vc (f:List Nat) (x y:List AVal) (h:fitB f x y=true):cfit f x y:=by
 fun_induction fitB f x y<;>simp_all [cfit]
def okv (H:AB) (ρ:Opd->AVal):Opk->Bool
 | .mv _=>true
 | .arith op k x y=>iI k (ρ x)&&iI k (ρ y)&&(!KD op||decide (toI (ρ y)≠0))
 | .shift op k ky x y=>iI k (ρ x)&&iI ky (ρ y)&&decide (0<=toI (ρ y))
 | .icmp op k x y=>iI k (ρ x)&&iI k (ρ y)
 | .beq _ x y=>iB (ρ x)&&iB (ρ y)
 | .scmp op x y=>iS (ρ x)&&iS (ρ y)
 | .not x=>iB (ρ x)
 | .fa _ x=>match ρ x with
  | .ptr _ _| .ep _=>true
  |_=>false
 | .ld sz _ x=>match ρ x with
  | .ptr id off=>(match hget H id with
   |some (.box cs)=>decide (off+sz<=cs.length)
   |_=>false)
  | .ep cs=>decide (sz<=cs.length)
  |_=>false
 | .ia esz x i=>match ρ x with
  | .sl tok l=>decide (tok.esz=esz)&&iN (ρ i)&&decide (0<=toI (ρ i))&&decide (toI (ρ i)<l.length)
  |_=>false
 | .len x=>match ρ x with
  | .sl _ _=>true
  |_=>false
 | .lenS x=>iS (ρ x)
 | .build zero parts=>parts.all λp=>iT (ρ p.2.2)&&decide ((ρ p.2.2).cells.length=p.2.1)&&decide (p.1+p.2.1<=zero.length)
 | .bs esz n zero parts=>(parts.all λp=>iT (ρ p.2)&&decide ((ρ p.2).cells.length=esz)&&decide (p.1<n))&&decide (zero.cells.length=esz)&&decide (n*esz<=16777216)
 | .fn _ _ _=>true
 | .ext i x=>match ρ x with
  | .tup vs=>decide (i<vs.length)
  |_=>false
 | .aeq _ fs x y=>match ρ x,ρ y with
  | .agg xs,.agg ys=>fitB fs xs ys
  |_,_=>false
 |_=>false
theorem okv_ok {H:AB} {ρ:Opd->AVal} {k:Opk} (h:okv H ρ k=true):(evk H ρ k).1:=by
 cases k<;>simp only[okv,Xm,X5,Xl,Yb,Xb,Xe]at h
 case mv=>trivial
 case arith=>exact⟨Nx h.1.1,Nx h.1.2,λq=>by
  rcases h.2 with h|h; ·rw[h]at q;cases q
  ·exact h⟩
 case shift=>exact⟨Nx h.1.1,Nx h.1.2,h.2⟩
 case icmp=>exact⟨Nx h.1,Nx h.2⟩
 case beq=>exact⟨Ny h.1,Ny h.2⟩
 case scmp=>exact⟨Vb h.1,Vb h.2⟩
 case not=>exact Ny h
 case fa=>simp only[evk];split at h<;>simp_all
 case ld sz ag x=>
  simp only[evk]
  generalize ρ x=v at h
  cases v<;>simp only[Xm]at h
  case ptr id off=>
   simp only[Ao]
   split at h
   ·rename_i q;rw[q];exact Yj h
   ·cases h
  case ep cs=>simp only[Ao];exact Yj h
 case ia esz x i=>
  simp only[evk]
  split at h
  ·rename_i q
   simp only[X5,Xb]at h
   rw[q]
   exact⟨h.1.1.1,iN_ok h.1.1.2,h.1.2,h.2⟩
  ·cases h
 case len=>simp only[evk];split at h<;>simp_all
 case lenS=>exact Vb h
 case build=>exact λp hp=>⟨Se (h p hp).1.1,(h p hp).1.2,(h p hp).2⟩
 case bs=>exact⟨λp hp=>⟨Se (h.1.1 p hp).1.1,(h.1.1 p hp).1.2,(h.1.1 p hp).2⟩,h.1.2,h.2⟩
 case fn=>trivial
 case ext=>
  simp only[evk]
  split at h
  ·rename_i q
   rw[q]
   exact Yj h
  ·cases h
 case aeq=>
  simp only[evk]
  split at h
  ·rename_i q q'
   rw[q,q']
   exact Vc _ _ _ h
  ·cases h
mutual
def uB:AVal->Bool
 | .int _ _=>true
 | .bool _=>true
 | .str _=>true
 | .sl (.own _ _) _=>false
 | .sl _ l=>uBs l
 | .agg l=>uBs l
 | .tup l=>uBs l
 |_=>false
def uBs:List AVal->Bool
 |[]=>true
 |a::l=>uB a&&uBs l
end
mutual
theorem uB_ok:∀(v:AVal),uB v=true->v.under 0
 |v,h=>by
  unfold uB at h
  split at h
  ·trivial
  ·trivial
  ·trivial
  ·cases h
  ·rename_i t l ht
   refine⟨?_,uBs_ok _ h⟩
   cases t<;>first|trivial|exact absurd rfl (ht _ _)
  ·exact uBs_ok _ h
  ·exact uBs_ok _ h
  ·cases h
theorem uBs_ok:∀(l:List AVal),uBs l=true->unders 0 l
 |[],_=>trivial
 |a::l,h=>by
  simp only[uBs,X5]at h
  exact⟨uB_ok _ h.1,uBs_ok _ h.2⟩
end
def TX (C:FuncId->List AVal->Option AVal):Tab:=λf args _=>match C f args with
 |some r=>(True,r)
 |none=>(False,.tup [])
theorem TX_ok {P:Program} {C:FuncId->List AVal->Option AVal} (h:∀f args r,C f args=some r->∀H n,Ab P f args H n r):AH P (TX C):=by
 intro f args H n q
 unfold TX at q⊢
 split at q
 ·rename_i r e
  exact h _ _ _ e _ _
 ·exact q.elim
def goB (env:List (Nat×Bool×AVal)):Option (Nat×Bool)->Bool
 |none=>true
 |some (t,_)=>match eget env t with
  |none=>false
  |some (g,v)=>!g||iB v
theorem goB_ok {env:List (Nat×Bool×AVal)} {g:Option (Nat×Bool)} (h:goB env g=true):gok env g:=by
 cases g with
 |none=>trivial
 |some tw=>
  obtain⟨t,w⟩:=tw
  simp only[goB]at h
  simp only[gok]
  split at h
  ·cases h
  ·rename_i g v q
   rw[q]
   intro e
   rw[e]at h
   exact Ny h
def oB (env:List (Nat×Bool×AVal)) (l:List Opd):Bool:=l.all λx=>(lk env x).1
theorem Px {env:List (Nat×Bool×AVal)}:∀{l:List Opd},oB env l=true->oks env l
 |[],_=>trivial
 |x::l,h=>by
  simp only[oB,Za,X5]at h
  exact⟨h.1,Px h.2⟩
def apB (H:AB) (esz:Nat):Tok->Bool
 | .nil=>true
 | .none _=>false
 | .exact e=>decide (e=esz)
 | .own id e=>decide (e=esz)&&match hget H id with
  |some .tok=>true
  |_=>false
theorem apB_ok {H:AB} {esz:Nat} {t:Tok} (h:apB H esz t=true):Bl H esz t:=by
 cases t
 case nil=>trivial
 case none=>cases h
 case exact e=>exact Yj (p:=e=esz) h
 case own id e=>
  simp only[apB,X5,Xb]at h
  refine⟨h.1,?_⟩
  have h:=h.2
  split at h
  ·assumption
  ·cases h
def xeff (base:Nat) (o:AOp) (s:AS):Option AS:=match o.k with
 | .alloc rel cs=>bif (hget s.H (base+rel)).isNone then some ({s with H:=hset s.H (base+rel) (.box cs)}.put o.dst true (.ptr (base+rel) 0))else none
 | .box rel sz x=>bif (hget s.H (base+rel)).isNone&&iT (lkv s.env x)&&decide ((lkv s.env x).cells.length=sz)then some ({s with H:=hset s.H (base+rel) (.box (lkv s.env x).cells)}.put o.dst true (.ptr (base+rel) 0))else none
 | .st sz a x=>bif iT (lkv s.env x)&&decide ((lkv s.env x).cells.length=sz)then(match lkv s.env a with
  | .ptr id off=>(match hget s.H id with
   |some (.box cs)=>bif decide (off+sz<=cs.length)then some ({s with H:=hset s.H id (.box (splice cs off (lkv s.env x).cells))}.put o.dst true (.tup []))else none
   |_=>none)
  |_=>none)else none
 | .app rel esz bytes x y str=>(match lkv s.env x,Bk s.H (lkv s.env) esz y str with
  | .sl tok l,some l'=>bif (hget s.H (base+rel)).isNone&&apB s.H esz tok&&decide ((l.length+l'.length)*bytes<=35184372088832)&&decide (l.length+l'.length<=35184372088832)&&decide (0<esz)then
    some ({s with H:=hset (AU s.H tok) (base+rel) .tok}.put o.dst true (.sl (.own (base+rel) esz) (l++l')))else none
  |_,_=>none)
 |_=>none
theorem BE {α:Type} {b:Bool} {x:Option α} {y:α} (h:(bif b then x else none)=some y):b=true/\x=some y:=by
 cases b
 ·cases h
 ·exact⟨rfl,h⟩
theorem Vd {P:Program} {Qp:AVal->AB->Nat->Prop} {base:Nat} {o:AOp} {K:AS->Prop} {s s':AS} (h:xeff base o s=some s') (hK:K s'):Ar P Qp base o K s:=by
 obtain⟨d,g,k⟩:=o
 cases k<;>simp only[xeff,reduceCtorEq]at h
 case alloc=>
  obtain⟨h1,h⟩:=BE h
  cases h
  exact⟨Option.isNone_iff_eq_none.1 h1,hK⟩
 case box=>
  obtain⟨h1,h⟩:=BE h
  cases h
  simp only[X5,Xb]at h1
  exact⟨Option.isNone_iff_eq_none.1 h1.1.1,Se h1.1.2,h1.2,hK⟩
 case st=>
  obtain⟨h1,h⟩:=BE h
  simp only[X5,Xb]at h1
  refine⟨Se h1.1,h1.2,?_⟩
  simp only
  split at h
  ·rename_i e
   rw[e]
   simp only
   split at h
   ·rename_i e'
    rw[e']
    obtain⟨h2,h⟩:=BE h
    cases h
    exact⟨Yj h2,hK⟩
   ·cases h
  ·cases h
 case app=>
  simp only[Ar]
  split at h
  ·rename_i e e'
   rw[e,e']
   obtain⟨h1,h⟩:=BE h
   cases h
   simp only[X5,Xb]at h1
   exact⟨Option.isNone_iff_eq_none.1 h1.1.1.1.1,apB_ok h1.1.1.1.2,h1.1.1.2,h1.1.2,h1.2,hK⟩
  ·cases h
def xop (C:FuncId->List AVal->Option AVal) (base:Nat) (o:AOp) (s:AS):Option AS:=
 bif goB s.env o.guard then match o.k with
  | .v k=>bif !gvb s.env o.guard||(oB s.env k.opds&&okv s.H (lkv s.env) k)then some (s.put o.dst (gvb s.env o.guard) (evk s.H (lkv s.env) k).2)else none
  | .pick c a b=>bif !gvb s.env o.guard||((lk s.env c).1&&iB (lkv s.env c)&&(bif toB (lkv s.env c)then(lk s.env a).1 else(lk s.env b).1))then some (s.put o.dst (gvb s.env o.guard) (sel (toB (lkv s.env c)) (lkv s.env a) (lkv s.env b)))else none
  | .call true f args=>bif gvb s.env o.guard then(bif (lk s.env f).1&&oB s.env args then(match lkv s.env f with
    | .fn (.func i) first cap=>(match C i (first++args.map (lkv s.env)++cap)with
     |some r=>some (s.put o.dst true r)
     |none=>none)
    |_=>none)else none)else some (s.put o.dst false (FQ (TX C) (args.map (lkv s.env)) s.H (lkv s.env f)).2)
  | .cpu f args=>bif gvb s.env o.guard then(bif (lk s.env f).1&&oB s.env args then(match lkv s.env f with
    | .fn (.func i) first cap=>(match C i (first++args.map (lkv s.env)++cap)with
     |some r=>bif uBs (first++args.map (lkv s.env)++cap)&&uB r then some (s.put o.dst true r)else none
     |none=>none)
    |_=>none)else none)else some (s.put o.dst false (.tup []))
  | .alloc .. | .box .. | .st .. | .app .. =>bif gvb s.env o.guard then(bif oB s.env o.k.opds then xeff base o s else none)else some (s.put o.dst false (.tup []))
  |_=>none
 else none
theorem xop_ok {P:Program} {C:FuncId->List AVal->Option AVal} {Qp:AVal->AB->Nat->Prop} {base:Nat} {o:AOp} {K:AS->Prop} {s s':AS} (h:xop C base o s=some s') (hK:K s'):A4 P (TX C) Qp base o K s:=by
 unfold xop at h
 have hb:=BE h
 clear h
 obtain⟨hz,h⟩:=hb
 have h0:=goB_ok hz
 clear hz
 have eff:(bif gvb s.env o.guard then(bif oB s.env o.k.opds then xeff base o s else none)else some (s.put o.dst false (.tup [])))=some s'->(gvb s.env o.guard=true->oks s.env o.k.opds/\Ar P Qp base o K s)/\(gvb s.env o.guard=false->K (s.put o.dst false (.tup []))):=by
  intro h
  cases hg:gvb s.env o.guard<;>rw[hg]at h
  ·cases h
   exact⟨λq=>(by cases q),λ_=>hK⟩
  ·obtain⟨h1,h⟩:=BE h
   exact⟨λ_=>⟨Px h1,Vd h hK⟩,λq=>(by cases q)⟩
 obtain⟨d,g,k⟩:=o
 cases k<;>simp only[reduceCtorEq]at h
 case v k=>
  obtain⟨h1,h⟩:=BE h
  cases h
  refine⟨h0,λq=>?_,hK⟩
  rw[q]at h1
  simp only[X3,YX,X5]at h1
  exact⟨Px h1.1,okv_ok h1.2⟩
 case pick c a b=>
  obtain⟨h1,h⟩:=BE h
  cases h
  refine⟨h0,λq=>?_,hK⟩
  rw[q]at h1
  simp only[X3,YX,X5]at h1
  refine⟨h1.1.1,Ny h1.1.2,λe=>?_,λe=>?_⟩<;>(have:=h1.2;rw[e]at this;exact this)
 case call q f args=>
  cases q
  ·exact absurd h (by simp)
  cases hg:gvb s.env g<;>rw[hg]at h
  ·cases h
   simp only[A4,hg]
   exact⟨h0,λq=>(by cases q),hK⟩
  ·obtain⟨h1,h⟩:=BE h
   simp only[X5]at h1
   split at h
   ·rename_i i first cap e
    split at h
    ·rename_i r e'
     cases h
     have hc:FQ (TX C) (args.map (lkv s.env)) s.H (lkv s.env f)=(True,r):=by rw[e];simp only[FQ,TX,e']
     simp only[A4,hg,hc]
     exact⟨h0,λ_=>⟨h1.1,Px h1.2,trivial⟩,hK⟩
    ·cases h
   ·cases h
 case cpu f args=>
  cases hg:gvb s.env g<;>rw[hg]at h
  ·cases h
   simp only[A4,hg]
   exact⟨h0,λq=>(by cases q),λ_=>hK⟩
  ·obtain⟨h1,h⟩:=BE h
   simp only[X5]at h1
   split at h
   ·rename_i i first cap e
    split at h
    ·rename_i r e'
     obtain⟨h2,h⟩:=BE h
     cases h
     simp only[X5]at h2
     have hc:cpuT (TX C) (args.map (lkv s.env)) (lkv s.env f)=(True/\unders 0 (first++args.map (lkv s.env)++cap)/\r.under 0,r):=by rw[e];simp only[cpuT,TX,e']
     simp only[A4,hg,hc]
     exact⟨h0,λ_=>⟨⟨h1.1,Px h1.2,trivial,uBs_ok _ h2.1,uB_ok _ h2.2⟩,hK⟩,λq=>(by cases q)⟩
    ·cases h
   ·cases h
 all_goals exact⟨h0,eff h⟩
def xops (C:FuncId->List AVal->Option AVal) (base:Nat):List AOp->AS->Option AS
 |[],s=>some s
 |o::r,s=>match xop C base o s with
  |some s'=>xops C base r s'
  |none=>none
theorem Py {P:Program} {C:FuncId->List AVal->Option AVal} {Qp:AVal->AB->Nat->Prop} {base:Nat} {K:AS->Prop}:∀{l:List AOp} {s s':AS},xops C base l s=some s'->K s'->runT P (TX C) Qp base l K s
 |[],s,s',h,hK=>by cases h;exact hK
 |o::r,s,s',h,hK=>by
  unfold xops at h
  split at h
  ·rename_i e
   exact xop_ok e (Py h hK)
  ·cases h
def xc (C:FuncId->List AVal->Option AVal):Nat->ACode->AS->Option (AExit×AS)
 |0,_,_=>none
 |n+1,c,s=>match c with
  | .skip=>some (.normal,s)
  | .reg bump ops keep=>(match xops C s.n ops {s with n:=s.n+bump}with
   |some s'=>some (.normal,s'.keep keep)
   |none=>none)
  | .seq a b=>(match xc C n a s with
   |some (.normal,s')=>xc C n b s'
   |r=>r)
  | .cond c a b=>bif (lk s.env c).1&&iB (lkv s.env c)then(bif toB (lkv s.env c)then xc C n a s else xc C n b s)else none
  | .block id c=>(match xc C n c s with
   |some (.exit i,s')=>bif i==id then some (.normal,s')else some (.exit i,s')
   |r=>r)
  | .loop c=>(match xc C n c s with
   |some (.normal,s')=>xc C n (.loop c) s'
   |r=>r)
  | .exit id=>some (.exit id,s)
  | .ret=>some (.ret,s)
  |_=>none
theorem GK {P:Program} {C:FuncId->List AVal->Option AVal}:∀(n:Nat) (c:ACode) (s:AS) (e:AExit) (s':AS),xc C n c s=some (e,s')->∀Q:AExit->AS->Prop,Q e s'->ev P (TX C) c Q s
 |0,_,_,_,_,h,_,_=>by cases h
 |n+1,c,s,e,s',h,Q,hQ=>by
  cases c<;>simp only[xc,reduceCtorEq]at h
  case skip=>cases h;exact hQ
  case reg=>
   split at h
   ·rename_i q
    cases h
    exact Py q hQ
   ·cases h
  case seq a b=>
   split at h
   ·rename_i q
    exact GK n a s _ _ q _ (GK n b _ _ _ h Q hQ)
   ·rename_i r hr
    refine GK n a s _ _ h _ ?_
    cases e<;>first|exact hQ|exact absurd h (hr _)
  case cond c a b=>
   obtain⟨h1,h⟩:=BE h
   simp only[X5]at h1
   refine⟨h1.1,Ny h1.2,λq=>?_,λq=>?_⟩<;>(rw[q]at h;exact GK n _ s _ _ h Q hQ)
  case block id c=>
   split at h
   ·rename_i i t q
    cases hi:i==id<;>rw[hi]at h<;>cases h
    ·refine GK n c s _ _ q _ ?_
     simp only
     rw[X8 (λe=>by rw[e,beq_self_eq_true]at hi;cases hi)]
     exact hQ
    ·refine GK n c s _ _ q _ ?_
     simp only
     rw[Xc (eq_of_beq hi)]
     exact hQ
   ·rename_i hr
    refine GK n c s _ _ h _ ?_
    cases e<;>first|exact hQ|exact absurd h (hr _ _)
  case loop c=>
   split at h
   ·rename_i s1 q
    obtain⟨I,μ,h1,h2⟩:=GK n (.loop c) s1 _ _ h Q hQ
    classical
    refine⟨λt=>t=s\/I t,λt=>if I t then μ t else μ s1+1,.inl rfl,λt ht=>?_⟩
    by_cases hI:I t
    ·refine Dd c _ _ t (λe s h=>?_) (h2 t hI)
     cases e
     case normal=>
      obtain⟨s2,w,i2,m2⟩:=h
      refine⟨s2,w,.inr i2,?_⟩
      simp only
      rw[Xc i2,Xc hI]
      exact m2
     all_goals exact h
    ·obtain rfl:=ht.resolve_right hI
     refine GK n c t _ _ q _ ⟨s1,.inl rfl,.inr h1,?_⟩
     simp only
     rw[Xc h1,X8 hI]
     exact Nat.lt_succ_self _
   ·rename_i hr
    refine⟨λt=>t=s,λ_=>0,rfl,λt ht=>?_⟩
    subst ht
    refine GK n c t _ _ h _ ?_
    cases e<;>first|exact hQ|exact absurd h (hr _)
  case exit=>cases h;exact hQ
  case ret=>cases h;exact hQ
def rcB (s:AS):List RC->Bool
 |[]=>true
 | .t i::l=>(lk s.env (.t i)).1&&rcB s l
 | .c i sz _::l=>(lk s.env (.t i)).1&&(match lkv s.env (.t i)with
  | .ptr id off=>(match hget s.H id with
   |some (.box cs)=>decide (off=0)&&decide (cs.length=sz)
   |_=>false)
  |_=>false)&&rcB s l
theorem Mo {s:AS}:∀{l:List RC},rcB s l=true->(rcs s l).1
 |[],_=>trivial
 | .t i::l,h=>by
  simp only[rcB,X5]at h
  exact⟨h.1,Mo h.2⟩
 | .c i sz ag::l,h=>by
  simp only[rcB,X5]at h
  refine⟨⟨h.1.1,?_⟩,Mo h.2⟩
  have h:=h.1.2
  split at h
  ·rename_i e
   rw[e]
   simp only[BT]
   split at h
   ·rename_i e'
    rw[e']
    simp only[X5,Xb]at h
    exact h
   ·cases h
  ·cases h
structure XF (P:Program) where
 f:FuncId
 c:ACode
 rs:List RC
 ok:AOf P f c rs
def xf {P:Program} (tab:List (XF P)) (m:Nat):Nat->FuncId->List AVal->Option AVal
 |0,_,_=>none
 |n+1,f,args=>match tab.find? λe=>e.f==f with
  |none=>none
  |some e=>bif wksB args (strips args)then(match xc (xf tab m n) m e.c ⟨penv 0 (strips args),hnil,0⟩with
   |some (.ret,s)=>bif rcB s e.rs&&wkB (rvS (rcs s e.rs).2) (Pw (rvS (rcs s e.rs).2))then some (Pw (rvS (rcs s e.rs).2))else none
   |some (.normal,s)=>bif rcB s e.rs&&wkB (rvS (rcs s e.rs).2) (Pw (rvS (rcs s e.rs).2))then some (Pw (rvS (rcs s e.rs).2))else none
   |_=>none)else none
theorem xf_ok {P:Program} {tab:List (XF P)} {m:Nat}:∀(n:Nat) (f:FuncId) (args:List AVal) (r:AVal),xf tab m n f args=some r->∃a,Wks args a/\Pur P f a r
 |0,_,_,_,h=>by cases h
 |n+1,f,args,r,h=>by
  have hT:AH P (TX (xf tab m n)):=TX_ok λf args r h H n=>by
   obtain⟨a,w,p⟩:=xf_ok _ _ _ _ h
   exact AO.args (p.quiet H n) λg vs hv=>w.rel vs hv
  unfold xf at h
  split at h
  ·cases h
  ·rename_i e he
   have hf:=List.find?_some he
   obtain rfl:=eq_of_beq hf
   obtain⟨h1,h⟩:=BE h
   have w:=wksB_ok _ _ h1
   refine⟨_,w.1,?_⟩
   split at h
   ·rename_i s q
    obtain⟨h2,h⟩:=BE h
    cases h
    simp only[X5]at h2
    have k:=Mn _ _ h2.2
    exact .mk w.2 k.2 (e.ok (AF hT (GK _ _ _ _ _ q _ ⟨Mo h2.1,_,rfl,k.1⟩)))
   ·rename_i s q
    obtain⟨h2,h⟩:=BE h
    cases h
    simp only[X5]at h2
    have k:=Mn _ _ h2.2
    exact .mk w.2 k.2 (e.ok (AF hT (GK _ _ _ _ _ q _ ⟨Mo h2.1,_,rfl,k.1⟩)))
   ·cases h
end Go.AM
namespace Go.AM
open Go.Proofs Go.Lib
def dXw:Dc Lma:=dWk encL decX
theorem dXw_ok (x:Lma):dXw.ok (encL x)=True:=Er Do x
theorem Ve (x:Lma):dXw.dec (encL x)=x:=Do x
def dPw:Dc (List (List Cas)):=dWk Bg Nv
theorem UQ (p:List (List Cas)):dPw.ok (Bg p)=True:=Er D0 p
theorem Pz (p:List (List Cas)):dPw.dec (Bg p)=p:=D0 p
def s4 {α β γ δ:Type} (A:Dc α) (B:Dc β) (C:Dc γ) (D:Dc δ) (c:α->β->γ->δ->Prop) (f:α->β->γ->δ->AVal):List AVal->AB->Prop×AVal:=λa _=>match a with
 |[x,y,z,u]=>(A.ok x/\B.ok y/\C.ok z/\D.ok u/\c (A.dec x) (B.dec y) (C.dec z) (D.dec u),f (A.dec x) (B.dec y) (C.dec z) (D.dec u))
 |_=>(False,.tup [])
theorem q4 {α β γ δ:Type} {A:Dc α} {B:Dc β} {C:Dc γ} {D:Dc δ} {c:α->β->γ->δ->Prop} {f:α->β->γ->δ->AVal} {fid:FuncId} (h:∀x y z u,c x y z u->Pur Tryz.prog fid [A.enc x,B.enc y,C.enc z,D.enc u] (f x y z u)):∀args H n,(s4 A B C D c f args H).1->Ab Tryz.prog fid args H n (s4 A B C D c f args H).2:=by
 intro args H n hh
 unfold s4 at hh⊢
 split at hh
 ·obtain⟨h1,h2,h3,h4,h5⟩:=hh
  refine AO.args ((h _ _ _ _ h5).quiet H n) ?_
  rintro g vs ⟨v,r,rfl,k1,w,r',rfl,k2,u,r'',rfl,k3,t,r3,rfl,k4,k5⟩
  exact⟨v,_,rfl,A.wk _ h1 _ _ k1,w,_,rfl,B.wk _ h2 _ _ k2,u,_,rfl,C.wk _ h3 _ _ k3,t,_,rfl,D.wk _ h4 _ _ k4,k5⟩
 ·exact hh.elim
def s0v (r:AVal):List AVal->AB->Prop×AVal:=λa _=>match a with
 |[]=>(True,r)
 |_=>(False,.tup [])
theorem q0v {fid:FuncId} {r:AVal} (h:Pur Tryz.prog fid [] r):∀args H n,(s0v r args H).1->Ab Tryz.prog fid args H n (s0v r args H).2:=by
 intro args H n hh
 unfold s0v at hh⊢
 split at hh
 ·exact h.quiet H n
 ·exact hh.elim
def tabP:List (XF Tryz.prog):=[⟨28,c28,[.c 0 17 true],a28⟩,⟨59,c59,[.c 2 17 true,.t 3],a59⟩,⟨98,c98,[.t 4,.t 5],a98⟩,⟨151,c151,[.t 4,.t 5],a151⟩,⟨147,c147,[.t 2],a147⟩,⟨95,c95,[.c 8 5 true,.t 9],a95⟩,⟨146,c146,[.t 4],a146⟩,⟨175,c175,[.t 4],a175⟩,⟨97,c97,[.t 4,.t 5],a97⟩,⟨149,c149,[.t 4],a149⟩,⟨196,c196,[.t 6],a196⟩,⟨194,c194,[.t 4],a194⟩,⟨195,c195,[.t 4],a195⟩,⟨193,c193,[.t 4],a193⟩,⟨150,c150,[.t 2],a150⟩,⟨96,c96,[.t 2,.t 3],a96⟩,⟨148,c148,[.t 6],a148⟩,⟨94,c94,[.t 2],a94⟩,⟨145,c145,[.t 2],a145⟩,⟨192,c192,[.t 2],a192⟩,⟨144,c144,[.t 2],a144⟩,⟨190,c190,[.t 4],a190⟩,⟨244,c244,[.t 8],a244⟩,⟨243,c243,[.t 4],a243⟩,⟨191,c191,[.t 2],a191⟩,⟨143,c143,[.t 4],a143⟩,⟨189,c189,[.t 4],a189⟩,⟨142,c142,[.t 4],a142⟩,⟨188,c188,[.t 4],a188⟩,⟨242,c242,[.t 4],a242⟩,⟨187,c187,[.t 4],a187⟩,⟨186,c186,[.t 4],a186⟩,⟨93,c93,[.c 2 10 true,.t 3],a93⟩,⟨141,c141,[.t 2,.t 3],a141⟩,⟨138,c138,[.t 2],a138⟩,⟨185,c185,[.c 4 12 true,.t 5],a185⟩,⟨241,c241,[.t 4,.t 5],a241⟩,⟨240,c240,[.t 4,.t 5],a240⟩,⟨263,c263,[.t 4,.t 5],a263⟩,⟨184,c184,[.t 4,.t 5],a184⟩,⟨139,c139,[.t 0],a139⟩,⟨140,c140,[.t 2,.t 3],a140⟩]
theorem wk_x0:Wk (.agg [.str [115,105,110,103,108,101],.int .i64 1,.sl (.exact 1) [.str [112],.str [113]],.sl (.exact 1) [.str [120]],.sl (.exact 4) [.agg [.int .i64 1,.sl (.exact 1) [.int .i64 0,.int .i64 1],.sl .nil [],.int .i64 0]],.sl (.exact 2) [.agg [.int .i64 0,.sl (.exact 1) [.int .i64 0]]],.int .i64 1,.int .i64 0]) (encL x0):=
 Wk.agg (.cons (Wk.refl _) (.cons (Wk.refl _) (.cons (Wk.sl (.inl rfl)) (.cons (Wk.sl (.inl rfl)) (.cons (Wk.slx (.inl rfl) (.cons (Wk.agg (.cons (Wk.refl _) (.cons (Wk.sl (.inl rfl)) (.cons (Wk.sl (.inr rfl)) (.cons (Wk.refl _) .nil))))) .nil)) (.cons (Wk.slx (.inl rfl) (.cons (Wk.agg (.cons (Wk.refl _) (.cons (Wk.sl (.inl rfl)) .nil))) .nil)) (.cons (Wk.refl _) (.cons (Wk.refl _) .nil))))))))
abbrev vBa:AVal:=.agg [.str x0.nm,.int .i64 x0.lv,eSs x0.cs,eSs x0.ls,.sl .nil [],.sl .nil [],.int .i64 x0.c,.int .i64 x0.l]
theorem vBa_ok:dXw.ok vBa=True:=W7 (show Wk vBa (encL Pu)from Wk.agg (.cons (Wk.refl _) (.cons (Wk.refl _) (.cons (Wk.refl _) (.cons (Wk.refl _) (.cons (Wk.sl (.inr rfl)) (.cons (Wk.sl (.inr rfl)) (.cons (Wk.refl _) (.cons (Wk.refl _) .nil)))))))))
theorem Vf:dXw.dec vBa=Pu:=rfl
abbrev vMa:AVal:=.agg [.str x0.nm,.int .i64 x0.lv,eSs x0.cs,.sl (.exact 1) [.str [120],.str [121],.str [122]],.sl .nil [],.sl .nil [],.int .i64 x0.c,.int .i64 x0.l]
theorem vMa_ok:dXw.ok vMa=True:=W7 (show Wk vMa (encL Sd)from Wk.agg (.cons (Wk.refl _) (.cons (Wk.refl _) (.cons (Wk.refl _) (.cons (Wk.sl (.inl rfl)) (.cons (Wk.sl (.inr rfl)) (.cons (Wk.sl (.inr rfl)) (.cons (Wk.refl _) (.cons (Wk.refl _) .nil)))))))))
theorem Vi:dXw.dec vMa=Sd:=rfl
abbrev vOt:AVal:=.agg [.str [111,116,104,101,114],.int .i64 x0.lv,eSs x0.cs,eSs x0.ls,.sl (.none 4) (x0.qs.map encQ),.sl (.none 2) (x0.ps.map encM),.int .i64 x0.c,.int .i64 x0.l]
theorem vOt_ok:dXw.ok vOt=True:=W7 (show Wk vOt (encL oth0)from Wk.refl _)
theorem Vj:dXw.dec vOt=oth0:=rfl
theorem vL0_ok:dLb.ok (.agg [.sl .nil [],.sl .nil []])=True:=W7 (show Wk _ (Ew lib0)from Wk.agg (.cons (Wk.sl (.inr rfl)) (.cons (Wk.sl (.inr rfl)) .nil)))
theorem Vk:dLb.dec (.agg [.sl .nil [],.sl .nil []])=lib0:=rfl
theorem vL1_ok:dLb.ok (.agg [eLms lib1.ls,ePfs lib1.pf])=True:=dLb_ok lib1
theorem Vl:dLb.dec (.agg [eLms lib1.ls,ePfs lib1.pf])=lib1:=Va lib1
theorem vL2_ok:dLb.ok (.agg [.sl .nil [],.sl (.exact 1) [.agg [eTr p0]]])=True:=W7 (show Wk _ (Ew lib2)from Wk.agg (.cons (Wk.sl (.inr rfl)) (.cons (Wk.sl (.inl rfl)) .nil)))
theorem Vm:dLb.dec (.agg [.sl .nil [],.sl (.exact 1) [.agg [eTr p0]]])=lib2:=rfl
theorem vP0_ok:dPw.ok (.agg [eTr p0])=True:=UQ p0
theorem Vn:dPw.dec (.agg [eTr p0])=p0:=Pz p0
theorem vPe_ok:dPw.ok (.agg [.sl .nil []])=True:=W7 (show Wk _ (Bg pe0)from Wk.agg (.cons (Wk.sl (.inr rfl)) .nil))
theorem Vo:dPw.dec (.agg [.sl .nil []])=pe0:=rfl
abbrev vPt:AVal:=.agg [.sl (.exact 1) [.sl (.exact 2) [.agg [.int .i64 1,.int .i64 0],.agg [.int .i64 2,.int .i64 0]],.sl (.exact 2) [.agg [.int .i64 1,.int .i64 0],.agg [.int .i64 2,.int .i64 0]]]]
theorem vPt_ok:dPw.ok vPt=True:=W7 (show Wk vPt (Bg p0)from Wk.agg (.cons (Wk.slx (.inl rfl) (.cons (Wk.sl (.inl rfl)) (.cons (Wk.sl (.inl rfl)) .nil))) .nil))
theorem Vp:dPw.dec vPt=p0:=rfl
theorem vLa_ok:dIs.ok (.sl (.exact 1) [.int .i64 0])=True:=W7 ⟨.inl rfl,rfl⟩
theorem Vq:dIs.dec (.sl (.exact 1) [.int .i64 0])=la0:=rfl
theorem vLb_ok:dIs.ok (.sl (.exact 1) [.int .i64 0,.int .i64 0])=True:=W7 ⟨.inl rfl,rfl⟩
theorem Vr:dIs.dec (.sl (.exact 1) [.int .i64 0,.int .i64 0])=lb0:=rfl
theorem fla:few la0=True:=W7 (by decide)
theorem flb:few lb0=True:=W7 (by decide)
theorem ln1:((lib1.ls.length:Int)=1)=True:=W7 rfl
theorem lne:((pe0.length:Int)=0)=True:=W7 rfl
theorem p28:Pur Tryz.prog 28 [] (BJ k0):=by
 have h:(match xf tabP 300 30 28 []with
  |some v=>wkB v (BJ k0)
  |none=>false)=true:=by kernel_rfl
 split at h
 ·rename_i v e
  obtain⟨a,w,p⟩:=xf_ok _ _ _ _ e
  cases w
  have k:=Mn _ _ h
  exact⟨p.1,k.2,p.2.2.mono λo H' n' ⟨v,e,q⟩=>⟨v,e,q.trans k.1⟩⟩
 ·cases h
theorem p29:Pur Tryz.prog 29 [] (encL x0):=by
 refine .mk trivial (Ae 0 x0) (a29 (AF AH.tnil (AG ?_)))
 simp only[eE,eN,reduceCtorEq,Nat.reduceEqDiff,↓reduceIte,Nat.reduceAdd,Nat.reduceLeDiff,Nat.reduceMul,Nat.reduceLT,BT,c29]
 exact wk_x0
def Tsan:Tab:=tadd 28 (s0v (BJ k0)) (tadd 29 (s0v (encL x0)) (tadd 12 (s2 dKn dXw (λk x=>FewD k.d/\FewL x) CN) (tadd 14 (s2 dKn dXw (λk x=>FewD k.d/\FewL x) A7) (tadd 20 (s4 dKn dLb dXw dPw (λk l x p=>FewD k.d/\FewB l/\FewL x/\DR p) El)
 (tadd 23 (s2 dKn dLb (λk l=>FewD k.d/\FewB l) λk l=>.int .i64 (B7 k l)) (tadd 17 (s2 dIs dIs (λa _=>few a) λa b=>.bool (decide (a=b))) (tadd 16 (s2 dPw dPw (λa _=>DR a) λa b=>.bool (decide (a=b))) tnil)))))))
theorem Vs:AH Tryz.prog Tsan:=(((((((AH.tnil.add (q2 λa b h=>p16 a b h)).add (q2 λa b h=>p17 a b h)).add (q2 λk l h=>p23 k l h.1 h.2)).add (q4 λk l x p h=>p20 k l x p h.1 h.2.1 h.2.2.1 h.2.2.2)).add (q2 λk x h=>p14 k x h.1 h.2)).add (q2 λk x h=>p12 k x h.1 h.2)).add (q0v p29)).add (q0v p28)
section
variable (a:List AVal) (H:AB)
theorem Tsan_k:Tsan 28 a H=s0v (BJ k0) a H:=rfl
theorem Tsan_x:Tsan 29 a H=s0v (encL x0) a H:=rfl
theorem Tsan_p:Tsan 12 a H=s2 dKn dXw (λk x=>FewD k.d/\FewL x) CN a H:=rfl
theorem Tsan_c:Tsan 14 a H=s2 dKn dXw (λk x=>FewD k.d/\FewL x) A7 a H:=rfl
theorem Tsan_a:Tsan 20 a H=s4 dKn dLb dXw dPw (λk l x p=>FewD k.d/\FewB l/\FewL x/\DR p) El a H:=rfl
theorem Tsan_v:Tsan 23 a H=s2 dKn dLb (λk l=>FewD k.d/\FewB l) (λk l=>.int .i64 (B7 k l)) a H:=rfl
theorem Tsan_i:Tsan 17 a H=s2 dIs dIs (λa _=>few a) (λa b=>.bool (decide (a=b))) a H:=rfl
theorem Tsan_s:Tsan 16 a H=s2 dPw dPw (λa _=>DR a) (λa b=>.bool (decide (a=b))) a H:=rfl
end
theorem p9:Pur Tryz.prog 9 [] (.bool true):=by
 refine .mk trivial trivial (a9 (AF Vs (AG ?_)))
 have u1:dKn.ok (.agg (AD k0))=True:=CM k0
 have u2:dKn.dec (.agg (AD k0))=k0:=BX k0
 simp only[AD,AE,AK,Xh,Xi]at u1 u2
 have v1:dXw.ok (.agg (AR x0))=True:=dXw_ok x0
 have v2:dXw.dec (.agg (AR x0))=x0:=Ve x0
 simp only[AR]at v1 v2
 simp only[eE,eC,eN,reduceCtorEq,Nat.reduceEqDiff,↓reduceIte,Nat.reduceAdd,Nat.reduceLeDiff,Nat.reduceMul,Nat.reduceLT,X3,Xa,W8,W6,X7,X9,c9,Tsan_k,Tsan_x,Tsan_p,Tsan_c,Tsan_a,Tsan_v,Tsan_i,Tsan_s,s0v,s2,s4,AD,AE,AK,u1,u2,W7 fk0,v1,v2,W7 fx0,z1,z2,z3,z4,z5,z6,z7,z8,z9,z10,z11,
  vBa_ok,Vf,W7 fb0,vMa_ok,Vi,W7 fm0,vOt_ok,Vj,W7 fo0,vL0_ok,Vk,W7 fl0,vL1_ok,Vl,W7 fl1,vL2_ok,Vm,W7 fl2,vP0_ok,Vn,W7 fp0,vPe_ok,Vo,W7 fpe,vPt_ok,Vp,Az,At,vLa_ok,Vq,vLb_ok,Vr,fla,flb,ln1,lne,Z9]
 done
end Go.AM
namespace Go.AM
open Go.Proofs Go.Lib
theorem Sf {ts:List (List Cas)}:∀t∈ts,t.length<=BL ts:=by
 induction ts with
 |nil=>intro t h;cases h
 |cons a r ih=>
  intro t h
  have:BL (a::r)=a.length+BL r:=by unfold BL;simp
  rcases XA.1 h with rfl|h
  ·omega
  ·have:=ih t h;omega
theorem P0 {k:Knd} {x:Lma} {ts:List (List Cas)} (hox:OKL x) (hck:Aj k=0) (h1:BL ts<=65536) (h2:ts.length=(chs k.d.syms.length x.ls.length).length):DR ts:=by
 have hsy:=Au hck
 have hAl:(chs k.d.syms.length x.ls.length).length<=4096:=by
  refine XE (JC _ _) (XE (Zy hsy.2 _) (XE (Zs (by decide) (show x.ls.length<=3 from hox.ls.2.2.2)) (by decide)))
 exact⟨show ts.length<_ by omega,λt ht=>show t.length<_ by have:=Sf t ht;omega⟩
section
variable (a:List AVal) (H:AB)
end
end Go.AM
namespace Go.AM
open Go.Proofs Go.Lib
section
variable (a:List AVal) (H:AB)
end
end Go.AM
namespace Go.AM
open Go.Proofs Go.Lib
def Tl8:Tab:=tadd 9 (s0v (.bool true)) (tadd 10 (s1 dKn (λ_=>True) λk=>.bool (fewK k)) (tadd 11 (s1 dX (λ_=>True) λx=>.bool (Gt x)) (tadd 12 (s2 dKn dX (λk x=>FewD k.d/\FewL x) CN) (tadd 14 (s2 dKn dX (λk x=>FewD k.d/\FewL x) A7)
 (tadd 26 (s2 dKn dX (λk x=>FewD k.d/\FewL x) B6) (tadd 27 (s3 dKn dX dPw (λk x p=>FewD k.d/\FewL x/\DR p) Ba) tnil))))))
theorem Tl8_ok:AH Tryz.prog Tl8:=((((((AH.tnil.add (q3 λk x p h=>p27 k x p h.1 h.2.1 h.2.2.1 h.2.2.2)).add (q2 λk x h=>p26 k x h.1 h.2)).add (q2 λk x h=>p14 k x h.1 h.2)).add (q2 λk x h=>p12 k x h.1 h.2)).add (q1 λx _=>p11 x)).add (q1 λk _=>p10 k)).add (q0v p9)
section
variable (a:List AVal) (H:AB)
theorem Nz:Tl8 9 a H=s0v (.bool true) a H:=rfl
theorem N0:Tl8 10 a H=s1 dKn (λ_=>True) (λk=>.bool (fewK k)) a H:=rfl
theorem P1:Tl8 11 a H=s1 dX (λ_=>True) (λx=>.bool (Gt x)) a H:=rfl
theorem Sg:Tl8 12 a H=s2 dKn dX (λk x=>FewD k.d/\FewL x) CN a H:=rfl
theorem Si:Tl8 14 a H=s2 dKn dX (λk x=>FewD k.d/\FewL x) A7 a H:=rfl
theorem Sj:Tl8 26 a H=s2 dKn dX (λk x=>FewD k.d/\FewL x) B6 a H:=rfl
theorem Tl8_h:Tl8 27 a H=s3 dKn dX dPw (λk x p=>FewD k.d/\FewL x/\DR p) Ba a H:=rfl
end
theorem p8 (k:Knd) (x:Lma) (hw:WdK k):Pur Tryz.prog 8 [BJ k,encL x] (.bool true):=by
 have u1:dKn.ok (.agg (AD k))=True:=CM k
 have u2:dKn.dec (.agg (AD k))=k:=BX k
 simp only[AD,AE,AK,Xh,Xi]at u1 u2
 have v1:dX.ok (.agg (AR x))=True:=GY x
 have v2:dX.dec (.agg (AR x))=x:=Dt x
 simp only[AR]at v1 v2
 refine .mk ⟨AZ 0 k,Ae 0 x,trivial⟩ trivial (a8 (AF Tl8_ok (AG ?_)))
 cases hf:fewK k with
 |false=>simp only[eE,eC,eN,reduceCtorEq,Nat.reduceEqDiff,↓reduceIte,Nat.reduceAdd,X3,Xa,c8,Nz,N0,s0v,s1,AD,AE,AK,u1,u2,hf,Xa,X3]
 |true=>
 cases hg:Gt x with
 |false=>simp only[eE,eC,eN,reduceCtorEq,Nat.reduceEqDiff,↓reduceIte,Nat.reduceAdd,X3,Xa,c8,Nz,N0,P1,s0v,s1,AD,AE,AK,u1,u2,v1,v2,hf,hg,Xa,X3]
 |true=>
 have hR:=few_rf hf hw
 have hD:=hR.kn.d
 have hx:=few_lm hg
 rcases pr_end hD hx with⟨e,he,h1,h2,h3⟩|⟨q,h1,ho,hck,h2,h3,hs,hm,hr⟩|⟨h1,ho,hck,h2,h3,hs⟩|⟨ts,h1,ho,hck,h2,h3,hs,hrt,hN,hln⟩
 ·have e0:(e=0)=False:=X6 (by omega)
  have hT:B6 k x= .tup [.bool false,.int .i64 e]:=by unfold B6;rw[h1,Xc (by omega)]
  simp only[eE,eC,eN,reduceCtorEq,Nat.reduceEqDiff,↓reduceIte,Nat.reduceAdd,Nat.reduceLT,X3,Xa,W8,X7,X9,c8,Nz,N0,P1,Sg,Si,Sj,s0v,s1,s2,AD,AE,AK,u1,u2,v1,v2,hf,hg,X3,Xa,W7 hD,W7 hx,h2,h3,hT,e0,Z9]
 ·have hT:B6 k x= .tup [.bool false,.int .i64 0]:=by unfold B6;rw[X8 (by simpa using h1),hs]
  simp only[eE,eC,eN,reduceCtorEq,Nat.reduceEqDiff,↓reduceIte,Nat.reduceAdd,Nat.reduceLT,Int.reduceEq,X3,Xa,W8,X7,X9,c8,Nz,N0,P1,Sg,Si,Sj,s0v,s1,s2,AD,AE,AK,u1,u2,v1,v2,hf,hg,X3,Xa,W7 hD,W7 hx,h2,h3,hT,Z9]
 ·have hT:B6 k x= .tup [.bool true,.int .i64 0]:=by unfold B6;rw[X8 (by simpa using h1),hs]
  simp only[eE,eC,eN,reduceCtorEq,Nat.reduceEqDiff,↓reduceIte,Nat.reduceAdd,Nat.reduceLT,X3,Xa,W8,X7,X9,c8,Nz,N0,P1,Sg,Si,Sj,s0v,s1,s2,AD,AE,AK,u1,u2,v1,v2,hf,hg,X3,Xa,W7 hD,W7 hx,h2,h3,hT,Z9]
 ·have hT:B6 k x= .tup [.bool true,.int .i64 0]:=by unfold B6;rw[X8 (by simpa using h1),hs]
  have hC:Ba k x ts= .tup [.bool true,.int .i64 0]:=by unfold Ba;rw[X8 (by simpa using h1),hrt]
  have t1:dPw.ok (.agg [eTr ts])=True:=UQ ts
  have t2:dPw.dec (.agg [eTr ts])=ts:=Pz ts
  have l3:=P0 ho hck hN hln
  simp only[eE,eC,eN,reduceCtorEq,Nat.reduceEqDiff,↓reduceIte,Nat.reduceAdd,Nat.reduceLT,Int.reduceEq,X3,Xa,W8,X7,X9,c8,Nz,N0,P1,Sg,Si,Sj,Tl8_h,s0v,s1,s2,s3,AD,AE,AK,u1,u2,v1,v2,hf,hg,X3,Xa,W7 hD,W7 hx,h2,h3,hT,hC,t1,t2,W7 l3,Z9]
end Go.AM
namespace Go.AM
open Go.Proofs Go.Lib
section
variable (k:Knd) (x:Lma) (a:List AVal) (H:AB)
end
end Go.AM
namespace Go.AM
open Go.Proofs Go.Lib
section
variable (a:List AVal) (H:AB)
end
end Go.AM
namespace Go.AM
open Go.Proofs Go.Lib
section
variable (k:Knd) (l:Lbr) (x:Lma) (p:List (List Cas)) (e:Int) (a:List AVal) (H:AB)
end
end Go.AM
namespace Go.AM
open Go.Proofs Go.Lib Go.ChangeShapes Go.WideShapes Go.ChangeAt Go.WideMaps Go.WideElems Go.RowKit
abbrev big (n:Nat):Prop:=n<=140737488355328
theorem JH {α:Type} {l:List α} (h:big l.length):wide l:=by show l.length<_;omega
theorem own:ownKnob Tryz.prog.godebug=none:=by kernel_rfl
theorem P2 (i:Nat):glob i=none:=by rfl
theorem Mp (W:World):DC (gW W)/\Fm W:=
 ⟨(λi cs h=>by rw[P2]at h;cases h),(λi cs h=>by rw[P2]at h;cases h)⟩
abbrev shIs:Sh:=.sl (.int .i64)
abbrev shSy:Sh:=.st [.str,.int .i64]
abbrev shRg:Sh:=.st [.str,.sl shIs]
abbrev shCl:Sh:=.st [.str,.str,.int .i64,.int .i64,.int .i64,.int .i64]
abbrev shRu:Sh:=.st [.str,.str,.int .i64,.int .i64,.sl .str,.sl .str,.int .i64,.int .i64,.int .i64,.int .i64,.str,.int .i64]
abbrev shD:Sh:=.st [.str,.int .i64,.int .i64,.int .i64,.int .i64,shIs,.sl shSy,.sl shRg,.sl shCl,.sl shRu]
abbrev shGr:Sh:=.st [.int .i64,.int .i64,.int .i64,shIs,shIs]
abbrev shKn:Sh:=.st [shD,shGr,.sl shIs,.sl (.sl shIs)]
abbrev shQ:Sh:=.st [.int .i64,shIs,shIs,.int .i64]
abbrev shM:Sh:=.st [.int .i64,shIs]
abbrev shX:Sh:=.st [.str,.int .i64,.sl .str,.sl .str,.sl shQ,.sl shM,.int .i64,.int .i64]
theorem rb {n:Nat} (h:n<=reachBytes):big n:=XE h (by decide)
theorem Em {e:Sh} {α:Type} {enc:α->AVal} {Q:α->Prop} (he:∀vs,e.rd vs->∃a,Q a/\e.wrap vs=enc a) {av:List AVal} (h:(Sh.sl e).rd av):∃l:List α,big l.length/\(∀x∈l,Q x)/\av=[.sl (.none e.size) (l.map enc)]:=by
 simp only[Sh.rd]at h
 obtain⟨l,rfl,hln,h⟩:=h
 suffices ∃m:List α,m.length=l.length/\(∀x∈m,Q x)/\l.map e.wrap=m.map enc by
  obtain⟨m,hm,hq,hm2⟩:=this
  exact⟨m,by rw[hm];exact rb hln,hq,by rw[hm2]⟩
 clear hln
 induction l with
 |nil=>exact⟨[],rfl,(λx hx=>by cases hx),rfl⟩
 |cons x l ih=>
  obtain⟨m,h1,h2,h3⟩:=ih λy hy=>h y (by simp [hy])
  obtain⟨a,hq,ha⟩:=he x (h x (by simp))
  exact⟨a::m,by simp [h1],λy hy=>by
   rcases XA.1 hy with rfl|hy
   ·exact hq
   ·exact h2 y hy,by rw[Xp,Xp,h3,ha]⟩
theorem rdI' (vs:List AVal) (h:(Sh.int .i64).rd vs):∃n:Int,True/\(Sh.int .i64).wrap vs=eI n:=by
 obtain⟨n,rfl,_⟩:=h
 exact⟨n,trivial,rfl⟩
theorem rdS' (vs:List AVal) (h:Sh.str.rd vs):∃s:Bs,big s.length/\Sh.str.wrap vs= .str s:=by
 obtain⟨s,rfl,hs⟩:=h
 exact⟨s,rb hs,rfl⟩
theorem rdIs' (vs:List AVal) (h:(Sh.sl (.int .i64)).rd vs):∃l:List Int,big l.length/\(Sh.sl (.int .i64)).wrap vs=eIs l:=by
 obtain⟨l,h1,-,rfl⟩:=Em rdI' h
 exact⟨l,h1,rfl⟩
theorem rdM0 {e:Sh} {α:Type} {enc:α->AVal} (he:∀vs,e.rd vs->∃a,e.wrap vs=enc a) {av:List AVal} (h:(Sh.sl e).rd av):∃l:List α,av=[.sl (.none e.size) (l.map enc)]:=by
 obtain⟨l,-,-,h⟩:=Em (Q:=λ_=>True) (λvs h=>by obtain⟨a,ha⟩:=he vs h;exact⟨a,trivial,ha⟩) h
 exact⟨l,h⟩
theorem rdI0 (vs:List AVal) (h:(Sh.int .i64).rd vs):∃n:Int,(Sh.int .i64).wrap vs=eI n:=by
 obtain⟨n,-,h⟩:=rdI' vs h
 exact⟨n,h⟩
theorem rdS0 (vs:List AVal) (h:Sh.str.rd vs):∃s:Bs,Sh.str.wrap vs= .str s:=by
 obtain⟨n,-,h⟩:=rdS' vs h
 exact⟨n,h⟩
theorem Vt (vs:List AVal) (h:(Sh.sl (.int .i64)).rd vs):∃l:List Int,wide l/\(Sh.sl (.int .i64)).wrap vs=eIs l:=by
 obtain⟨l,h1,h2⟩:=rdIs' vs h
 exact⟨l,JH h1,h2⟩
theorem rdLlW (vs:List AVal) (h:(Sh.sl (.sl (.int .i64))).rd vs):∃l:List (List Int),(∀m∈l,wide m)/\(Sh.sl (.sl (.int .i64))).wrap vs=eLl l:=by
 obtain⟨l,-,h2,rfl⟩:=Em Vt h
 exact⟨l,h2,rfl⟩
theorem rdSy (vs:List AVal) (h:shSy.rd vs):∃s:DSym,shSy.wrap vs=ID s:=by
 simp only[Sh.rd.eq_5,Sh.rdL]at h
 obtain⟨_,_,rfl,⟨nm,rfl,h1⟩,_,_,rfl,⟨v,rfl,_⟩,rfl⟩:=h
 exact⟨⟨nm,v⟩,rfl⟩
theorem rdRg (vs:List AVal) (h:shRg.rd vs):∃r:DReg,(∀l∈r.ls,wide l)/\shRg.wrap vs=GT r:=by
 simp only[Sh.rd.eq_5,Sh.rdL]at h
 obtain⟨_,_,rfl,⟨nm,rfl,h1⟩,_,_,rfl,h2,rfl⟩:=h
 obtain⟨ls,-,l2,rfl⟩:=Em Vt h2
 exact⟨⟨nm,ls⟩,l2,rfl⟩
theorem rdCl (vs:List AVal) (h:shCl.rd vs):∃c:DClu,shCl.wrap vs=B0 c:=by
 simp only[Sh.rd.eq_5,Sh.rdL]at h
 obtain⟨_,_,rfl,⟨nm,rfl,h1⟩,_,_,rfl,⟨on,rfl,h2⟩,_,_,rfl,⟨a,rfl,_⟩,_,_,rfl,⟨b,rfl,_⟩,_,_,rfl,⟨c,rfl,_⟩,_,_,rfl,⟨d,rfl,_⟩,rfl⟩:=h
 exact⟨⟨nm,on,a,b,c,d⟩,rfl⟩
theorem rdRu (vs:List AVal) (h:shRu.rd vs):∃r:DRul,(wide r.ns/\wide r.os)/\shRu.wrap vs=Bn r:=by
 simp only[Sh.rd.eq_5,Sh.rdL]at h
 obtain⟨_,_,rfl,⟨nm,rfl,h1⟩,_,_,rfl,⟨on,rfl,h2⟩,_,_,rfl,⟨k,rfl,_⟩,_,_,rfl,⟨f,rfl,_⟩,_,_,rfl,h3,_,_,rfl,h4,_,_,rfl,⟨set,rfl,_⟩,_,_,rfl,⟨oth,rfl,_⟩,_,_,rfl,⟨op,rfl,_⟩,_,_,rfl,⟨n,rfl,_⟩,_,_,rfl,⟨b,rfl,h5⟩,_,_,rfl,⟨c,rfl,_⟩,rfl⟩:=h
 obtain⟨ns,n1,n2,rfl⟩:=Em rdS' h3
 obtain⟨os,o1,o2,rfl⟩:=Em rdS' h4
 exact⟨⟨nm,on,k,f,ns,os,set,oth,op,n,b,c⟩,⟨JH n1,JH o1⟩,rfl⟩
theorem rdD (vs:List AVal) (h:shD.rd vs):∃d:Dcl,((∀r∈d.regs,∀l∈r.ls,wide l)/\∀r∈d.ruls,wide r.ns/\wide r.os)/\vs=AK d:=by
 simp only[Sh.rd.eq_5,Sh.rdL]at h
 obtain⟨_,_,rfl,⟨nm,rfl,h1⟩,_,_,rfl,⟨v,rfl,_⟩,_,_,rfl,⟨sh,rfl,_⟩,_,_,rfl,⟨w,rfl,_⟩,_,_,rfl,⟨hh,rfl,_⟩,_,_,rfl,h2,_,_,rfl,h3,_,_,rfl,h4,_,_,rfl,h5,_,_,rfl,h6,rfl⟩:=h
 obtain⟨ho,rfl⟩:=rdM0 rdI0 h2
 obtain⟨sy,rfl⟩:=rdM0 rdSy h3
 obtain⟨rg,-,c2,rfl⟩:=Em rdRg h4
 obtain⟨cl,rfl⟩:=rdM0 rdCl h5
 obtain⟨ru,-,e2,rfl⟩:=Em rdRu h6
 exact⟨⟨nm,v,sh,w,hh,ho,sy,rg,cl,ru⟩,⟨c2,e2⟩,rfl⟩
theorem rdGr (vs:List AVal) (h:shGr.rd vs):∃g:Grd,vs=AE g.sh g.w g.h g.holes g.cells:=by
 simp only[Sh.rd.eq_5,Sh.rdL]at h
 obtain⟨_,_,rfl,⟨sh,rfl,_⟩,_,_,rfl,⟨w,rfl,_⟩,_,_,rfl,⟨hh,rfl,_⟩,_,_,rfl,h2,_,_,rfl,h3,rfl⟩:=h
 obtain⟨ho,rfl⟩:=rdM0 rdI0 h2
 obtain⟨ce,rfl⟩:=rdM0 rdI0 h3
 exact⟨⟨sh,w,hh,ho,ce⟩,rfl⟩
theorem rdKn (vs:List AVal) (h:shKn.rd vs):∃k:Knd,WdK k/\shKn.wrap vs=BJ k:=by
 rw[Sh.rd.eq_5]at h
 simp only[Sh.rdL]at h
 obtain⟨_,_,rfl,h1,_,_,rfl,h2,_,_,rfl,h3,_,_,rfl,h4,rfl⟩:=h
 obtain⟨d,⟨w1,w2⟩,rfl⟩:=rdD _ h1
 obtain⟨g,rfl⟩:=rdGr _ h2
 obtain⟨nb,-,w3,rfl⟩:=Em Vt h3
 obtain⟨ls,-,w4,rfl⟩:=Em rdLlW h4
 exact⟨⟨d,g,nb,ls⟩,⟨w1,w2,w3,w4⟩,rfl⟩
theorem rdQ (vs:List AVal) (h:shQ.rd vs):∃q:Cnd,shQ.wrap vs=encQ q:=by
 simp only[Sh.rd.eq_5,Sh.rdL]at h
 obtain⟨_,_,rfl,⟨k,rfl,_⟩,_,_,rfl,h1,_,_,rfl,h2,_,_,rfl,⟨n,rfl,_⟩,rfl⟩:=h
 obtain⟨cs,rfl⟩:=rdM0 rdI0 h1
 obtain⟨ls,rfl⟩:=rdM0 rdI0 h2
 exact⟨⟨k,cs,ls,n⟩,rfl⟩
theorem rdMm (vs:List AVal) (h:shM.rd vs):∃p:Prm,shM.wrap vs=encM p:=by
 simp only[Sh.rd.eq_5,Sh.rdL]at h
 obtain⟨_,_,rfl,⟨c,rfl,_⟩,_,_,rfl,h1,rfl⟩:=h
 obtain⟨ls,rfl⟩:=rdM0 rdI0 h1
 exact⟨⟨c,ls⟩,rfl⟩
theorem rdX (vs:List AVal) (h:shX.rd vs):∃x:Lma,shX.wrap vs=encL x:=by
 simp only[Sh.rd.eq_5,Sh.rdL]at h
 obtain⟨_,_,rfl,⟨nm,rfl,_⟩,_,_,rfl,⟨lv,rfl,_⟩,_,_,rfl,h1,_,_,rfl,h2,_,_,rfl,h3,_,_,rfl,h4,_,_,rfl,⟨c,rfl,_⟩,_,_,rfl,⟨l,rfl,_⟩,rfl⟩:=h
 obtain⟨cs,rfl⟩:=rdM0 rdS0 h1
 obtain⟨ls,rfl⟩:=rdM0 rdS0 h2
 obtain⟨qs,rfl⟩:=rdM0 rdQ h3
 obtain⟨ps,rfl⟩:=rdM0 rdMm h4
 exact⟨⟨nm,lv,cs,ls,qs,ps,c,l⟩,rfl⟩
theorem argKX {av:List AVal} (h:Sh.rdA [shKn,shX] av):∃(k:Knd) (x:Lma),WdK k/\av=[BJ k,encL x]:=by
 simp only[Sh.rdA]at h
 obtain⟨_,_,rfl,h1,_,_,rfl,h2,rfl⟩:=h
 obtain⟨k,hk,e1⟩:=rdKn _ h1
 obtain⟨x,e2⟩:=rdX _ h2
 exact⟨k,x,hk,by rw[e1,e2]⟩
end Go.AM
