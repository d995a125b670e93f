/-
  Proofs of lemmas, plainly: the examples; small kinds · A run: code of plain operations carried out, step for step, from .
  Conditions: none beyond those of its parts.
-/
import Derived.Test.YtepckdbdfhpggaaGreatB16
import Derived.Test.YtepckdbdfhpggaaGreatB7
import Derived.KernelRfl
import Derived.Test.YtepckdbdfhpggaaGreatRows
import Derived.SizedLaws
import Derived.LaidLaws

set_option maxRecDepth 20000
set_option linter.all false
namespace Go.AM
open Go.Proofs Go.Lib
def dk0:Dcl:=⟨[112,97,105,114],1,1,2,1,[],[⟨[97],0⟩,⟨[98],1⟩],[],[],[⟨[114],[],6,0,[],[],0,0,0,0,[],-1⟩]⟩
def k0:Knd:=⟨dk0,⟨1,2,1,[],[0,1]⟩,[[1],[0]],[[[0],[1]],[[0,1]],[[0],[1]],[],[[1],[0]],[[0,1],[0,1]],[[0,1]],[[0,1]]]⟩
theorem hkd:k0.d=dk0:=rfl
def x0:Lma:=⟨[115,105,110,103,108,101],1,[[112],[113]],[[120]],[⟨1,[0,1],[],0⟩],[⟨0,[0]⟩],1,0⟩
def P6:Lma:=⟨[115,105,110,103,108,101],1,[[112],[113]],[[120]],[],[],1,0⟩
def St:Lma:=⟨[115,105,110,103,108,101],1,[[112],[113]],[[120],[121],[122]],[],[],1,0⟩
def oth0:Lma:=⟨[111,116,104,101,114],1,[[112],[113]],[[120]],[⟨1,[0,1],[],0⟩],[⟨0,[0]⟩],1,0⟩
def two0:List Cas:=[⟨1,0⟩,⟨2,0⟩]
def p0:List (List Cas):=[two0,two0]
def la0:List Int:=[0]
def lb0:List Int:=[0,0]
def lib0:Lbr:=⟨[],[]⟩
def lib1:Lbr:=⟨[x0],[p0]⟩
def lib2:Lbr:=⟨[],[p0]⟩
def pe0:List (List Cas):=[]
theorem fk0:FewD k0.d:=by
 rw[hkd]
 exact⟨by decide,by decide,by decide,λr hr=>(by cases hr),by decide,by decide,λr hr=>by rw[Xy.1 hr];exact⟨by decide,by decide⟩⟩
theorem fx0:FewL x0:=⟨by decide,by decide,by decide,by decide,λq hq=>by rw[Xy.1 hq];exact⟨by decide,by decide⟩,λp hp=>by rw[Xy.1 hp];decide⟩
theorem fb0:FewL P6:=⟨by decide,by decide,by decide,by decide,λq hq=>(by cases hq),λp hp=>(by cases hp)⟩
theorem fm0:FewL St:=⟨by decide,by decide,by decide,by decide,λq hq=>(by cases hq),λp hp=>(by cases hp)⟩
theorem fo0:FewL oth0:=⟨by decide,by decide,by decide,by decide,λq hq=>by rw[Xy.1 hq];exact⟨by decide,by decide⟩,λp hp=>by rw[Xy.1 hp];decide⟩
theorem fp0:CA p0:=⟨by decide,λl hl=>by
 have:l=two0:=by simpa [p0]using hl
 rw[this];decide⟩
theorem fpe:CA pe0:=⟨by decide,λl hl=>(by cases hl)⟩
theorem z1:B9 k0 x0= .tup [BY p0,.int .i64 0]:=by kernel_rfl
theorem z2:BN k0 x0= .tup [.sl .nil [],.sl .nil [],.bool false,.int .i64 0]:=by kernel_rfl
theorem z3:BN k0 P6= .tup [eIs la0,eIs lb0,.bool true,.int .i64 0]:=by kernel_rfl
theorem z4:B9 k0 P6= .tup [noPf,.int .i64 320]:=by kernel_rfl
theorem z5:B9 k0 St= .tup [BY pe0,.int .i64 0]:=by kernel_rfl
theorem z6:Bn k0 lib0 x0 p0= .tup [C0 lib1,.int .i64 0]:=by kernel_rfl
theorem z7:Bn k0 lib1 x0 p0= .tup [noLb,.int .i64 161]:=by kernel_rfl
theorem z8:Bn k0 lib1 oth0 pe0= .tup [noLb,.int .i64 310]:=by kernel_rfl
theorem z9:BG k0 lib0=0:=by kernel_rfl
theorem z10:BG k0 lib1=0:=by kernel_rfl
theorem z11:BG k0 lib2=310:=by kernel_rfl
theorem fl0:FewB lib0:=⟨by decide,by decide,λx h=>(by cases h),λp h=>(by cases h)⟩
theorem fl1:FewB lib1:=⟨by decide,by decide,λx h=>by rw[Xy.1 h];exact fx0,λp h=>by rw[Xy.1 h];exact fp0⟩
theorem fl2:FewB lib2:=⟨by decide,by decide,λx h=>(by cases h),λp h=>by rw[Xy.1 h];exact fp0⟩
structure WdK (k:Knd):Prop where
 rg:∀r∈k.d.regs,∀l∈r.ls,wide l
 ru:∀r∈k.d.ruls,wide r.ns/\wide r.os
 nb:∀l∈k.nb,wide l
 ls:∀l∈k.ls,∀m∈l,wide m
theorem few_rf {k:Knd} (h:fewK k=true) (hw:WdK k):RfK k:=by
 unfold fewK SK at h
 simp only[X8,Yb,Z9,Ym,Xi,Xf]at h
 obtain⟨⟨⟨⟨⟨⟨⟨⟨⟨⟨h1,h2⟩,h3⟩,h4⟩,h5⟩,h6⟩,h7⟩,h8⟩,h9⟩,hl⟩,hr⟩:=h
 have hD:FewD k.d:=⟨show k.d.holes.length<_ by omega,show k.d.syms.length<_ by omega,show k.d.regs.length<_ by omega,λr hm=>⟨show r.ls.length<_ by have:=hr r hm;omega,hw.rg r hm⟩,show k.d.clus.length<_ by omega,show k.d.ruls.length<_ by omega,hw.ru⟩
 exact⟨⟨hD,show k.g.holes.length<_ by omega,show k.g.cells.length<_ by omega,⟨show k.nb.length<_ by omega,hw.nb⟩,show k.ls.length<_ by omega,λl hm=>⟨show l.length<_ by have:=hl l hm;omega,hw.ls l hm⟩⟩,by omega⟩
theorem Gw (k:Knd) (x:Lma):Ao k x=if Al k≠0 then Al k else chk x:=rfl
theorem P7 (x:Lma):chk x=0\/chk x=300:=by
 unfold chk
 split
 ·exact .inl rfl
 ·exact .inr rfl
theorem Le (k:Knd):Al k=0\/Al k=180:=by
 unfold Al
 split
 ·exact .inl rfl
 ·exact .inr rfl
theorem Lf (k:Knd) (x:Lma):Ao k x=0\/Ao k x=180\/Ao k x=300:=by
 rw[Gw]
 rcases Le k with h|h<;>rcases P7 x with h2|h2<;>rw[h,h2]<;>decide
inductive PrEnd (k:Knd) (x:Lma):Prop
 |bad (e:Int):e=180\/e=300->Ao k x=e->B9 k x= .tup [noPf,.int .i64 e]->BN k x= .tup [.sl .nil [],.sl .nil [],.bool false,.int .i64 e]->PrEnd k x
 |no (q:List Int×List Int):Ao k x=0->OKL x->Al k=0->B9 k x= .tup [noPf,.int .i64 320]->BN k x= .tup [eIs q.1,eIs q.2,.bool true,.int .i64 0]->EU (AP k) x=false->q.1∈chs k.d.syms.length x.ls.length->Refutes (AP k) x q.1 q.2->PrEnd k x
 |many:Ao k x=0->OKL x->Al k=0->B9 k x= .tup [noPf,.int .i64 2]->BN k x= .tup [.sl .nil [],.sl .nil [],.bool false,.int .i64 0]->EU (AP k) x=true->PrEnd k x
 |ok (ts:List (List Cas)):Ao k x=0->OKL x->Al k=0->B9 k x= .tup [BY ts,.int .i64 0]->BN k x= .tup [.sl .nil [],.sl .nil [],.bool false,.int .i64 0]->EU (AP k) x=true->B4 (AP k) x ts=true->BM ts<=65536->ts.length=(chs k.d.syms.length x.ls.length).length->PrEnd k x
theorem pr_end {k:Knd} {x:Lma} (hk:FewD k.d) (hx:FewL x):PrEnd k x:=by
 have hvl:(AP k).length=k.d.syms.length:=by unfold AP;rw[X0]
 rcases Lf k x with hv|hv
 case inr=>
  have hne:Ao k x≠0:=by rcases hv with h|h<;>rw[h]<;>decide
  exact .bad (Ao k x) hv rfl (by unfold B9;rw[Xg hne]) (by unfold BN;rw[Xg hne])
 obtain⟨hck,hox⟩:=JL hk hx hv
 have hP:B9 k x=Gt (AP k) x:=by unfold B9;rw[Xc (by simpa using hv)]
 have hC:BN k x=EW k x:=by unfold BN;rw[Xc (by simpa using hv)]
 have hs:=Md (vals:=AP k) hox
 cases ht:Fg (AP k) x with
 |none=>
  rw[ht]at hs
  have hsf:EU (AP k) x=false:=hs.symm
  cases hq:cexP (AP k) x with
  |none=>rw[Nk hox]at hq;rw[hq]at hsf;cases hsf
  |some q=>
   obtain⟨h1,h2⟩:=T7 hox hq
   rw[hvl]at h1
   exact .no q hv hox hck (by rw[hP];unfold Gt LJ;rw[ht]) (by rw[hC];unfold EW;rw[hq]) hsf h1 h2
 |some ts=>
  rw[ht]at hs
  have hst:EU (AP k) x=true:=hs.symm
  have hcn:cexP (AP k) x=none:=(Nk hox).2 hst
  have hCo:BN k x= .tup [.sl .nil [],.sl .nil [],.bool false,.int .i64 0]:=by rw[hC];unfold EW;rw[hcn]
  by_cases hN:65536<BM ts
  ·exact .many hv hox hck (by rw[hP];unfold Gt LJ;rw[ht];simp only[];rw[Xg hN]) hCo hst
  ·have hln:ts.length=(chs k.d.syms.length x.ls.length).length:=by
    unfold Fg at ht
    rw[hvl]at ht
    exact(Hv ht).1.symm
   exact .ok ts hv hox hck (by rw[hP];unfold Gt LJ;rw[ht];simp only[];rw[Xc hN]) hCo hst (Hw ht) (by omega) hln
theorem KL (k:Knd) (x:Lma) (p:List (List Cas)):∀(a:List Lma) (b:List (List (List Cas))) (prev:List Lma),a.length=b.length->Fm k prev a b=0->chk x=0->Gu (prev++a) x.nm=false->CO k x p=true->Fm k prev (a++[x]) (b++[p])=0
 |[],[],prev,_,_,h2,h3,h4=>by
  rw[Xu]at h3
  show Fm k prev [x] [p]=0
  rw[Fm,Xc (by simpa using h2),h3,h4,Xc (by decide),Xc (by decide),KI]
 |[],b::bs,prev,h,_,_,_,_=>by simp at h
 |a::r,[],prev,h,_,_,_,_=>by simp at h
 |a::r,b::bs,prev,h,h1,h2,h3,h4=>by
  rw[Xl,Xl,Fm]
  rw[Fm]at h1
  split at h1
  ·rename_i q;exact absurd h1 q
  ·rename_i q1
   rw[Xc q1]
   split at h1
   ·cases h1
   ·rename_i q2
    rw[Xc q2]
    split at h1
    ·cases h1
    ·rename_i q3
     rw[Xc q3]
     exact KL k x p r bs (prev++[a]) (by simpa using h) h1 h2 (by rw[XR];exact h3) h4
theorem Gx {k:Knd} {l:Lbr} {x:Lma} {p:List (List Cas)} (h:Bm k l x p=0):BG k ⟨l.ls++[x],l.pf++[p]⟩=0/\l.pf.length=l.ls.length/\l.ls.length<16:=by
 unfold Bm at h
 split at h
 ·rename_i q;exact absurd h q
 rename_i h1
 split at h
 ·rename_i q;exact absurd h q
 rename_i h2
 split at h
 ·cases h
 rename_i h3
 split at h
 ·cases h
 rename_i h4
 split at h
 ·cases h
 rename_i h5
 have h1':BG k l=0:=by simpa using h1
 have h2':chk x=0:=by simpa using h2
 unfold BG at h1'
 split at h1'
 ·rename_i q;exact absurd h1' q
 rename_i g1
 split at h1'
 ·cases h1'
 rename_i g2
 split at h1'
 ·cases h1'
 rename_i g3
 have g3':l.pf.length=l.ls.length:=by simpa using g3
 refine⟨?_,g3',by omega⟩
 unfold BG
 rw[Xc g1,Xc (by simp only[Xm,Xn,Y7];omega),Xc (by simp only[Xm,Xn,Y7];omega)]
 exact KL k x p l.ls l.pf [] g3'.symm h1' h2' (by rw[Xo];simpa using h4) (by simpa using h5)
theorem P8 {k:Knd} {l:Lbr} {x:Lma} {p:List (List Cas)} (hc:chk x=0) (hr:CO k x p=true) (h:Bm k l x p=310):BG k l=310:=by
 unfold Bm at h
 split at h
 ·exact h
 split at h
 ·rename_i q;exact absurd hc q
 split at h
 ·cases h
 split at h
 ·cases h
 rw[hr]at h
 cases h
theorem KM {k:Knd} {l:Lbr} {x:Lma} {p q:List (List Cas)} (h:Bm k l x p=0) (hr:CO k x q=false):Bm k l x q=310:=by
 unfold Bm at h⊢
 split at h
 ·rename_i z;exact absurd h z
 rename_i h1
 rw[Xc h1]
 split at h
 ·rename_i z;exact absurd h z
 rename_i h2
 rw[Xc h2]
 split at h
 ·cases h
 rename_i h3
 rw[Xc h3]
 split at h
 ·cases h
 rename_i h4
 rw[Xc h4,hr,Xg rfl]
theorem OA {vals:List Int} {x:Lma} {ts:List (List Cas)} {i:Nat} {t:List Cas} (h:B4 vals x ts=true) (hi:ts[i]?=some t):B4 vals x (ts.set i t.dropLast)=false:=by
 unfold B4 at h⊢
 rw[X8,Xf,Xi]at h
 obtain⟨h1,h2⟩:=h
 rw[Bool.and_eq_false_iff]
 right
 have hlt:=(Xw.1 hi).1
 obtain⟨l,hl⟩:∃l,(chs vals.length x.ls.length)[i]?=some l:=⟨_,X5 (by omega)⟩
 rw[Zc]
 refine⟨(l,t.dropLast),?_,?_⟩
 ·refine XS (i:=i) ?_
  rw[Zr]
  exact⟨hl,by rw[Ya,Xg rfl,Xg hlt]⟩
 ·have hm:(l,t)∈(chs vals.length x.ls.length).zip ts:=XS (i:=i) (by rw[Zr];exact⟨hl,hi⟩)
  have:=Ys (h2 _ hm)
  have:=Ro this
  simpa using this
end Go.AM
namespace Go.AM
open Go.Proofs
mutual
def P9:AVal->AVal
 | .sl .nil []=>.sl .nil []
 | .sl t l=>.sl (.none t.esz) (strips l)
 | .agg l=>.agg (strips l)
 | .tup l=>.tup (strips l)
 |v=>v
def strips:List AVal->List AVal
 |[]=>[]
 |v::r=>P9 v::strips r
end
mutual
def wkB:AVal->AVal->Bool
 | .sl .nil [],.sl .nil []=>true
 | .sl t l,.sl (.none e) m=>(decide (t.esz=e)||l.isEmpty)&&wksB l m
 | .agg l,.agg m=>wksB l m
 | .tup l,.tup m=>wksB l m
 | .int k n,.int k' n'=>decide (k=k')&&decide (n=n')
 | .bool b,.bool b'=>b==b'
 | .str s,.str s'=>decide (s=s')
 |_,_=>false
def wksB:List AVal->List AVal->Bool
 |[],[]=>true
 |a::l,b::m=>wkB a b&&wksB l m
 |_,_=>false
end
mutual
theorem Mv:∀(a b:AVal),wkB a b=true->Wk a b/\b.under 0
 |a,b,h=>by
  unfold wkB at h
  split at h
  ·exact⟨Wk.refl _,trivial,trivial⟩
  ·rename_i t l e m _
   simp only[X8,Xp,Xf,List.isEmpty_iff]at h
   have k:=wksB_ok _ _ h.2
   exact⟨Wk.slx h.1 k.1,trivial,k.2⟩
  ·have k:=wksB_ok _ _ h
   exact⟨Wk.agg k.1,k.2⟩
  ·have k:=wksB_ok _ _ h
   exact⟨Wk.tup k.1,k.2⟩
  ·simp only[X8,Xf]at h
   obtain⟨rfl,rfl⟩:=h
   exact⟨Wk.refl _,trivial⟩
  ·rw[eq_of_beq h]
   exact⟨Wk.refl _,trivial⟩
  ·rw[Xf]at h
   subst h
   exact⟨Wk.refl _,trivial⟩
  ·cases h
theorem wksB_ok:∀(a b:List AVal),wksB a b=true->Wks a b/\unders 0 b
 |[],[],_=>⟨.nil,trivial⟩
 |a::l,b::m,h=>by
  simp only[wksB,X8]at h
  have k:=Mv _ _ h.1
  have k':=wksB_ok _ _ h.2
  exact⟨.cons k.1 k'.1,k.2,k'.2⟩
 |[],_::_,h=>by simp [wksB]at h
 |_::_,[],h=>by simp [wksB]at h
end
def iI (k:IntKind):AVal->Bool
 | .int k' _=>decide (k'=k)
 |_=>false
def iN:AVal->Bool
 | .int _ _=>true
 |_=>false
def iB:AVal->Bool
 | .bool _=>true
 |_=>false
def iS:AVal->Bool
 | .str _=>true
 |_=>false
def iT:AVal->Bool
 | .tup _=>false
 |_=>true
theorem OB {k:IntKind} {v:AVal} (h:iI k v=true):isI k v:=by cases v<;>simp_all [iI,isI]
theorem iN_ok {v:AVal} (h:iN v=true):Cb v:=by cases v<;>simp_all [iN,Cb]
theorem OC {v:AVal} (h:iB v=true):isB v:=by cases v<;>simp_all [iB,isB]
theorem Vp {v:AVal} (h:iS v=true):isS v:=by cases v<;>simp_all [iS,isS]
theorem Su {v:AVal} (h:iT v=true):nT v:=by cases v<;>simp_all [iT,nT]
def fitB:List Nat->List AVal->List AVal->Bool
 |[],[],[]=>true
 |0::fs,.int k _::xs,.int k' _::ys=>decide (k=k')&&fitB fs xs ys
 |1::fs,.bool _::xs,.bool _::ys=>fitB fs xs ys
 |2::fs,.str _::xs,.str _::ys=>fitB fs xs ys
 |_,_,_=>false
theorem Vq (f:List Nat) (x y:List AVal) (h:fitB f x y=true):cfit f x y:=by
 fun_induction fitB f x y<;>simp_all [cfit]
def okv (H:AB) (ρ:Opd->AVal):Opk->Bool
 | .mv _=>true
 | .arith op k x y=>iI k (ρ x)&&iI k (ρ y)&&(!KO op||decide (toI (ρ y)≠0))
 | .shift op k ky x y=>iI k (ρ x)&&iI ky (ρ y)&&decide (0<=toI (ρ y))
 | .icmp op k x y=>iI k (ρ x)&&iI k (ρ y)
 | .beq _ x y=>iB (ρ x)&&iB (ρ y)
 | .scmp op x y=>iS (ρ x)&&iS (ρ y)
 | .not x=>iB (ρ x)
 | .fa _ x=>match ρ x with
  | .ptr _ _| .ep _=>true
  |_=>false
 | .ld sz _ x=>match ρ x with
  | .ptr id off=>(match hget H id with
   |some (.box cs)=>decide (off+sz<=cs.length)
   |_=>false)
  | .ep cs=>decide (sz<=cs.length)
  |_=>false
 | .ia esz x i=>match ρ x with
  | .sl tok l=>decide (tok.esz=esz)&&iN (ρ i)&&decide (0<=toI (ρ i))&&decide (toI (ρ i)<l.length)
  |_=>false
 | .len x=>match ρ x with
  | .sl _ _=>true
  |_=>false
 | .lenS x=>iS (ρ x)
 | .build zero parts=>parts.all λp=>iT (ρ p.2.2)&&decide ((ρ p.2.2).cells.length=p.2.1)&&decide (p.1+p.2.1<=zero.length)
 | .bs esz n zero parts=>(parts.all λp=>iT (ρ p.2)&&decide ((ρ p.2).cells.length=esz)&&decide (p.1<n))&&decide (zero.cells.length=esz)&&decide (n*esz<=16777216)
 | .fn _ _ _=>true
 | .ext i x=>match ρ x with
  | .tup vs=>decide (i<vs.length)
  |_=>false
 | .aeq _ fs x y=>match ρ x,ρ y with
  | .agg xs,.agg ys=>fitB fs xs ys
  |_,_=>false
 |_=>false
theorem okv_ok {H:AB} {ρ:Opd->AVal} {k:Opk} (h:okv H ρ k=true):(evk H ρ k).1:=by
 cases k<;>simp only[okv,Xq,X8,Xp,Yb,Xf,Xi]at h
 case mv=>trivial
 case arith=>exact⟨OB h.1.1,OB h.1.2,λq=>by
  rcases h.2 with h|h; ·rw[h]at q;cases q
  ·exact h⟩
 case shift=>exact⟨OB h.1.1,OB h.1.2,h.2⟩
 case icmp=>exact⟨OB h.1,OB h.2⟩
 case beq=>exact⟨OC h.1,OC h.2⟩
 case scmp=>exact⟨Vp h.1,Vp h.2⟩
 case not=>exact OC h
 case fa=>simp only[evk];split at h<;>simp_all
 case ld sz ag x=>
  simp only[evk]
  generalize ρ x=v at h
  cases v<;>simp only[Xq]at h
  case ptr id off=>
   simp only[An]
   split at h
   ·rename_i q;rw[q];exact Ys h
   ·cases h
  case ep cs=>simp only[An];exact Ys h
 case ia esz x i=>
  simp only[evk]
  split at h
  ·rename_i q
   simp only[X8,Xf]at h
   rw[q]
   exact⟨h.1.1.1,iN_ok h.1.1.2,h.1.2,h.2⟩
  ·cases h
 case len=>simp only[evk];split at h<;>simp_all
 case lenS=>exact Vp h
 case build=>exact λp hp=>⟨Su (h p hp).1.1,(h p hp).1.2,(h p hp).2⟩
 case bs=>exact⟨λp hp=>⟨Su (h.1.1 p hp).1.1,(h.1.1 p hp).1.2,(h.1.1 p hp).2⟩,h.1.2,h.2⟩
 case fn=>trivial
 case ext=>
  simp only[evk]
  split at h
  ·rename_i q
   rw[q]
   exact Ys h
  ·cases h
 case aeq=>
  simp only[evk]
  split at h
  ·rename_i q q'
   rw[q,q']
   exact Vq _ _ _ h
  ·cases h
mutual
def uB:AVal->Bool
 | .int _ _=>true
 | .bool _=>true
 | .str _=>true
 | .sl (.own _ _) _=>false
 | .sl _ l=>uBs l
 | .agg l=>uBs l
 | .tup l=>uBs l
 |_=>false
def uBs:List AVal->Bool
 |[]=>true
 |a::l=>uB a&&uBs l
end
mutual
theorem uB_ok:∀(v:AVal),uB v=true->v.under 0
 |v,h=>by
  unfold uB at h
  split at h
  ·trivial
  ·trivial
  ·trivial
  ·cases h
  ·rename_i t l ht
   refine⟨?_,uBs_ok _ h⟩
   cases t<;>first|trivial|exact absurd rfl (ht _ _)
  ·exact uBs_ok _ h
  ·exact uBs_ok _ h
  ·cases h
theorem uBs_ok:∀(l:List AVal),uBs l=true->unders 0 l
 |[],_=>trivial
 |a::l,h=>by
  simp only[uBs,X8]at h
  exact⟨uB_ok _ h.1,uBs_ok _ h.2⟩
end
def TX (C:FuncId->List AVal->Option AVal):Tab:=λf args _=>match C f args with
 |some r=>(True,r)
 |none=>(False,.tup [])
theorem TX_ok {P:Program} {C:FuncId->List AVal->Option AVal} (h:∀f args r,C f args=some r->∀H n,Aa P f args H n r):AH P (TX C):=by
 intro f args H n q
 unfold TX at q⊢
 split at q
 ·rename_i r e
  exact h _ _ _ e _ _
 ·exact q.elim
def goB (env:List (Nat×Bool×AVal)):Option (Nat×Bool)->Bool
 |none=>true
 |some (t,_)=>match eget env t with
  |none=>false
  |some (g,v)=>!g||iB v
theorem goB_ok {env:List (Nat×Bool×AVal)} {g:Option (Nat×Bool)} (h:goB env g=true):gok env g:=by
 cases g with
 |none=>trivial
 |some tw=>
  obtain⟨t,w⟩:=tw
  simp only[goB]at h
  simp only[gok]
  split at h
  ·cases h
  ·rename_i g v q
   rw[q]
   intro e
   rw[e]at h
   exact OC h
def oB (env:List (Nat×Bool×AVal)) (l:List Opd):Bool:=l.all λx=>(lk env x).1
theorem QA {env:List (Nat×Bool×AVal)}:∀{l:List Opd},oB env l=true->oks env l
 |[],_=>trivial
 |x::l,h=>by
  simp only[oB,Zn,X8]at h
  exact⟨h.1,QA h.2⟩
def apB (H:AB) (esz:Nat):Tok->Bool
 | .nil=>true
 | .none _=>false
 | .exact e=>decide (e=esz)
 | .own id e=>decide (e=esz)&&match hget H id with
  |some .tok=>true
  |_=>false
theorem apB_ok {H:AB} {esz:Nat} {t:Tok} (h:apB H esz t=true):Bj H esz t:=by
 cases t
 case nil=>trivial
 case none=>cases h
 case exact e=>exact Ys (p:=e=esz) h
 case own id e=>
  simp only[apB,X8,Xf]at h
  refine⟨h.1,?_⟩
  have h:=h.2
  split at h
  ·assumption
  ·cases h
def xeff (base:Nat) (o:AOp) (s:AS):Option AS:=match o.k with
 | .alloc rel cs=>bif (hget s.H (base+rel)).isNone then some ({s with H:=hset s.H (base+rel) (.box cs)}.put o.dst true (.ptr (base+rel) 0))else none
 | .box rel sz x=>bif (hget s.H (base+rel)).isNone&&iT (lkv s.env x)&&decide ((lkv s.env x).cells.length=sz)then some ({s with H:=hset s.H (base+rel) (.box (lkv s.env x).cells)}.put o.dst true (.ptr (base+rel) 0))else none
 | .st sz a x=>bif iT (lkv s.env x)&&decide ((lkv s.env x).cells.length=sz)then(match lkv s.env a with
  | .ptr id off=>(match hget s.H id with
   |some (.box cs)=>bif decide (off+sz<=cs.length)then some ({s with H:=hset s.H id (.box (splice cs off (lkv s.env x).cells))}.put o.dst true (.tup []))else none
   |_=>none)
  |_=>none)else none
 | .app rel esz bytes x y str=>(match lkv s.env x,Bi s.H (lkv s.env) esz y str with
  | .sl tok l,some l'=>bif (hget s.H (base+rel)).isNone&&apB s.H esz tok&&decide ((l.length+l'.length)*bytes<=35184372088832)&&decide (l.length+l'.length<=35184372088832)&&decide (0<esz)then
    some ({s with H:=hset (AV s.H tok) (base+rel) .tok}.put o.dst true (.sl (.own (base+rel) esz) (l++l')))else none
  |_,_=>none)
 |_=>none
theorem BE {α:Type} {b:Bool} {x:Option α} {y:α} (h:(bif b then x else none)=some y):b=true/\x=some y:=by
 cases b
 ·cases h
 ·exact⟨rfl,h⟩
theorem Vr {P:Program} {Qp:AVal->AB->Nat->Prop} {base:Nat} {o:AOp} {K:AS->Prop} {s s':AS} (h:xeff base o s=some s') (hK:K s'):Ar P Qp base o K s:=by
 obtain⟨d,g,k⟩:=o
 cases k<;>simp only[xeff,reduceCtorEq]at h
 case alloc=>
  obtain⟨h1,h⟩:=BE h
  cases h
  exact⟨Option.isNone_iff_eq_none.1 h1,hK⟩
 case box=>
  obtain⟨h1,h⟩:=BE h
  cases h
  simp only[X8,Xf]at h1
  exact⟨Option.isNone_iff_eq_none.1 h1.1.1,Su h1.1.2,h1.2,hK⟩
 case st=>
  obtain⟨h1,h⟩:=BE h
  simp only[X8,Xf]at h1
  refine⟨Su h1.1,h1.2,?_⟩
  simp only
  split at h
  ·rename_i e
   rw[e]
   simp only
   split at h
   ·rename_i e'
    rw[e']
    obtain⟨h2,h⟩:=BE h
    cases h
    exact⟨Ys h2,hK⟩
   ·cases h
  ·cases h
 case app=>
  simp only[Ar]
  split at h
  ·rename_i e e'
   rw[e,e']
   obtain⟨h1,h⟩:=BE h
   cases h
   simp only[X8,Xf]at h1
   exact⟨Option.isNone_iff_eq_none.1 h1.1.1.1.1,apB_ok h1.1.1.1.2,h1.1.1.2,h1.1.2,h1.2,hK⟩
  ·cases h
def xop (C:FuncId->List AVal->Option AVal) (base:Nat) (o:AOp) (s:AS):Option AS:=
 bif goB s.env o.guard then match o.k with
  | .v k=>bif !gvb s.env o.guard||(oB s.env k.opds&&okv s.H (lkv s.env) k)then some (s.put o.dst (gvb s.env o.guard) (evk s.H (lkv s.env) k).2)else none
  | .pick c a b=>bif !gvb s.env o.guard||((lk s.env c).1&&iB (lkv s.env c)&&(bif toB (lkv s.env c)then(lk s.env a).1 else(lk s.env b).1))then some (s.put o.dst (gvb s.env o.guard) (sel (toB (lkv s.env c)) (lkv s.env a) (lkv s.env b)))else none
  | .call true f args=>bif gvb s.env o.guard then(bif (lk s.env f).1&&oB s.env args then(match lkv s.env f with
    | .fn (.func i) first cap=>(match C i (first++args.map (lkv s.env)++cap)with
     |some r=>some (s.put o.dst true r)
     |none=>none)
    |_=>none)else none)else some (s.put o.dst false (FT (TX C) (args.map (lkv s.env)) s.H (lkv s.env f)).2)
  | .cpu f args=>bif gvb s.env o.guard then(bif (lk s.env f).1&&oB s.env args then(match lkv s.env f with
    | .fn (.func i) first cap=>(match C i (first++args.map (lkv s.env)++cap)with
     |some r=>bif uBs (first++args.map (lkv s.env)++cap)&&uB r then some (s.put o.dst true r)else none
     |none=>none)
    |_=>none)else none)else some (s.put o.dst false (.tup []))
  | .alloc .. | .box .. | .st .. | .app .. =>bif gvb s.env o.guard then(bif oB s.env o.k.opds then xeff base o s else none)else some (s.put o.dst false (.tup []))
  |_=>none
 else none
theorem xop_ok {P:Program} {C:FuncId->List AVal->Option AVal} {Qp:AVal->AB->Nat->Prop} {base:Nat} {o:AOp} {K:AS->Prop} {s s':AS} (h:xop C base o s=some s') (hK:K s'):A2 P (TX C) Qp base o K s:=by
 unfold xop at h
 have hb:=BE h
 clear h
 obtain⟨hz,h⟩:=hb
 have h0:=goB_ok hz
 clear hz
 have eff:(bif gvb s.env o.guard then(bif oB s.env o.k.opds then xeff base o s else none)else some (s.put o.dst false (.tup [])))=some s'->(gvb s.env o.guard=true->oks s.env o.k.opds/\Ar P Qp base o K s)/\(gvb s.env o.guard=false->K (s.put o.dst false (.tup []))):=by
  intro h
  cases hg:gvb s.env o.guard<;>rw[hg]at h
  ·cases h
   exact⟨λq=>(by cases q),λ_=>hK⟩
  ·obtain⟨h1,h⟩:=BE h
   exact⟨λ_=>⟨QA h1,Vr h hK⟩,λq=>(by cases q)⟩
 obtain⟨d,g,k⟩:=o
 cases k<;>simp only[reduceCtorEq]at h
 case v k=>
  obtain⟨h1,h⟩:=BE h
  cases h
  refine⟨h0,λq=>?_,hK⟩
  rw[q]at h1
  simp only[X7,Z8,X8]at h1
  exact⟨QA h1.1,okv_ok h1.2⟩
 case pick c a b=>
  obtain⟨h1,h⟩:=BE h
  cases h
  refine⟨h0,λq=>?_,hK⟩
  rw[q]at h1
  simp only[X7,Z8,X8]at h1
  refine⟨h1.1.1,OC h1.1.2,λe=>?_,λe=>?_⟩<;>(have:=h1.2;rw[e]at this;exact this)
 case call q f args=>
  cases q
  ·exact absurd h (by simp)
  cases hg:gvb s.env g<;>rw[hg]at h
  ·cases h
   simp only[A2,hg]
   exact⟨h0,λq=>(by cases q),hK⟩
  ·obtain⟨h1,h⟩:=BE h
   simp only[X8]at h1
   split at h
   ·rename_i i first cap e
    split at h
    ·rename_i r e'
     cases h
     have hc:FT (TX C) (args.map (lkv s.env)) s.H (lkv s.env f)=(True,r):=by rw[e];simp only[FT,TX,e']
     simp only[A2,hg,hc]
     exact⟨h0,λ_=>⟨h1.1,QA h1.2,trivial⟩,hK⟩
    ·cases h
   ·cases h
 case cpu f args=>
  cases hg:gvb s.env g<;>rw[hg]at h
  ·cases h
   simp only[A2,hg]
   exact⟨h0,λq=>(by cases q),λ_=>hK⟩
  ·obtain⟨h1,h⟩:=BE h
   simp only[X8]at h1
   split at h
   ·rename_i i first cap e
    split at h
    ·rename_i r e'
     obtain⟨h2,h⟩:=BE h
     cases h
     simp only[X8]at h2
     have hc:cpuT (TX C) (args.map (lkv s.env)) (lkv s.env f)=(True/\unders 0 (first++args.map (lkv s.env)++cap)/\r.under 0,r):=by rw[e];simp only[cpuT,TX,e']
     simp only[A2,hg,hc]
     exact⟨h0,λ_=>⟨⟨h1.1,QA h1.2,trivial,uBs_ok _ h2.1,uB_ok _ h2.2⟩,hK⟩,λq=>(by cases q)⟩
    ·cases h
   ·cases h
 all_goals exact⟨h0,eff h⟩
def xops (C:FuncId->List AVal->Option AVal) (base:Nat):List AOp->AS->Option AS
 |[],s=>some s
 |o::r,s=>match xop C base o s with
  |some s'=>xops C base r s'
  |none=>none
theorem QB {P:Program} {C:FuncId->List AVal->Option AVal} {Qp:AVal->AB->Nat->Prop} {base:Nat} {K:AS->Prop}:∀{l:List AOp} {s s':AS},xops C base l s=some s'->K s'->runT P (TX C) Qp base l K s
 |[],s,s',h,hK=>by cases h;exact hK
 |o::r,s,s',h,hK=>by
  unfold xops at h
  split at h
  ·rename_i e
   exact xop_ok e (QB h hK)
  ·cases h
def xc (C:FuncId->List AVal->Option AVal):Nat->ACode->AS->Option (AExit×AS)
 |0,_,_=>none
 |n+1,c,s=>match c with
  | .skip=>some (.normal,s)
  | .reg bump ops keep=>(match xops C s.n ops {s with n:=s.n+bump}with
   |some s'=>some (.normal,s'.keep keep)
   |none=>none)
  | .seq a b=>(match xc C n a s with
   |some (.normal,s')=>xc C n b s'
   |r=>r)
  | .cond c a b=>bif (lk s.env c).1&&iB (lkv s.env c)then(bif toB (lkv s.env c)then xc C n a s else xc C n b s)else none
  | .block id c=>(match xc C n c s with
   |some (.exit i,s')=>bif i==id then some (.normal,s')else some (.exit i,s')
   |r=>r)
  | .loop c=>(match xc C n c s with
   |some (.normal,s')=>xc C n (.loop c) s'
   |r=>r)
  | .exit id=>some (.exit id,s)
  | .ret=>some (.ret,s)
  |_=>none
theorem GL {P:Program} {C:FuncId->List AVal->Option AVal}:∀(n:Nat) (c:ACode) (s:AS) (e:AExit) (s':AS),xc C n c s=some (e,s')->∀Q:AExit->AS->Prop,Q e s'->ev P (TX C) c Q s
 |0,_,_,_,_,h,_,_=>by cases h
 |n+1,c,s,e,s',h,Q,hQ=>by
  cases c<;>simp only[xc,reduceCtorEq]at h
  case skip=>cases h;exact hQ
  case reg=>
   split at h
   ·rename_i q
    cases h
    exact QB q hQ
   ·cases h
  case seq a b=>
   split at h
   ·rename_i q
    exact GL n a s _ _ q _ (GL n b _ _ _ h Q hQ)
   ·rename_i r hr
    refine GL n a s _ _ h _ ?_
    cases e<;>first|exact hQ|exact absurd h (hr _)
  case cond c a b=>
   obtain⟨h1,h⟩:=BE h
   simp only[X8]at h1
   refine⟨h1.1,OC h1.2,λq=>?_,λq=>?_⟩<;>(rw[q]at h;exact GL n _ s _ _ h Q hQ)
  case block id c=>
   split at h
   ·rename_i i t q
    cases hi:i==id<;>rw[hi]at h<;>cases h
    ·refine GL n c s _ _ q _ ?_
     simp only
     rw[Xc (λe=>by rw[e,beq_self_eq_true]at hi;cases hi)]
     exact hQ
    ·refine GL n c s _ _ q _ ?_
     simp only
     rw[Xg (eq_of_beq hi)]
     exact hQ
   ·rename_i hr
    refine GL n c s _ _ h _ ?_
    cases e<;>first|exact hQ|exact absurd h (hr _ _)
  case loop c=>
   split at h
   ·rename_i s1 q
    obtain⟨I,μ,h1,h2⟩:=GL n (.loop c) s1 _ _ h Q hQ
    classical
    refine⟨λt=>t=s\/I t,λt=>if I t then μ t else μ s1+1,.inl rfl,λt ht=>?_⟩
    by_cases hI:I t
    ·refine Dh c _ _ t (λe s h=>?_) (h2 t hI)
     cases e
     case normal=>
      obtain⟨s2,w,i2,m2⟩:=h
      refine⟨s2,w,.inr i2,?_⟩
      simp only
      rw[Xg i2,Xg hI]
      exact m2
     all_goals exact h
    ·obtain rfl:=ht.resolve_right hI
     refine GL n c t _ _ q _ ⟨s1,.inl rfl,.inr h1,?_⟩
     simp only
     rw[Xg h1,Xc hI]
     exact Nat.lt_succ_self _
   ·rename_i hr
    refine⟨λt=>t=s,λ_=>0,rfl,λt ht=>?_⟩
    subst ht
    refine GL n c t _ _ h _ ?_
    cases e<;>first|exact hQ|exact absurd h (hr _)
  case exit=>cases h;exact hQ
  case ret=>cases h;exact hQ
def rcB (s:AS):List RC->Bool
 |[]=>true
 | .t i::l=>(lk s.env (.t i)).1&&rcB s l
 | .c i sz _::l=>(lk s.env (.t i)).1&&(match lkv s.env (.t i)with
  | .ptr id off=>(match hget s.H id with
   |some (.box cs)=>decide (off=0)&&decide (cs.length=sz)
   |_=>false)
  |_=>false)&&rcB s l
theorem Mw {s:AS}:∀{l:List RC},rcB s l=true->(rcs s l).1
 |[],_=>trivial
 | .t i::l,h=>by
  simp only[rcB,X8]at h
  exact⟨h.1,Mw h.2⟩
 | .c i sz ag::l,h=>by
  simp only[rcB,X8]at h
  refine⟨⟨h.1.1,?_⟩,Mw h.2⟩
  have h:=h.1.2
  split at h
  ·rename_i e
   rw[e]
   simp only[Bc]
   split at h
   ·rename_i e'
    rw[e']
    simp only[X8,Xf]at h
    exact h
   ·cases h
  ·cases h
structure XF (P:Program) where
 f:FuncId
 c:ACode
 rs:List RC
 ok:AOf P f c rs
def xf {P:Program} (tab:List (XF P)) (m:Nat):Nat->FuncId->List AVal->Option AVal
 |0,_,_=>none
 |n+1,f,args=>match tab.find? λe=>e.f==f with
  |none=>none
  |some e=>bif wksB args (strips args)then(match xc (xf tab m n) m e.c ⟨penv 0 (strips args),hnil,0⟩with
   |some (.ret,s)=>bif rcB s e.rs&&wkB (rvS (rcs s e.rs).2) (P9 (rvS (rcs s e.rs).2))then some (P9 (rvS (rcs s e.rs).2))else none
   |some (.normal,s)=>bif rcB s e.rs&&wkB (rvS (rcs s e.rs).2) (P9 (rvS (rcs s e.rs).2))then some (P9 (rvS (rcs s e.rs).2))else none
   |_=>none)else none
theorem xf_ok {P:Program} {tab:List (XF P)} {m:Nat}:∀(n:Nat) (f:FuncId) (args:List AVal) (r:AVal),xf tab m n f args=some r->∃a,Wks args a/\Pur P f a r
 |0,_,_,_,h=>by cases h
 |n+1,f,args,r,h=>by
  have hT:AH P (TX (xf tab m n)):=TX_ok λf args r h H n=>by
   obtain⟨a,w,p⟩:=xf_ok _ _ _ _ h
   exact AO.args (p.quiet H n) λg vs hv=>w.rel vs hv
  unfold xf at h
  split at h
  ·cases h
  ·rename_i e he
   have hf:=List.find?_some he
   obtain rfl:=eq_of_beq hf
   obtain⟨h1,h⟩:=BE h
   have w:=wksB_ok _ _ h1
   refine⟨_,w.1,?_⟩
   split at h
   ·rename_i s q
    obtain⟨h2,h⟩:=BE h
    cases h
    simp only[X8]at h2
    have k:=Mv _ _ h2.2
    exact .mk w.2 k.2 (e.ok (AF hT (GL _ _ _ _ _ q _ ⟨Mw h2.1,_,rfl,k.1⟩)))
   ·rename_i s q
    obtain⟨h2,h⟩:=BE h
    cases h
    simp only[X8]at h2
    have k:=Mv _ _ h2.2
    exact .mk w.2 k.2 (e.ok (AF hT (GL _ _ _ _ _ q _ ⟨Mw h2.1,_,rfl,k.1⟩)))
   ·cases h
end Go.AM
namespace Go.AM
open Go.Proofs Go.Lib
def dXw:Dc Lma:=dWk encL decX
theorem dXw_ok (x:Lma):dXw.ok (encL x)=True:=Et Dr x
theorem Vs (x:Lma):dXw.dec (encL x)=x:=Dr x
def dPw:Dc (List (List Cas)):=dWk BY N8
theorem Ue (p:List (List Cas)):dPw.ok (BY p)=True:=Et D7 p
theorem QC (p:List (List Cas)):dPw.dec (BY p)=p:=D7 p
def s4 {α β γ δ:Type} (A:Dc α) (B:Dc β) (C:Dc γ) (D:Dc δ) (c:α->β->γ->δ->Prop) (f:α->β->γ->δ->AVal):List AVal->AB->Prop×AVal:=λa _=>match a with
 |[x,y,z,u]=>(A.ok x/\B.ok y/\C.ok z/\D.ok u/\c (A.dec x) (B.dec y) (C.dec z) (D.dec u),f (A.dec x) (B.dec y) (C.dec z) (D.dec u))
 |_=>(False,.tup [])
theorem q4 {α β γ δ:Type} {A:Dc α} {B:Dc β} {C:Dc γ} {D:Dc δ} {c:α->β->γ->δ->Prop} {f:α->β->γ->δ->AVal} {fid:FuncId} (h:∀x y z u,c x y z u->Pur Tryz.prog fid [A.enc x,B.enc y,C.enc z,D.enc u] (f x y z u)):∀args H n,(s4 A B C D c f args H).1->Aa Tryz.prog fid args H n (s4 A B C D c f args H).2:=by
 intro args H n hh
 unfold s4 at hh⊢
 split at hh
 ·obtain⟨h1,h2,h3,h4,h5⟩:=hh
  refine AO.args ((h _ _ _ _ h5).quiet H n) ?_
  rintro g vs ⟨v,r,rfl,k1,w,r',rfl,k2,u,r'',rfl,k3,t,r3,rfl,k4,k5⟩
  exact⟨v,_,rfl,A.wk _ h1 _ _ k1,w,_,rfl,B.wk _ h2 _ _ k2,u,_,rfl,C.wk _ h3 _ _ k3,t,_,rfl,D.wk _ h4 _ _ k4,k5⟩
 ·exact hh.elim
def s0v (r:AVal):List AVal->AB->Prop×AVal:=λa _=>match a with
 |[]=>(True,r)
 |_=>(False,.tup [])
theorem q0v {fid:FuncId} {r:AVal} (h:Pur Tryz.prog fid [] r):∀args H n,(s0v r args H).1->Aa Tryz.prog fid args H n (s0v r args H).2:=by
 intro args H n hh
 unfold s0v at hh⊢
 split at hh
 ·exact h.quiet H n
 ·exact hh.elim
def tabP:List (XF Tryz.prog):=[⟨28,c28,[.c 0 17 true],a28⟩,⟨59,c59,[.c 2 17 true,.t 3],a59⟩,⟨98,c98,[.t 4,.t 5],a98⟩,⟨151,c151,[.t 4,.t 5],a151⟩,⟨147,c147,[.t 2],a147⟩,⟨95,c95,[.c 8 5 true,.t 9],a95⟩,⟨146,c146,[.t 4],a146⟩,⟨175,c175,[.t 4],a175⟩,⟨97,c97,[.t 4,.t 5],a97⟩,⟨149,c149,[.t 4],a149⟩,⟨196,c196,[.t 6],a196⟩,⟨194,c194,[.t 4],a194⟩,⟨195,c195,[.t 4],a195⟩,⟨193,c193,[.t 4],a193⟩,⟨150,c150,[.t 2],a150⟩,⟨96,c96,[.t 2,.t 3],a96⟩,⟨148,c148,[.t 6],a148⟩,⟨94,c94,[.t 2],a94⟩,⟨145,c145,[.t 2],a145⟩,⟨192,c192,[.t 2],a192⟩,⟨144,c144,[.t 2],a144⟩,⟨190,c190,[.t 4],a190⟩,⟨244,c244,[.t 8],a244⟩,⟨243,c243,[.t 4],a243⟩,⟨191,c191,[.t 2],a191⟩,⟨143,c143,[.t 4],a143⟩,⟨189,c189,[.t 4],a189⟩,⟨142,c142,[.t 4],a142⟩,⟨188,c188,[.t 4],a188⟩,⟨242,c242,[.t 4],a242⟩,⟨187,c187,[.t 4],a187⟩,⟨186,c186,[.t 4],a186⟩,⟨93,c93,[.c 2 10 true,.t 3],a93⟩,⟨141,c141,[.t 2,.t 3],a141⟩,⟨138,c138,[.t 2],a138⟩,⟨185,c185,[.c 4 12 true,.t 5],a185⟩,⟨241,c241,[.t 4,.t 5],a241⟩,⟨240,c240,[.t 4,.t 5],a240⟩,⟨263,c263,[.t 4,.t 5],a263⟩,⟨184,c184,[.t 4,.t 5],a184⟩,⟨139,c139,[.t 0],a139⟩,⟨140,c140,[.t 2,.t 3],a140⟩]
theorem wk_x0:Wk (.agg [.str [115,105,110,103,108,101],.int .i64 1,.sl (.exact 1) [.str [112],.str [113]],.sl (.exact 1) [.str [120]],.sl (.exact 4) [.agg [.int .i64 1,.sl (.exact 1) [.int .i64 0,.int .i64 1],.sl .nil [],.int .i64 0]],.sl (.exact 2) [.agg [.int .i64 0,.sl (.exact 1) [.int .i64 0]]],.int .i64 1,.int .i64 0]) (encL x0):=
 Wk.agg (.cons (Wk.refl _) (.cons (Wk.refl _) (.cons (Wk.sl (.inl rfl)) (.cons (Wk.sl (.inl rfl)) (.cons (Wk.slx (.inl rfl) (.cons (Wk.agg (.cons (Wk.refl _) (.cons (Wk.sl (.inl rfl)) (.cons (Wk.sl (.inr rfl)) (.cons (Wk.refl _) .nil))))) .nil)) (.cons (Wk.slx (.inl rfl) (.cons (Wk.agg (.cons (Wk.refl _) (.cons (Wk.sl (.inl rfl)) .nil))) .nil)) (.cons (Wk.refl _) (.cons (Wk.refl _) .nil))))))))
abbrev vBa:AVal:=.agg [.str x0.nm,.int .i64 x0.lv,eSs x0.cs,eSs x0.ls,.sl .nil [],.sl .nil [],.int .i64 x0.c,.int .i64 x0.l]
theorem vBa_ok:dXw.ok vBa=True:=X1 (show Wk vBa (encL P6)from Wk.agg (.cons (Wk.refl _) (.cons (Wk.refl _) (.cons (Wk.refl _) (.cons (Wk.refl _) (.cons (Wk.sl (.inr rfl)) (.cons (Wk.sl (.inr rfl)) (.cons (Wk.refl _) (.cons (Wk.refl _) .nil)))))))))
theorem Vt:dXw.dec vBa=P6:=rfl
abbrev vMa:AVal:=.agg [.str x0.nm,.int .i64 x0.lv,eSs x0.cs,.sl (.exact 1) [.str [120],.str [121],.str [122]],.sl .nil [],.sl .nil [],.int .i64 x0.c,.int .i64 x0.l]
theorem vMa_ok:dXw.ok vMa=True:=X1 (show Wk vMa (encL St)from Wk.agg (.cons (Wk.refl _) (.cons (Wk.refl _) (.cons (Wk.refl _) (.cons (Wk.sl (.inl rfl)) (.cons (Wk.sl (.inr rfl)) (.cons (Wk.sl (.inr rfl)) (.cons (Wk.refl _) (.cons (Wk.refl _) .nil)))))))))
theorem Vu:dXw.dec vMa=St:=rfl
abbrev vOt:AVal:=.agg [.str [111,116,104,101,114],.int .i64 x0.lv,eSs x0.cs,eSs x0.ls,.sl (.none 4) (x0.qs.map encQ),.sl (.none 2) (x0.ps.map encM),.int .i64 x0.c,.int .i64 x0.l]
theorem vOt_ok:dXw.ok vOt=True:=X1 (show Wk vOt (encL oth0)from Wk.refl _)
theorem Vv:dXw.dec vOt=oth0:=rfl
theorem vL0_ok:dLb.ok (.agg [.sl .nil [],.sl .nil []])=True:=X1 (show Wk _ (C0 lib0)from Wk.agg (.cons (Wk.sl (.inr rfl)) (.cons (Wk.sl (.inr rfl)) .nil)))
theorem Vw:dLb.dec (.agg [.sl .nil [],.sl .nil []])=lib0:=rfl
theorem vL1_ok:dLb.ok (.agg [eLms lib1.ls,ePfs lib1.pf])=True:=P5 lib1
theorem Vx:dLb.dec (.agg [eLms lib1.ls,ePfs lib1.pf])=lib1:=Ld lib1
theorem vL2_ok:dLb.ok (.agg [.sl .nil [],.sl (.exact 1) [.agg [eTr p0]]])=True:=X1 (show Wk _ (C0 lib2)from Wk.agg (.cons (Wk.sl (.inr rfl)) (.cons (Wk.sl (.inl rfl)) .nil)))
theorem Vy:dLb.dec (.agg [.sl .nil [],.sl (.exact 1) [.agg [eTr p0]]])=lib2:=rfl
theorem vP0_ok:dPw.ok (.agg [eTr p0])=True:=Ue p0
theorem Vz:dPw.dec (.agg [eTr p0])=p0:=QC p0
theorem vPe_ok:dPw.ok (.agg [.sl .nil []])=True:=X1 (show Wk _ (BY pe0)from Wk.agg (.cons (Wk.sl (.inr rfl)) .nil))
theorem V0:dPw.dec (.agg [.sl .nil []])=pe0:=rfl
abbrev vPt:AVal:=.agg [.sl (.exact 1) [.sl (.exact 2) [.agg [.int .i64 1,.int .i64 0],.agg [.int .i64 2,.int .i64 0]],.sl (.exact 2) [.agg [.int .i64 1,.int .i64 0],.agg [.int .i64 2,.int .i64 0]]]]
theorem vPt_ok:dPw.ok vPt=True:=X1 (show Wk vPt (BY p0)from Wk.agg (.cons (Wk.slx (.inl rfl) (.cons (Wk.sl (.inl rfl)) (.cons (Wk.sl (.inl rfl)) .nil))) .nil))
theorem V1:dPw.dec vPt=p0:=rfl
theorem vLa_ok:dIs.ok (.sl (.exact 1) [.int .i64 0])=True:=X1 ⟨.inl rfl,rfl⟩
theorem V2:dIs.dec (.sl (.exact 1) [.int .i64 0])=la0:=rfl
theorem vLb_ok:dIs.ok (.sl (.exact 1) [.int .i64 0,.int .i64 0])=True:=X1 ⟨.inl rfl,rfl⟩
theorem V3:dIs.dec (.sl (.exact 1) [.int .i64 0,.int .i64 0])=lb0:=rfl
theorem fla:few la0=True:=X1 (by decide)
theorem flb:few lb0=True:=X1 (by decide)
theorem ln1:((lib1.ls.length:Int)=1)=True:=X1 rfl
theorem lne:((pe0.length:Int)=0)=True:=X1 rfl
theorem p28:Pur Tryz.prog 28 [] (BF k0):=by
 have h:(match xf tabP 300 30 28 []with
  |some v=>wkB v (BF k0)
  |none=>false)=true:=by kernel_rfl
 split at h
 ·rename_i v e
  obtain⟨a,w,p⟩:=xf_ok _ _ _ _ e
  cases w
  have k:=Mv _ _ h
  exact⟨p.1,k.2,p.2.2.mono λo H' n' ⟨v,e,q⟩=>⟨v,e,q.trans k.1⟩⟩
 ·cases h
theorem p29:Pur Tryz.prog 29 [] (encL x0):=by
 refine .mk trivial (Ah 0 x0) (a29 (AF AH.tnil (AG ?_)))
 simp only[eE,eN,reduceCtorEq,Nat.reduceEqDiff,↓reduceIte,Nat.reduceAdd,Nat.reduceLeDiff,Nat.reduceMul,Nat.reduceLT,Bc,c29]
 exact wk_x0
def Tsan:Tab:=tadd 28 (s0v (BF k0)) (tadd 29 (s0v (encL x0)) (tadd 12 (s2 dKn dXw (λk x=>FewD k.d/\FewL x) B9) (tadd 14 (s2 dKn dXw (λk x=>FewD k.d/\FewL x) BN) (tadd 20 (s4 dKn dLb dXw dPw (λk l x p=>FewD k.d/\FewB l/\FewL x/\CA p) Bn)
 (tadd 23 (s2 dKn dLb (λk l=>FewD k.d/\FewB l) λk l=>.int .i64 (BG k l)) (tadd 17 (s2 dIs dIs (λa _=>few a) λa b=>.bool (decide (a=b))) (tadd 16 (s2 dPw dPw (λa _=>CA a) λa b=>.bool (decide (a=b))) tnil)))))))
theorem V4:AH Tryz.prog Tsan:=(((((((AH.tnil.add (q2 λa b h=>p16 a b h)).add (q2 λa b h=>p17 a b h)).add (q2 λk l h=>p23 k l h.1 h.2)).add (q4 λk l x p h=>p20 k l x p h.1 h.2.1 h.2.2.1 h.2.2.2)).add (q2 λk x h=>p14 k x h.1 h.2)).add (q2 λk x h=>p12 k x h.1 h.2)).add (q0v p29)).add (q0v p28)
section
variable (a:List AVal) (H:AB)
theorem Tsan_k:Tsan 28 a H=s0v (BF k0) a H:=rfl
theorem Tsan_x:Tsan 29 a H=s0v (encL x0) a H:=rfl
theorem Tsan_p:Tsan 12 a H=s2 dKn dXw (λk x=>FewD k.d/\FewL x) B9 a H:=rfl
theorem Tsan_c:Tsan 14 a H=s2 dKn dXw (λk x=>FewD k.d/\FewL x) BN a H:=rfl
theorem Tsan_a:Tsan 20 a H=s4 dKn dLb dXw dPw (λk l x p=>FewD k.d/\FewB l/\FewL x/\CA p) Bn a H:=rfl
theorem Tsan_v:Tsan 23 a H=s2 dKn dLb (λk l=>FewD k.d/\FewB l) (λk l=>.int .i64 (BG k l)) a H:=rfl
theorem Tsan_i:Tsan 17 a H=s2 dIs dIs (λa _=>few a) (λa b=>.bool (decide (a=b))) a H:=rfl
theorem Tsan_s:Tsan 16 a H=s2 dPw dPw (λa _=>CA a) (λa b=>.bool (decide (a=b))) a H:=rfl
end
theorem p9:Pur Tryz.prog 9 [] (.bool true):=by
 refine .mk trivial trivial (a9 (AF V4 (AG ?_)))
 have u1:dKn.ok (.agg (AE k0))=True:=CX k0
 have u2:dKn.dec (.agg (AE k0))=k0:=Bd k0
 simp only[AE,AD,AK,Xl,Xo]at u1 u2
 have v1:dXw.ok (.agg (AT x0))=True:=dXw_ok x0
 have v2:dXw.dec (.agg (AT x0))=x0:=Vs x0
 simp only[AT]at v1 v2
 simp only[eE,eC,eN,reduceCtorEq,Nat.reduceEqDiff,↓reduceIte,Nat.reduceAdd,Nat.reduceLeDiff,Nat.reduceMul,Nat.reduceLT,X7,Xe,X2,X0,Xa,Xd,c9,Tsan_k,Tsan_x,Tsan_p,Tsan_c,Tsan_a,Tsan_v,Tsan_i,Tsan_s,s0v,s2,s4,AE,AD,AK,u1,u2,X1 fk0,v1,v2,X1 fx0,z1,z2,z3,z4,z5,z6,z7,z8,z9,z10,z11,
  vBa_ok,Vt,X1 fb0,vMa_ok,Vu,X1 fm0,vOt_ok,Vv,X1 fo0,vL0_ok,Vw,X1 fl0,vL1_ok,Vx,X1 fl1,vL2_ok,Vy,X1 fl2,vP0_ok,Vz,X1 fp0,vPe_ok,V0,X1 fpe,vPt_ok,V1,Ax,At,vLa_ok,V2,vLb_ok,V3,fla,flb,ln1,lne,Zl]
 done
end Go.AM
namespace Go.AM
open Go.Proofs Go.Lib
theorem Sv {ts:List (List Cas)}:∀t∈ts,t.length<=BM ts:=by
 induction ts with
 |nil=>intro t h;cases h
 |cons a r ih=>
  intro t h
  have:BM (a::r)=a.length+BM r:=by unfold BM;simp
  rcases XQ.1 h with rfl|h
  ·omega
  ·have:=ih t h;omega
theorem QD {k:Knd} {x:Lma} {ts:List (List Cas)} (hox:OKL x) (hck:Al k=0) (h1:BM ts<=65536) (h2:ts.length=(chs k.d.syms.length x.ls.length).length):CA ts:=by
 have hsy:=A7 hck
 have hAl:(chs k.d.syms.length x.ls.length).length<=4096:=by
  refine XT (JI _ _) (XT (ZJ hsy.2 _) (XT (ZE (by decide) (show x.ls.length<=3 from hox.ls.2.2.2)) (by decide)))
 exact⟨show ts.length<_ by omega,λt ht=>show t.length<_ by have:=Sv t ht;omega⟩
section
variable (a:List AVal) (H:AB)
end
end Go.AM
namespace Go.AM
open Go.Proofs Go.Lib
section
variable (a:List AVal) (H:AB)
end
theorem FewB.app {l:Lbr} {x:Lma} {p:List (List Cas)} (h:FewB l) (hx:FewL x) (hp:CA p) (h1:l.ls.length<16) (h2:l.pf.length=l.ls.length):FewB ⟨l.ls++[x],l.pf++[p]⟩:=
 ⟨by show(l.ls++[x]).length<_;simp;omega,by show(l.pf++[p]).length<_;simp;omega,λy hy=>by
  rcases Y6.1 hy with q|q
  ·exact h.lm y q
  ·rw[Xy.1 q];exact hx,λy hy=>by
  rcases Y6.1 hy with q|q
  ·exact h.pr y q
  ·rw[Xy.1 q];exact hp⟩
theorem QE {k:Knd} {l:Lbr} {x:Lma} {p:List (List Cas)} (hl:FewB l) (hx:FewL x) (hp:CA p):(∃e,e≠0/\Bm k l x p=e/\Bn k l x p= .tup [noLb,.int .i64 e])\/∃m:Lbr,m=⟨l.ls++[x],l.pf++[p]⟩/\Bm k l x p=0/\Bn k l x p= .tup [C0 m,.int .i64 0]/\FewB m:=by
 by_cases h:Bm k l x p=0
 ·right
  obtain⟨-,h2,h3⟩:=Gx h
  exact⟨_,rfl,h,by unfold Bn;rw[h,Xc (by decide)],hl.app hx hp h3 h2⟩
 ·left
  exact⟨_,h,rfl,by unfold Bn;rw[Xg h]⟩
end Go.AM
namespace Go.AM
open Go.Proofs Go.Lib
section
variable (a:List AVal) (H:AB)
end
end Go.AM
namespace Go.AM
open Go.Proofs Go.Lib
section
variable (k:Knd) (x:Lma) (a:List AVal) (H:AB)
end
end Go.AM
namespace Go.AM
open Go.Proofs Go.Lib
section
variable (a:List AVal) (H:AB)
end
end Go.AM
namespace Go.AM
open Go.Proofs Go.Lib
theorem QF {g g':Ghost} {v:Value} (h:VRel g (.sl .nil []) v):VRel g' (.sl .nil []) v:=by
 rcases h with⟨-,rfl,-⟩|⟨h,-⟩
 ·exact .inl ⟨rfl,rfl,trivial⟩
 ·exact h.elim
theorem Sw {g g':Ghost} {e:Int} {v:Value} (h:VRel g (.tup [noLb,.int .i64 e]) v):VRel g' (.tup [noLb,.int .i64 e]) v:=by
 obtain⟨vs,rfl,a,ra,e1,⟨ws,rfl,⟨b,rb,e2,k2,c,rc,rfl,k3,rfl⟩,h2⟩,d,rd,rfl,k4,rfl⟩:=h
 exact⟨vs,rfl,_,_,e1,⟨ws,rfl,⟨b,_,e2,QF k2,c,_,rfl,QF k3,rfl⟩,h2⟩,d,_,rfl,k4,rfl⟩
def Du (k:Knd) (l:Lbr) (x:Lma) (p:List (List Cas)) (e:Int):List AVal->AB->Prop×AVal:=λa H=>match a with
 |[K,L,X,.agg [.ref id 1 0 len cap]]=>(dKn.ok K/\dKn.dec K=k/\dLb.ok L/\dLb.dec L=l/\dX.ok X/\dX.dec X=x/\∃A,hget H id=some (.arr 1 A)/\len<=A.length/\len<=cap/\A.take len=p.map eCs,.tup [noLb,.int .i64 e])
 |[K,L,X,P]=>(dKn.ok K/\dLb.ok L/\dX.ok X/\dPw.ok P/\(FewD (dKn.dec K).d/\FewB (dLb.dec L)/\FewL (dX.dec X)/\CA (dPw.dec P)),Bn (dKn.dec K) (dLb.dec L) (dX.dec X) (dPw.dec P))
 |_=>(False,.tup [])
theorem V5 {k:Knd} {l:Lbr} {x:Lma} {p:List (List Cas)} {e:Int} (hk:FewD k.d) (hl:FewB l) (hx:FewL x) (hp:CA p) (he:Bn k l x p= .tup [noLb,.int .i64 e]):∀args H n,(Du k l x p e args H).1->Aa Tryz.prog 20 args H n (Du k l x p e args H).2:=by
 intro args H n hh
 unfold Du at hh⊢
 split at hh
 ·rename_i K L X id len cap
  obtain⟨h1,h2,h3,h4,h5,h6,A,h7,h8,h9,h10⟩:=hh
  have w1:=dKn.wk _ h1
  rw[h2]at w1
  have w2:=dLb.wk _ h3
  rw[h4]at w2
  have w3:=dX.wk _ h5
  rw[h6]at w3
  have hP:=p20 k l x p hk hl hx hp
  rw[he]at hP
  refine hP.viewF (λg g' v=>Sw) ?_ n
  refine .cons (.wk w1) (.cons (.wk w2) (.cons (.wk w3) (.cons (.agg (.cons ?_ .nil)) .nil)))
  have:=View.ref (H:=H) (id:=id) (e:=1) (off:=0) (len:=len) (cap:=cap) h7 (by omega) h9
  rw[show(A.drop 0).take len=p.map eCs from h10]at this
  exact this
 ·exact q4 (A:=dKn) (B:=dLb) (C:=dX) (D:=dPw) (c:=λk l x p=>FewD k.d/\FewB l/\FewL x/\CA p) (f:=Bn) (λk l x p h=>p20 k l x p h.1 h.2.1 h.2.2.1 h.2.2.2) _ H n hh
 ·exact hh.elim
def Tl7 (k:Knd) (l:Lbr) (x:Lma) (p:List (List Cas)) (e:Int):Tab:=tadd 9 (s0v (.bool true)) (tadd 10 (s1 dKn (λ_=>True) λk=>.bool (fewK k)) (tadd 11 (s1 dX (λ_=>True) λx=>.bool (DH x)) (tadd 18 (s1 dLb (λ_=>True) λl=>.bool (Gv l))
 (tadd 12 (s2 dKn dX (λk x=>FewD k.d/\FewL x) B9) (tadd 20 (Du k l x p e) (tadd 23 (s2 dKn dLb (λk l=>FewD k.d/\FewB l) λk l=>.int .i64 (BG k l)) (tadd 16 (s2 dPw dPw (λa _=>CA a) λa b=>.bool (decide (a=b))) tnil)))))))
theorem Uf {k:Knd} {l:Lbr} {x:Lma} {p:List (List Cas)} {e:Int} (hk:FewD k.d) (hl:FewB l) (hx:FewL x) (hp:CA p) (he:Bn k l x p= .tup [noLb,.int .i64 e]):AH Tryz.prog (Tl7 k l x p e):=
 (((((((AH.tnil.add (q2 λa b h=>p16 a b h)).add (q2 λk l h=>p23 k l h.1 h.2)).add (V5 hk hl hx hp he)).add (q2 λk x h=>p12 k x h.1 h.2)).add (q1 λl _=>p18 l)).add (q1 λx _=>p11 x)).add (q1 λk _=>p10 k)).add (q0v p9)
section
variable (k:Knd) (l:Lbr) (x:Lma) (p:List (List Cas)) (e:Int) (a:List AVal) (H:AB)
theorem IB:Tl7 k l x p e 9 a H=s0v (.bool true) a H:=rfl
theorem IC:Tl7 k l x p e 10 a H=s1 dKn (λ_=>True) (λk=>.bool (fewK k)) a H:=rfl
theorem KN:Tl7 k l x p e 11 a H=s1 dX (λ_=>True) (λx=>.bool (DH x)) a H:=rfl
theorem JP:Tl7 k l x p e 18 a H=s1 dLb (λ_=>True) (λl=>.bool (Gv l)) a H:=rfl
theorem Lg:Tl7 k l x p e 12 a H=s2 dKn dX (λk x=>FewD k.d/\FewL x) B9 a H:=rfl
theorem Lh:Tl7 k l x p e 20 a H=Du k l x p e a H:=rfl
theorem QG:Tl7 k l x p e 23 a H=s2 dKn dLb (λk l=>FewD k.d/\FewB l) (λk l=>.int .i64 (BG k l)) a H:=rfl
theorem Sx:Tl7 k l x p e 16 a H=s2 dPw dPw (λa _=>CA a) (λa b=>.bool (decide (a=b))) a H:=rfl
end
theorem OD {ts:List (List Cas)} {i:Nat} {t:List Cas} {R:List AVal} (hi:ts[i]?=some t):List.take ts.length ((ts.map eCs++R).set i (.sl (.none 2) (List.take (t.length-1) (t.map encC))))=(ts.set i t.dropLast).map eCs:=by
 have hlt:=(Xw.1 hi).1
 rw[List.set_append_left _ _ (by rw[X0];exact hlt),YI (by simp),Y0 (by simp),ZK,List.dropLast_eq_take,<-List.map_take]
theorem p7 (k:Knd) (l:Lbr) (x:Lma) (at':Int) (hw:WdK k):Pur Tryz.prog 7 [BF k,C0 l,encL x,.int .i64 at'] (.bool true):=by
 have u1:dKn.ok (.agg (AE k))=True:=CX k
 have u2:dKn.dec (.agg (AE k))=k:=Bd k
 simp only[AE,AD,AK,Xl,Xo]at u1 u2
 have v1:dX.ok (.agg (AT x))=True:=GY x
 have v2:dX.dec (.agg (AT x))=x:=Dy x
 simp only[AT]at v1 v2
 have b1:dLb.ok (.agg [eLms l.ls,ePfs l.pf])=True:=P5 l
 have b2:dLb.dec (.agg [eLms l.ls,ePfs l.pf])=l:=Ld l
 have hun:unders 0 [BF k,C0 l,encL x,.int .i64 at']:=⟨Ab 0 k,Cu 0 l,Ah 0 x,trivial,trivial⟩
 have T0:=Uf (k:=k0) (l:=lib1) (x:=oth0) (p:=pe0) (e:=310) fk0 fl1 fo0 fpe z8
 cases hf:fewK k with
 |false=>
  refine .mk hun trivial (a7 (AF T0 (AG ?_)))
  simp only[eE,eC,eN,reduceCtorEq,Nat.reduceEqDiff,↓reduceIte,Nat.reduceAdd,X7,Xe,c7,IB,IC,s0v,s1,AE,AD,AK,u1,u2,hf,Xe,X7]
 |true=>
 cases hb:Gv l with
 |false=>
  refine .mk hun trivial (a7 (AF T0 (AG ?_)))
  simp only[eE,eC,eN,reduceCtorEq,Nat.reduceEqDiff,↓reduceIte,Nat.reduceAdd,X7,Xe,c7,IB,IC,JP,s0v,s1,AE,AD,AK,u1,u2,b1,b2,hf,hb,Xe,X7]
 |true=>
 cases hg:DH x with
 |false=>
  refine .mk hun trivial (a7 (AF T0 (AG ?_)))
  simp only[eE,eC,eN,reduceCtorEq,Nat.reduceEqDiff,↓reduceIte,Nat.reduceAdd,X7,Xe,c7,IB,IC,JP,KN,s0v,s1,AE,AD,AK,u1,u2,v1,v2,b1,b2,hf,hb,hg,Xe,X7]
 |true=>
 have hR:=few_rf hf hw
 have hD:=hR.kn.d
 have hx:=Ud hg
 have hl:=few_lb hb
 have hbad:∀v e,nT v->v.cells.length=1->B9 k x= .tup [.agg [v],.int .i64 e]->e≠0->Pur Tryz.prog 7 [BF k,C0 l,encL x,.int .i64 at'] (.bool true):=λv e hv1 hv2 h2 e0=>by
  refine .mk hun trivial (a7 (AF T0 (AG ?_)))
  simp only[eE,eC,eN,reduceCtorEq,Nat.reduceEqDiff,↓reduceIte,Nat.reduceAdd,Nat.reduceLT,X7,Xe,X2,Xa,Xd,c7,IB,IC,JP,KN,Lg,s0v,s1,s2,AE,AD,AK,u1,u2,v1,v2,b1,b2,hf,hb,hg,Xe,X7,X1 hD,X1 hx,h2,X9 e0]
 rcases pr_end hD hx with⟨e,he,h1,h2,h3⟩|⟨q,h1,ho,hck,h2,h3,hs,hm,hr⟩|⟨h1,ho,hck,h2,h3,hs⟩|⟨ts,h1,ho,hck,h2,h3,hs,hrt,hN,hln⟩
 ·exact hbad (.sl .nil []) e trivial rfl h2 (by omega)
 ·exact hbad (.sl .nil []) 320 trivial rfl h2 (by decide)
 ·exact hbad (.sl .nil []) 2 trivial rfl h2 (by decide)
 have ft:=QD ho hck hN hln
 have t1:dPw.ok (.agg [eTr ts])=True:=Ue ts
 have t2:dPw.dec (.agg [eTr ts])=ts:=QC ts
 have hrb:CO k x ts=true:=by unfold CO;rw[Xz h1,hrt];rfl
 have hcx:chk x=0:=by rw[Gw,hck]at h1;simpa using h1
 have htl:ts.length<1000000000:=ft.1
 rcases QE (k:=k) hl hx ft with⟨e,he,hE,hS⟩|⟨m,hm,hE,hS,hfm⟩
 ·refine .mk hun trivial (a7 (AF T0 (AG ?_)))
  by_cases e310:e=310
  ·have hv:=P8 hcx hrb (hE.trans e310)
   simp only[eE,eC,eN,reduceCtorEq,Nat.reduceEqDiff,↓reduceIte,Nat.reduceAdd,Nat.reduceLT,Int.reduceEq,X7,Xe,X2,Xa,Xd,c7,IB,IC,JP,KN,Lg,Lh,QG,Du,s0v,s1,s2,AE,AD,AK,u1,u2,v1,v2,b1,b2,t1,t2,hf,hb,hg,Xe,X7,X1 hD,X1 hx,X1 hl,X1 ft,h2,hS,e310,hv]
  ·simp only[eE,eC,eN,reduceCtorEq,Nat.reduceEqDiff,↓reduceIte,Nat.reduceAdd,Nat.reduceLT,X7,Xe,X2,Xa,Xd,c7,IB,IC,JP,KN,Lg,Lh,Du,s0v,s1,s2,AE,AD,AK,u1,u2,v1,v2,b1,b2,t1,t2,hf,hb,hg,Xe,X7,X1 hD,X1 hx,X1 hl,X1 ft,h2,hS,X9 he,X9 e310]
 obtain⟨hva,hpl,h16⟩:=Gx hE
 rw[<-hm]at hva
 have m1:dLb.ok (.agg [eLms m.ls,ePfs m.pf])=True:=P5 m
 have m2:dLb.dec (.agg [eLms m.ls,ePfs m.pf])=m:=Ld m
 have el:=AL (k:=l.ls.length) (by omega)
 have ml:m.ls.length=l.ls.length+1:=by rw[hm];simp
 have mp:m.pf.length=l.ls.length+1:=by rw[hm];simp [hpl]
 have mg:m.pf[l.ls.length]?=some ts:=by rw[hm,<-hpl];simp
 have i1:((l.ls.length:Int)<(m.pf.length:Int))=True:=X1 (by omega)
 have i2:(l.ls.length<m.pf.length)=True:=X1 (by omega)
 have i3:((m.ls.length:Int)=((l.ls.length+1:Nat):Int))=True:=X1 (by rw[ml])
 have i4:((m.pf.length:Int)=(m.ls.length:Int))=True:=X1 (by rw[ml,mp])
 by_cases n1:at'<0
 ·refine .mk hun trivial (a7 (AF T0 (AG ?_)))
  simp only[eE,eC,eN,reduceCtorEq,Nat.reduceEqDiff,↓reduceIte,Nat.reduceAdd,Nat.reduceLeDiff,Nat.reduceLT,Int.reduceEq,X7,X2,X3,X4,X0,X6,Xa,Xd,c7,IB,IC,JP,KN,Lg,Lh,QG,Sx,Du,s0v,s1,s2,AE,AD,AK,u1,u2,v1,v2,b1,b2,t1,t2,m1,m2,hf,hb,hg,X7,X1 hD,X1 hx,X1 hl,X1 ft,X1 hfm,h2,hS,hva,el,i1,i3,i4,mg,Zl,X1 n1]
 obtain⟨i,rfl⟩:=YW (Int.not_lt.1 n1)
 by_cases n2:(ts.length:Int)<=(i:Int)
 ·refine .mk hun trivial (a7 (AF T0 (AG ?_)))
  simp only[eE,eC,eN,reduceCtorEq,Nat.reduceEqDiff,↓reduceIte,Nat.reduceAdd,Nat.reduceLeDiff,Nat.reduceLT,Int.reduceEq,X7,X2,X3,X4,X0,X6,Xa,Xd,c7,IB,IC,JP,KN,Lg,Lh,QG,Sx,Du,s0v,s1,s2,AE,AD,AK,u1,u2,v1,v2,b1,b2,t1,t2,m1,m2,hf,hb,hg,X7,X1 hD,X1 hx,X1 hl,X1 ft,X1 hfm,h2,hS,hva,el,i1,i3,i4,mg,Zl,X9 n1,X1 n2]
 have hit:i<ts.length:=by omega
 have hg0:=X5 hit
 generalize ts[i]=t at hg0
 by_cases n3:(t.length:Int)=0
 ·refine .mk hun trivial (a7 (AF T0 (AG ?_)))
  simp only[eE,eC,eN,reduceCtorEq,Nat.reduceEqDiff,↓reduceIte,Nat.reduceAdd,Nat.reduceLeDiff,Nat.reduceLT,Int.reduceEq,X7,X2,X3,X4,X0,X6,Xa,Xd,c7,IB,IC,JP,KN,Lg,Lh,QG,Sx,Du,s0v,s1,s2,AE,AD,AK,u1,u2,v1,v2,b1,b2,t1,t2,m1,m2,hf,hb,hg,X7,X1 hD,X1 hx,X1 hl,X1 ft,X1 hfm,h2,hS,hva,el,i1,i3,i4,mg,Zl,X9 n1,X9 n2,lt_T hit,hg0,X1 n3]
 have htm:=ft.2 _ (XS hg0)
 have htm':t.length<1000000000:=htm
 have hfr:CO k x (ts.set i t.dropLast)=false:=by unfold CO;rw[OA hrt hg0,Bool.and_false]
 have hEf:=KM hE hfr
 have hSf:Bn k l x (ts.set i t.dropLast)= .tup [noLb,.int .i64 310]:=by unfold Bn;rw[hEf,Xg (by decide)]
 have fq:CA (ts.set i t.dropLast):=⟨by show(ts.set i t.dropLast).length<_;rw[Ye];exact htl,λu hu=>by
  rcases Yq hu with z|z
  ·exact ft.2 u z
  ·rw[z];show t.dropLast.length<_;rw[List.length_dropLast];omega⟩
 refine .mk hun trivial (a7 (AF (Uf hD hl hx fq hSf) (AG ?_)))
 have hne:ts.map eCs≠[]:=λz=>by rw[List.map_eq_nil_iff]at z;rw[z]at hit;simp at hit
 have ws:IntKind.wrap .i64 ((t.length:Int)-1)=((t.length-1:Nat):Int):=by rw[Ay (by omega) (by omega)];omega
 simp only[eE,eC,eN,reduceCtorEq,Nat.reduceEqDiff,↓reduceIte,Nat.reduceAdd,Nat.reduceLeDiff,Nat.reduceMul,Nat.reduceLT,Int.reduceEq,X7,X2,X3,X4,X0,X6,Xa,Xd,c7,IB,IC,JP,KN,Lg,Lh,QG,Sx,Du,s0v,s1,s2,AE,AD,AK,u1,u2,v1,v2,b1,b2,t1,t2,m1,m2,hf,hb,hg,X7,X1 hD,X1 hx,X1 hl,X1 ft,X1 hfm,h2,hS,hva,el,i1,i3,i4,mg,Zl,X9 n1,X9 n2,lt_T hit,hg0,X9 n3,By]
 refine⟨AX (by omega) (by decide),by omega,λz=>absurd z hne,λ_ cap hcap=>?_⟩
 have j1:(((t.length-1:Nat):Int)<=(t.length:Int))=True:=X1 (by omega)
 have j2:(i<(ts.map eCs++List.replicate (cap-ts.length) (AVal.sl .nil [])).length)=True:=X1 (by rw[Xm,X0];omega)
 simp only[eE,eC,eN,reduceCtorEq,Nat.reduceEqDiff,↓reduceIte,Nat.reduceAdd,Nat.reduceLT,Int.reduceEq,X2,XW,XP,X3,X4,X0,X6,Xa,Xd,Dw,lt_T hit,hg0,ws,j1,j2,Lh,Du,u1,u2,v1,v2,b1,b2,Zl]
 exact⟨_,rfl,by rw[Ye,Xm,X0];omega,hcap,OD hg0⟩
end Go.AM
namespace Go.AM
open Go.Proofs Go.Lib Go.ChangeShapes Go.WideShapes Go.ChangeAt Go.WideMaps Go.WideElems Go.RowKit
abbrev big (n:Nat):Prop:=n<=140737488355328
theorem JQ {α:Type} {l:List α} (h:big l.length):wide l:=by show l.length<_;omega
theorem own:ownKnob Tryz.prog.godebug=none:=by kernel_rfl
theorem QH (i:Nat):glob i=none:=by rfl
theorem Mx (W:World):DI (gW W)/\Fp W:=
 ⟨(λi cs h=>by rw[QH]at h;cases h),(λi cs h=>by rw[QH]at h;cases h)⟩
abbrev shIs:Sh:=.sl (.int .i64)
abbrev shSy:Sh:=.st [.str,.int .i64]
abbrev shRg:Sh:=.st [.str,.sl shIs]
abbrev shCl:Sh:=.st [.str,.str,.int .i64,.int .i64,.int .i64,.int .i64]
abbrev shRu:Sh:=.st [.str,.str,.int .i64,.int .i64,.sl .str,.sl .str,.int .i64,.int .i64,.int .i64,.int .i64,.str,.int .i64]
abbrev shD:Sh:=.st [.str,.int .i64,.int .i64,.int .i64,.int .i64,shIs,.sl shSy,.sl shRg,.sl shCl,.sl shRu]
abbrev shGr:Sh:=.st [.int .i64,.int .i64,.int .i64,shIs,shIs]
abbrev shKn:Sh:=.st [shD,shGr,.sl shIs,.sl (.sl shIs)]
abbrev shQ:Sh:=.st [.int .i64,shIs,shIs,.int .i64]
abbrev shM:Sh:=.st [.int .i64,shIs]
abbrev shX:Sh:=.st [.str,.int .i64,.sl .str,.sl .str,.sl shQ,.sl shM,.int .i64,.int .i64]
abbrev shCa:Sh:=.st [.int .i64,.int .i64]
abbrev shPf:Sh:=.st [.sl (.sl shCa)]
abbrev shLb:Sh:=.st [.sl shX,.sl shPf]
theorem rb {n:Nat} (h:n<=reachBytes):big n:=XT h (by decide)
theorem Eo {e:Sh} {α:Type} {enc:α->AVal} {Q:α->Prop} (he:∀vs,e.rd vs->∃a,Q a/\e.wrap vs=enc a) {av:List AVal} (h:(Sh.sl e).rd av):∃l:List α,big l.length/\(∀x∈l,Q x)/\av=[.sl (.none e.size) (l.map enc)]:=by
 simp only[Sh.rd]at h
 obtain⟨l,rfl,hln,h⟩:=h
 suffices ∃m:List α,m.length=l.length/\(∀x∈m,Q x)/\l.map e.wrap=m.map enc by
  obtain⟨m,hm,hq,hm2⟩:=this
  exact⟨m,by rw[hm];exact rb hln,hq,by rw[hm2]⟩
 clear hln
 induction l with
 |nil=>exact⟨[],rfl,(λx hx=>by cases hx),rfl⟩
 |cons x l ih=>
  obtain⟨m,h1,h2,h3⟩:=ih λy hy=>h y (by simp [hy])
  obtain⟨a,hq,ha⟩:=he x (h x (by simp))
  exact⟨a::m,by simp [h1],λy hy=>by
   rcases XQ.1 hy with rfl|hy
   ·exact hq
   ·exact h2 y hy,by rw[Xt,Xt,h3,ha]⟩
theorem rdI' (vs:List AVal) (h:(Sh.int .i64).rd vs):∃n:Int,True/\(Sh.int .i64).wrap vs=eI n:=by
 obtain⟨n,rfl,_⟩:=h
 exact⟨n,trivial,rfl⟩
theorem rdS' (vs:List AVal) (h:Sh.str.rd vs):∃s:Bs,big s.length/\Sh.str.wrap vs= .str s:=by
 obtain⟨s,rfl,hs⟩:=h
 exact⟨s,rb hs,rfl⟩
theorem rdIs' (vs:List AVal) (h:(Sh.sl (.int .i64)).rd vs):∃l:List Int,big l.length/\(Sh.sl (.int .i64)).wrap vs=eIs l:=by
 obtain⟨l,h1,-,rfl⟩:=Eo rdI' h
 exact⟨l,h1,rfl⟩
theorem rdM0 {e:Sh} {α:Type} {enc:α->AVal} (he:∀vs,e.rd vs->∃a,e.wrap vs=enc a) {av:List AVal} (h:(Sh.sl e).rd av):∃l:List α,av=[.sl (.none e.size) (l.map enc)]:=by
 obtain⟨l,-,-,h⟩:=Eo (Q:=λ_=>True) (λvs h=>by obtain⟨a,ha⟩:=he vs h;exact⟨a,trivial,ha⟩) h
 exact⟨l,h⟩
theorem rdI0 (vs:List AVal) (h:(Sh.int .i64).rd vs):∃n:Int,(Sh.int .i64).wrap vs=eI n:=by
 obtain⟨n,-,h⟩:=rdI' vs h
 exact⟨n,h⟩
theorem rdS0 (vs:List AVal) (h:Sh.str.rd vs):∃s:Bs,Sh.str.wrap vs= .str s:=by
 obtain⟨n,-,h⟩:=rdS' vs h
 exact⟨n,h⟩
theorem V6 (vs:List AVal) (h:(Sh.sl (.int .i64)).rd vs):∃l:List Int,wide l/\(Sh.sl (.int .i64)).wrap vs=eIs l:=by
 obtain⟨l,h1,h2⟩:=rdIs' vs h
 exact⟨l,JQ h1,h2⟩
theorem rdLlW (vs:List AVal) (h:(Sh.sl (.sl (.int .i64))).rd vs):∃l:List (List Int),(∀m∈l,wide m)/\(Sh.sl (.sl (.int .i64))).wrap vs=eLl l:=by
 obtain⟨l,-,h2,rfl⟩:=Eo V6 h
 exact⟨l,h2,rfl⟩
theorem rdSy (vs:List AVal) (h:shSy.rd vs):∃s:DSym,shSy.wrap vs=IK s:=by
 simp only[Sh.rd.eq_5,Sh.rdL]at h
 obtain⟨_,_,rfl,⟨nm,rfl,h1⟩,_,_,rfl,⟨v,rfl,_⟩,rfl⟩:=h
 exact⟨⟨nm,v⟩,rfl⟩
theorem rdRg (vs:List AVal) (h:shRg.rd vs):∃r:DReg,(∀l∈r.ls,wide l)/\shRg.wrap vs=GT r:=by
 simp only[Sh.rd.eq_5,Sh.rdL]at h
 obtain⟨_,_,rfl,⟨nm,rfl,h1⟩,_,_,rfl,h2,rfl⟩:=h
 obtain⟨ls,-,l2,rfl⟩:=Eo V6 h2
 exact⟨⟨nm,ls⟩,l2,rfl⟩
theorem rdCl (vs:List AVal) (h:shCl.rd vs):∃c:DClu,shCl.wrap vs=B1 c:=by
 simp only[Sh.rd.eq_5,Sh.rdL]at h
 obtain⟨_,_,rfl,⟨nm,rfl,h1⟩,_,_,rfl,⟨on,rfl,h2⟩,_,_,rfl,⟨a,rfl,_⟩,_,_,rfl,⟨b,rfl,_⟩,_,_,rfl,⟨c,rfl,_⟩,_,_,rfl,⟨d,rfl,_⟩,rfl⟩:=h
 exact⟨⟨nm,on,a,b,c,d⟩,rfl⟩
theorem rdRu (vs:List AVal) (h:shRu.rd vs):∃r:DRul,(wide r.ns/\wide r.os)/\shRu.wrap vs=Bl r:=by
 simp only[Sh.rd.eq_5,Sh.rdL]at h
 obtain⟨_,_,rfl,⟨nm,rfl,h1⟩,_,_,rfl,⟨on,rfl,h2⟩,_,_,rfl,⟨k,rfl,_⟩,_,_,rfl,⟨f,rfl,_⟩,_,_,rfl,h3,_,_,rfl,h4,_,_,rfl,⟨set,rfl,_⟩,_,_,rfl,⟨oth,rfl,_⟩,_,_,rfl,⟨op,rfl,_⟩,_,_,rfl,⟨n,rfl,_⟩,_,_,rfl,⟨b,rfl,h5⟩,_,_,rfl,⟨c,rfl,_⟩,rfl⟩:=h
 obtain⟨ns,n1,n2,rfl⟩:=Eo rdS' h3
 obtain⟨os,o1,o2,rfl⟩:=Eo rdS' h4
 exact⟨⟨nm,on,k,f,ns,os,set,oth,op,n,b,c⟩,⟨JQ n1,JQ o1⟩,rfl⟩
theorem rdD (vs:List AVal) (h:shD.rd vs):∃d:Dcl,((∀r∈d.regs,∀l∈r.ls,wide l)/\∀r∈d.ruls,wide r.ns/\wide r.os)/\vs=AK d:=by
 simp only[Sh.rd.eq_5,Sh.rdL]at h
 obtain⟨_,_,rfl,⟨nm,rfl,h1⟩,_,_,rfl,⟨v,rfl,_⟩,_,_,rfl,⟨sh,rfl,_⟩,_,_,rfl,⟨w,rfl,_⟩,_,_,rfl,⟨hh,rfl,_⟩,_,_,rfl,h2,_,_,rfl,h3,_,_,rfl,h4,_,_,rfl,h5,_,_,rfl,h6,rfl⟩:=h
 obtain⟨ho,rfl⟩:=rdM0 rdI0 h2
 obtain⟨sy,rfl⟩:=rdM0 rdSy h3
 obtain⟨rg,-,c2,rfl⟩:=Eo rdRg h4
 obtain⟨cl,rfl⟩:=rdM0 rdCl h5
 obtain⟨ru,-,e2,rfl⟩:=Eo rdRu h6
 exact⟨⟨nm,v,sh,w,hh,ho,sy,rg,cl,ru⟩,⟨c2,e2⟩,rfl⟩
theorem rdGr (vs:List AVal) (h:shGr.rd vs):∃g:Grd,vs=AD g.sh g.w g.h g.holes g.cells:=by
 simp only[Sh.rd.eq_5,Sh.rdL]at h
 obtain⟨_,_,rfl,⟨sh,rfl,_⟩,_,_,rfl,⟨w,rfl,_⟩,_,_,rfl,⟨hh,rfl,_⟩,_,_,rfl,h2,_,_,rfl,h3,rfl⟩:=h
 obtain⟨ho,rfl⟩:=rdM0 rdI0 h2
 obtain⟨ce,rfl⟩:=rdM0 rdI0 h3
 exact⟨⟨sh,w,hh,ho,ce⟩,rfl⟩
theorem rdKn (vs:List AVal) (h:shKn.rd vs):∃k:Knd,WdK k/\shKn.wrap vs=BF k:=by
 rw[Sh.rd.eq_5]at h
 simp only[Sh.rdL]at h
 obtain⟨_,_,rfl,h1,_,_,rfl,h2,_,_,rfl,h3,_,_,rfl,h4,rfl⟩:=h
 obtain⟨d,⟨w1,w2⟩,rfl⟩:=rdD _ h1
 obtain⟨g,rfl⟩:=rdGr _ h2
 obtain⟨nb,-,w3,rfl⟩:=Eo V6 h3
 obtain⟨ls,-,w4,rfl⟩:=Eo rdLlW h4
 exact⟨⟨d,g,nb,ls⟩,⟨w1,w2,w3,w4⟩,rfl⟩
theorem rdQ (vs:List AVal) (h:shQ.rd vs):∃q:Cnd,shQ.wrap vs=encQ q:=by
 simp only[Sh.rd.eq_5,Sh.rdL]at h
 obtain⟨_,_,rfl,⟨k,rfl,_⟩,_,_,rfl,h1,_,_,rfl,h2,_,_,rfl,⟨n,rfl,_⟩,rfl⟩:=h
 obtain⟨cs,rfl⟩:=rdM0 rdI0 h1
 obtain⟨ls,rfl⟩:=rdM0 rdI0 h2
 exact⟨⟨k,cs,ls,n⟩,rfl⟩
theorem rdMm (vs:List AVal) (h:shM.rd vs):∃p:Prm,shM.wrap vs=encM p:=by
 simp only[Sh.rd.eq_5,Sh.rdL]at h
 obtain⟨_,_,rfl,⟨c,rfl,_⟩,_,_,rfl,h1,rfl⟩:=h
 obtain⟨ls,rfl⟩:=rdM0 rdI0 h1
 exact⟨⟨c,ls⟩,rfl⟩
theorem rdX (vs:List AVal) (h:shX.rd vs):∃x:Lma,shX.wrap vs=encL x:=by
 simp only[Sh.rd.eq_5,Sh.rdL]at h
 obtain⟨_,_,rfl,⟨nm,rfl,_⟩,_,_,rfl,⟨lv,rfl,_⟩,_,_,rfl,h1,_,_,rfl,h2,_,_,rfl,h3,_,_,rfl,h4,_,_,rfl,⟨c,rfl,_⟩,_,_,rfl,⟨l,rfl,_⟩,rfl⟩:=h
 obtain⟨cs,rfl⟩:=rdM0 rdS0 h1
 obtain⟨ls,rfl⟩:=rdM0 rdS0 h2
 obtain⟨qs,rfl⟩:=rdM0 rdQ h3
 obtain⟨ps,rfl⟩:=rdM0 rdMm h4
 exact⟨⟨nm,lv,cs,ls,qs,ps,c,l⟩,rfl⟩
theorem rdCa (vs:List AVal) (h:shCa.rd vs):∃c:Cas,shCa.wrap vs=encC c:=by
 simp only[Sh.rd.eq_5,Sh.rdL]at h
 obtain⟨_,_,rfl,⟨k,rfl,_⟩,_,_,rfl,⟨a,rfl,_⟩,rfl⟩:=h
 exact⟨⟨k,a⟩,rfl⟩
theorem rdCs (vs:List AVal) (h:(Sh.sl shCa).rd vs):∃l:List Cas,(Sh.sl shCa).wrap vs=eCs l:=by
 obtain⟨l,rfl⟩:=rdM0 rdCa h
 exact⟨l,rfl⟩
theorem rdPf (vs:List AVal) (h:shPf.rd vs):∃p:List (List Cas),shPf.wrap vs=BY p:=by
 simp only[Sh.rd.eq_5,Sh.rdL]at h
 obtain⟨_,_,rfl,h1,rfl⟩:=h
 obtain⟨p,rfl⟩:=rdM0 rdCs h1
 exact⟨p,rfl⟩
theorem rdLb (vs:List AVal) (h:shLb.rd vs):∃l:Lbr,shLb.wrap vs=C0 l:=by
 rw[Sh.rd.eq_5]at h
 simp only[Sh.rdL]at h
 obtain⟨_,_,rfl,h1,_,_,rfl,h2,rfl⟩:=h
 obtain⟨ls,rfl⟩:=rdM0 rdX h1
 obtain⟨pf,rfl⟩:=rdM0 rdPf h2
 exact⟨⟨ls,pf⟩,rfl⟩
theorem V7 {av:List AVal} (h:Sh.rdA [shKn,shLb,shX,.int .i64] av):∃(k:Knd) (l:Lbr) (x:Lma) (n:Int),WdK k/\av=[BF k,C0 l,encL x,.int .i64 n]:=by
 simp only[Sh.rdA]at h
 obtain⟨_,_,rfl,h1,_,_,rfl,h2,_,_,rfl,h3,_,_,rfl,⟨n,rfl,_⟩,rfl⟩:=h
 obtain⟨k,hk,e1⟩:=rdKn _ h1
 obtain⟨l,e2⟩:=rdLb _ h2
 obtain⟨x,e3⟩:=rdX _ h3
 exact⟨k,l,x,n,hk,by rw[e1,e2,e3];rfl⟩
end Go.AM
