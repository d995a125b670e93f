/-
  Parts of the proof. Conditions: none.
-/
import Derived.Test.YtabcmhkkohbdeaaGreatB16
import Derived.Test.YtabcmhkkohbdeaaGreatRows
import Derived.LaidLaws
set_option maxRecDepth 20000
set_option linter.all false
set_option maxHeartbeats 1000000
namespace Go.AM
open Go.Lib Go.Proofs Go.Proofs.Tryz
section
def dk0:xk:=⟨[112,97,105,114],1,1,2,1,[],[⟨[97],0⟩,⟨[98],1⟩],[],[],[⟨[114],[],6,0,[],[],0,0,0,0,[],-1⟩]⟩
def k0:zx:=⟨dk0,⟨1,2,1,[],[0,1]⟩,[[1],[0]],[[[0],[1]],[[0,1]],[[0],[1]],[],[[1],[0]],[[0,1],[0,1]],[[0,1]],[[0,1]]]⟩
theorem hkd:k0.d=dk0:=rfl
def x0:zy:=⟨[115,105,110,103,108,101],1,[[112],[113]],[[120]],[⟨1,[0,1],[],0⟩],[⟨0,[0]⟩],1,0⟩
def R5:zy:=⟨[115,105,110,103,108,101],1,[[112],[113]],[[120]],[],[],1,0⟩
def jS:zy:=⟨[115,105,110,103,108,101],1,[[112],[113]],[[120],[121],[122]],[],[],1,0⟩
def nG:zy:=⟨[111,116,104,101,114],1,[[112],[113]],[[120]],[⟨1,[0,1],[],0⟩],[⟨0,[0]⟩],1,0⟩
def nH:List x9:=[⟨1,0⟩,⟨2,0⟩]
def p0:List (List x9):=[nH,nH]
def la0:List Int:=[0]
def lb0:List Int:=[0,0]
def Zn:Lbr:=⟨[],[]⟩
def W0:Lbr:=⟨[x0],[p0]⟩
def lib2:Lbr:=⟨[],[p0]⟩
def pe0:List (List x9):=[]
def nI:zk k0.d:=by
 rw[hkd];exact⟨zd,zd,zd,λr hr=>(by cases hr),zd,zd,λr hr=>by rw[sZ.1 hr];exact⟨zd,zd⟩⟩
def fx0:xw x0:=⟨zd,zd,zd,zd,λq hq=>by rw[sZ.1 hq];exact⟨zd,zd⟩,λp hp=>by rw[sZ.1 hp];decide⟩
def fb0:xw R5:=⟨zd,zd,zd,zd,λq hq=>(by cases hq),λp hp=>(by cases hp)⟩
def fo0:xw nG:=⟨zd,zd,zd,zd,λq hq=>by rw[sZ.1 hq];exact⟨zd,zd⟩,λp hp=>by rw[sZ.1 hp];decide⟩
def fp0:DU p0:=⟨zd,λl hl=>by
 have:l=nH:=by simpa [p0]using hl
 rw[this];decide⟩
def fpe:DU pe0:=⟨zd,λl hl=>(by cases hl)⟩
def z1:JL k0 x0= .tup [Bn p0,.int .i64 0]:=by kernel_rfl
def z2:Ea k0 x0= .tup [.sl .nil [],.sl .nil [],.bool false,.int .i64 0]:=by kernel_rfl
def z3:Ea k0 R5= .tup [Am la0,Am lb0,.bool true,.int .i64 0]:=by kernel_rfl
def z4:JL k0 R5= .tup [Tj,.int .i64 320]:=by kernel_rfl
def z5:JL k0 jS= .tup [Bn pe0,.int .i64 0]:=by kernel_rfl
def z6:DD k0 Zn x0 p0= .tup [Ca W0,.int .i64 0]:=by kernel_rfl
def z7:DD k0 W0 x0 p0= .tup [Tk,.int .i64 161]:=by kernel_rfl
def fl0:FewB Zn:=⟨zd,zd,λx h=>(by cases h),λp h=>(by cases h)⟩
structure WdK(k:zx):Prop where
 rg:∀r∈k.d.regs,∀l∈r.ls,wide l
 ru:∀r∈k.d.ruls,wide r.ns/\wide r.os
 nb:∀l∈k.nb,wide l
 ls:∀l∈k.ls,∀m∈l,wide m
variable {k:zx}
theorem nJ(h:QJ k=true)(hw:WdK k):RfK k:=by
 unfold QJ VD at h;simp only[rl,tq,tv,sR,sg,rn]at h;obtain⟨⟨⟨⟨⟨⟨⟨⟨⟨⟨h1,h2⟩,h3⟩,h4⟩,h5⟩,h6⟩,h7⟩,h8⟩,h9⟩,hl⟩,hr⟩:=h;have hD:zk k.d:=⟨show k.d.holes.length<_ by omega,show k.d.syms.length<_ by omega,show k.d.regs.length<_ by omega,λr hm=>⟨show r.ls.length<_ by have:=hr r hm;omega,hw.rg r hm⟩,show k.d.clus.length<_ by omega,show k.d.ruls.length<_ by omega,hw.ru⟩;exact⟨⟨hD,show k.g.holes.length<_ by omega,show k.g.cells.length<_ by omega,⟨show k.nb.length<_ by omega,hw.nb⟩,show k.ls.length<_ by omega,λl hm=>⟨show l.length<_ by have:=hl l hm;omega,hw.ls l hm⟩⟩,zo⟩
inductive PrEnd(k:zx)(x:zy):Prop
 |bad (e:Int):e=180\/e=300->BT k x=e->JL k x= .tup [Tj,.int .i64 e]->Ea k x= .tup [.sl .nil [],.sl .nil [],.bool false,.int .i64 e]->PrEnd k x
 |no (q:List Int×List Int):BT k x=0->OKL x->BM k=0->JL k x= .tup [Tj,.int .i64 320]->Ea k x= .tup [Am q.1,Am q.2,.bool true,.int .i64 0]->Ut (AW k) x=false->q.1∈Gs k.d.syms.length x.ls.length->Refutes (AW k) x q.1 q.2->PrEnd k x
 |many:BT k x=0->OKL x->BM k=0->JL k x= .tup [Tj,.int .i64 2]->Ea k x= .tup [.sl .nil [],.sl .nil [],.bool false,.int .i64 0]->Ut (AW k) x=true->PrEnd k x
 |ok (ts:List (List x9)):BT k x=0->OKL x->BM k=0->JL k x= .tup [Bn ts,.int .i64 0]->Ea k x= .tup [.sl .nil [],.sl .nil [],.bool false,.int .i64 0]->Ut (AW k) x=true->Dt (AW k) x ts=true->La ts<=65536->ts.length=(Gs k.d.syms.length x.ls.length).length->PrEnd k x
theorem PP(k:zx)(x:zy)(p:List (List x9)):∀(a:List zy) (b:List (List (List x9))) (prev:List zy),a.length=b.length->Ff k prev a b=0->Gt x=0->Es (prev++a) x.nm=false->Dq k x p=true->Ff k prev (a++[x]) (b++[p])=0
 |[],[],prev,_,_,h2,h3,h4=>by
  rw[sE]at h3;show Ff k prev [x] [p]=0;rw[Ff,rj (by simpa using h2),h3,h4,rj zd,rj zd,Kx]
 |[],b::bs,prev,h,_,_,_,_=>by simp at h
 |a::r,[],prev,h,_,_,_,_=>by simp at h
 |a::r,b::bs,prev,h,h1,h2,h3,h4=>by
  rw[si,si,Ff];rw[Ff]at h1;split at h1
  ·rename_i q;exact absurd h1 q
  ·rename_i q1;rw[rj q1];split at h1
   ·cases h1
   ·rename_i q2;rw[rj q2];split at h1
    ·cases h1
    ·rename_i q3;rw[rj q3];exact PP k x p r bs (prev++[a]) (by simpa using h) h1 h2 (by rw[sJ];exact h3) h4
theorem R6{l:Lbr}{x:zy}{p:List (List x9)}(h:Cg k l x p=0):Co k ⟨l.ls++[x],l.pf++[p]⟩=0/\l.pf.length=l.ls.length/\l.ls.length<16:=by
 unfold Cg at h;split at h
 ·rename_i q;exact absurd h q
 rename_i h1;split at h
 ·rename_i q;exact absurd h q
 rename_i h2;split at h
 ·cases h
 rename_i h3;split at h
 ·cases h
 rename_i h4;split at h
 ·cases h
 rename_i h5;have h1':Co k l=0:=by simpa using h1
 have h2':Gt x=0:=by simpa using h2
 unfold Co at h1';split at h1'
 ·rename_i q;exact absurd h1' q
 rename_i g1;split at h1'
 ·cases h1'
 rename_i g2;split at h1'
 ·cases h1'
 rename_i g3;have g3':l.pf.length=l.ls.length:=by simpa using g3
 refine⟨?_,g3',zo⟩;unfold Co;rw[rj g1,rj (by simp only[sm,sC,tn];omega),rj (by simp only[sm,sC,tn];omega)];exact PP k x p l.ls l.pf [] g3'.symm h1' h2' (by rw[sj];simpa using h4) (by simpa using h5)
end
end Go.AM
namespace Go.AM
open Go.Proofs Go.Proofs.Tryz
mutual
def Vk:Fs->Fs
 | .sl .nil []=>.sl .nil []
 | .sl t l=>.sl (.none t.esz) (strips l)
 | .agg l=>.agg (strips l)
 | .tup l=>.tup (strips l)
 |v=>v
def strips:List Fs->List Fs
 |[]=>[]
 |v::r=>Vk v::strips r
end
mutual
theorem R7:∀v:Fs,Wk v (Vk v)
 | .sl .nil []=>Wk.refl _
 | .sl .nil (a::l)=>Wk.slx (.inl rfl) (strips_wk (a::l))
 | .sl (.none e) l=>Wk.slx (.inl rfl) (strips_wk l)
 | .sl (.exact e) l=>Wk.slx (.inl rfl) (strips_wk l)
 | .sl (.own i e) l=>Wk.slx (.inl rfl) (strips_wk l)
 | .agg l=>Wk.agg (strips_wk l)
 | .tup l=>Wk.tup (strips_wk l)
 | .int .. | .bool _| .str _| .nilp| .nilfn| .nilifc| .nilmp| .ptr .. | .ep _| .gp _| .ref .. | .ap .. | .fn .. | .ifc .. | .mp _| .up=>Wk.refl _
theorem strips_wk:∀l:List Fs,Wks l (strips l)
 |[]=>.nil
 |a::l=>.cons (R7 a) (strips_wk l)
end
mutual
def wkB:Fs->Fs->Bool
 | .sl .nil [],.sl .nil []=>true
 | .sl t l,.sl (.none e) m=>(decide (t.esz=e)||l.isEmpty)&&wksB l m
 | .agg l,.agg m=>wksB l m
 | .tup l,.tup m=>wksB l m
 | .int k n,.int k' n'=>decide (k=k')&&decide (n=n')
 | .bool b,.bool b'=>b==b'
 | .str s,.str s'=>decide (s=s')
 |_,_=>false
def wksB:List Fs->List Fs->Bool
 |[],[]=>true
 |a::l,b::m=>wkB a b&&wksB l m
 |_,_=>false
end
mutual
theorem Zo:∀(a b:Fs),wkB a b=true->Wk a b/\b.under 0
 |a,b,h=>by
  unfold wkB at h
  split at h
  ·exact⟨Wk.refl _,zt,zt⟩
  ·rename_i t l e m _
   simp only[rl,sA,rn,List.isEmpty_iff]at h
   have k:=wksB_ok _ _ h.2
   exact⟨Wk.slx h.1 k.1,zt,k.2⟩
  ·have k:=wksB_ok _ _ h
   exact⟨Wk.agg k.1,k.2⟩
  ·have k:=wksB_ok _ _ h
   exact⟨Wk.tup k.1,k.2⟩
  ·simp only[rl,rn]at h
   obtain⟨rfl,rfl⟩:=h
   exact⟨Wk.refl _,zt⟩
  ·rw[eq_of_beq h]
   exact⟨Wk.refl _,zt⟩
  ·rw[rn]at h
   subst h
   exact⟨Wk.refl _,zt⟩
  ·cases h
theorem wksB_ok:∀(a b:List Fs),wksB a b=true->Wks a b/\unders 0 b
 |[],[],_=>⟨.nil,zt⟩
 |a::l,b::m,h=>by
  simp only[wksB,rl]at h
  have k:=Zo _ _ h.1
  have k':=wksB_ok _ _ h.2
  exact⟨.cons k.1 k'.1,k.2,k'.2⟩
 |[],_::_,h=>by simp [wksB]at h
 |_::_,[],h=>by simp [wksB]at h
end
abbrev Ch(p:Prop):={b:Bool//b=true->p}
def dc{p:Prop}[Decidable p]:Ch p:=⟨decide p,t5⟩
def no{p:Prop}:Ch p:=⟨false,λh=>by cases h⟩
def ca{p q:Prop}(a:Ch p)(b:Ch q):Ch (p/\q):=⟨a.1&&b.1,λh=>by rw[rl]at h;exact⟨a.2 h.1,b.2 h.2⟩⟩
def cm{p q:Prop}(h:p->q)(a:Ch p):Ch q:=⟨a.1,λe=>h (a.2 e)⟩
section
variable {k:IntKind} {v:Fs} {H:AB} {s:AS}
instance :Decidable (J2 k v):=by cases v<;>(unfold J2;infer_instance)
instance :Decidable (C8 v):=by cases v<;>(unfold C8;infer_instance)
instance :Decidable (J3 v):=by cases v<;>(unfold J3;infer_instance)
instance :Decidable (JP v):=by cases v<;>(unfold JP;infer_instance)
instance :Decidable (W6 v):=by cases v<;>(unfold W6;infer_instance)
instance :Decidable (nT v):=by cases v<;>(unfold nT;infer_instance)
instance {n b:Nat}:Decidable (Al n b):=by unfold Al;infer_instance
instance {ρ:zz->Fs} {x:Option zz}:Decidable (Cs ρ x):=by cases x<;>(unfold Cs;infer_instance)
instance {α:Type} {o:Option α}:Decidable (o=none):=match o with
 |none=>isTrue rfl
 |some _=>isFalse (λh=>by cases h)
instance {t:w8}:Decidable (t= .nil):=by cases t<;>first|exact isTrue rfl|exact isFalse (λh=>by cases h)
instance {b:Nat}:Decidable (G1 b v):=by cases v<;>(unfold G1;infer_instance)
instance {b:Nat}:Decidable (JB b v):=by cases v<;>(unfold JB;infer_instance)
instance {b:Nat}:Decidable (EW b v):=by cases v<;>(unfold EW;infer_instance)
instance :Decidable (fA v):=by cases v<;>(unfold fA;infer_instance)
instance {base k id:Nat} {cx:Nat->Fs}:Decidable (RN base cx k id):=by unfold RN;infer_instance
instance {base k:Nat} {cx:Nat->Fs}:Decidable (PW base cx k v):=by cases v<;>(unfold PW;infer_instance)
def eR:∀(f:List Nat) (x y:List Fs),Ch (EB f x y)
 |[],[],[]=>⟨true,λ_=>zt⟩
 |0::fs,.int k _::xs,.int k' _::ys=>ca (p:=k=k') dc (eR fs xs ys)
 |1::fs,.bool _::xs,.bool _::ys=>eR fs xs ys
 |2::fs,.str _::xs,.str _::ys=>eR fs xs ys
 |_,_,_=>no
def ldC(sz:Nat)(ag:Bool):∀v,Ch (A7 H sz ag v).1
 | .ptr id off=>by
  unfold A7
  try dsimp only
  cases AD H id with
  |none=>exact no
  |some o=>cases o<;>first|exact dc|exact no
 | .ap id e i off=>by
  unfold A7
  try dsimp only
  cases AD H id with
  |none=>exact no
  |some o=>cases o<;>first|exact dc|exact no
 | .ep cs=>dc (p:=sz<=cs.length)
 |_=>no
def mxC{ρ:zz->Fs}{a n:Int}:∀(mx:Option zz),Ch (∀m,mx=some m->a<=A9 (ρ m)/\A9 (ρ m)<=n)
 |none=>⟨true,λ_ _ h=>by cases h⟩
 |some x=>cm (p:=a<=A9 (ρ x)/\A9 (ρ x)<=n) (λh m e=>by cases e;exact h) dc
def okv(H:AB)(ρ:zz->Fs)(k:xx):Ch (Bb H ρ k).1:=by
 cases k<;>dsimp only[Bb]
 case ld=>exact ldC _ _ _
 case aeq n fs x y=>
  generalize ρ x=v,ρ y=u
  cases v with
  |agg xs=>cases u with
   |agg ys=>exact eR _ _ _
   |_=>exact no
  |_=>exact no
 case sl esz x lo hi mx=>
  generalize ρ x=v
  cases v with
  |sl t l=>exact ca dc (ca dc (ca dc (ca dc (ca dc (ca dc (ca dc (ca dc (mxC mx))))))))
  |ref id e off len cap=>cases mx<;>(dsimp only[Gh];exact dc)
  |_=>exact no
 case b2s=>exact no
 case mnmx xs=>exact ca dc ⟨!xs.isEmpty,λh e=>by rw[e]at h;cases h⟩
 case build=>unfold evB;exact dc
 case bs=>unfold evS;exact dc
 case nilc x=>
  generalize ρ x=v
  cases v<;>first|exact dc|(rename_i f _ _;cases f<;>exact dc)
 case fa x=>generalize ρ x=v;cases v<;>exact dc
 case fld x=>generalize ρ x=v;cases v<;>exact dc
 case ia x i=>generalize ρ x=v;cases v<;>exact dc
 case iaA x i=>generalize ρ x=v;cases v<;>exact dc
 case ixA x i=>generalize ρ x=v;cases v<;>exact dc
 case len x=>generalize ρ x=v;cases v<;>exact dc
 case ext x=>generalize ρ x=v;cases v<;>exact dc
 all_goals exact dc
instance {t:w8} {e:Nat}:Decidable (BH H e t):=by
 cases t with
 |own id e'=>
  show Decidable (e'=e/\AD H id=some .tok)
  cases AD H id with
  |none=>exact isFalse zw
  |some o=>cases o with
   |tok=>exact decidable_of_iff (e'=e) ⟨λh=>⟨h,rfl⟩,λh=>h.1⟩
   |_=>exact isFalse zw
 |_=>unfold BH;infer_instance
def asC{old:Fs}{off sz esz:Nat}{v:Fs}:Ch (Do old off sz esz v).1:=
 if h:off=0/\sz=esz then⟨true,λ_=>by unfold Do;rw[rt h];trivial⟩else match old with
  | .agg cs=>⟨decide (cs.length=esz/\off+sz<=esz),λe=>by unfold Do;rw[rj h];exact t5 e⟩
  |_=>no
def stC(sz:Nat)(v:Fs):∀a,Ch (Qr H sz v a).1
 | .ptr id off=>by
  unfold Qr
  try dsimp only
  cases AD H id with
  |none=>exact no
  |some o=>cases o<;>first|exact dc|exact no
 | .ap id e i off=>by
  unfold Qr
  dsimp only
  cases AD H id with
  |none=>exact no
  |some o=>cases o with
   |arr e' l=>exact ca dc (ca dc asC)
   |_=>exact no
 |_=>no
def apC(id esz b:Nat)(v:Fs)(x:Option (List Fs)):Ch (IN H id esz b v x).1:=by
 unfold IN
 cases v with
 |sl t l=>cases x with
  |none=>exact no
  |some l'=>exact dc
 |_=>exact no
def slC(n:Nat)(lo hi:Int):∀v,Ch (JZ H n lo hi v).1
 | .ptr id 0=>by
  cases h:AD H id with
  |none=>exact no
  |some o=>cases o with
   |box cs=>exact cm (p:=cs.length=n/\0<=lo/\lo<=hi/\hi<=n/\lo<n) (λq=>by simp only[JZ,h];exact q) dc
   |arr e cs=>exact cm (p:=e=1/\cs.length=n/\0<=lo/\lo<=hi/\hi<=n/\lo<n) (λq=>by simp only[JZ,h];exact q) dc
   |_=>exact no
 |_=>no
def eS(n e:Nat)(lo hi:Int):∀v,Ch (JQ H n e lo hi v).1
 | .ptr id 0=>by
  cases h:AD H id with
  |none=>exact no
  |some o=>cases o with
   |box cs=>exact cm (p:=cs.length=n*e/\0<=lo/\lo<=hi/\hi<=n/\lo<n) (λq=>by simp only[JQ,h];exact q) dc
   |arr e' cs=>exact cm (p:=e'=e/\cs.length=n/\0<=lo/\lo<=hi/\hi<=n/\lo<n) (λq=>by simp only[JQ,h];exact q) dc
   |_=>exact no
 |_=>no
def isC(k:IntKind):∀n l,Ch (OW k n l)
 |0,[]=>⟨true,λ_=>zt⟩
 |n+1,.int k' _::r=>ca (p:=k'=k) dc (isC k n r)
 |_,_=>no
def ktC:∀(t:KT) v,Ch (t.is v)
 | .int k,.int k' _=>dc (p:=k'=k)
 | .bool,.bool _=>⟨true,λ_=>zt⟩
 | .str,.str _=>⟨true,λ_=>zt⟩
 | .arr n k,.agg xs=>isC k n xs
 |_,_=>no
def mfC(t:KT):∀es,Ch (EM t es)
 |[]=>⟨true,λ_=>zt⟩
 |(k,_,_)::r=>ca (ktC t k) (mfC t r)
def bmC(e n:Nat):∀is vs,Ch (W8 e n is vs)
 |[],[]=>⟨true,λ_=>zt⟩
 |i::is,v::vs=>ca (p:=nT v) dc (ca (p:=v.cells.length=e) dc (ca (p:=i<n) dc (bmC e n is vs)))
 |_,_=>no
def xC(b:Nat):∀x l,Ch (xE b x H l).1
 | .mkm rel,[]=>dc (p:=AD H (b+rel)=none)
 | .look kt z ok,[.nilmp,k]=>ktC kt k
 | .look kt z ok,[.mp id,k]=>by
  unfold xE
  dsimp only
  cases AD H id with
  |none=>exact no
  |some o=>cases o with
   |map es c=>exact ca (ktC _ _) (mfC _ _)
   |_=>exact no
 | .mput kt,[.mp id,k,v]=>by
  unfold xE
  dsimp only
  cases AD H id with
  |none=>exact no
  |some o=>cases o with
   |map es c=>exact ca (ktC _ _) (ca (mfC _ _) dc)
   |_=>exact no
 | .mlen,[.mp id]=>by
  unfold xE
  dsimp only
  cases AD H id with
  |none=>exact no
  |some o=>cases o<;>exact dc
 | .nileq 0 _,[.ifc _ _]| .nileq 0 _,[.nilifc]| .nileq 1 _,[.ptr _ _]| .nileq 1 _,[.nilp]| .nileq 1 _,[.ep _]| .nileq 2 _,[.fn _ _ _]| .nileq 2 _,[.nilfn]=>⟨true,λ_=>zt⟩
 | .tas _ true _,[.ifc _ _]| .tas _ true _,[.nilifc]| .i2s,[.int _ _]=>⟨true,λ_=>zt⟩
 | .tas t false _,[.ifc t' _]=>dc (p:=t'=t)
 | .srng rel,[.str _]=>dc (p:=AD H (b+rel)=none)
 | .slx n e false false,[v]=>eS n e 0 n v
 | .slx n e true false,[v,.int _ a]=>eS n e a n v
 | .slx n e false true,[v,.int _ c]=>eS n e 0 c v
 | .slx n e true true,[v,.int _ a,.int _ c]=>eS n e a c v
 | .bsm rel e n z is,vs=>by
  unfold xE
  exact ca dc (ca (bmC _ _ _ _) dc)
 | .cpy e str,[.ref id e1 off len cap,y]=>by
  unfold xE
  dsimp only
  cases AD H id with
  |none=>exact no
  |some o=>cases o with
   |arr e' l=>cases W7 H e y str with
    |none=>exact no
    |some l'=>exact dc
   |_=>exact no
 |_,_=>no
def fzC(t:Nat):Ch (LH s t).1:=by
 unfold LH
 cases BI s.env t with
 |none=>exact no
 |some p=>
  obtain⟨g,v⟩:=p
  cases g with
  |false=>exact no
  |true=>cases v with
   |ref id e off len cap=>
    dsimp only
    cases AD s.H id with
    |none=>exact no
    |some o=>cases o<;>first|exact dc|exact no
   |_=>exact no
def foC(t:Nat):Ch (Hl s t).1:=by
 unfold Hl
 cases BI s.env t with
 |none=>exact no
 |some p=>
  obtain⟨g,v⟩:=p
  cases g with
  |false=>exact no
  |true=>cases v with
   |ref id e off len cap=>
    dsimp only
    cases AD s.H id with
    |none=>exact no
    |some o=>cases o<;>first|exact dc|exact no
   |sl t l=>exact⟨true,λ_=>zt⟩
   |_=>exact no
def sdC(base:Nat)(cx:Nat->Fs)(ρ:zz->Fs):∀f k,Ch (Bp base cx ρ f k)
 |0,_=>⟨true,λ_=>zt⟩
 |1,.v (.ld _ _ a)=>dc (p:=G1 base (ρ a))
 |2,.st _ a _=>dc (p:=JB base (ρ a))
 |2,.v (.ld _ _ a)=>dc (p:=fA (ρ a))
 |k+3,.v (.ld _ _ a)=>dc (p:=PW base cx k (ρ a))
 |k+3,.st _ a _=>dc (p:=PW base cx k (ρ a))
 |k+3,.call false _ _=>dc (p:=300000<=k/\k % 2=0)
 |_,_=>no
mutual
def uB:Fs->Bool
 | .int _ _| .bool _| .str _| .nilp| .nilfn| .nilifc| .nilmp=>true
 | .sl .nil l| .sl (.none _) l| .sl (.exact _) l=>uBs l
 | .agg l| .tup l| .ep l=>uBs l
 | .fn _ a b=>uBs a&&uBs b
 |_=>false
def uBs:List Fs->Bool
 |[]=>true
 |a::l=>uB a&&uBs l
end
mutual
theorem Zp:∀v:Fs,uB v=true->v.under 0
 | .int _ _,_| .bool _,_| .str _,_| .nilp,_| .nilfn,_| .nilifc,_| .nilmp,_=>trivial
 | .sl .nil l,h| .sl (.none _) l,h| .sl (.exact _) l,h=>⟨zt,uBs_ok l h⟩
 | .agg l,h| .tup l,h| .ep l,h=>uBs_ok l h
 | .fn _ a b,h=>by
  have h:(uBs a&&uBs b)=true:=h
  rw[rl]at h
  exact⟨uBs_ok a h.1,uBs_ok b h.2⟩
 | .ptr ..,h| .gp _,h| .sl (.own ..) _,h| .ref ..,h| .ap ..,h| .ifc ..,h| .mp _,h| .up,h=>by cases h
theorem uBs_ok:∀l:List Fs,uBs l=true->unders 0 l
 |[],_=>trivial
 |a::l,h=>by
  have h:(uB a&&uBs l)=true:=h
  rw[rl]at h
  exact⟨Zp a h.1,uBs_ok l h.2⟩
end
mutual
def flB:Fs->Bool
 | .int _ _| .bool _| .str _=>true
 | .agg l| .tup l=>flBs l
 |_=>false
def flBs:List Fs->Bool
 |[]=>true
 |a::l=>flB a&&flBs l
end
mutual
theorem Zq:∀v:Fs,flB v=true->v.flat
 | .int _ _,_| .bool _,_| .str _,_=>trivial
 | .agg l,h| .tup l,h=>flBs_ok l h
 | .nilp,h| .nilfn,h| .nilifc,h| .nilmp,h| .ep _,h| .fn ..,h| .sl ..,h| .ptr ..,h| .gp _,h| .ref ..,h| .ap ..,h| .ifc ..,h| .mp _,h| .up,h=>by cases h
theorem flBs_ok:∀l:List Fs,flBs l=true->flats l
 |[],_=>trivial
 |a::l,h=>by
  have h:(flB a&&flBs l)=true:=h
  rw[rl]at h
  exact⟨Zq a h.1,flBs_ok l h.2⟩
end
mutual
def vw0(H:AB):Fs->Fs
 | .ref id e off len cap=>match AD H id with
  |some (.arr _ l)=>.sl (.none e) ((l.drop off).take len)
  |_=>.tup []
 | .agg l=>.agg (vws0 H l)
 | .sl (.own _ e) l=>.sl (.none e) l
 |v=>v
def vws0(H:AB):List Fs->List Fs
 |[]=>[]
 |a::l=>vw0 H a::vws0 H l
end
mutual
def vw(H:AB):Fs->Fs
 | .ptr id off=>match AD H id with
  |some (.box cs)=>.ep (vws0 H (cs.drop off))
  |_=>.tup []
 | .agg l=>.agg (vws H l)
 | .fn f a b=>.fn f (vws H a) (vws H b)
 |v=>vw0 H v
def vws(H:AB):List Fs->List Fs
 |[]=>[]
 |a::l=>vw H a::vws H l
end
mutual
def vB0(H:AB):Fs->Bool
 | .ref id e off len cap=>match AD H id with
  |some (.arr e' l)=>decide (e'=e)&&(decide (off+len<=l.length)&&decide (len<=cap))
  |_=>false
 | .agg l=>vBs0 H l
 |_=>true
def vBs0(H:AB):List Fs->Bool
 |[]=>true
 |a::l=>vB0 H a&&vBs0 H l
end
mutual
theorem Tr{H:AB}:∀v,vB0 H v=true->View H (vw0 H v) v
 | .ref id e off len cap,h=>by
  unfold vB0 at h
  split at h
  ·rename_i q
   simp only[rl,rn]at h
   simp only[vw0,q]
   exact .ref (by rw[q,h.1]) h.2.1 h.2.2
  ·cases h
 | .agg l,h=>.agg (vBs0_ok l h)
 | .sl (.own _ e) l,_=>.wk (Wk.sl (.inl rfl))
 | .int ..,_| .bool _,_| .str _,_| .nilp,_| .nilfn,_| .nilifc,_| .nilmp,_| .ep _,_| .gp _,_| .sl .nil _,_| .sl (.none _) _,_| .sl (.exact _) _,_| .tup _,_| .ap ..,_| .ifc ..,_| .mp _,_| .up,_| .ptr ..,_| .fn ..,_=>.wk (Wk.refl _)
theorem vBs0_ok{H:AB}:∀l:List Fs,vBs0 H l=true->Views H (vws0 H l) l
 |[],_=>.nil
 |a::l,h=>by
  have h:(vB0 H a&&vBs0 H l)=true:=h
  rw[rl]at h
  exact .cons (Tr a h.1) (vBs0_ok l h.2)
end
mutual
def vB(H:AB):Fs->Bool
 | .ptr id off=>match AD H id with
  |some (.box cs)=>vBs0 H (cs.drop off)
  |_=>false
 | .agg l=>vBs H l
 | .fn _ a b=>vBs H a&&vBs H b
 |v=>vB0 H v
def vBs(H:AB):List Fs->Bool
 |[]=>true
 |a::l=>vB H a&&vBs H l
end
mutual
theorem vB_ok{H:AB}:∀v,vB H v=true->View H (vw H v) v
 | .ptr id off,h=>by
  unfold vB at h
  split at h
  ·rename_i q
   simp only[vw,q]
   exact .pw q (vBs0_ok _ h)
  ·cases h
 | .agg l,h=>.agg (vBs_ok l h)
 | .fn f a b,h=>by
  have h:(vBs H a&&vBs H b)=true:=h
  rw[rl]at h
  exact .fn (vBs_ok a h.1) (vBs_ok b h.2)
 | .ref a b c d e,h=>Tr (.ref a b c d e) h
 | .sl t l,h=>Tr (.sl t l) h
 | .int ..,_| .bool _,_| .str _,_| .nilp,_| .nilfn,_| .nilifc,_| .nilmp,_| .ep _,_| .gp _,_| .tup _,_| .ap ..,_| .ifc ..,_| .mp _,_| .up,_=>.wk (Wk.refl _)
theorem vBs_ok{H:AB}:∀l:List Fs,vBs H l=true->Views H (vws H l) l
 |[],_=>.nil
 |a::l,h=>by
  have h:(vB H a&&vBs H l)=true:=h
  rw[rl]at h
  exact .cons (vB_ok a h.1) (vBs_ok l h.2)
end
mutual
def nB:Fs->Bool
 | .ref .. | .ptr .. =>false
 | .agg l=>nBs l
 | .fn _ [] []=>true
 | .fn .. =>false
 |_=>true
def nBs:List Fs->Bool
 |[]=>true
 |a::l=>nB a&&nBs l
end
mutual
theorem nB_ok{H:AB}:∀v,nB v=true->Wk v (vw H v)
 | .ref ..,h| .ptr ..,h| .fn _ (_::_) _,h| .fn _ [] (_::_),h=>by cases h
 | .agg l,h=>Wk.agg (nBs_ok l h)
 | .fn f [] [],_=>Wk.refl _
 | .sl (.own _ e) l,_=>Wk.sl (.inl rfl)
 | .int ..,_| .bool _,_| .str _,_| .nilp,_| .nilfn,_| .nilifc,_| .nilmp,_| .ep _,_| .gp _,_| .sl .nil _,_| .sl (.none _) _,_| .sl (.exact _) _,_| .tup _,_| .ap ..,_| .ifc ..,_| .mp _,_| .up,_=>Wk.refl _
theorem nBs_ok{H:AB}:∀l:List Fs,nBs l=true->Wks l (vws H l)
 |[],_=>.nil
 |a::l,h=>by
  have h:(nB a&&nBs l)=true:=h
  rw[rl]at h
  exact .cons (nB_ok a h.1) (nBs_ok l h.2)
end
end
def iI(k:IntKind):Fs->Bool
 | .int k' _=>decide (k'=k)
 |_=>false
def iN:Fs->Bool
 | .int _ _=>true
 |_=>false
def iB:Fs->Bool
 | .bool _=>true
 |_=>false
def iS:Fs->Bool
 | .str _=>true
 |_=>false
def iT:Fs->Bool
 | .tup _=>false
 |_=>true
def PQ{k:IntKind}{v:Fs}(h:iI k v=true):J2 k v:=by cases v<;>simp_all [iI,J2]
def iN_ok{v:Fs}(h:iN v=true):C8 v:=by cases v<;>simp_all [iN,C8]
def PR{v:Fs}(h:iB v=true):J3 v:=by cases v<;>simp_all [iB,J3]
def Zr{v:Fs}(h:iS v=true):JP v:=by cases v<;>simp_all [iS,JP]
def Zs{v:Fs}(h:iT v=true):nT v:=by cases v<;>simp_all [iT,nT]
def W1:List Nat->List Fs->List Fs->Bool
 |[],[],[]=>true
 |0::fs,.int k _::xs,.int k' _::ys=>decide (k=k')&&W1 fs xs ys
 |1::fs,.bool _::xs,.bool _::ys=>W1 fs xs ys
 |2::fs,.str _::xs,.str _::ys=>W1 fs xs ys
 |_,_,_=>false
def eT(f:List Nat)(x y:List Fs)(h:W1 f x y=true):EB f x y:=by
 fun_induction W1 f x y<;>simp_all [EB]
def okB(H:AB)(ρ:zz->Fs):xx->Bool
 | .mv _=>true
 | .arith op k x y=>iI k (ρ x)&&iI k (ρ y)&&(!Lp op||decide (A9 (ρ y)≠0))
 | .shift op k ky x y=>iI k (ρ x)&&iI ky (ρ y)&&decide (0<=A9 (ρ y))
 | .icmp op k x y=>iI k (ρ x)&&iI k (ρ y)
 | .beq _ x y=>iB (ρ x)&&iB (ρ y)
 | .scmp op x y=>iS (ρ x)&&iS (ρ y)
 | .not x=>iB (ρ x)
 | .fa _ x=>match ρ x with
  | .ptr _ _| .ep _=>true
  |_=>false
 | .ld sz _ x=>match ρ x with
  | .ptr id off=>(match AD H id with
   |some (.box cs)=>decide (off+sz<=cs.length)
   |_=>false)
  | .ep cs=>decide (sz<=cs.length)
  |_=>false
 | .ia esz x i=>match ρ x with
  | .sl tok l=>decide (tok.esz=esz)&&iN (ρ i)&&decide (0<=A9 (ρ i))&&decide (A9 (ρ i)<l.length)
  |_=>false
 | .len x=>match ρ x with
  | .sl _ _=>true
  |_=>false
 | .lenS x=>iS (ρ x)
 | .build zero parts=>parts.all λp=>iT (ρ p.2.2)&&decide ((ρ p.2.2).cells.length=p.2.1)&&decide (p.1+p.2.1<=zero.length)
 | .bs esz n zero parts=>(parts.all λp=>iT (ρ p.2)&&decide ((ρ p.2).cells.length=esz)&&decide (p.1<n))&&decide (zero.cells.length=esz)&&decide (n*esz<=16777216)
 | .fn _ _ _=>true
 | .ext i x=>match ρ x with
  | .tup vs=>decide (i<vs.length)
  |_=>false
 | .aeq _ fs x y=>match ρ x,ρ y with
  | .agg xs,.agg ys=>W1 fs xs ys
  |_,_=>false
 |_=>false
def nK{H:AB}{ρ:zz->Fs}{k:xx}(h:okB H ρ k=true):(Bb H ρ k).1:=by
 cases k<;>simp only[okB,sr,rl,sA,tq,rn,sg]at h
 case mv=>trivial
 case arith=>exact⟨PQ h.1.1,PQ h.1.2,λq=>by
  rcases h.2 with h|h; ·rw[h]at q;cases q
  ·exact h⟩
 case shift=>exact⟨PQ h.1.1,PQ h.1.2,h.2⟩
 case icmp=>exact⟨PQ h.1,PQ h.2⟩
 case beq=>exact⟨PR h.1,PR h.2⟩
 case scmp=>exact⟨Zr h.1,Zr h.2⟩
 case not=>exact PR h
 case fa=>simp only[Bb];split at h<;>simp_all
 case ld sz ag x=>
  simp only[Bb]
  generalize ρ x=v at h
  cases v<;>simp only[sr]at h
  case ptr id off=>
   simp only[A7]
   split at h
   ·rename_i q;rw[q];exact t5 h
   ·cases h
  case ep cs=>simp only[A7];exact t5 h
 case ia esz x i=>
  simp only[Bb]
  split at h
  ·rename_i q
   simp only[rl,rn]at h
   rw[q]
   exact⟨h.1.1.1,iN_ok h.1.1.2,h.1.2,h.2⟩
  ·cases h
 case len=>simp only[Bb];split at h<;>simp_all
 case lenS=>exact Zr h
 case build=>exact λp hp=>⟨Zs (h p hp).1.1,(h p hp).1.2,(h p hp).2⟩
 case bs=>exact⟨λp hp=>⟨Zs (h.1.1 p hp).1.1,(h.1.1 p hp).1.2,(h.1.1 p hp).2⟩,h.1.2,h.2⟩
 case fn=>trivial
 case ext=>
  simp only[Bb]
  split at h
  ·rename_i q
   rw[q]
   exact t5 h
  ·cases h
 case aeq=>
  simp only[Bb]
  split at h
  ·rename_i q q'
   rw[q,q']
   exact eT _ _ _ h
  ·cases h
def okF(H:AB)(ρ:zz->Fs)(k:xx):Bool:=okB H ρ k||(okv H ρ k).1
def nM{H:AB}{ρ:zz->Fs}{k:xx}(h:okF H ρ k=true):(Bb H ρ k).1:=((sA _ _).mp h).elim nK (okv H ρ k).2
def seen(H:AB)(l:List Fs)(r:Fs):Prop:=Wks l (vws H l)\/(unders 0 (vws H l)/\Views H (vws H l) l/\r.flat)
def seB(H:AB)(l:List Fs)(r:Fs):Bool:=nBs l||(uBs (vws H l)&&(vBs H l&&flB r))
def Zt{H:AB}{l:List Fs}{r:Fs}(h:seB H l r=true):seen H l r:=by
 simp only[seB,sA,rl]at h
 exact h.imp (nBs_ok l) λq=>⟨uBs_ok _ q.1,vBs_ok l q.2.1,Zq r q.2.2⟩
abbrev CT:=FuncId->List Fs->Option Fs
abbrev ET:=FuncId->List Fs->AB->Nat->Option (v8×AB×Nat×List Nat)
def Fr(T:List Nat)(H H':AB):Prop:=∀id,id∉T->AD H' id=AD H id
def Fr.same{T:List Nat}{H:AB}:Fr T H H:=λ_ _=>rfl
def Fr.set{T:List Nat}{H:AB}{i:Nat}{o:xq}(h:i∈T):Fr T H (hset H i o):=λj hj=>by rw[AT,rj (by rintro rfl;exact hj h)]
def Fr.trans{T U:List Nat}{H H1 H2:AB}(h:Fr T H H1)(k:Fr U H1 H2):Fr (T++U) H H2:=λj hj=>by
 rw[ti,not_or]at hj
 rw[k j hj.2,h j hj.1]
def TX(C:CT):Bc:=λf l H=>match C f (vws H l)with
 |some r=>(seen H l r,r)
 |none=>(False,.tup [])
def COK(P:Program)(C:CT):Prop:=∀f l r,C f l=some r->∃a,Wks l a/\Aw P f a r
def rQ(P:Program)(E:ET):Prop:=∀f l H n o H' n' T,E f l H n=some (o,H',n',T)->Fr T H H'/\∀R:v8->AB->Nat->Prop,R o H' n'->AV P f l H n R
def Zu{P:Program}{C:CT}(h:COK P C):AH P (TX C):=by
 intro f l H n q
 unfold TX at q⊢
 split at q
 ·rename_i r e
  obtain⟨a,w,p⟩:=h _ _ _ e
  rcases q with q|q
  ·exact AV.args (p.quiet H n) λg vs hv=>w.rel vs (q.rel vs hv)
  ·exact Aw.view ⟨q.1,p.2.1,AV.args p.2.2 λg vs hv=>w.rel vs hv⟩ q.2.2 q.2.1 n
 ·exact q.elim
def goB(env:List (Nat×Bool×Fs)):Option (Nat×Bool)->Bool
 |none=>true
 |some (t,_)=>match BI env t with
  |none=>false
  |some (g,v)=>!g||iB v
def Ts{env:List (Nat×Bool×Fs)}{g:Option (Nat×Bool)}(h:goB env g=true):GM env g:=by
 cases g with
 |none=>trivial
 |some tw=>
  obtain⟨t,w⟩:=tw
  simp only[goB]at h
  simp only[GM]
  split at h
  ·cases h
  ·rename_i g v q
   rw[q]
   intro e
   rw[e]at h
   exact PR h
def oB(env:List (Nat×Bool×Fs))(l:List zz):Bool:=l.all λx=>(lk env x).1
theorem PS{env:List (Nat×Bool×Fs)}:∀{l:List zz},oB env l=true->C6 env l
 |[],_=>trivial
 |x::l,h=>by
  simp only[oB,uq,rl]at h
  exact⟨h.1,PS h.2⟩
def Ar{α:Type}{b:Bool}{x:Option α}{y:α}(h:(bif b then x else none)=some y):b=true/\x=some y:=by
 cases b
 ·cases h
 ·exact⟨rfl,h⟩
def go(d:Option Nat)(s:AS)(b:Bool)(H:AB)(v:Fs):Option AS:=bif b then some ({s with H:=H}.put d true v)else none
def Tt(base:Nat)(o:xz)(s:AS):Option AS:=match o.k with
 | .alloc rel cs=>go o.dst s (AD s.H (base+rel)).isNone (hset s.H (base+rel) (.box cs)) (.ptr (base+rel) 0)
 | .box rel sz x=>go o.dst s ((AD s.H (base+rel)).isNone&&(iT (AX s.env x)&&decide ((AX s.env x).cells.length=sz))) (hset s.H (base+rel) (.box (AX s.env x).cells)) (.ptr (base+rel) 0)
 | .st sz a x=>go o.dst s (decide (nT (AX s.env x)/\(AX s.env x).cells.length=sz)&&(stC (H:=s.H) sz (AX s.env x) (AX s.env a)).1) (Qr s.H sz (AX s.env x) (AX s.env a)).2 (.tup [])
 | .app rel e b x y t=>go o.dst s (apC (H:=s.H) (base+rel) e b (AX s.env x) (CD s.H (AX s.env) e y t)).1 (IN s.H (base+rel) e b (AX s.env x) (CD s.H (AX s.env) e y t)).2.1 (IN s.H (base+rel) e b (AX s.env x) (CD s.H (AX s.env) e y t)).2.2
 | .mks rel e b z x=>go o.dst s (decide (AD s.H (base+rel)=none/\C8 (AX s.env x)/\0<=A9 (AX s.env x)/\Al (A9 (AX s.env x)).toNat b/\A9 (AX s.env x)<=35184372088832/\z.cells.length=e)) (UY s.H (base+rel) e b z (AX s.env x)).2.1 (UY s.H (base+rel) e b z (AX s.env x)).2.2
 | .slA n x lo hi=>go o.dst s (decide (Cs (AX s.env) lo/\Cs (AX s.env) hi)&&(slC (H:=s.H) n (bnd (AX s.env) 0 lo) (bnd (AX s.env) n hi) (AX s.env x)).1) (JZ s.H n (bnd (AX s.env) 0 lo) (bnd (AX s.env) n hi) (AX s.env x)).2.1 (JZ s.H n (bnd (AX s.env) 0 lo) (bnd (AX s.env) n hi) (AX s.env x)).2.2
 | .ext x xs=>go o.dst s (xC (H:=s.H) base x (xs.map (AX s.env))).1 (xE base x s.H (xs.map (AX s.env))).2.1 (xE base x s.H (xs.map (AX s.env))).2.2
 | .nils q x=>(match AX s.env x with
  | .sl .nil []=>go o.dst s true s.H (.bool !q)
  | .sl _ (_::_)=>go o.dst s true s.H (.bool q)
  | .ref .. =>go o.dst s true s.H (.bool q)
  |_=>none)
 |_=>none
def eU{P:Program}{Qp:Fs->AB->Nat->Prop}{base:Nat}{o:xz}{K:AS->Prop}{s s':AS}(h:Tt base o s=some s')(hK:K s'):BP P Qp base o K s:=by
 obtain⟨d,g,k⟩:=o
 cases k<;>simp only[Tt,reduceCtorEq,go]at h
 case alloc=>
  obtain⟨h1,h⟩:=Ar h
  cases h
  exact⟨Option.isNone_iff_eq_none.1 h1,hK⟩
 case box=>
  obtain⟨h1,h⟩:=Ar h
  cases h
  simp only[rl,rn]at h1
  exact⟨Option.isNone_iff_eq_none.1 h1.1,Zs h1.2.1,h1.2.2,hK⟩
 case st sz a x=>
  obtain⟨h1,h⟩:=Ar h
  cases h
  rw[rl]at h1
  have e:=t5 h1.1
  have q:OX s.H sz (AX s.env x) (λH'=>K ({s with H:=H'}.put d true (.tup []))) (AX s.env a):=by
   rw[Nq]
   exact⟨(stC _ _ _).2 h1.2,hK⟩
  exact⟨e.1,e.2,q⟩
 case app rel e b x y t=>
  obtain⟨h1,h⟩:=Ar h
  cases h
  have q:NN s.H (base+rel) e b (λH' v=>K ({s with H:=H'}.put d true v)) (AX s.env x) (CD s.H (AX s.env) e y t):=by
   rw[Qs]
   exact⟨(apC _ _ _ _ _).2 h1,hK⟩
  exact q
 case mks=>
  obtain⟨h1,h⟩:=Ar h
  cases h
  have e:=t5 h1
  exact⟨e.1,e.2.1,e.2.2.1,e.2.2.2.1,e.2.2.2.2.1,e.2.2.2.2.2,hK⟩
 case slA n x lo hi=>
  obtain⟨h1,h⟩:=Ar h
  cases h
  rw[rl]at h1
  have e:=t5 h1.1
  refine⟨e.1,e.2,?_⟩
  rw[V8]
  exact⟨(slC _ _ _ _).2 h1.2,hK⟩
 case ext=>
  obtain⟨h1,h⟩:=Ar h
  cases h
  exact⟨(xC _ _ _).2 h1,hK⟩
 case nils q x=>
  show HE (λb=>K (s.put d true (.bool b))) q (AX s.env x)
  split at h
  ·rename_i e;rw[e];cases h;exact hK
  ·rename_i t _ _ e;rw[e];cases h;cases t<;>exact hK
  ·rename_i e;rw[e];cases h;exact hK
  ·cases h
def OV:List Fs->List Nat
 | .mp id::_| .ptr id _::_| .ref id .. ::_| .ap id .. ::_| .sl (.own id _) _::_=>[id]
 |_=>[]
def tch(base:Nat)(o:xz)(s:AS):List Nat:=match o.k with
 | .alloc rel _| .box rel _ _| .mks rel .. =>[base+rel]
 | .app rel _ _ x _ _=>(base+rel)::OV [AX s.env x]
 | .st _ a _=>OV [AX s.env a]
 | .slA _ x _ _=>OV [AX s.env x]
 | .ext x xs=>(match x with
  | .mkm rel| .srng rel| .mrng rel| .bsm rel .. =>[base+rel]
  |_=>[])++OV (xs.map (AX s.env))
 |_=>[]
def FV{T:List Nat}{s s1:AS}{d:Option Nat}{g:Bool}{v:Fs}(h:Fr T s.H s1.H):Fr T s.H (s1.put d g v).H:=by rw[Ns];exact h
def eV{T:List Nat}{H:AB}{n e:Nat}{lo hi:Int}{v:Fs}{l:List Fs}:Fr (T++OV (v::l)) H (JQ H n e lo hi v).2.1:=by
 unfold JQ
 split
 ·split<;>first|exact Fr.same|exact Fr.set (by simp [OV])
 ·exact Fr.same
def eW{base:Nat}{o:xz}{s s':AS}(h:Tt base o s=some s'):Fr (tch base o s) s.H s'.H:=by
 obtain⟨d,g,k⟩:=o
 cases k<;>simp only[Tt,reduceCtorEq,go]at h
 case nils q x=>split at h<;>first|(cases h;exact FV Fr.same)|cases h
 all_goals
  obtain⟨h1,h⟩:=Ar h
  cases h
  refine FV ?_
  simp only[tch]
 case alloc=>exact Fr.set zw
 case box=>exact Fr.set zw
 case mks=>exact Fr.set zw
 case st sz a x=>
  generalize AX s.env a=v
  cases v<;>simp only[Qr]<;>first|exact Fr.same|(split<;>first|exact Fr.same|exact Fr.set (by simp [OV]))
 case slA n x lo hi=>
  generalize AX s.env x=v
  unfold JZ
  split
  ·split<;>first|exact Fr.same|exact Fr.set (by simp [OV])
  ·exact Fr.same
 case app rel e b x y t=>
  generalize AX s.env x=v,CD s.H (AX s.env) e y t=u
  unfold IN
  split
  ·rename_i tk l l'
   cases tk<;>simp only[AU,OV]
   case own=>exact λj hj=>by simp only[sP,not_or]at hj;rw[AT,rj (Ne.symm hj.1),AT,rj (Ne.symm hj.2.1)]
   all_goals exact Fr.set zw
  ·exact Fr.same
 case ext x xs=>
  generalize xs.map (AX s.env)=l
  cases x<;>(unfold xE;try dsimp only)<;>(repeat' split)<;>first|with_reducible exact Fr.same|with_reducible exact eV|exact Fr.set (by simp_all [OV])
def nN(C:CT)(base:Nat)(o:xz)(s:AS):Option AS:=
 bif goB s.env o.guard then match o.k with
  | .v k=>bif !Bh s.env o.guard||(oB s.env k.opds&&okF s.H (AX s.env) k)then some (s.put o.dst (Bh s.env o.guard) (Bb s.H (AX s.env) k).2)else none
  | .pick c a b=>bif !Bh s.env o.guard||((lk s.env c).1&&iB (AX s.env c)&&(bif Fg (AX s.env c)then(lk s.env a).1 else(lk s.env b).1))then some (s.put o.dst (Bh s.env o.guard) (Lq (Fg (AX s.env c)) (AX s.env a) (AX s.env b)))else none
  | .call true f l=>bif Bh s.env o.guard then(bif (lk s.env f).1&&oB s.env l then(match AX s.env f with
    | .fn (.func i) a b=>(match C i (vws s.H (a++l.map (AX s.env)++b))with
     |some r=>bif seB s.H (a++l.map (AX s.env)++b) r then some (s.put o.dst true r)else none
     |none=>none)
    |_=>none)else none)else some (s.put o.dst false (GX (TX C) (l.map (AX s.env)) s.H (AX s.env f)).2)
  | .cpu f l=>bif Bh s.env o.guard then(bif (lk s.env f).1&&oB s.env l then(match AX s.env f with
    | .fn (.func i) a b=>(match C i (vws Ai (a++l.map (AX s.env)++b))with
     |some r=>bif seB Ai (a++l.map (AX s.env)++b) r&&(uBs (a++l.map (AX s.env)++b)&&uB r)then some (s.put o.dst true r)else none
     |none=>none)
    |_=>none)else none)else some (s.put o.dst false (.tup []))
  |_=>bif Bh s.env o.guard then(bif oB s.env o.k.opds then Tt base o s else none)else some (s.put o.dst false (.tup []))
 else none
def nO{P:Program}{C:CT}{Qp:Fs->AB->Nat->Prop}{base:Nat}{o:xz}{K:AS->Prop}{s s':AS}(h:nN C base o s=some s')(hK:K s'):Bd P (TX C) Qp base o K s:=by
 unfold nN at h
 have hb:=Ar h
 clear h
 obtain⟨hz,h⟩:=hb
 have h0:=Ts hz
 clear hz
 have eff:(bif Bh s.env o.guard then(bif oB s.env o.k.opds then Tt base o s else none)else some (s.put o.dst false (.tup [])))=some s'->(Bh s.env o.guard=true->C6 s.env o.k.opds/\BP P Qp base o K s)/\(Bh s.env o.guard=false->K (s.put o.dst false (.tup []))):=by
  intro h
  cases hg:Bh s.env o.guard<;>rw[hg]at h
  ·cases h
   exact⟨λq=>(by cases q),λ_=>hK⟩
  ·obtain⟨h1,h⟩:=Ar h
   exact⟨λ_=>⟨PS h1,eU h hK⟩,λq=>(by cases q)⟩
 obtain⟨d,g,k⟩:=o
 cases k<;>simp only[reduceCtorEq]at h
 case v k=>
  obtain⟨h1,h⟩:=Ar h
  cases h
  refine⟨h0,λq=>?_,hK⟩
  rw[q]at h1
  simp only[re,tH,rl]at h1
  exact⟨PS h1.1,nM h1.2⟩
 case pick c a b=>
  obtain⟨h1,h⟩:=Ar h
  cases h
  refine⟨h0,λq=>?_,hK⟩
  rw[q]at h1
  simp only[re,tH,rl]at h1
  refine⟨h1.1.1,PR h1.1.2,λe=>?_,λe=>?_⟩<;>(have:=h1.2;rw[e]at this;exact this)
 case call q f l=>
  cases q
  ·exact(show Ae P Qp base ⟨d,g,.call false f l⟩ K s from⟨h0,eff h⟩)
  dsimp only at h
  cases hg:Bh s.env g<;>rw[hg]at h
  ·cases h
   simp only[Bd,hg]
   exact⟨h0,λq=>(by cases q),hK⟩
  ·obtain⟨h1,h⟩:=Ar h
   simp only[rl]at h1
   split at h
   ·rename_i i a b e
    split at h
    ·rename_i r e'
     obtain⟨h2,h⟩:=Ar h
     cases h
     have hc:GX (TX C) (l.map (AX s.env)) s.H (AX s.env f)=(seen s.H (a++l.map (AX s.env)++b) r,r):=by rw[e];simp only[GX,TX,e']
     simp only[Bd,hg,hc]
     exact⟨h0,λ_=>⟨h1.1,PS h1.2,Zt h2⟩,hK⟩
    ·cases h
   ·cases h
 case cpu f l=>
  cases hg:Bh s.env g<;>rw[hg]at h
  ·cases h
   simp only[Bd,hg]
   exact⟨h0,λq=>(by cases q),λ_=>hK⟩
  ·obtain⟨h1,h⟩:=Ar h
   simp only[rl]at h1
   split at h
   ·rename_i i a b e
    split at h
    ·rename_i r e'
     obtain⟨h2,h⟩:=Ar h
     cases h
     simp only[rl]at h2
     have hc:Of (TX C) (l.map (AX s.env)) (AX s.env f)=(seen Ai (a++l.map (AX s.env)++b) r/\unders 0 (a++l.map (AX s.env)++b)/\r.under 0,r):=by rw[e];simp only[Of,TX,e']
     simp only[Bd,hg,hc]
     exact⟨h0,λ_=>⟨⟨h1.1,PS h1.2,Zt h2.1,uBs_ok _ h2.2.1,Zp _ h2.2.2⟩,hK⟩,λq=>(by cases q)⟩
    ·cases h
   ·cases h
 all_goals exact⟨h0,eff h⟩
def rR(C:CT)(E:ET)(base:Nat)(o:xz)(s:AS):Option (Option Fs×AS×List Nat):=match o.k with
 | .call false f l=>bif goB s.env o.guard then(bif Bh s.env o.guard then(bif (lk s.env f).1&&oB s.env l then(match AX s.env f with
   | .fn (.func i) a b=>(match E i (a++l.map (AX s.env)++b) s.H s.n with
    |some (.ret v,H',n',T)=>some (none,{s with H:=H',n:=n'}.put o.dst true v,T)
    |some (.pan v,H',n',T)=>some (some v,⟨[],H',n'⟩,T)
    |none=>none)
   |_=>none)else none)else some (none,s.put o.dst false (.tup []),[]))else none
 | .pan x=>bif goB s.env o.guard then(bif Bh s.env o.guard then(bif (lk s.env x).1&&decide (W6 (AX s.env x))then some (some (AX s.env x),⟨[],s.H,s.n⟩,[])else none)else some (none,s.put o.dst false (.tup []),[]))else none
 |_=>(nN C base o s).map λs'=>(none,s',tch base o s)
def PK(Qp:Fs->AB->Nat->Prop)(K:AS->Prop):Option Fs×AS×List Nat->Prop
 |(none,s,_)=>K s
 |(some v,s,_)=>Qp v s.H s.n
def QW{P:Program}{C:CT}{E:ET}(hE:rQ P E){Qp:Fs->AB->Nat->Prop}{base:Nat}{o:xz}{K:AS->Prop}{s:AS}{r:Option Fs×AS×List Nat}(h:rR C E base o s=some r)(hK:PK Qp K r):Bd P (TX C) Qp base o K s:=by
 unfold rR at h
 split at h
 ·rename_i f l e
  obtain⟨d,g,k⟩:=o
  cases e
  obtain⟨hz,h⟩:=Ar h
  show Ae P Qp base ⟨d,g,.call false f l⟩ K s
  refine⟨Ts hz,λq=>?_,λq=>?_⟩
  ·simp only[q,cond_true]at h
   obtain⟨h1,h⟩:=Ar h
   rw[rl]at h1
   refine⟨⟨h1.1,PS h1.2⟩,?_⟩
   simp only[BP]
   split at h
   ·rename_i e
    rw[e]
    split at h
    ·rename_i e'
     cases h
     exact(hE _ _ _ _ _ _ _ _ e').2 _ hK
    ·rename_i e'
     cases h
     exact(hE _ _ _ _ _ _ _ _ e').2 _ hK
    ·cases h
   ·cases h
  ·simp only[q,cond_false,Option.some.injEq]at h
   subst h
   exact hK
 ·rename_i x e
  obtain⟨d,g,k⟩:=o
  cases e
  obtain⟨hz,h⟩:=Ar h
  show Ae P Qp base ⟨d,g,.pan x⟩ K s
  refine⟨Ts hz,λq=>?_,λq=>?_⟩
  ·simp only[q,cond_true]at h
   obtain⟨h1,h⟩:=Ar h
   rw[rl]at h1
   cases h
   exact⟨⟨h1.1,zt⟩,t5 h1.2,hK⟩
  ·simp only[q,cond_false,Option.some.injEq]at h
   subst h
   exact hK
 ·cases hx:nN C base o s with
  |none=>rw[hx]at h;cases h
  |some s'=>
   rw[hx]at h
   cases h
   exact nO hx hK
def nP{C:CT}{base:Nat}{o:xz}{s s':AS}(h:nN C base o s=some s'):Fr (tch base o s) s.H s'.H:=by
 unfold nN at h
 have hb:=Ar h
 clear h
 obtain⟨hz,h⟩:=hb
 obtain⟨d,g,k⟩:=o
 have eff:(bif Bh s.env g then(bif oB s.env k.opds then Tt base ⟨d,g,k⟩ s else none)else some (s.put d false (.tup [])))=some s'->Fr (tch base ⟨d,g,k⟩ s) s.H s'.H:=by
  intro h
  cases hg:Bh s.env g<;>rw[hg]at h
  ·cases h;exact FV Fr.same
  ·exact eW (Ar h).2
 cases k<;>simp only[reduceCtorEq]at h
 case v=>have h:=(Ar h).2;cases h;exact FV Fr.same
 case pick=>have h:=(Ar h).2;cases h;exact FV Fr.same
 case cpu=>
  cases hg:Bh s.env g<;>rw[hg]at h
  ·cases h;exact FV Fr.same
  ·have h:=(Ar h).2
   split at h
   ·split at h
    ·have h:=(Ar h).2;cases h;exact FV Fr.same
    ·cases h
   ·cases h
 case call q f l=>
  cases q
  ·exact eff h
  dsimp only at h
  cases hg:Bh s.env g<;>rw[hg]at h
  ·cases h;exact FV Fr.same
  ·have h:=(Ar h).2
   split at h
   ·split at h
    ·have h:=(Ar h).2;cases h;exact FV Fr.same
    ·cases h
   ·cases h
 all_goals exact eff h
def NF{P:Program}{C:CT}{E:ET}(hE:rQ P E){base:Nat}{o:xz}{s s':AS}{p:Option Fs}{T:List Nat}(h:rR C E base o s=some (p,s',T)):Fr T s.H s'.H:=by
 unfold rR at h
 split at h
 ·have h:=(Ar h).2
  cases hg:Bh s.env o.guard<;>rw[hg]at h
  ·cases h;exact FV Fr.same
  ·have h:=(Ar h).2
   split at h
   ·split at h
    ·rename_i e;cases h;exact FV (hE _ _ _ _ _ _ _ _ e).1
    ·rename_i e;cases h;exact(hE _ _ _ _ _ _ _ _ e).1
    ·cases h
   ·cases h
 ·have h:=(Ar h).2
  cases hg:Bh s.env o.guard<;>rw[hg]at h
  ·cases h;exact FV Fr.same
  ·have h:=(Ar h).2;cases h;exact Fr.same
 ·cases hx:nN C base o s with
  |none=>rw[hx]at h;cases h
  |some s1=>rw[hx]at h;cases h;exact nP hx
def nQ(T:List Nat):Option (Option Fs×AS×List Nat)->Option (Option Fs×AS×List Nat)
 |some (p,s,U)=>some (p,s,T++U)
 |none=>none
def ed(C:CT)(E:ET)(base:Nat):List xz->AS->Option (Option Fs×AS×List Nat)
 |[],s=>some (none,s,[])
 |o::r,s=>match rR C E base o s with
  |some (none,s',T)=>nQ T (ed C E base r s')
  |x=>x
def kyC(cx:Nat->Fs)(H:AB)(T:List Nat):∀f k,Ch (∀H',Fr T H H'->Fh cx f k H H')
 |0,k=>⟨true,λ_ _ _=>by rw[FC];trivial⟩
 |_,.v _=>⟨true,λ_ _ _=>by rw[Vm];trivial⟩
 |_,.st _ _ _=>⟨true,λ_ _ _=>by rw[SA];trivial⟩
 |k+3,.call false _ _=>cm (p:=∀id∈T,EW id (cx ((k-300000)/2))\/AD H id=none) (λh H' hf=>by
   show ID _ _ _
   intro id h1 h2
   exact hf id λhm=>(h id hm).elim h1 h2) dc
 |_,_=>no
def eg(C:CT)(E:ET)(base:Nat)(cx:Nat->Fs):List (Nat×xz)->AS->Option (Option Fs×AS×List Nat)
 |[],s=>some (none,s,[])
 |o::r,s=>bif !Bh s.env o.2.guard||(sdC base cx (AX s.env) o.1 o.2.k).1 then(match rR C E base o.2 s with
  |some (none,s',T)=>bif (kyC cx s.H T o.1 o.2.k).1 then nQ T (eg C E base cx r s')else none
  |x=>x)else none
section
variable {P:Program} {C:CT} {E:ET} (hE:rQ P E) {Qp:Fs->AB->Nat->Prop} {base:Nat} {K:AS->Prop}
theorem PT{T:List Nat}{y:Option (Option Fs×AS×List Nat)}{x:Option Fs×AS×List Nat}(h:nQ T y=some x):∃U,y=some (x.1,x.2.1,U)/\x.2.2=T++U:=by
 cases y with
 |none=>cases h
 |some y=>obtain⟨p,s,U⟩:=y;cases h;exact⟨U,rfl,rfl⟩
theorem Zv{x:Option Fs×AS×List Nat}{U:List Nat}(h:PK Qp K x):PK Qp K (x.1,x.2.1,U):=by
 obtain⟨a,b,c⟩:=x
 cases a<;>exact h
include hE
theorem Jz:∀{l:List xz} {s:AS} {x:Option Fs×AS×List Nat},ed C E base l s=some x->PK Qp K x->E5 P (TX C) Qp base l K s/\Fr x.2.2 s.H x.2.1.H
 |[],s,x,h,hK=>by cases h;exact⟨hK,Fr.same⟩
 |o::r,s,x,h,hK=>by
  unfold ed at h
  split at h
  ·rename_i s' T e
   obtain⟨U,h,hT⟩:=PT h
   have ih:=Jz h (Zv hK)
   rw[hT]
   exact⟨QW hE e ih.1,(NF hE e).trans ih.2⟩
  ·rename_i q
   obtain⟨a,b,T⟩:=x
   refine⟨QW hE h ?_,NF hE h⟩
   cases a
   ·exact absurd h (q _ _)
   ·exact hK
theorem J0{cx:Nat->Fs}:∀{l:List (Nat×xz)} {s:AS} {x:Option Fs×AS×List Nat},eg C E base cx l s=some x->PK Qp K x->De P (TX C) Qp base cx l K s/\Fr x.2.2 s.H x.2.1.H
 |[],s,x,h,hK=>by cases h;exact⟨hK,Fr.same⟩
 |o::r,s,x,h,hK=>by
  unfold eg at h
  obtain⟨h1,h⟩:=Ar h
  have hs:Bh s.env o.2.guard=true->Bp base cx (AX s.env) o.1 o.2.k:=λq=>(sdC _ _ _ _ _).2 (by rwa[q]at h1)
  split at h
  ·rename_i s' T e
   obtain⟨h2,h⟩:=Ar h
   obtain⟨U,h,hT⟩:=PT h
   have ih:=J0 h (Zv hK)
   rw[hT]
   exact⟨⟨hs,QW hE e ⟨(kyC _ _ _ _ _).2 h2 _ (NF hE e),ih.1⟩⟩,(NF hE e).trans ih.2⟩
  ·rename_i q
   obtain⟨a,b,T⟩:=x
   refine⟨⟨hs,QW hE h ?_⟩,NF hE h⟩
   cases a
   ·exact absurd h (q _ _)
   ·exact hK
end
def done(keep:List Nat):Option Fs×AS×List Nat->x6×AS×List Nat
 |(none,s,T)=>(.normal,s.keep keep,T)
 |(some v,s,T)=>(.pan v,⟨[],s.H,s.n⟩,T)
def Zw(T:List Nat):Option (x6×AS×List Nat)->Option (x6×AS×List Nat)
 |some (e,s,U)=>some (e,s,T++U)
 |none=>none
def NG{T:List Nat}{y:Option (x6×AS×List Nat)}{e:x6}{s:AS}{V:List Nat}(h:Zw T y=some (e,s,V)):∃U,y=some (e,s,U)/\V=T++U:=by
 cases y with
 |none=>cases h
 |some y=>obtain⟨p,s,U⟩:=y;cases h;exact⟨U,rfl,rfl⟩
def jT(s:AS)(t:Nat):List Nat:=match BI s.env t with
 |some (true,.ref id ..)=>[id]
 |_=>[]
def eh{s:AS}{t:Nat}:Fr (jT s t) s.H (LH s t).2.H:=by
 cases h:BI s.env t with
 |none=>simp only[LH,jT,h];exact Fr.same
 |some p=>
  obtain⟨g,v⟩:=p
  cases g<;>cases v<;>simp only[LH,jT,h]<;>first|exact Fr.same|(split<;>first|exact Fr.same|exact Fr.set (sX ..))
def Zx{s:AS}{t:Nat}:Fr (s.n::jT s t) s.H (Hl s t).2.H:=by
 cases h:BI s.env t with
 |none=>simp only[Hl,jT,h];exact Fr.same
 |some p=>
  obtain⟨g,v⟩:=p
  cases g<;>cases v<;>simp only[Hl,jT,h]<;>first|exact Fr.same|(split<;>first|exact Fr.same|(intro j hj;simp only[sP,not_or]at hj;show AD (hset (hset s.H _ _) _ _) j=_;rw[AT,rj (Ne.symm hj.1),AT,rj (Ne.symm hj.2.1)]))
def xc(C:CT)(E:ET):Nat->z8->AS->Option (x6×AS×List Nat)
 |0,_,_=>none
 |n+1,c,s=>match c with
  | .skip=>some (.normal,s,[])
  | .reg bump ops keep=>(ed C E s.n ops {s with n:=s.n+bump}).map (done keep)
  | .regx bump ops keep=>(eg C E s.n (Ty s.env s.n) ops {s with n:=s.n+bump}).map (done keep)
  | .frz t=>bif (fzC (s:=s) t).1 then some (.normal,(LH s t).2,jT s t)else none
  | .frzo t=>bif (foC (s:=s) t).1 then some (.normal,(Hl s t).2,s.n::jT s t)else none
  | .seq a b=>(match xc C E n a s with
   |some (.normal,s',T)=>Zw T (xc C E n b s')
   |r=>r)
  | .cond c a b=>bif (lk s.env c).1&&iB (AX s.env c)then(bif Fg (AX s.env c)then xc C E n a s else xc C E n b s)else none
  | .block id c=>(match xc C E n c s with
   |some (.exit i,s',T)=>bif i==id then some (.normal,s',T)else some (.exit i,s',T)
   |r=>r)
  | .loop c=>(match xc C E n c s with
   |some (.normal,s',T)=>Zw T (xc C E n (.loop c) s')
   |r=>r)
  | .exit id=>some (.exit id,s,[])
  | .ret=>some (.ret,s,[])
  |_=>none
theorem Hg{P:Program}{C:CT}{E:ET}(hE:rQ P E):∀(n:Nat) (c:z8) (s:AS) (e:x6) (s':AS) (T:List Nat),xc C E n c s=some (e,s',T)->Fr T s.H s'.H/\∀Q:x6->AS->Prop,Q e s'->ev P (TX C) c Q s
 |0,_,_,_,_,_,h=>by cases h
 |n+1,c,s,e,s',T,h=>by
  cases c<;>simp only[xc,reduceCtorEq]at h
  case skip=>cases h;exact⟨Fr.same,λQ hQ=>hQ⟩
  case reg bump ops keep=>
   obtain⟨x,q,h⟩:=tO.1 h
   obtain⟨a,b,U⟩:=x
   cases a<;>cases h
   ·exact⟨(Jz hE (Qp:=λ_ _ _=>False) (K:=λ_=>True) q zt).2,λQ hQ=>(Jz hE (Qp:=λv H n=>Q (.pan v) ⟨[],H,n⟩) (K:=λs'=>Q .normal (s'.keep keep)) q hQ).1⟩
   ·exact⟨(Jz hE (Qp:=λ_ _ _=>True) (K:=λ_=>False) q zt).2,λQ hQ=>(Jz hE (Qp:=λv H n=>Q (.pan v) ⟨[],H,n⟩) (K:=λs'=>Q .normal (s'.keep keep)) q hQ).1⟩
  case regx bump ops keep=>
   obtain⟨x,q,h⟩:=tO.1 h
   obtain⟨a,b,U⟩:=x
   cases a<;>cases h
   ·exact⟨(J0 hE (Qp:=λ_ _ _=>False) (K:=λ_=>True) q zt).2,λQ hQ=>(J0 hE (Qp:=λv H n=>Q (.pan v) ⟨[],H,n⟩) (K:=λs'=>Q .normal (s'.keep keep)) q hQ).1⟩
   ·exact⟨(J0 hE (Qp:=λ_ _ _=>True) (K:=λ_=>False) q zt).2,λQ hQ=>(J0 hE (Qp:=λv H n=>Q (.pan v) ⟨[],H,n⟩) (K:=λs'=>Q .normal (s'.keep keep)) q hQ).1⟩
  case frz=>
   obtain⟨h1,h⟩:=Ar h
   cases h
   refine⟨eh,λQ hQ=>?_⟩
   show I0 _ _ _ _
   rw[V9]
   exact⟨(fzC _).2 h1,hQ⟩
  case frzo=>
   obtain⟨h1,h⟩:=Ar h
   cases h
   refine⟨Zx,λQ hQ=>?_⟩
   show GS _ _ _ _
   rw[Su]
   exact⟨(foC _).2 h1,hQ⟩
  case seq a b=>
   split at h
   ·rename_i q
    obtain⟨U,h2,rfl⟩:=NG h
    have k1:=Hg hE n a s _ _ _ q
    have k2:=Hg hE n b _ _ _ _ h2
    exact⟨k1.1.trans k2.1,λQ hQ=>k1.2 _ (k2.2 Q hQ)⟩
   ·rename_i r hr
    have k1:=Hg hE n a s _ _ _ h
    refine⟨k1.1,λQ hQ=>k1.2 _ ?_⟩
    cases e<;>first|exact hQ|exact absurd h (hr _ _)
  case cond c a b=>
   obtain⟨h1,h⟩:=Ar h
   simp only[rl]at h1
   cases hb:Fg (AX s.env c)<;>rw[hb]at h<;>have k:=Hg hE n _ s _ _ _ h<;>refine⟨k.1,λQ hQ=>⟨h1.1,PR h1.2,λq=>?_,λq=>?_⟩⟩<;>first|exact k.2 Q hQ|(rw[hb]at q;cases q)
  case block id c=>
   split at h
   ·rename_i i t U q
    have k:=Hg hE n c s _ _ _ q
    cases hi:i==id<;>rw[hi]at h<;>cases h
    ·refine⟨k.1,λQ hQ=>k.2 _ ?_⟩
     simp only
     rw[rj (λe=>by rw[e,beq_self_eq_true]at hi;cases hi)]
     exact hQ
    ·refine⟨k.1,λQ hQ=>k.2 _ ?_⟩
     simp only
     rw[rt (eq_of_beq hi)]
     exact hQ
   ·rename_i hr
    have k:=Hg hE n c s _ _ _ h
    refine⟨k.1,λQ hQ=>k.2 _ ?_⟩
    cases e<;>first|exact hQ|exact absurd h (hr _ _ _)
  case loop c=>
   split at h
   ·rename_i s1 U q
    obtain⟨V,h3,rfl⟩:=NG h
    have k1:=Hg hE n c s _ _ _ q
    have k2:=Hg hE n (.loop c) s1 _ _ _ h3
    refine⟨k1.1.trans k2.1,λQ hQ=>?_⟩
    obtain⟨I,μ,h1,h2⟩:=k2.2 Q hQ
    classical
    refine⟨λt=>t=s\/I t,λt=>if I t then μ t else μ s1+1,.inl rfl,λt ht=>?_⟩
    by_cases hI:I t
    ·refine Fq c _ _ t (λe s h=>?_) (h2 t hI)
     cases e
     case normal=>
      obtain⟨s2,w,i2,m2⟩:=h
      refine⟨s2,w,.inr i2,?_⟩
      simp only
      rw[rt i2,rt hI]
      exact m2
     all_goals exact h
    ·obtain rfl:=ht.resolve_right hI
     refine k1.2 _ ⟨s1,.inl rfl,.inr h1,?_⟩
     simp only
     rw[rt h1,rj hI]
     exact Nat.lt_succ_self _
   ·rename_i hr
    have k:=Hg hE n c s _ _ _ h
    refine⟨k.1,λQ hQ=>⟨λt=>t=s,λ_=>0,rfl,λt ht=>?_⟩⟩
    subst ht
    refine k.2 _ ?_
    cases e<;>first|exact hQ|exact absurd h (hr _ _)
  case exit=>cases h;exact⟨Fr.same,λQ hQ=>hQ⟩
  case ret=>cases h;exact⟨Fr.same,λQ hQ=>hQ⟩
def rlC(H:AB)(sz:Nat)(a:Bool):∀v,Ch (BG H sz a v).1
 | .ptr id off=>by
  unfold BG
  try dsimp only
  cases AD H id with
  |none=>exact no
  |some o=>cases o<;>first|exact dc|exact no
 |_=>no
def rS(s:AS):∀l,Ch (L5 s l).1
 |[]=>⟨true,λ_=>zt⟩
 | .t i::l=>ca (p:=(lk s.env (.t i)).1=true) dc (rS s l)
 | .c i sz a::l=>ca (ca (p:=(lk s.env (.t i)).1=true) dc (rlC s.H sz a _)) (rS s l)
structure XF(P:Program) where
 f:FuncId
 run:CT->ET->Nat->List Fs->AB->Nat->Option (v8×AB×Nat×List Nat)
 ok:∀{C E m a H n o H' n' T},COK P C->rQ P E->run C E m a H n=some (o,H',n',T)->Fr T H H'/\∀R:v8->AB->Nat->Prop,R o H' n'->AV P f a H n R
structure XS(P:Program) where
 f:FuncId
 sp:List Fs->Option Fs
 ok:∀{a r},sp a=some r->∃a',Wks a a'/\Aw P f a' r
def xS{P:Program}{f:FuncId}{a:List Fs}{r:Fs}(h:Aw P f a r):XS P:=⟨f,λb=>bif wksB b a then some r else none,λe=>by
 obtain⟨q,e⟩:=Ar e
 cases e
 exact⟨a,(wksB_ok _ _ q).1,h⟩⟩
def xr(c:z8)(rs:List RC)(C:CT)(E:ET)(m:Nat)(a:List Fs)(H:AB)(n:Nat):Option (v8×AB×Nat×List Nat):=match xc C E m c ⟨G5 0 a,H,n⟩with
 |some (.ret,s,T)=>bif (rS s rs).1 then some (.ret (X5 (L5 s rs).2),s.H,s.n,T)else none
 |some (.normal,s,T)=>bif (rS s rs).1 then some (.ret (X5 (L5 s rs).2),s.H,s.n,T)else none
 |some (.pan v,s,T)=>some (.pan v,s.H,s.n,T)
 |_=>none
section
variable {P:Program}
def xF{f:FuncId}{c:z8}{rs:List RC}(ok:TM P f c rs):XF P:=⟨f,xr c rs,λhC hE h=>by
 unfold xr at h
 split at h
 ·rename_i s T q
  obtain⟨h1,h⟩:=Ar h
  cases h
  have k:=Hg hE _ _ _ _ _ _ q
  exact⟨k.1,λR hR=>ok (AI (Zu hC) (k.2 _ ⟨(rS _ _).2 h1,hR⟩))⟩
 ·rename_i s T q
  obtain⟨h1,h⟩:=Ar h
  cases h
  have k:=Hg hE _ _ _ _ _ _ q
  exact⟨k.1,λR hR=>ok (AI (Zu hC) (k.2 _ ⟨(rS _ _).2 h1,hR⟩))⟩
 ·rename_i s T q
  cases h
  have k:=Hg hE _ _ _ _ _ _ q
  exact⟨k.1,λR hR=>ok (AI (Zu hC) (k.2 _ hR))⟩
 ·cases h⟩
section
variable {f s9:FuncId} {ys:List z8} {t:Nat} {d0:Option Nat} {k:xx} {y c:z8} {lo t3 t4:Nat} {rs:List RC}
 (okd:∀{args:List Fs} {rv:Fs} {H:AB} {n:Nat} {Rc:AB->Nat->Prop},Hu P c (Dp [] λo H' n'=>o= .ret (.tup [])/\Rc H' n') ⟨(t3,true,rv)::(t4,true,rv)::G5 0 args,H,n⟩->EG P s9 args rv H n Rc)
include okd
end
end
section
variable {P:Program} (tab:List (XF P)) (ts:List (XS P)) (m:Nat)
def xp:Nat->CT×ET
 |0=>(λ_ _=>none,λ_ _ _ _=>none)
 |n+1=>(λf a=>match ts.findSome? λe=>bif e.f==f then e.sp a else none with
   |some r=>some r
   |none=>match tab.find? λe=>e.f==f with
    |none=>none
    |some e=>bif uBs (strips a)then(match e.run (xp n).1 (xp n).2 m (strips a) Ai 0 with
     |some (.ret v,_,_,_)=>bif uB (Vk v)then some (Vk v)else none
     |_=>none)else none,
  λf a H k=>match tab.find? λe=>e.f==f with
   |none=>none
   |some e=>e.run (xp n).1 (xp n).2 m a H k)
theorem jU:∀n,COK P (xp tab ts m n).1/\rQ P (xp tab ts m n).2
 |0=>⟨λ_ _ _ h=>(by cases h),λ_ _ _ _ _ _ _ _ h=>(by cases h)⟩
 |n+1=>by
  obtain⟨hC,hE⟩:=jU n
  constructor
  ·intro f l r h
   unfold xp at h
   dsimp only at h
   split at h
   ·rename_i e he
    cases h
    obtain⟨e,_,he⟩:=List.exists_of_findSome?_eq_some he
    have h9:=Ar he
    obtain rfl:=eq_of_beq h9.1
    exact e.ok h9.2
   ·split at h
    ·cases h
    ·rename_i e he
     have hf:=List.find?_some he
     obtain rfl:=eq_of_beq hf
     obtain⟨h1,h⟩:=Ar h
     split at h
     ·rename_i v _ _ _ q
      obtain⟨h2,h⟩:=Ar h
      cases h
      exact⟨_,strips_wk l,.mk (uBs_ok _ h1) (Zp _ h2) ((e.ok hC hE q).2 _ ⟨_,rfl,R7 v⟩)⟩
     ·cases h
  ·intro f l H k o H' n' T h
   unfold xp at h
   dsimp only at h
   split at h
   ·cases h
   ·rename_i e he
    have hf:=List.find?_some he
    obtain rfl:=eq_of_beq hf
    exact e.ok hC hE h
end
end Go.AM
namespace Go.AM
open Go.Lib Go.Proofs Go.Proofs.Tryz
def nR:Dc (List (List x9)):=cY Bn PE
def nS(p:List (List x9)):nR.ok (Bn p)=True:=HS Gx p
def ei(p:List (List x9)):nR.dec (Bn p)=p:=Gx p
def s4{α β γ δ:Type}(A:Dc α)(B:Dc β)(C:Dc γ)(D:Dc δ)(c:α->β->γ->δ->Prop)(f:α->β->γ->δ->Fs):List Fs->AB->Prop×Fs:=λa _=>match a with
 |[x,y,z,u]=>(A.ok x/\B.ok y/\C.ok z/\D.ok u/\c (A.dec x) (B.dec y) (C.dec z) (D.dec u),f (A.dec x) (B.dec y) (C.dec z) (D.dec u))
 |_=>(False,.tup [])
def q4{α β γ δ:Type}{A:Dc α}{B:Dc β}{C:Dc γ}{D:Dc δ}{c:α->β->γ->δ->Prop}{f:α->β->γ->δ->Fs}{s9:FuncId}(h:∀x y z u,c x y z u->Aw prog s9 [A.enc x,B.enc y,C.enc z,D.enc u] (f x y z u)):∀args H n,(s4 A B C D c f args H).1->Ao prog s9 args H n (s4 A B C D c f args H).2:=by
 intro args H n hh;unfold s4 at hh⊢;split at hh
 ·obtain⟨h1,h2,h3,h4,h5⟩:=hh;refine AV.args ((h _ _ _ _ h5).quiet H n) ?_;rintro g vs ⟨v,r,rfl,k1,w,r',rfl,k2,u,r'',rfl,k3,t,r3,rfl,k4,k5⟩;exact⟨v,_,rfl,A.wk _ h1 _ _ k1,w,_,rfl,B.wk _ h2 _ _ k2,u,_,rfl,C.wk _ h3 _ _ k3,t,_,rfl,D.wk _ h4 _ _ k4,k5⟩
 ·exact hh.elim
def cV(r:Fs):List Fs->AB->Prop×Fs:=λa _=>match a with
 |[]=>(True,r)
 |_=>(False,.tup [])
def q0v{s9:FuncId}{r:Fs}(h:Aw prog s9 [] r):∀args H n,(cV r args H).1->Ao prog s9 args H n (cV r args H).2:=by
 intro args H n hh;unfold cV at hh⊢;split at hh
 ·exact h.quiet H n
 ·exact hh.elim
def nU:Tp.ok (.agg [.sl .nil [],.sl .nil []])=True:=ra (show Wk _ (Ca Zn)from Wk.agg (.cons (Wk.sl (.inr rfl)) (.cons (Wk.sl (.inr rfl)) .nil)))
theorem en:Tp.dec (.agg [.sl .nil [],.sl .nil []])=Zn:=rfl
noncomputable def tabS:List (XF prog):=[xF (c5.a),xF (rU.a),xF (c13.a),xF (@a12),xF (c21.a),xF (c22.a),xF (c8.a),xF (je.a),xF (c35.a),xF (c36.a),xF (c37.a),xF (c34.a),xF (c45.a),xF (c25.a),xF (c23.a),xF (c24.a),xF (c38.a),xF (c39.a),xF (c62.a),xF (c63.a),xF (az.a),xF (c61.a),xF (c66.a),xF (c65.a),xF (c76.a),xF (bG.a),xF (c78.a),xF (c79.a),xF (c80.a),xF (c81.a),xF (c48.a),xF (c47.a),xF (c95.a),xF (c49.a),xF (c94.a),xF (c96.a),xF (pk.a),xF (bH.a),xF (pn.a),xF (po.a),xF (@a120),xF (pZ.a),xF (pb.a),xF (pe.a),xF (pW.a),xF (bD.a),xF (gR.a),xF (qI.a),xF (qJ.a),xF (pX.a),xF (c31.a),xF (c50.a),xF (c84.a),xF (c145.a),xF (ph.a),xF (Qu.a),xF (gH.a),xF (gI.a),xF (pg.a),xF (pY.a),xF (Xk.a),xF (Dx.a),xF (pd.a),xF (gG.a),xF (qK.a),xF (qL.a),xF (qM.a),xF (Xm.a),xF (c60.a),xF (jc.a),xF (c86.a),xF (c88.a),xF (c87.a),xF (c85.a),xF (c133.a),xF (pm.a),xF (pj.a),xF (gJ.a),xF (bF.a),xF (bE.a),xF (c91.a),xF (c92.a),xF (c93.a),xF (qE.a),xF (c185.a),xF (pi.a),xF (pt.a),xF (bI.a),xF (px.a),xF (pz.a),xF (qC.a),xF (gL.a),xF (qD.a),xF (pu.a),xF (pp.a),xF (pq.a),xF (py.a),xF (qA.a)]
def nV:List (XS prog):=[xS (p43 k0 nI),xS (p46 k0 1 nI),xS (p46 k0 3 nI),
  xS (p67 k0 x0 p0 nI fx0 fp0.1 fp0.2),xS (p67 k0 nG pe0 nI fo0 fpe.1 fpe.2),xS (p10 k0 x0 nI fx0),xS (p10 k0 R5 nI fb0)]
def F7{ts:List (XS prog)}{f:FuncId}{a:List Fs}{r:Fs}(h:(uBs a&&match (xp tabS ts 400 40).1 f a with
  |some v=>wkB v r
  |none=>false)=true):Aw prog f a r:=by
 rw[rl]at h
 obtain⟨hu,h⟩:=h
 split at h
 ·rename_i v e
  obtain⟨a',w,p⟩:=(jU tabS ts 400 40).1 _ _ _ e
  have k:=Zo _ _ h
  exact⟨uBs_ok _ hu,k.2,(AV.args p.2.2 λg vs hv=>w.rel vs hv).mono λo H' n' ⟨v,e,q⟩=>⟨v,e,q.trans k.1⟩⟩
 ·cases h
def rn0:Aw prog 21 [] (A5 k0):=F7 (ts:=[]) (by kernel_rfl)
def rn1:Aw prog 8 [A5 k0,BZ x0] (.tup [Bn p0,.int .i64 0]):=F7 (ts:=nV) (by kernel_rfl)
def rn2:Aw prog 8 [A5 k0,BZ R5] (.tup [Tj,.int .i64 320]):=F7 (ts:=nV) (by kernel_rfl)
def rn3:Aw prog 8 [A5 k0,BZ jS] (.tup [Bn pe0,.int .i64 0]):=F7 (ts:=nV) (by kernel_rfl)
def rn4:Aw prog 19 [A5 k0,Ca Zn] (.int .i64 0):=F7 (ts:=nV) (by kernel_rfl)
def rn5:Aw prog 19 [A5 k0,Ca W0] (.int .i64 0):=F7 (ts:=nV) (by kernel_rfl)
def rn6:Aw prog 19 [A5 k0,Ca lib2] (.int .i64 310):=F7 (ts:=nV) (by kernel_rfl)
def tsV:List (XS prog):=xS rn4::xS rn5::xS rn6::nV
def rn7:Aw prog 16 [A5 k0,.agg [.sl .nil [],.sl .nil []],BZ x0,Bn p0] (.tup [Ca W0,.int .i64 0]):=F7 (ts:=tsV) (by kernel_rfl)
def rn8:Aw prog 16 [A5 k0,Ca W0,BZ x0,Bn p0] (.tup [Tk,.int .i64 161]):=F7 (ts:=tsV) (by kernel_rfl)
def rn9:Aw prog 16 [A5 k0,Ca W0,BZ nG,Bn pe0] (.tup [Tk,.int .i64 310]):=F7 (ts:=tsV) (by kernel_rfl)
def p5:Aw prog 5 [] (.bool true):=
 F7 (ts:=xS rn0::xS rn1::xS rn2::xS rn3::xS rn7::xS rn8::xS rn9::tsV) (by kernel_rfl)
section
variable (a:List Fs) (H:AB)
end
def nW:Bc:=AG 5 (cV (.bool true)) (AG 6 (s1 B2 (λ_=>True) λk=>.bool (QJ k)) (AG 7 (s1 dX (λ_=>True) λx=>.bool (F5 x)) (AG 14 (s1 Tp (λ_=>True) λl=>.bool (Kz l)) (AG 15 (s1 nR (λ_=>True) λp=>.bool (F6 p))
 (AG 16 (s4 B2 Tp dX nR (λk l x p=>zk k.d/\FewB l/\xw x/\DU p) DD) (AG 19 (s2 B2 Tp (λk l=>zk k.d/\FewB l) λk l=>.int .i64 (Co k l)) (AG 17 (s4 B2 Tp dX nR (λk l x p=>RfK k/\FewB l/\xw x/\DU p) DD) (AG 20 (s2 B2 Tp (λk l=>RfK k/\FewB l) λk l=>.int .i64 (Co k l))
 (AG 18 (s2 Tp Tp (λa b=>FewB a/\a=b) λ_ _=>.bool true) tnil)))))))))
def nX:AH prog nW:=(((((((((AH.tnil.add (q2 λa b h=>by obtain⟨h,rfl⟩:=h;exact p18 a h)).add (q2 λk l h=>p20 k l h.1 h.2)).add (q4 λk l x p h=>p17 k l x p h.1 h.2.1 h.2.2.1 h.2.2.2)).add (q2 λk l h=>p19 k l h.1 h.2)).add (q4 λk l x p h=>p16 k l x p h.1 h.2.1 h.2.2.1 h.2.2.2)).add (q1 λp _=>p15 p)).add (q1 λl _=>p14 l)).add (q1 λx _=>p7 x)).add (q1 λk _=>p6 k)).add (q0v p5)
section
variable (a:List Fs) (H:AB)
end
def FewB.app{l:Lbr}{x:zy}{p:List (List x9)}(h:FewB l)(hx:xw x)(hp:DU p)(h1:l.ls.length<16)(h2:l.pf.length=l.ls.length):FewB ⟨l.ls++[x],l.pf++[p]⟩:=
 ⟨by show(l.ls++[x]).length<_;simp;omega,by show(l.pf++[p]).length<_;simp;omega,λy hy=>by
  rcases ti.1 hy with q|q
  ·exact h.lm y q
  ·rw[sZ.1 q];exact hx,λy hy=>by
  rcases ti.1 hy with q|q
  ·exact h.pr y q
  ·rw[sZ.1 q];exact hp⟩
def W2{k:zx}{l:Lbr}{x:zy}{p:List (List x9)}(hl:FewB l)(hx:xw x)(hp:DU p):(∃e,e≠0/\Cg k l x p=e/\DD k l x p= .tup [Tk,.int .i64 e])\/∃m:Lbr,m=⟨l.ls++[x],l.pf++[p]⟩/\Cg k l x p=0/\DD k l x p= .tup [Ca m,.int .i64 0]/\FewB m:=by
 by_cases h:Cg k l x p=0
 ·right;obtain⟨-,h2,h3⟩:=R6 h;exact⟨_,rfl,h,by unfold DD;rw[h,rj zd],hl.app hx hp h3 h2⟩
 ·left;exact⟨_,h,rfl,by unfold DD;rw[rt h]⟩
def p4(k:zx)(l:Lbr)(x:zy)(p:List (List x9))(hw:WdK k):Aw prog 4 [A5 k,Ca l,BZ x,Bn p] (.bool true):=by
 have u1:B2.ok (.agg (AF k))=True:=CC k;have u2:B2.dec (.agg (AF k))=k:=Bm k;simp only[AF,AE,AL,si,sj]at u1 u2;have v1:dX.ok (.agg (AY x))=True:=D5 x;have v2:dX.dec (.agg (AY x))=x:=C4 x;simp only[AY]at v1 v2;have b1:Tp.ok (.agg [JN l.ls,Jx l.pf])=True:=Zm l;have b2:Tp.dec (.agg [JN l.ls,Jx l.pf])=l:=Vj l;have t1:nR.ok (.agg [Kj p])=True:=nS p;have t2:nR.dec (.agg [Kj p])=p:=ei p;refine .mk ⟨Aj 0 k,Cb 0 l,At 0 x,Bo 0 p,zt⟩ zt (c4.a (AI nX (AJ ?_)));cases hf:QJ k with
 |false=>simp only[eZ,seval,re,rf,c4,nW,cV,s1,AF,AE,AL,u1,u2,hf,rf,re,AG]
 |true=>
 cases hb:Kz l with
 |false=>simp only[eZ,seval,re,rf,c4,nW,cV,s1,AF,AE,AL,u1,u2,b1,b2,hf,hb,rf,re,AG]
 |true=>
 cases hg:F5 x with
 |false=>simp only[eZ,seval,re,rf,c4,nW,cV,s1,AF,AE,AL,u1,u2,v1,v2,b1,b2,hf,hb,hg,rf,re,AG]
 |true=>
 cases hq:F6 p with
 |false=>simp only[eZ,seval,re,rf,c4,nW,cV,s1,AF,AE,AL,u1,u2,v1,v2,b1,b2,t1,t2,hf,hb,hg,hq,rf,re,AG]
 |true=>
 have hR:=nJ hf hw;have hD:=hR.kn.d;have hx:=ZV hg;have hl:=mb hb;have hp:=ZW hq;rcases W2 (k:=k) hl hx hp with⟨e,he,hE,hS⟩|⟨m,-,hE,hS,hm⟩
 ·simp only[eZ,seval,re,eY,c4,nW,cV,s1,s2,s4,AF,AE,AL,u1,u2,v1,v2,b1,b2,t1,t2,hf,hb,hg,hq,re,ra hD,ra hR,ra hx,ra hl,ra hp,hS,nU,en,ra fl0,uk,AG]
 ·have m1:Tp.ok (.agg [JN m.ls,Jx m.pf])=True:=Zm m;have m2:Tp.dec (.agg [JN m.ls,Jx m.pf])=m:=Vj m;simp only[eZ,seval,re,eY,c4,nW,cV,s1,s2,s4,AF,AE,AL,u1,u2,v1,v2,b1,b2,t1,t2,hf,hb,hg,hq,re,ra hD,ra hR,ra hx,ra hl,ra hp,hS,m1,m2,ra hm,uk,AG]
end Go.AM
namespace Go.AM
open Go.ChangeAt Go.ChangeShapes Go.Lib Go.Proofs Go.RowKit Go.WideElems Go.WideMaps Go.WideShapes Go.Proofs.Tryz
section
abbrev big(n:Nat):Prop:=n<=140737488355328
variable {av:List Fs} {α:Type}
theorem NH{l:List α}(h:big l.length):wide l:=by show l.length<_;omega
theorem own:ownKnob prog.godebug=none:=by kernel_rfl
theorem Vl(i:Nat):Tu i=none:=by rfl
theorem R8(W:World):Et (gW W)/\Gy W:=
 ⟨(λi cs h=>by rw[Vl]at h;cases h),(λi cs h=>by rw[Vl]at h;cases h)⟩
abbrev QX:Sh:=.sl (.int .i64)
abbrev nY:Sh:=.st [.str,.int .i64]
abbrev nZ:Sh:=.st [.str,.sl QX]
abbrev na:Sh:=.st [.str,.str,.int .i64,.int .i64,.int .i64,.int .i64]
abbrev ng:Sh:=.st [.str,.str,.int .i64,.int .i64,.sl .str,.sl .str,.int .i64,.int .i64,.int .i64,.int .i64,.str,.int .i64]
abbrev shD:Sh:=.st [.str,.int .i64,.int .i64,.int .i64,.int .i64,QX,.sl nY,.sl nZ,.sl na,.sl ng]
abbrev shGr:Sh:=.st [.int .i64,.int .i64,.int .i64,QX,QX]
abbrev eo:Sh:=.st [shD,shGr,.sl QX,.sl (.sl QX)]
abbrev shQ:Sh:=.st [.int .i64,QX,QX,.int .i64]
abbrev shM:Sh:=.st [.int .i64,QX]
abbrev shX:Sh:=.st [.str,.int .i64,.sl .str,.sl .str,.sl shQ,.sl shM,.int .i64,.int .i64]
abbrev Zy:Sh:=.st [.int .i64,.int .i64]
abbrev Zz:Sh:=.st [.sl (.sl Zy)]
abbrev er:Sh:=.st [.sl shX,.sl Zz]
theorem rb{n:Nat}(h:n<=reachBytes):big n:=sO h zd
theorem Gg{e:Sh}{enc:α->Fs}{Q:α->Prop}(he:∀vs,e.rd vs->∃a,Q a/\e.wrap vs=enc a)(h:(Sh.sl e).rd av):∃l:List α,big l.length/\(∀x∈l,Q x)/\av=[.sl (.none e.size) (l.map enc)]:=by
 simp only[Sh.rd]at h;obtain⟨l,rfl,ww,h⟩:=h
 suffices ∃m:List α,m.length=l.length/\(∀x∈m,Q x)/\l.map e.wrap=m.map enc by
  obtain⟨m,hm,hq,xu⟩:=this;exact⟨m,by rw[hm];exact rb ww,hq,by rw[xu]⟩
 clear ww;induction l with
 |nil=>exact⟨[],rfl,(λx hx=>by cases hx),rfl⟩
 |cons x l ih=>
  obtain⟨m,h1,h2,h3⟩:=ih λy hy=>h y (by simp [hy])
  obtain⟨a,hq,ha⟩:=he x (h x zw);exact⟨a::m,by simp [h1],λy hy=>by
   rcases sP.1 hy with rfl|hy
   ·exact hq
   ·exact h2 y hy,by rw[sw,sw,h3,ha]⟩
theorem rdI'(vs:List Fs)(h:(Sh.int .i64).rd vs):∃n:Int,True/\(Sh.int .i64).wrap vs=eI n:=by
 obtain⟨n,rfl,_⟩:=h;exact⟨n,zt,rfl⟩
theorem nh(vs:List Fs)(h:Sh.str.rd vs):∃s:Bs,big s.length/\Sh.str.wrap vs= .str s:=by
 obtain⟨s,rfl,hs⟩:=h;exact⟨s,rb hs,rfl⟩
theorem rdIs'(vs:List Fs)(h:(Sh.sl (.int .i64)).rd vs):∃l:List Int,big l.length/\(Sh.sl (.int .i64)).wrap vs=Am l:=by
 obtain⟨l,h1,-,rfl⟩:=Gg rdI' h;exact⟨l,h1,rfl⟩
theorem Iz{e:Sh}{enc:α->Fs}(he:∀vs,e.rd vs->∃a,e.wrap vs=enc a)(h:(Sh.sl e).rd av):∃l:List α,av=[.sl (.none e.size) (l.map enc)]:=by
 obtain⟨l,-,-,h⟩:=Gg (Q:=λ_=>True) (λvs h=>by obtain⟨a,ha⟩:=he vs h;exact⟨a,zt,ha⟩) h;exact⟨l,h⟩
theorem W3(vs:List Fs)(h:(Sh.int .i64).rd vs):∃n:Int,(Sh.int .i64).wrap vs=eI n:=by
 obtain⟨n,-,h⟩:=rdI' vs h;exact⟨n,h⟩
theorem rdS0(vs:List Fs)(h:Sh.str.rd vs):∃s:Bs,Sh.str.wrap vs= .str s:=by
 obtain⟨n,-,h⟩:=nh vs h;exact⟨n,h⟩
theorem Z0(vs:List Fs)(h:(Sh.sl (.int .i64)).rd vs):∃l:List Int,wide l/\(Sh.sl (.int .i64)).wrap vs=Am l:=by
 obtain⟨l,h1,h2⟩:=rdIs' vs h;exact⟨l,NH h1,h2⟩
theorem rdLlW(vs:List Fs)(h:(Sh.sl (.sl (.int .i64))).rd vs):∃l:List (List Int),(∀m∈l,wide m)/\(Sh.sl (.sl (.int .i64))).wrap vs=Bv l:=by
 obtain⟨l,-,h2,rfl⟩:=Gg Z0 h;exact⟨l,h2,rfl⟩
theorem rdSy(vs:List Fs)(h:nY.rd vs):∃s:xv,nY.wrap vs=JF s:=by
 simp only[Sh.rd.eq_5,Sh.rdL]at h;obtain⟨_,_,rfl,⟨nm,rfl,h1⟩,_,_,rfl,⟨v,rfl,_⟩,rfl⟩:=h;exact⟨⟨nm,v⟩,rfl⟩
theorem rdRg(vs:List Fs)(h:nZ.rd vs):∃r:xj,(∀l∈r.ls,wide l)/\nZ.wrap vs=Gc r:=by
 simp only[Sh.rd.eq_5,Sh.rdL]at h;obtain⟨_,_,rfl,⟨nm,rfl,h1⟩,_,_,rfl,h2,rfl⟩:=h;obtain⟨ls,-,l2,rfl⟩:=Gg Z0 h2;exact⟨⟨nm,ls⟩,l2,rfl⟩
theorem rdCl(vs:List Fs)(h:na.rd vs):∃c:x8,na.wrap vs=Cc c:=by
 simp only[Sh.rd.eq_5,Sh.rdL]at h;obtain⟨_,_,rfl,⟨nm,rfl,h1⟩,_,_,rfl,⟨on,rfl,h2⟩,_,_,rfl,⟨a,rfl,_⟩,_,_,rfl,⟨b,rfl,_⟩,_,_,rfl,⟨c,rfl,_⟩,_,_,rfl,⟨d,rfl,_⟩,rfl⟩:=h;exact⟨⟨nm,on,a,b,c,d⟩,rfl⟩
theorem rdRu(vs:List Fs)(h:ng.rd vs):∃r:zj,(wide r.ns/\wide r.os)/\ng.wrap vs=Br r:=by
 simp only[Sh.rd.eq_5,Sh.rdL]at h;obtain⟨_,_,rfl,⟨nm,rfl,h1⟩,_,_,rfl,⟨on,rfl,h2⟩,_,_,rfl,⟨k,rfl,_⟩,_,_,rfl,⟨f,rfl,_⟩,_,_,rfl,h3,_,_,rfl,h4,_,_,rfl,⟨set,rfl,_⟩,_,_,rfl,⟨oth,rfl,_⟩,_,_,rfl,⟨op,rfl,_⟩,_,_,rfl,⟨n,rfl,_⟩,_,_,rfl,⟨b,rfl,h5⟩,_,_,rfl,⟨c,rfl,_⟩,rfl⟩:=h;obtain⟨ns,n1,n2,rfl⟩:=Gg nh h3;obtain⟨os,o1,o2,rfl⟩:=Gg nh h4;exact⟨⟨nm,on,k,f,ns,os,set,oth,op,n,b,c⟩,⟨NH n1,NH o1⟩,rfl⟩
theorem rdD(vs:List Fs)(h:shD.rd vs):∃d:xk,((∀r∈d.regs,∀l∈r.ls,wide l)/\∀r∈d.ruls,wide r.ns/\wide r.os)/\vs=AL d:=by
 simp only[Sh.rd.eq_5,Sh.rdL]at h;obtain⟨_,_,rfl,⟨nm,rfl,h1⟩,_,_,rfl,⟨v,rfl,_⟩,_,_,rfl,⟨sh,rfl,_⟩,_,_,rfl,⟨w,rfl,_⟩,_,_,rfl,⟨hh,rfl,_⟩,_,_,rfl,h2,_,_,rfl,h3,_,_,rfl,h4,_,_,rfl,h5,_,_,rfl,h6,rfl⟩:=h;obtain⟨ho,rfl⟩:=Iz W3 h2;obtain⟨sy,rfl⟩:=Iz rdSy h3;obtain⟨rg,-,c2,rfl⟩:=Gg rdRg h4;obtain⟨cl,rfl⟩:=Iz rdCl h5;obtain⟨ru,-,e2,rfl⟩:=Gg rdRu h6;exact⟨⟨nm,v,sh,w,hh,ho,sy,rg,cl,ru⟩,⟨c2,e2⟩,rfl⟩
theorem rdGr(vs:List Fs)(h:shGr.rd vs):∃g:v7,vs=AE g.sh g.w g.h g.holes g.cells:=by
 simp only[Sh.rd.eq_5,Sh.rdL]at h;obtain⟨_,_,rfl,⟨sh,rfl,_⟩,_,_,rfl,⟨w,rfl,_⟩,_,_,rfl,⟨hh,rfl,_⟩,_,_,rfl,h2,_,_,rfl,h3,rfl⟩:=h;obtain⟨ho,rfl⟩:=Iz W3 h2;obtain⟨ce,rfl⟩:=Iz W3 h3;exact⟨⟨sh,w,hh,ho,ce⟩,rfl⟩
theorem rdKn(vs:List Fs)(h:eo.rd vs):∃k:zx,WdK k/\eo.wrap vs=A5 k:=by
 rw[Sh.rd.eq_5]at h;simp only[Sh.rdL]at h;obtain⟨_,_,rfl,h1,_,_,rfl,h2,_,_,rfl,h3,_,_,rfl,h4,rfl⟩:=h;obtain⟨d,⟨w1,w2⟩,rfl⟩:=rdD _ h1;obtain⟨g,rfl⟩:=rdGr _ h2;obtain⟨nb,-,w3,rfl⟩:=Gg Z0 h3;obtain⟨ls,-,w4,rfl⟩:=Gg rdLlW h4;exact⟨⟨d,g,nb,ls⟩,⟨w1,w2,w3,w4⟩,rfl⟩
theorem rdQ(vs:List Fs)(h:shQ.rd vs):∃q:Cnd,shQ.wrap vs=GK q:=by
 simp only[Sh.rd.eq_5,Sh.rdL]at h;obtain⟨_,_,rfl,⟨k,rfl,_⟩,_,_,rfl,h1,_,_,rfl,h2,_,_,rfl,⟨n,rfl,_⟩,rfl⟩:=h;obtain⟨cs,rfl⟩:=Iz W3 h1;obtain⟨ls,rfl⟩:=Iz W3 h2;exact⟨⟨k,cs,ls,n⟩,rfl⟩
theorem rdMm(vs:List Fs)(h:shM.rd vs):∃p:Prm,shM.wrap vs=GP p:=by
 simp only[Sh.rd.eq_5,Sh.rdL]at h;obtain⟨_,_,rfl,⟨c,rfl,_⟩,_,_,rfl,h1,rfl⟩:=h;obtain⟨ls,rfl⟩:=Iz W3 h1;exact⟨⟨c,ls⟩,rfl⟩
theorem rdX(vs:List Fs)(h:shX.rd vs):∃x:zy,shX.wrap vs=BZ x:=by
 simp only[Sh.rd.eq_5,Sh.rdL]at h;obtain⟨_,_,rfl,⟨nm,rfl,_⟩,_,_,rfl,⟨lv,rfl,_⟩,_,_,rfl,h1,_,_,rfl,h2,_,_,rfl,h3,_,_,rfl,h4,_,_,rfl,⟨c,rfl,_⟩,_,_,rfl,⟨l,rfl,_⟩,rfl⟩:=h;obtain⟨cs,rfl⟩:=Iz rdS0 h1;obtain⟨ls,rfl⟩:=Iz rdS0 h2;obtain⟨qs,rfl⟩:=Iz rdQ h3;obtain⟨ps,rfl⟩:=Iz rdMm h4;exact⟨⟨nm,lv,cs,ls,qs,ps,c,l⟩,rfl⟩
theorem rdCa(vs:List Fs)(h:Zy.rd vs):∃c:x9,Zy.wrap vs=OQ c:=by
 simp only[Sh.rd.eq_5,Sh.rdL]at h;obtain⟨_,_,rfl,⟨k,rfl,_⟩,_,_,rfl,⟨a,rfl,_⟩,rfl⟩:=h;exact⟨⟨k,a⟩,rfl⟩
theorem rdCs(vs:List Fs)(h:(Sh.sl Zy).rd vs):∃l:List x9,(Sh.sl Zy).wrap vs=MZ l:=by
 obtain⟨l,rfl⟩:=Iz rdCa h;exact⟨l,rfl⟩
theorem rdPf(vs:List Fs)(h:Zz.rd vs):∃p:List (List x9),Zz.wrap vs=Bn p:=by
 simp only[Sh.rd.eq_5,Sh.rdL]at h;obtain⟨_,_,rfl,h1,rfl⟩:=h;obtain⟨p,rfl⟩:=Iz rdCs h1;exact⟨p,rfl⟩
theorem rdLb(vs:List Fs)(h:er.rd vs):∃l:Lbr,er.wrap vs=Ca l:=by
 rw[Sh.rd.eq_5]at h;simp only[Sh.rdL]at h;obtain⟨_,_,rfl,h1,_,_,rfl,h2,rfl⟩:=h;obtain⟨ls,rfl⟩:=Iz rdX h1;obtain⟨pf,rfl⟩:=Iz rdPf h2;exact⟨⟨ls,pf⟩,rfl⟩
theorem et(h:Sh.rdA [eo,er,shX,Zz] av):∃(k:zx) (l:Lbr) (x:zy) (p:List (List x9)),WdK k/\av=[A5 k,Ca l,BZ x,Bn p]:=by
 simp only[Sh.rdA]at h;obtain⟨_,_,rfl,h1,_,_,rfl,h2,_,_,rfl,h3,_,_,rfl,h4,rfl⟩:=h;obtain⟨k,hk,e1⟩:=rdKn _ h1;obtain⟨l,e2⟩:=rdLb _ h2;obtain⟨x,e3⟩:=rdX _ h3;obtain⟨p,e4⟩:=rdPf _ h4;exact⟨k,l,x,p,hk,by rw[e1,e2,e3,e4]⟩
end
end Go.AM
