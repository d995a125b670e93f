/-
  Parts of the proof. Conditions: none.
-/
import Derived.Test.YtabcmhkkohbdeaaGreatB16
import Derived.Test.YtabcmhkkohbdeaaGreatRows
import Derived.LaidLaws
set_option maxRecDepth 20000
set_option linter.all false
set_option maxHeartbeats 1000000
namespace Go.AM
open Go.Lib Go.Proofs Go.Proofs.Tryz
section
def dk0:xj:=⟨[112,97,105,114],1,1,2,1,[],[⟨[97],0⟩,⟨[98],1⟩],[],[],[⟨[114],[],6,0,[],[],0,0,0,0,[],-1⟩]⟩
def k0:zx:=⟨dk0,⟨1,2,1,[],[0,1]⟩,[[1],[0]],[[[0],[1]],[[0,1]],[[0],[1]],[],[[1],[0]],[[0,1],[0,1]],[[0,1]],[[0,1]]]⟩
theorem hkd:k0.d=dk0:=rfl
def x0:zk:=⟨[115,105,110,103,108,101],1,[[112],[113]],[[120]],[⟨1,[0,1],[],0⟩],[⟨0,[0]⟩],1,0⟩
def SK:zk:=⟨[115,105,110,103,108,101],1,[[112],[113]],[[120]],[],[],1,0⟩
def j7:zk:=⟨[115,105,110,103,108,101],1,[[112],[113]],[[120],[121],[122]],[],[],1,0⟩
def nj:zk:=⟨[111,116,104,101,114],1,[[112],[113]],[[120]],[⟨1,[0,1],[],0⟩],[⟨0,[0]⟩],1,0⟩
def nk:List xv:=[⟨1,0⟩,⟨2,0⟩]
def p0:List (List xv):=[nk,nk]
def la0:List Int:=[0]
def lb0:List Int:=[0,0]
def lib0:Lbr:=⟨[],[]⟩
def Xf:Lbr:=⟨[x0],[p0]⟩
def lib2:Lbr:=⟨[],[p0]⟩
def np:List (List xv):=[]
def nr:zy k0.d:=by
 rw[hkd];exact⟨zd,zd,zd,λr hr=>(by cases hr),zd,zd,λr hr=>by rw[tB.1 hr];exact⟨zd,zd⟩⟩
def fx0:wq x0:=⟨zd,zd,zd,zd,λq hq=>by rw[tB.1 hq];exact⟨zd,zd⟩,λp hp=>by rw[tB.1 hp];decide⟩
def fb0:wq SK:=⟨zd,zd,zd,zd,λq hq=>(by cases hq),λp hp=>(by cases hp)⟩
def fo0:wq nj:=⟨zd,zd,zd,zd,λq hq=>by rw[tB.1 hq];exact⟨zd,zd⟩,λp hp=>by rw[tB.1 hp];decide⟩
def fp0:PV p0:=⟨zd,λl hl=>by
 have:l=nk:=by simpa [p0]using hl
 rw[this];decide⟩
def fpe:PV np:=⟨zd,λl hl=>(by cases hl)⟩
def z1:DL k0 x0= .wJ [EW p0,.int .i64 0]:=by kernel_rfl
def z2:By k0 x0= .wJ [.sl .nil [],.sl .nil [],.bool false,.int .i64 0]:=by kernel_rfl
def z3:By k0 SK= .wJ [Aj la0,Aj lb0,.bool true,.int .i64 0]:=by kernel_rfl
def z4:DL k0 SK= .wJ [UB,.int .i64 320]:=by kernel_rfl
def z5:DL k0 j7= .wJ [EW np,.int .i64 0]:=by kernel_rfl
def z6:aC k0 lib0 x0 p0= .wJ [Lt Xf,.int .i64 0]:=by kernel_rfl
def z7:aC k0 Xf x0 p0= .wJ [fJ,.int .i64 161]:=by kernel_rfl
structure WdK(k:zx):Prop where
 rg:∀r∈k.d.wK,∀l∈r.ls,wide l
 ru:∀r∈k.d.wF,wide r.ns/\wide r.os
 nb:∀l∈k.nb,wide l
 ls:∀l∈k.ls,∀m∈l,wide m
variable {k:zx}
theorem nu(h:Qa k=true)(hw:WdK k):RfK k:=by
 unfold Qa Vj at h;simp only[sf,tJ,tY,ti,sE,si]at h;obtain⟨⟨⟨⟨⟨⟨⟨⟨⟨⟨h1,h2⟩,h3⟩,h4⟩,h5⟩,h6⟩,h7⟩,h8⟩,h9⟩,hl⟩,hr⟩:=h;have hD:zy k.d:=⟨show k.d.wC.length<_ by omega,show k.d.wE.length<_ by omega,show k.d.wK.length<_ by omega,λr hm=>⟨show r.ls.length<_ by have:=hr r hm;omega,hw.rg r hm⟩,show k.d.wG.length<_ by omega,show k.d.wF.length<_ by omega,hw.ru⟩;exact⟨⟨hD,show k.g.wC.length<_ by omega,show k.g.cells.length<_ by omega,⟨show k.nb.length<_ by omega,hw.nb⟩,show k.ls.length<_ by omega,λl hm=>⟨show l.length<_ by have:=hl l hm;omega,hw.ls l hm⟩⟩,zo⟩
theorem SL(k:zx)(x:zk):BH k x=if BE k≠0 then BE k else JA x:=rfl
theorem Xg(x:zk):JA x=0\/JA x=300:=by
 unfold JA;split
 ·exact .inl rfl
 ·exact .inr rfl
theorem SM(k:zx):BE k=0\/BE k=180:=by
 unfold BE;split
 ·exact .inl rfl
 ·exact .inr rfl
theorem SN(k:zx)(x:zk):BH k x=0\/BH k x=180\/BH k x=300:=by
 rw[SL];rcases SM k with h|h<;>rcases Xg x with h2|h2<;>rw[h,h2]<;>decide
inductive PrEnd(k:zx)(x:zk):Prop
 |bad (e:Int):e=180\/e=300->BH k x=e->DL k x= .wJ [UB,.int .i64 e]->By k x= .wJ [.sl .nil [],.sl .nil [],.bool false,.int .i64 e]->PrEnd k x
 |no (q:List Int×List Int):BH k x=0->OKL x->BE k=0->DL k x= .wJ [UB,.int .i64 320]->By k x= .wJ [Aj q.1,Aj q.2,.bool true,.int .i64 0]->GM (AP k) x=false->q.1∈EP k.d.wE.length x.ls.length->wz (AP k) x q.1 q.2->PrEnd k x
 |many:BH k x=0->OKL x->BE k=0->DL k x= .wJ [UB,.int .i64 2]->By k x= .wJ [.sl .nil [],.sl .nil [],.bool false,.int .i64 0]->GM (AP k) x=true->PrEnd k x
 |ok (ts:List (List xv)):BH k x=0->OKL x->BE k=0->DL k x= .wJ [EW ts,.int .i64 0]->By k x= .wJ [.sl .nil [],.sl .nil [],.bool false,.int .i64 0]->GM (AP k) x=true->ED (AP k) x ts=true->Bc ts<=65536->ts.length=(EP k.d.wE.length x.ls.length).length->PrEnd k x
theorem nv{x:zk}(hk:zy k.d)(hx:wq x):PrEnd k x:=by
 have hvl:(AP k).length=k.d.wE.length:=by unfold AP;rw[ry]
 rcases SN k x with hv|hv
 case inr=>
  have s8:BH k x≠0:=by rcases hv with h|h<;>rw[h]<;>decide
  exact .bad (BH k x) hv rfl (by unfold DL;rw[sn s8]) (by unfold By;rw[sn s8])
 obtain⟨hck,hox⟩:=IN hk hx hv;have hP:DL k x=HO (AP k) x:=by unfold DL;rw[sg (by simpa using hv)]
 have hC:By k x=FQ k x:=by unfold By;rw[sg (by simpa using hv)]
 have hs:=Te (vals:=AP k) hox;cases ht:GP (AP k) x with
 |none=>
  rw[ht]at hs;have hsf:GM (AP k) x=false:=hs.symm;cases hq:Oz (AP k) x with
  |none=>rw[Tf hox]at hq;rw[hq]at hsf;cases hsf
  |some q=>
   obtain⟨h1,h2⟩:=db hox hq;rw[hvl]at h1;exact .no q hv hox hck (by rw[hP];unfold HO Lb;rw[ht]) (by rw[hC];unfold FQ;rw[hq]) hsf h1 h2
 |some ts=>
  rw[ht]at hs;have wX:GM (AP k) x=true:=hs.symm;have hcn:Oz (AP k) x=none:=(Tf hox).2 wX;have hCo:By k x= .wJ [.sl .nil [],.sl .nil [],.bool false,.int .i64 0]:=by rw[hC];unfold FQ;rw[hcn]
  by_cases hN:65536<Bc ts
  ·exact .many hv hox hck (by rw[hP];unfold HO Lb;rw[ht];simp only[];rw[sn hN]) hCo wX
  ·have ww:ts.length=(EP k.d.wE.length x.ls.length).length:=by
    unfold GP at ht;rw[hvl]at ht;exact(Lc ht).1.symm
   exact .ok ts hv hox hck (by rw[hP];unfold HO Lb;rw[ht];simp only[];rw[sg hN]) hCo wX (MO ht) zo ww
end
end Go.AM
namespace Go.AM
open Go.Proofs Go.Proofs.Tryz
mutual
def WK:Fs->Fs
 | .sl .nil []=>.sl .nil []
 | .sl t l=>.sl (.none t.esz) (strips l)
 | .agg l=>.agg (strips l)
 | .wJ l=>.wJ (strips l)
 |v=>v
def strips:List Fs->List Fs
 |[]=>[]
 |v::r=>WK v::strips r
end
mutual
theorem SO:∀v:Fs,Wk v (WK v)
 | .sl .nil []=>Wk.refl _
 | .sl .nil (a::l)=>Wk.yY (.inl rfl) (xY (a::l))
 | .sl (.none e) l=>Wk.yY (.inl rfl) (xY l)
 | .sl (.exact e) l=>Wk.yY (.inl rfl) (xY l)
 | .sl (.own i e) l=>Wk.yY (.inl rfl) (xY l)
 | .agg l=>Wk.agg (xY l)
 | .wJ l=>Wk.wJ (xY l)
 | .int .. | .bool _| .str _| .nilp| .yF| .xA| .nilmp| .ptr .. | .ep _| .gp _| .ref .. | .ap .. | .fn .. | .ifc .. | .mp _| .up=>Wk.refl _
theorem xY:∀l:List Fs,zn l (strips l)
 |[]=>.nil
 |a::l=>.cons (SO a) (xY l)
end
mutual
def wkB:Fs->Fs->Bool
 | .sl .nil [],.sl .nil []=>true
 | .sl t l,.sl (.none e) m=>(decide (t.esz=e)||l.isEmpty)&&wksB l m
 | .agg l,.agg m=>wksB l m
 | .wJ l,.wJ m=>wksB l m
 | .int k n,.int k' n'=>decide (k=k')&&decide (n=n')
 | .bool b,.bool b'=>b==b'
 | .str s,.str s'=>decide (s=s')
 |_,_=>false
def wksB:List Fs->List Fs->Bool
 |[],[]=>true
 |a::l,b::m=>wkB a b&&wksB l m
 |_,_=>false
end
mutual
theorem aW:∀(a b:Fs),wkB a b=true->Wk a b/\b.under 0
 |a,b,h=>by
  unfold wkB at h
  split at h
  ·exact⟨Wk.refl _,zt,zt⟩
  ·rename_i t l e m _
   simp only[sf,sQ,si,List.isEmpty_iff]at h
   have k:=wksB_ok _ _ h.2
   exact⟨Wk.yY h.1 k.1,zt,k.2⟩
  ·have k:=wksB_ok _ _ h
   exact⟨Wk.agg k.1,k.2⟩
  ·have k:=wksB_ok _ _ h
   exact⟨Wk.wJ k.1,k.2⟩
  ·simp only[sf,si]at h
   obtain⟨rfl,rfl⟩:=h
   exact⟨Wk.refl _,zt⟩
  ·rw[eq_of_beq h]
   exact⟨Wk.refl _,zt⟩
  ·rw[si]at h
   subst h
   exact⟨Wk.refl _,zt⟩
  ·cases h
theorem wksB_ok:∀(a b:List Fs),wksB a b=true->zn a b/\wN 0 b
 |[],[],_=>⟨.nil,zt⟩
 |a::l,b::m,h=>by
  simp only[wksB,sf]at h
  have k:=aW _ _ h.1
  have k':=wksB_ok _ _ h.2
  exact⟨.cons k.1 k'.1,k.2,k'.2⟩
 |[],_::_,h=>by simp [wksB]at h
 |_::_,[],h=>by simp [wksB]at h
end
abbrev Ch(p:Prop):={b:Bool//b=true->p}
def dc{p:Prop}[Decidable p]:Ch p:=⟨decide p,th⟩
def no{p:Prop}:Ch p:=⟨false,λh=>by cases h⟩
def ca{p q:Prop}(a:Ch p)(b:Ch q):Ch (p/\q):=⟨a.1&&b.1,λh=>by rw[sf]at h;exact⟨a.2 h.1,b.2 h.2⟩⟩
def cm{p q:Prop}(h:p->q)(a:Ch p):Ch q:=⟨a.1,λe=>h (a.2 e)⟩
section
variable {k:IntKind} {v:Fs} {H:AB} {s:AS}
instance :Decidable (J3 k v):=by cases v<;>(unfold J3;infer_instance)
instance :Decidable (C4 v):=by cases v<;>(unfold C4;infer_instance)
instance :Decidable (J4 v):=by cases v<;>(unfold J4;infer_instance)
instance :Decidable (JR v):=by cases v<;>(unfold JR;infer_instance)
instance :Decidable (Xm v):=by cases v<;>(unfold Xm;infer_instance)
instance :Decidable (nT v):=by cases v<;>(unfold nT;infer_instance)
instance {n b:Nat}:Decidable (Al n b):=by unfold Al;infer_instance
instance {ρ:zz->Fs} {x:Option zz}:Decidable (Co ρ x):=by cases x<;>(unfold Co;infer_instance)
instance {α:Type} {o:Option α}:Decidable (o=none):=match o with
 |none=>isTrue rfl
 |some _=>isFalse (λh=>by cases h)
instance {t:v8}:Decidable (t= .nil):=by cases t<;>first|exact isTrue rfl|exact isFalse (λh=>by cases h)
instance {b:Nat}:Decidable (G8 b v):=by cases v<;>(unfold G8;infer_instance)
instance {b:Nat}:Decidable (JG b v):=by cases v<;>(unfold JG;infer_instance)
instance {b:Nat}:Decidable (ER b v):=by cases v<;>(unfold ER;infer_instance)
instance :Decidable (fo v):=by cases v<;>(unfold fo;infer_instance)
instance {base k id:Nat} {cx:Nat->Fs}:Decidable (Rj base cx k id):=by unfold Rj;infer_instance
instance {base k:Nat} {cx:Nat->Fs}:Decidable (Pg base cx k v):=by cases v<;>(unfold Pg;infer_instance)
def fT:∀(f:List Nat) (x y:List Fs),Ch (D2 f x y)
 |[],[],[]=>⟨true,λ_=>zt⟩
 |0::fs,.int k _::xs,.int k' _::ys=>ca (p:=k=k') dc (fT fs xs ys)
 |1::fs,.bool _::xs,.bool _::ys=>fT fs xs ys
 |2::fs,.str _::xs,.str _::ys=>fT fs xs ys
 |_,_,_=>no
def ldC(sz:Nat)(ag:Bool):∀v,Ch (A7 H sz ag v).1
 | .ptr id off=>by
  unfold A7
  try dsimp only
  cases AD H id with
  |none=>exact no
  |some o=>cases o<;>first|exact dc|exact no
 | .ap id e i off=>by
  unfold A7
  try dsimp only
  cases AD H id with
  |none=>exact no
  |some o=>cases o<;>first|exact dc|exact no
 | .ep cs=>dc (p:=sz<=cs.length)
 |_=>no
def mxC{ρ:zz->Fs}{a n:Int}:∀(mx:Option zz),Ch (∀m,mx=some m->a<=A9 (ρ m)/\A9 (ρ m)<=n)
 |none=>⟨true,λ_ _ h=>by cases h⟩
 |some x=>cm (p:=a<=A9 (ρ x)/\A9 (ρ x)<=n) (λh m e=>by cases e;exact h) dc
def okv(H:AB)(ρ:zz->Fs)(k:xx):Ch (Bd H ρ k).1:=by
 cases k<;>dsimp only[Bd]
 case ld=>exact ldC _ _ _
 case aeq n fs x y=>
  generalize ρ x=v,ρ y=u
  cases v with
  |agg xs=>cases u with
   |agg ys=>exact fT _ _ _
   |_=>exact no
  |_=>exact no
 case sl esz x lo hi mx=>
  generalize ρ x=v
  cases v with
  |sl t l=>exact ca dc (ca dc (ca dc (ca dc (ca dc (ca dc (ca dc (ca dc (mxC mx))))))))
  |ref id e off len cap=>cases mx<;>(dsimp only[Gr];exact dc)
  |_=>exact no
 case b2s=>exact no
 case mnmx xs=>exact ca dc ⟨!xs.isEmpty,λh e=>by rw[e]at h;cases h⟩
 case build=>unfold evB;exact dc
 case bs=>unfold evS;exact dc
 case nilc x=>
  generalize ρ x=v
  cases v<;>first|exact dc|(rename_i f _ _;cases f<;>exact dc)
 case fa x=>generalize ρ x=v;cases v<;>exact dc
 case fld x=>generalize ρ x=v;cases v<;>exact dc
 case ia x i=>generalize ρ x=v;cases v<;>exact dc
 case iaA x i=>generalize ρ x=v;cases v<;>exact dc
 case ixA x i=>generalize ρ x=v;cases v<;>exact dc
 case len x=>generalize ρ x=v;cases v<;>exact dc
 case ext x=>generalize ρ x=v;cases v<;>exact dc
 all_goals exact dc
instance {t:v8} {e:Nat}:Decidable (BB H e t):=by
 cases t with
 |own id e'=>
  show Decidable (e'=e/\AD H id=some .tok)
  cases AD H id with
  |none=>exact isFalse zw
  |some o=>cases o with
   |tok=>exact decidable_of_iff (e'=e) ⟨λh=>⟨h,rfl⟩,λh=>h.1⟩
   |_=>exact isFalse zw
 |_=>unfold BB;infer_instance
def asC{old:Fs}{off sz esz:Nat}{v:Fs}:Ch (Di old off sz esz v).1:=
 if h:off=0/\sz=esz then⟨true,λ_=>by unfold Di;rw[sn h];trivial⟩else match old with
  | .agg cs=>⟨decide (cs.length=esz/\off+sz<=esz),λe=>by unfold Di;rw[sg h];exact th e⟩
  |_=>no
def stC(sz:Nat)(v:Fs):∀a,Ch (Q5 H sz v a).1
 | .ptr id off=>by
  unfold Q5
  try dsimp only
  cases AD H id with
  |none=>exact no
  |some o=>cases o<;>first|exact dc|exact no
 | .ap id e i off=>by
  unfold Q5
  dsimp only
  cases AD H id with
  |none=>exact no
  |some o=>cases o with
   |arr e' l=>exact ca dc (ca dc asC)
   |_=>exact no
 |_=>no
def apC(id esz b:Nat)(v:Fs)(x:Option (List Fs)):Ch (Ib H id esz b v x).1:=by
 unfold Ib
 cases v with
 |sl t l=>cases x with
  |none=>exact no
  |some l'=>exact dc
 |_=>exact no
def slC(n:Nat)(lo hi:Int):∀v,Ch (Jb H n lo hi v).1
 | .ptr id 0=>by
  cases h:AD H id with
  |none=>exact no
  |some o=>cases o with
   |box cs=>exact cm (p:=cs.length=n/\0<=lo/\lo<=hi/\hi<=n/\lo<n) (λq=>by simp only[Jb,h];exact q) dc
   |arr e cs=>exact cm (p:=e=1/\cs.length=n/\0<=lo/\lo<=hi/\hi<=n/\lo<n) (λq=>by simp only[Jb,h];exact q) dc
   |_=>exact no
 |_=>no
def fU(n e:Nat)(lo hi:Int):∀v,Ch (JS H n e lo hi v).1
 | .ptr id 0=>by
  cases h:AD H id with
  |none=>exact no
  |some o=>cases o with
   |box cs=>exact cm (p:=cs.length=n*e/\0<=lo/\lo<=hi/\hi<=n/\lo<n) (λq=>by simp only[JS,h];exact q) dc
   |arr e' cs=>exact cm (p:=e'=e/\cs.length=n/\0<=lo/\lo<=hi/\hi<=n/\lo<n) (λq=>by simp only[JS,h];exact q) dc
   |_=>exact no
 |_=>no
def isC(k:IntKind):∀n l,Ch (Oi k n l)
 |0,[]=>⟨true,λ_=>zt⟩
 |n+1,.int k' _::r=>ca (p:=k'=k) dc (isC k n r)
 |_,_=>no
def ktC:∀(t:KT) v,Ch (t.is v)
 | .int k,.int k' _=>dc (p:=k'=k)
 | .bool,.bool _=>⟨true,λ_=>zt⟩
 | .str,.str _=>⟨true,λ_=>zt⟩
 | .arr n k,.agg xs=>isC k n xs
 |_,_=>no
def mfC(t:KT):∀es,Ch (EG t es)
 |[]=>⟨true,λ_=>zt⟩
 |(k,_,_)::r=>ca (ktC t k) (mfC t r)
def bmC(e n:Nat):∀is vs,Ch (Xn e n is vs)
 |[],[]=>⟨true,λ_=>zt⟩
 |i::is,v::vs=>ca (p:=nT v) dc (ca (p:=v.cells.length=e) dc (ca (p:=i<n) dc (bmC e n is vs)))
 |_,_=>no
def xC(b:Nat):∀x l,Ch (xE b x H l).1
 | .mkm rel,[]=>dc (p:=AD H (b+rel)=none)
 | .look kt z ok,[.nilmp,k]=>ktC kt k
 | .look kt z ok,[.mp id,k]=>by
  unfold xE
  dsimp only
  cases AD H id with
  |none=>exact no
  |some o=>cases o with
   |map es c=>exact ca (ktC _ _) (mfC _ _)
   |_=>exact no
 | .mput kt,[.mp id,k,v]=>by
  unfold xE
  dsimp only
  cases AD H id with
  |none=>exact no
  |some o=>cases o with
   |map es c=>exact ca (ktC _ _) (ca (mfC _ _) dc)
   |_=>exact no
 | .mlen,[.mp id]=>by
  unfold xE
  dsimp only
  cases AD H id with
  |none=>exact no
  |some o=>cases o<;>exact dc
 | .xP 0 _,[.ifc _ _]| .xP 0 _,[.xA]| .xP 1 _,[.ptr _ _]| .xP 1 _,[.nilp]| .xP 1 _,[.ep _]| .xP 2 _,[.fn _ _ _]| .xP 2 _,[.yF]=>⟨true,λ_=>zt⟩
 | .tas _ true _,[.ifc _ _]| .tas _ true _,[.xA]| .i2s,[.int _ _]=>⟨true,λ_=>zt⟩
 | .tas t false _,[.ifc t' _]=>dc (p:=t'=t)
 | .srng rel,[.str _]=>dc (p:=AD H (b+rel)=none)
 | .yY n e false false,[v]=>fU n e 0 n v
 | .yY n e true false,[v,.int _ a]=>fU n e a n v
 | .yY n e false true,[v,.int _ c]=>fU n e 0 c v
 | .yY n e true true,[v,.int _ a,.int _ c]=>fU n e a c v
 | .bsm rel e n z is,vs=>by
  unfold xE
  exact ca dc (ca (bmC _ _ _ _) dc)
 | .cpy e str,[.ref id e1 off len cap,y]=>by
  unfold xE
  dsimp only
  cases AD H id with
  |none=>exact no
  |some o=>cases o with
   |arr e' l=>cases Oj H e y str with
    |none=>exact no
    |some l'=>exact dc
   |_=>exact no
 |_,_=>no
def fzC(t:Nat):Ch (LE s t).1:=by
 unfold LE
 cases BI s.env t with
 |none=>exact no
 |some p=>
  obtain⟨g,v⟩:=p
  cases g with
  |false=>exact no
  |true=>cases v with
   |ref id e off len cap=>
    dsimp only
    cases AD s.H id with
    |none=>exact no
    |some o=>cases o<;>first|exact dc|exact no
   |_=>exact no
def foC(t:Nat):Ch (Hw s t).1:=by
 unfold Hw
 cases BI s.env t with
 |none=>exact no
 |some p=>
  obtain⟨g,v⟩:=p
  cases g with
  |false=>exact no
  |true=>cases v with
   |ref id e off len cap=>
    dsimp only
    cases AD s.H id with
    |none=>exact no
    |some o=>cases o<;>first|exact dc|exact no
   |sl t l=>exact⟨true,λ_=>zt⟩
   |_=>exact no
def sdC(base:Nat)(cx:Nat->Fs)(ρ:zz->Fs):∀f k,Ch (Bp base cx ρ f k)
 |0,_=>⟨true,λ_=>zt⟩
 |1,.v (.ld _ _ a)=>dc (p:=G8 base (ρ a))
 |2,.st _ a _=>dc (p:=JG base (ρ a))
 |2,.v (.ld _ _ a)=>dc (p:=fo (ρ a))
 |k+3,.v (.ld _ _ a)=>dc (p:=Pg base cx k (ρ a))
 |k+3,.st _ a _=>dc (p:=Pg base cx k (ρ a))
 |k+3,.call false _ _=>dc (p:=300000<=k/\k % 2=0)
 |_,_=>no
mutual
def uB:Fs->Bool
 | .int _ _| .bool _| .str _| .nilp| .yF| .xA| .nilmp=>true
 | .sl .nil l| .sl (.none _) l| .sl (.exact _) l=>uBs l
 | .agg l| .wJ l| .ep l=>uBs l
 | .fn _ a b=>uBs a&&uBs b
 |_=>false
def uBs:List Fs->Bool
 |[]=>true
 |a::l=>uB a&&uBs l
end
mutual
theorem aX:∀v:Fs,uB v=true->v.under 0
 | .int _ _,_| .bool _,_| .str _,_| .nilp,_| .yF,_| .xA,_| .nilmp,_=>trivial
 | .sl .nil l,h| .sl (.none _) l,h| .sl (.exact _) l,h=>⟨zt,uBs_ok l h⟩
 | .agg l,h| .wJ l,h| .ep l,h=>uBs_ok l h
 | .fn _ a b,h=>by
  have h:(uBs a&&uBs b)=true:=h
  rw[sf]at h
  exact⟨uBs_ok a h.1,uBs_ok b h.2⟩
 | .ptr ..,h| .gp _,h| .sl (.own ..) _,h| .ref ..,h| .ap ..,h| .ifc ..,h| .mp _,h| .up,h=>by cases h
theorem uBs_ok:∀l:List Fs,uBs l=true->wN 0 l
 |[],_=>trivial
 |a::l,h=>by
  have h:(uB a&&uBs l)=true:=h
  rw[sf]at h
  exact⟨aX a h.1,uBs_ok l h.2⟩
end
mutual
def flB:Fs->Bool
 | .int _ _| .bool _| .str _=>true
 | .agg l| .wJ l=>flBs l
 |_=>false
def flBs:List Fs->Bool
 |[]=>true
 |a::l=>flB a&&flBs l
end
mutual
theorem aY:∀v:Fs,flB v=true->v.flat
 | .int _ _,_| .bool _,_| .str _,_=>trivial
 | .agg l,h| .wJ l,h=>flBs_ok l h
 | .nilp,h| .yF,h| .xA,h| .nilmp,h| .ep _,h| .fn ..,h| .sl ..,h| .ptr ..,h| .gp _,h| .ref ..,h| .ap ..,h| .ifc ..,h| .mp _,h| .up,h=>by cases h
theorem flBs_ok:∀l:List Fs,flBs l=true->flats l
 |[],_=>trivial
 |a::l,h=>by
  have h:(flB a&&flBs l)=true:=h
  rw[sf]at h
  exact⟨aY a h.1,flBs_ok l h.2⟩
end
mutual
def vw0(H:AB):Fs->Fs
 | .ref id e off len cap=>match AD H id with
  |some (.arr _ l)=>.sl (.none e) ((l.drop off).take len)
  |_=>.wJ []
 | .agg l=>.agg (vws0 H l)
 | .sl (.own _ e) l=>.sl (.none e) l
 |v=>v
def vws0(H:AB):List Fs->List Fs
 |[]=>[]
 |a::l=>vw0 H a::vws0 H l
end
mutual
def vw(H:AB):Fs->Fs
 | .ptr id off=>match AD H id with
  |some (.box cs)=>.ep (vws0 H (cs.drop off))
  |_=>.wJ []
 | .agg l=>.agg (vws H l)
 | .fn f a b=>.fn f (vws H a) (vws H b)
 |v=>vw0 H v
def vws(H:AB):List Fs->List Fs
 |[]=>[]
 |a::l=>vw H a::vws H l
end
mutual
def vB0(H:AB):Fs->Bool
 | .ref id e off len cap=>match AD H id with
  |some (.arr e' l)=>decide (e'=e)&&(decide (off+len<=l.length)&&decide (len<=cap))
  |_=>false
 | .agg l=>vBs0 H l
 |_=>true
def vBs0(H:AB):List Fs->Bool
 |[]=>true
 |a::l=>vB0 H a&&vBs0 H l
end
mutual
theorem UG{H:AB}:∀v,vB0 H v=true->View H (vw0 H v) v
 | .ref id e off len cap,h=>by
  unfold vB0 at h
  split at h
  ·rename_i q
   simp only[sf,si]at h
   simp only[vw0,q]
   exact .ref (by rw[q,h.1]) h.2.1 h.2.2
  ·cases h
 | .agg l,h=>.agg (vBs0_ok l h)
 | .sl (.own _ e) l,_=>.wk (Wk.sl (.inl rfl))
 | .int ..,_| .bool _,_| .str _,_| .nilp,_| .yF,_| .xA,_| .nilmp,_| .ep _,_| .gp _,_| .sl .nil _,_| .sl (.none _) _,_| .sl (.exact _) _,_| .wJ _,_| .ap ..,_| .ifc ..,_| .mp _,_| .up,_| .ptr ..,_| .fn ..,_=>.wk (Wk.refl _)
theorem vBs0_ok{H:AB}:∀l:List Fs,vBs0 H l=true->yV H (vws0 H l) l
 |[],_=>.nil
 |a::l,h=>by
  have h:(vB0 H a&&vBs0 H l)=true:=h
  rw[sf]at h
  exact .cons (UG a h.1) (vBs0_ok l h.2)
end
mutual
def vB(H:AB):Fs->Bool
 | .ptr id off=>match AD H id with
  |some (.box cs)=>vBs0 H (cs.drop off)
  |_=>false
 | .agg l=>vBs H l
 | .fn _ a b=>vBs H a&&vBs H b
 |v=>vB0 H v
def vBs(H:AB):List Fs->Bool
 |[]=>true
 |a::l=>vB H a&&vBs H l
end
mutual
theorem vB_ok{H:AB}:∀v,vB H v=true->View H (vw H v) v
 | .ptr id off,h=>by
  unfold vB at h
  split at h
  ·rename_i q
   simp only[vw,q]
   exact .pw q (vBs0_ok _ h)
  ·cases h
 | .agg l,h=>.agg (vBs_ok l h)
 | .fn f a b,h=>by
  have h:(vBs H a&&vBs H b)=true:=h
  rw[sf]at h
  exact .fn (vBs_ok a h.1) (vBs_ok b h.2)
 | .ref a b c d e,h=>UG (.ref a b c d e) h
 | .sl t l,h=>UG (.sl t l) h
 | .int ..,_| .bool _,_| .str _,_| .nilp,_| .yF,_| .xA,_| .nilmp,_| .ep _,_| .gp _,_| .wJ _,_| .ap ..,_| .ifc ..,_| .mp _,_| .up,_=>.wk (Wk.refl _)
theorem vBs_ok{H:AB}:∀l:List Fs,vBs H l=true->yV H (vws H l) l
 |[],_=>.nil
 |a::l,h=>by
  have h:(vB H a&&vBs H l)=true:=h
  rw[sf]at h
  exact .cons (vB_ok a h.1) (vBs_ok l h.2)
end
mutual
def nB:Fs->Bool
 | .ref .. | .ptr .. =>false
 | .agg l=>nBs l
 | .fn _ [] []=>true
 | .fn .. =>false
 |_=>true
def nBs:List Fs->Bool
 |[]=>true
 |a::l=>nB a&&nBs l
end
mutual
theorem nB_ok{H:AB}:∀v,nB v=true->Wk v (vw H v)
 | .ref ..,h| .ptr ..,h| .fn _ (_::_) _,h| .fn _ [] (_::_),h=>by cases h
 | .agg l,h=>Wk.agg (nBs_ok l h)
 | .fn f [] [],_=>Wk.refl _
 | .sl (.own _ e) l,_=>Wk.sl (.inl rfl)
 | .int ..,_| .bool _,_| .str _,_| .nilp,_| .yF,_| .xA,_| .nilmp,_| .ep _,_| .gp _,_| .sl .nil _,_| .sl (.none _) _,_| .sl (.exact _) _,_| .wJ _,_| .ap ..,_| .ifc ..,_| .mp _,_| .up,_=>Wk.refl _
theorem nBs_ok{H:AB}:∀l:List Fs,nBs l=true->zn l (vws H l)
 |[],_=>.nil
 |a::l,h=>by
  have h:(nB a&&nBs l)=true:=h
  rw[sf]at h
  exact .cons (nB_ok a h.1) (nBs_ok l h.2)
end
end
def iI(k:IntKind):Fs->Bool
 | .int k' _=>decide (k'=k)
 |_=>false
def iN:Fs->Bool
 | .int _ _=>true
 |_=>false
def iB:Fs->Bool
 | .bool _=>true
 |_=>false
def iS:Fs->Bool
 | .str _=>true
 |_=>false
def iT:Fs->Bool
 | .wJ _=>false
 |_=>true
def Pa{k:IntKind}{v:Fs}(h:iI k v=true):J3 k v:=by cases v<;>simp_all [iI,J3]
def iN_ok{v:Fs}(h:iN v=true):C4 v:=by cases v<;>simp_all [iN,C4]
def Pb{v:Fs}(h:iB v=true):J4 v:=by cases v<;>simp_all [iB,J4]
def aZ{v:Fs}(h:iS v=true):JR v:=by cases v<;>simp_all [iS,JR]
def ae{v:Fs}(h:iT v=true):nT v:=by cases v<;>simp_all [iT,nT]
def Xh:List Nat->List Fs->List Fs->Bool
 |[],[],[]=>true
 |0::fs,.int k _::xs,.int k' _::ys=>decide (k=k')&&Xh fs xs ys
 |1::fs,.bool _::xs,.bool _::ys=>Xh fs xs ys
 |2::fs,.str _::xs,.str _::ys=>Xh fs xs ys
 |_,_,_=>false
def fV(f:List Nat)(x y:List Fs)(h:Xh f x y=true):D2 f x y:=by
 fun_induction Xh f x y<;>simp_all [D2]
def okB(H:AB)(ρ:zz->Fs):xx->Bool
 | .mv _=>true
 | .arith op k x y=>iI k (ρ x)&&iI k (ρ y)&&(!Lu op||decide (A9 (ρ y)≠0))
 | .shift op k ky x y=>iI k (ρ x)&&iI ky (ρ y)&&decide (0<=A9 (ρ y))
 | .icmp op k x y=>iI k (ρ x)&&iI k (ρ y)
 | .beq _ x y=>iB (ρ x)&&iB (ρ y)
 | .scmp op x y=>iS (ρ x)&&iS (ρ y)
 | .not x=>iB (ρ x)
 | .fa _ x=>match ρ x with
  | .ptr _ _| .ep _=>true
  |_=>false
 | .ld sz _ x=>match ρ x with
  | .ptr id off=>(match AD H id with
   |some (.box cs)=>decide (off+sz<=cs.length)
   |_=>false)
  | .ep cs=>decide (sz<=cs.length)
  |_=>false
 | .ia esz x i=>match ρ x with
  | .sl tok l=>decide (tok.esz=esz)&&iN (ρ i)&&decide (0<=A9 (ρ i))&&decide (A9 (ρ i)<l.length)
  |_=>false
 | .len x=>match ρ x with
  | .sl _ _=>true
  |_=>false
 | .lenS x=>iS (ρ x)
 | .build zero parts=>parts.all λp=>iT (ρ p.2.2)&&decide ((ρ p.2.2).cells.length=p.2.1)&&decide (p.1+p.2.1<=zero.length)
 | .bs esz n zero parts=>(parts.all λp=>iT (ρ p.2)&&decide ((ρ p.2).cells.length=esz)&&decide (p.1<n))&&decide (zero.cells.length=esz)&&decide (n*esz<=16777216)
 | .fn _ _ _=>true
 | .ext i x=>match ρ x with
  | .wJ vs=>decide (i<vs.length)
  |_=>false
 | .aeq _ fs x y=>match ρ x,ρ y with
  | .agg xs,.agg ys=>Xh fs xs ys
  |_,_=>false
 |_=>false
def nw{H:AB}{ρ:zz->Fs}{k:xx}(h:okB H ρ k=true):(Bd H ρ k).1:=by
 cases k<;>simp only[okB,sN,sf,sQ,tJ,si,sE]at h
 case mv=>trivial
 case arith=>exact⟨Pa h.1.1,Pa h.1.2,λq=>by
  rcases h.2 with h|h; ·rw[h]at q;cases q
  ·exact h⟩
 case shift=>exact⟨Pa h.1.1,Pa h.1.2,h.2⟩
 case icmp=>exact⟨Pa h.1,Pa h.2⟩
 case beq=>exact⟨Pb h.1,Pb h.2⟩
 case scmp=>exact⟨aZ h.1,aZ h.2⟩
 case not=>exact Pb h
 case fa=>simp only[Bd];split at h<;>simp_all
 case ld sz ag x=>
  simp only[Bd]
  generalize ρ x=v at h
  cases v<;>simp only[sN]at h
  case ptr id off=>
   simp only[A7]
   split at h
   ·rename_i q;rw[q];exact th h
   ·cases h
  case ep cs=>simp only[A7];exact th h
 case ia esz x i=>
  simp only[Bd]
  split at h
  ·rename_i q
   simp only[sf,si]at h
   rw[q]
   exact⟨h.1.1.1,iN_ok h.1.1.2,h.1.2,h.2⟩
  ·cases h
 case len=>simp only[Bd];split at h<;>simp_all
 case lenS=>exact aZ h
 case build=>exact λp hp=>⟨ae (h p hp).1.1,(h p hp).1.2,(h p hp).2⟩
 case bs=>exact⟨λp hp=>⟨ae (h.1.1 p hp).1.1,(h.1.1 p hp).1.2,(h.1.1 p hp).2⟩,h.1.2,h.2⟩
 case fn=>trivial
 case ext=>
  simp only[Bd]
  split at h
  ·rename_i q
   rw[q]
   exact th h
  ·cases h
 case aeq=>
  simp only[Bd]
  split at h
  ·rename_i q q'
   rw[q,q']
   exact fV _ _ _ h
  ·cases h
def okF(H:AB)(ρ:zz->Fs)(k:xx):Bool:=okB H ρ k||(okv H ρ k).1
def ny{H:AB}{ρ:zz->Fs}{k:xx}(h:okF H ρ k=true):(Bd H ρ k).1:=((sQ _ _).mp h).elim nw (okv H ρ k).2
def seen(H:AB)(l:List Fs)(r:Fs):Prop:=zn l (vws H l)\/(wN 0 (vws H l)/\yV H (vws H l) l/\r.flat)
def seB(H:AB)(l:List Fs)(r:Fs):Bool:=nBs l||(uBs (vws H l)&&(vBs H l&&flB r))
def ah{H:AB}{l:List Fs}{r:Fs}(h:seB H l r=true):seen H l r:=by
 simp only[seB,sQ,sf]at h
 exact h.imp (nBs_ok l) λq=>⟨uBs_ok _ q.1,vBs_ok l q.2.1,aY r q.2.2⟩
abbrev CT:=FuncId->List Fs->Option Fs
abbrev ET:=FuncId->List Fs->AB->Nat->Option (xw×AB×Nat×List Nat)
def Fr(T:List Nat)(H H':AB):Prop:=∀id,id∉T->AD H' id=AD H id
def Fr.same{T:List Nat}{H:AB}:Fr T H H:=λ_ _=>rfl
def Fr.set{T:List Nat}{H:AB}{i:Nat}{o:x9}(h:i∈T):Fr T H (wB H i o):=λj hj=>by rw[AT,sg (by rintro rfl;exact hj h)]
def Fr.trans{T U:List Nat}{H H1 H2:AB}(h:Fr T H H1)(k:Fr U H1 H2):Fr (T++U) H H2:=λj hj=>by
 rw[tP,not_or]at hj
 rw[k j hj.2,h j hj.1]
def TX(C:CT):Bg:=λf l H=>match C f (vws H l)with
 |some r=>(seen H l r,r)
 |none=>(False,.wJ [])
def COK(P:Program)(C:CT):Prop:=∀f l r,C f l=some r->∃a,zn l a/\Av P f a r
def rl(P:Program)(E:ET):Prop:=∀f l H n o H' n' T,E f l H n=some (o,H',n',T)->Fr T H H'/\∀R:xw->AB->Nat->Prop,R o H' n'->AX P f l H n R
def ai{P:Program}{C:CT}(h:COK P C):AH P (TX C):=by
 intro f l H n q
 unfold TX at q⊢
 split at q
 ·rename_i r e
  obtain⟨a,w,p⟩:=h _ _ _ e
  rcases q with q|q
  ·exact AX.args (p.quiet H n) λg vs hv=>w.rel vs (q.rel vs hv)
  ·exact Av.view ⟨q.1,p.2.1,AX.args p.2.2 λg vs hv=>w.rel vs hv⟩ q.2.2 q.2.1 n
 ·exact q.elim
def goB(env:List (Nat×Bool×Fs)):Option (Nat×Bool)->Bool
 |none=>true
 |some (t,_)=>match BI env t with
  |none=>false
  |some (g,v)=>!g||iB v
def UH{env:List (Nat×Bool×Fs)}{g:Option (Nat×Bool)}(h:goB env g=true):GS env g:=by
 cases g with
 |none=>trivial
 |some tw=>
  obtain⟨t,w⟩:=tw
  simp only[goB]at h
  simp only[GS]
  split at h
  ·cases h
  ·rename_i g v q
   rw[q]
   intro e
   rw[e]at h
   exact Pb h
def oB(env:List (Nat×Bool×Fs))(l:List zz):Bool:=l.all λx=>(lk env x).1
theorem Pc{env:List (Nat×Bool×Fs)}:∀{l:List zz},oB env l=true->C2 env l
 |[],_=>trivial
 |x::l,h=>by
  simp only[oB,uR,sf]at h
  exact⟨h.1,Pc h.2⟩
def As{α:Type}{b:Bool}{x:Option α}{y:α}(h:(bif b then x else none)=some y):b=true/\x=some y:=by
 cases b
 ·cases h
 ·exact⟨rfl,h⟩
def go(d:Option Nat)(s:AS)(b:Bool)(H:AB)(v:Fs):Option AS:=bif b then some ({s with H:=H}.put d true v)else none
def UI(base:Nat)(o:xq)(s:AS):Option AS:=match o.k with
 | .alloc rel cs=>go o.dst s (AD s.H (base+rel)).isNone (wB s.H (base+rel) (.box cs)) (.ptr (base+rel) 0)
 | .box rel sz x=>go o.dst s ((AD s.H (base+rel)).isNone&&(iT (AY s.env x)&&decide ((AY s.env x).cells.length=sz))) (wB s.H (base+rel) (.box (AY s.env x).cells)) (.ptr (base+rel) 0)
 | .st sz a x=>go o.dst s (decide (nT (AY s.env x)/\(AY s.env x).cells.length=sz)&&(stC (H:=s.H) sz (AY s.env x) (AY s.env a)).1) (Q5 s.H sz (AY s.env x) (AY s.env a)).2 (.wJ [])
 | .app rel e b x y t=>go o.dst s (apC (H:=s.H) (base+rel) e b (AY s.env x) (CF s.H (AY s.env) e y t)).1 (Ib s.H (base+rel) e b (AY s.env x) (CF s.H (AY s.env) e y t)).2.1 (Ib s.H (base+rel) e b (AY s.env x) (CF s.H (AY s.env) e y t)).2.2
 | .mks rel e b z x=>go o.dst s (decide (AD s.H (base+rel)=none/\C4 (AY s.env x)/\0<=A9 (AY s.env x)/\Al (A9 (AY s.env x)).toNat b/\A9 (AY s.env x)<=35184372088832/\z.cells.length=e)) (Uu s.H (base+rel) e b z (AY s.env x)).2.1 (Uu s.H (base+rel) e b z (AY s.env x)).2.2
 | .slA n x lo hi=>go o.dst s (decide (Co (AY s.env) lo/\Co (AY s.env) hi)&&(slC (H:=s.H) n (wT (AY s.env) 0 lo) (wT (AY s.env) n hi) (AY s.env x)).1) (Jb s.H n (wT (AY s.env) 0 lo) (wT (AY s.env) n hi) (AY s.env x)).2.1 (Jb s.H n (wT (AY s.env) 0 lo) (wT (AY s.env) n hi) (AY s.env x)).2.2
 | .ext x xs=>go o.dst s (xC (H:=s.H) base x (xs.map (AY s.env))).1 (xE base x s.H (xs.map (AY s.env))).2.1 (xE base x s.H (xs.map (AY s.env))).2.2
 | .nils q x=>(match AY s.env x with
  | .sl .nil []=>go o.dst s true s.H (.bool !q)
  | .sl _ (_::_)=>go o.dst s true s.H (.bool q)
  | .ref .. =>go o.dst s true s.H (.bool q)
  |_=>none)
 |_=>none
def fW{P:Program}{Qp:Fs->AB->Nat->Prop}{base:Nat}{o:xq}{K:AS->Prop}{s s':AS}(h:UI base o s=some s')(hK:K s'):BS P Qp base o K s:=by
 obtain⟨d,g,k⟩:=o
 cases k<;>simp only[UI,reduceCtorEq,go]at h
 case alloc=>
  obtain⟨h1,h⟩:=As h
  cases h
  exact⟨Option.isNone_iff_eq_none.1 h1,hK⟩
 case box=>
  obtain⟨h1,h⟩:=As h
  cases h
  simp only[sf,si]at h1
  exact⟨Option.isNone_iff_eq_none.1 h1.1,ae h1.2.1,h1.2.2,hK⟩
 case st sz a x=>
  obtain⟨h1,h⟩:=As h
  cases h
  rw[sf]at h1
  have e:=th h1.1
  have q:Ok s.H sz (AY s.env x) (λH'=>K ({s with H:=H'}.put d true (.wJ []))) (AY s.env a):=by
   rw[N5]
   exact⟨(stC _ _ _).2 h1.2,hK⟩
  exact⟨e.1,e.2,q⟩
 case app rel e b x y t=>
  obtain⟨h1,h⟩:=As h
  cases h
  have q:Na s.H (base+rel) e b (λH' v=>K ({s with H:=H'}.put d true v)) (AY s.env x) (CF s.H (AY s.env) e y t):=by
   rw[Q6]
   exact⟨(apC _ _ _ _ _).2 h1,hK⟩
  exact q
 case mks=>
  obtain⟨h1,h⟩:=As h
  cases h
  have e:=th h1
  exact⟨e.1,e.2.1,e.2.2.1,e.2.2.2.1,e.2.2.2.2.1,e.2.2.2.2.2,hK⟩
 case slA n x lo hi=>
  obtain⟨h1,h⟩:=As h
  cases h
  rw[sf]at h1
  have e:=th h1.1
  refine⟨e.1,e.2,?_⟩
  rw[Wi]
  exact⟨(slC _ _ _ _).2 h1.2,hK⟩
 case ext=>
  obtain⟨h1,h⟩:=As h
  cases h
  exact⟨(xC _ _ _).2 h1,hK⟩
 case nils q x=>
  show HP (λb=>K (s.put d true (.bool b))) q (AY s.env x)
  split at h
  ·rename_i e;rw[e];cases h;exact hK
  ·rename_i t _ _ e;rw[e];cases h;cases t<;>exact hK
  ·rename_i e;rw[e];cases h;exact hK
  ·cases h
def Oh:List Fs->List Nat
 | .mp id::_| .ptr id _::_| .ref id .. ::_| .ap id .. ::_| .sl (.own id _) _::_=>[id]
 |_=>[]
def tch(base:Nat)(o:xq)(s:AS):List Nat:=match o.k with
 | .alloc rel _| .box rel _ _| .mks rel .. =>[base+rel]
 | .app rel _ _ x _ _=>(base+rel)::Oh [AY s.env x]
 | .st _ a _=>Oh [AY s.env a]
 | .slA _ x _ _=>Oh [AY s.env x]
 | .ext x xs=>(match x with
  | .mkm rel| .srng rel| .mrng rel| .bsm rel .. =>[base+rel]
  |_=>[])++Oh (xs.map (AY s.env))
 |_=>[]
def Fd{T:List Nat}{s s1:AS}{d:Option Nat}{g:Bool}{v:Fs}(h:Fr T s.H s1.H):Fr T s.H (s1.put d g v).H:=by rw[N7];exact h
def fX{T:List Nat}{H:AB}{n e:Nat}{lo hi:Int}{v:Fs}{l:List Fs}:Fr (T++Oh (v::l)) H (JS H n e lo hi v).2.1:=by
 unfold JS
 split
 ·split<;>first|exact Fr.same|exact Fr.set (by simp [Oh])
 ·exact Fr.same
def fY{base:Nat}{o:xq}{s s':AS}(h:UI base o s=some s'):Fr (tch base o s) s.H s'.H:=by
 obtain⟨d,g,k⟩:=o
 cases k<;>simp only[UI,reduceCtorEq,go]at h
 case nils q x=>split at h<;>first|(cases h;exact Fd Fr.same)|cases h
 all_goals
  obtain⟨h1,h⟩:=As h
  cases h
  refine Fd ?_
  simp only[tch]
 case alloc=>exact Fr.set zw
 case box=>exact Fr.set zw
 case mks=>exact Fr.set zw
 case st sz a x=>
  generalize AY s.env a=v
  cases v<;>simp only[Q5]<;>first|exact Fr.same|(split<;>first|exact Fr.same|exact Fr.set (by simp [Oh]))
 case slA n x lo hi=>
  generalize AY s.env x=v
  unfold Jb
  split
  ·split<;>first|exact Fr.same|exact Fr.set (by simp [Oh])
  ·exact Fr.same
 case app rel e b x y t=>
  generalize AY s.env x=v,CF s.H (AY s.env) e y t=u
  unfold Ib
  split
  ·rename_i tk l l'
   cases tk<;>simp only[AU,Oh]
   case own=>exact λj hj=>by simp only[tg,not_or]at hj;rw[AT,sg (Ne.symm hj.1),AT,sg (Ne.symm hj.2.1)]
   all_goals exact Fr.set zw
  ·exact Fr.same
 case ext x xs=>
  generalize xs.map (AY s.env)=l
  cases x<;>(unfold xE;try dsimp only)<;>(repeat' split)<;>first|with_reducible exact Fr.same|with_reducible exact fX|exact Fr.set (by simp_all [Oh])
def nz(C:CT)(base:Nat)(o:xq)(s:AS):Option AS:=
 bif goB s.env o.guard then match o.k with
  | .v k=>bif !Bl s.env o.guard||(oB s.env k.wH&&okF s.H (AY s.env) k)then some (s.put o.dst (Bl s.env o.guard) (Bd s.H (AY s.env) k).2)else none
  | .pick c a b=>bif !Bl s.env o.guard||((lk s.env c).1&&iB (AY s.env c)&&(bif Fm (AY s.env c)then(lk s.env a).1 else(lk s.env b).1))then some (s.put o.dst (Bl s.env o.guard) (Lv (Fm (AY s.env c)) (AY s.env a) (AY s.env b)))else none
  | .call true f l=>bif Bl s.env o.guard then(bif (lk s.env f).1&&oB s.env l then(match AY s.env f with
    | .fn (.func i) a b=>(match C i (vws s.H (a++l.map (AY s.env)++b))with
     |some r=>bif seB s.H (a++l.map (AY s.env)++b) r then some (s.put o.dst true r)else none
     |none=>none)
    |_=>none)else none)else some (s.put o.dst false (Ge (TX C) (l.map (AY s.env)) s.H (AY s.env f)).2)
  | .cpu f l=>bif Bl s.env o.guard then(bif (lk s.env f).1&&oB s.env l then(match AY s.env f with
    | .fn (.func i) a b=>(match C i (vws Ak (a++l.map (AY s.env)++b))with
     |some r=>bif seB Ak (a++l.map (AY s.env)++b) r&&(uBs (a++l.map (AY s.env)++b)&&uB r)then some (s.put o.dst true r)else none
     |none=>none)
    |_=>none)else none)else some (s.put o.dst false (.wJ []))
  |_=>bif Bl s.env o.guard then(bif oB s.env o.k.wH then UI base o s else none)else some (s.put o.dst false (.wJ []))
 else none
def oA{P:Program}{C:CT}{Qp:Fs->AB->Nat->Prop}{base:Nat}{o:xq}{K:AS->Prop}{s s':AS}(h:nz C base o s=some s')(hK:K s'):Be P (TX C) Qp base o K s:=by
 unfold nz at h
 have hb:=As h
 clear h
 obtain⟨hz,h⟩:=hb
 have h0:=UH hz
 clear hz
 have eff:(bif Bl s.env o.guard then(bif oB s.env o.k.wH then UI base o s else none)else some (s.put o.dst false (.wJ [])))=some s'->(Bl s.env o.guard=true->C2 s.env o.k.wH/\BS P Qp base o K s)/\(Bl s.env o.guard=false->K (s.put o.dst false (.wJ []))):=by
  intro h
  cases hg:Bl s.env o.guard<;>rw[hg]at h
  ·cases h
   exact⟨λq=>(by cases q),λ_=>hK⟩
  ·obtain⟨h1,h⟩:=As h
   exact⟨λ_=>⟨Pc h1,fW h hK⟩,λq=>(by cases q)⟩
 obtain⟨d,g,k⟩:=o
 cases k<;>simp only[reduceCtorEq]at h
 case v k=>
  obtain⟨h1,h⟩:=As h
  cases h
  refine⟨h0,λq=>?_,hK⟩
  rw[q]at h1
  simp only[sa,ub,sf]at h1
  exact⟨Pc h1.1,ny h1.2⟩
 case pick c a b=>
  obtain⟨h1,h⟩:=As h
  cases h
  refine⟨h0,λq=>?_,hK⟩
  rw[q]at h1
  simp only[sa,ub,sf]at h1
  refine⟨h1.1.1,Pb h1.1.2,λe=>?_,λe=>?_⟩<;>(have:=h1.2;rw[e]at this;exact this)
 case call q f l=>
  cases q
  ·exact(show Af P Qp base ⟨d,g,.call false f l⟩ K s from⟨h0,eff h⟩)
  dsimp only at h
  cases hg:Bl s.env g<;>rw[hg]at h
  ·cases h
   simp only[Be,hg]
   exact⟨h0,λq=>(by cases q),hK⟩
  ·obtain⟨h1,h⟩:=As h
   simp only[sf]at h1
   split at h
   ·rename_i i a b e
    split at h
    ·rename_i r e'
     obtain⟨h2,h⟩:=As h
     cases h
     have hc:Ge (TX C) (l.map (AY s.env)) s.H (AY s.env f)=(seen s.H (a++l.map (AY s.env)++b) r,r):=by rw[e];simp only[Ge,TX,e']
     simp only[Be,hg,hc]
     exact⟨h0,λ_=>⟨h1.1,Pc h1.2,ah h2⟩,hK⟩
    ·cases h
   ·cases h
 case cpu f l=>
  cases hg:Bl s.env g<;>rw[hg]at h
  ·cases h
   simp only[Be,hg]
   exact⟨h0,λq=>(by cases q),λ_=>hK⟩
  ·obtain⟨h1,h⟩:=As h
   simp only[sf]at h1
   split at h
   ·rename_i i a b e
    split at h
    ·rename_i r e'
     obtain⟨h2,h⟩:=As h
     cases h
     simp only[sf]at h2
     have hc:Ou (TX C) (l.map (AY s.env)) (AY s.env f)=(seen Ak (a++l.map (AY s.env)++b) r/\wN 0 (a++l.map (AY s.env)++b)/\r.under 0,r):=by rw[e];simp only[Ou,TX,e']
     simp only[Be,hg,hc]
     exact⟨h0,λ_=>⟨⟨h1.1,Pc h1.2,ah h2.1,uBs_ok _ h2.2.1,aX _ h2.2.2⟩,hK⟩,λq=>(by cases q)⟩
    ·cases h
   ·cases h
 all_goals exact⟨h0,eff h⟩
def rm(C:CT)(E:ET)(base:Nat)(o:xq)(s:AS):Option (Option Fs×AS×List Nat):=match o.k with
 | .call false f l=>bif goB s.env o.guard then(bif Bl s.env o.guard then(bif (lk s.env f).1&&oB s.env l then(match AY s.env f with
   | .fn (.func i) a b=>(match E i (a++l.map (AY s.env)++b) s.H s.n with
    |some (.ret v,H',n',T)=>some (none,{s with H:=H',n:=n'}.put o.dst true v,T)
    |some (.xM v,H',n',T)=>some (some v,⟨[],H',n'⟩,T)
    |none=>none)
   |_=>none)else none)else some (none,s.put o.dst false (.wJ []),[]))else none
 | .xM x=>bif goB s.env o.guard then(bif Bl s.env o.guard then(bif (lk s.env x).1&&decide (Xm (AY s.env x))then some (some (AY s.env x),⟨[],s.H,s.n⟩,[])else none)else some (none,s.put o.dst false (.wJ []),[]))else none
 |_=>(nz C base o s).map λs'=>(none,s',tch base o s)
def PK(Qp:Fs->AB->Nat->Prop)(K:AS->Prop):Option Fs×AS×List Nat->Prop
 |(none,s,_)=>K s
 |(some v,s,_)=>Qp v s.H s.n
def Qi{P:Program}{C:CT}{E:ET}(hE:rl P E){Qp:Fs->AB->Nat->Prop}{base:Nat}{o:xq}{K:AS->Prop}{s:AS}{r:Option Fs×AS×List Nat}(h:rm C E base o s=some r)(hK:PK Qp K r):Be P (TX C) Qp base o K s:=by
 unfold rm at h
 split at h
 ·rename_i f l e
  obtain⟨d,g,k⟩:=o
  cases e
  obtain⟨hz,h⟩:=As h
  show Af P Qp base ⟨d,g,.call false f l⟩ K s
  refine⟨UH hz,λq=>?_,λq=>?_⟩
  ·simp only[q,cond_true]at h
   obtain⟨h1,h⟩:=As h
   rw[sf]at h1
   refine⟨⟨h1.1,Pc h1.2⟩,?_⟩
   simp only[BS]
   split at h
   ·rename_i e
    rw[e]
    split at h
    ·rename_i e'
     cases h
     exact(hE _ _ _ _ _ _ _ _ e').2 _ hK
    ·rename_i e'
     cases h
     exact(hE _ _ _ _ _ _ _ _ e').2 _ hK
    ·cases h
   ·cases h
  ·simp only[q,cond_false,Option.some.injEq]at h
   subst h
   exact hK
 ·rename_i x e
  obtain⟨d,g,k⟩:=o
  cases e
  obtain⟨hz,h⟩:=As h
  show Af P Qp base ⟨d,g,.xM x⟩ K s
  refine⟨UH hz,λq=>?_,λq=>?_⟩
  ·simp only[q,cond_true]at h
   obtain⟨h1,h⟩:=As h
   rw[sf]at h1
   cases h
   exact⟨⟨h1.1,zt⟩,th h1.2,hK⟩
  ·simp only[q,cond_false,Option.some.injEq]at h
   subst h
   exact hK
 ·cases hx:nz C base o s with
  |none=>rw[hx]at h;cases h
  |some s'=>
   rw[hx]at h
   cases h
   exact oA hx hK
def oC{C:CT}{base:Nat}{o:xq}{s s':AS}(h:nz C base o s=some s'):Fr (tch base o s) s.H s'.H:=by
 unfold nz at h
 have hb:=As h
 clear h
 obtain⟨hz,h⟩:=hb
 obtain⟨d,g,k⟩:=o
 have eff:(bif Bl s.env g then(bif oB s.env k.wH then UI base ⟨d,g,k⟩ s else none)else some (s.put d false (.wJ [])))=some s'->Fr (tch base ⟨d,g,k⟩ s) s.H s'.H:=by
  intro h
  cases hg:Bl s.env g<;>rw[hg]at h
  ·cases h;exact Fd Fr.same
  ·exact fY (As h).2
 cases k<;>simp only[reduceCtorEq]at h
 case v=>have h:=(As h).2;cases h;exact Fd Fr.same
 case pick=>have h:=(As h).2;cases h;exact Fd Fr.same
 case cpu=>
  cases hg:Bl s.env g<;>rw[hg]at h
  ·cases h;exact Fd Fr.same
  ·have h:=(As h).2
   split at h
   ·split at h
    ·have h:=(As h).2;cases h;exact Fd Fr.same
    ·cases h
   ·cases h
 case call q f l=>
  cases q
  ·exact eff h
  dsimp only at h
  cases hg:Bl s.env g<;>rw[hg]at h
  ·cases h;exact Fd Fr.same
  ·have h:=(As h).2
   split at h
   ·split at h
    ·have h:=(As h).2;cases h;exact Fd Fr.same
    ·cases h
   ·cases h
 all_goals exact eff h
def NS{P:Program}{C:CT}{E:ET}(hE:rl P E){base:Nat}{o:xq}{s s':AS}{p:Option Fs}{T:List Nat}(h:rm C E base o s=some (p,s',T)):Fr T s.H s'.H:=by
 unfold rm at h
 split at h
 ·have h:=(As h).2
  cases hg:Bl s.env o.guard<;>rw[hg]at h
  ·cases h;exact Fd Fr.same
  ·have h:=(As h).2
   split at h
   ·split at h
    ·rename_i e;cases h;exact Fd (hE _ _ _ _ _ _ _ _ e).1
    ·rename_i e;cases h;exact(hE _ _ _ _ _ _ _ _ e).1
    ·cases h
   ·cases h
 ·have h:=(As h).2
  cases hg:Bl s.env o.guard<;>rw[hg]at h
  ·cases h;exact Fd Fr.same
  ·have h:=(As h).2;cases h;exact Fr.same
 ·cases hx:nz C base o s with
  |none=>rw[hx]at h;cases h
  |some s1=>rw[hx]at h;cases h;exact oC hx
def oD(T:List Nat):Option (Option Fs×AS×List Nat)->Option (Option Fs×AS×List Nat)
 |some (p,s,U)=>some (p,s,T++U)
 |none=>none
def fZ(C:CT)(E:ET)(base:Nat):List xq->AS->Option (Option Fs×AS×List Nat)
 |[],s=>some (none,s,[])
 |o::r,s=>match rm C E base o s with
  |some (none,s',T)=>oD T (fZ C E base r s')
  |x=>x
def kyC(cx:Nat->Fs)(H:AB)(T:List Nat):∀f k,Ch (∀H',Fr T H H'->Fo cx f k H H')
 |0,k=>⟨true,λ_ _ _=>by rw[FH];trivial⟩
 |_,.v _=>⟨true,λ_ _ _=>by rw[WM];trivial⟩
 |_,.st _ _ _=>⟨true,λ_ _ _=>by rw[SR];trivial⟩
 |k+3,.call false _ _=>cm (p:=∀id∈T,ER id (cx ((k-300000)/2))\/AD H id=none) (λh H' hf=>by
   show IR _ _ _
   intro id h1 h2
   exact hf id λhm=>(h id hm).elim h1 h2) dc
 |_,_=>no
def fb(C:CT)(E:ET)(base:Nat)(cx:Nat->Fs):List (Nat×xq)->AS->Option (Option Fs×AS×List Nat)
 |[],s=>some (none,s,[])
 |o::r,s=>bif !Bl s.env o.2.guard||(sdC base cx (AY s.env) o.1 o.2.k).1 then(match rm C E base o.2 s with
  |some (none,s',T)=>bif (kyC cx s.H T o.1 o.2.k).1 then oD T (fb C E base cx r s')else none
  |x=>x)else none
section
variable {P:Program} {C:CT} {E:ET} (hE:rl P E) {Qp:Fs->AB->Nat->Prop} {base:Nat} {K:AS->Prop}
theorem Pd{T:List Nat}{y:Option (Option Fs×AS×List Nat)}{x:Option Fs×AS×List Nat}(h:oD T y=some x):∃U,y=some (x.1,x.2.1,U)/\x.2.2=T++U:=by
 cases y with
 |none=>cases h
 |some y=>obtain⟨p,s,U⟩:=y;cases h;exact⟨U,rfl,rfl⟩
theorem aj{x:Option Fs×AS×List Nat}{U:List Nat}(h:PK Qp K x):PK Qp K (x.1,x.2.1,U):=by
 obtain⟨a,b,c⟩:=x
 cases a<;>exact h
include hE
theorem J0:∀{l:List xq} {s:AS} {x:Option Fs×AS×List Nat},fZ C E base l s=some x->PK Qp K x->E5 P (TX C) Qp base l K s/\Fr x.2.2 s.H x.2.1.H
 |[],s,x,h,hK=>by cases h;exact⟨hK,Fr.same⟩
 |o::r,s,x,h,hK=>by
  unfold fZ at h
  split at h
  ·rename_i s' T e
   obtain⟨U,h,hT⟩:=Pd h
   have ih:=J0 h (aj hK)
   rw[hT]
   exact⟨Qi hE e ih.1,(NS hE e).trans ih.2⟩
  ·rename_i q
   obtain⟨a,b,T⟩:=x
   refine⟨Qi hE h ?_,NS hE h⟩
   cases a
   ·exact absurd h (q _ _)
   ·exact hK
theorem J1{cx:Nat->Fs}:∀{l:List (Nat×xq)} {s:AS} {x:Option Fs×AS×List Nat},fb C E base cx l s=some x->PK Qp K x->DV P (TX C) Qp base cx l K s/\Fr x.2.2 s.H x.2.1.H
 |[],s,x,h,hK=>by cases h;exact⟨hK,Fr.same⟩
 |o::r,s,x,h,hK=>by
  unfold fb at h
  obtain⟨h1,h⟩:=As h
  have hs:Bl s.env o.2.guard=true->Bp base cx (AY s.env) o.1 o.2.k:=λq=>(sdC _ _ _ _ _).2 (by rwa[q]at h1)
  split at h
  ·rename_i s' T e
   obtain⟨h2,h⟩:=As h
   obtain⟨U,h,hT⟩:=Pd h
   have ih:=J1 h (aj hK)
   rw[hT]
   exact⟨⟨hs,Qi hE e ⟨(kyC _ _ _ _ _).2 h2 _ (NS hE e),ih.1⟩⟩,(NS hE e).trans ih.2⟩
  ·rename_i q
   obtain⟨a,b,T⟩:=x
   refine⟨⟨hs,Qi hE h ?_⟩,NS hE h⟩
   cases a
   ·exact absurd h (q _ _)
   ·exact hK
end
def done(keep:List Nat):Option Fs×AS×List Nat->x6×AS×List Nat
 |(none,s,T)=>(.normal,s.keep keep,T)
 |(some v,s,T)=>(.xM v,⟨[],s.H,s.n⟩,T)
def ao(T:List Nat):Option (x6×AS×List Nat)->Option (x6×AS×List Nat)
 |some (e,s,U)=>some (e,s,T++U)
 |none=>none
def NT{T:List Nat}{y:Option (x6×AS×List Nat)}{e:x6}{s:AS}{V:List Nat}(h:ao T y=some (e,s,V)):∃U,y=some (e,s,U)/\V=T++U:=by
 cases y with
 |none=>cases h
 |some y=>obtain⟨p,s,U⟩:=y;cases h;exact⟨U,rfl,rfl⟩
def j8(s:AS)(t:Nat):List Nat:=match BI s.env t with
 |some (true,.ref id ..)=>[id]
 |_=>[]
def fe{s:AS}{t:Nat}:Fr (j8 s t) s.H (LE s t).2.H:=by
 cases h:BI s.env t with
 |none=>simp only[LE,j8,h];exact Fr.same
 |some p=>
  obtain⟨g,v⟩:=p
  cases g<;>cases v<;>simp only[LE,j8,h]<;>first|exact Fr.same|(split<;>first|exact Fr.same|exact Fr.set (tu ..))
def aq{s:AS}{t:Nat}:Fr (s.n::j8 s t) s.H (Hw s t).2.H:=by
 cases h:BI s.env t with
 |none=>simp only[Hw,j8,h];exact Fr.same
 |some p=>
  obtain⟨g,v⟩:=p
  cases g<;>cases v<;>simp only[Hw,j8,h]<;>first|exact Fr.same|(split<;>first|exact Fr.same|(intro j hj;simp only[tg,not_or]at hj;show AD (wB (wB s.H _ _) _ _) j=_;rw[AT,sg (Ne.symm hj.1),AT,sg (Ne.symm hj.2.1)]))
def xc(C:CT)(E:ET):Nat->z8->AS->Option (x6×AS×List Nat)
 |0,_,_=>none
 |n+1,c,s=>match c with
  | .skip=>some (.normal,s,[])
  | .reg yL ops keep=>(fZ C E s.n ops {s with n:=s.n+yL}).map (done keep)
  | .regx yL ops keep=>(fb C E s.n (UO s.env s.n) ops {s with n:=s.n+yL}).map (done keep)
  | .frz t=>bif (fzC (s:=s) t).1 then some (.normal,(LE s t).2,j8 s t)else none
  | .frzo t=>bif (foC (s:=s) t).1 then some (.normal,(Hw s t).2,s.n::j8 s t)else none
  | .seq a b=>(match xc C E n a s with
   |some (.normal,s',T)=>ao T (xc C E n b s')
   |r=>r)
  | .cond c a b=>bif (lk s.env c).1&&iB (AY s.env c)then(bif Fm (AY s.env c)then xc C E n a s else xc C E n b s)else none
  | .block id c=>(match xc C E n c s with
   |some (.exit i,s',T)=>bif i==id then some (.normal,s',T)else some (.exit i,s',T)
   |r=>r)
  | .loop c=>(match xc C E n c s with
   |some (.normal,s',T)=>ao T (xc C E n (.loop c) s')
   |r=>r)
  | .exit id=>some (.exit id,s,[])
  | .ret=>some (.ret,s,[])
  |_=>none
theorem Hs{P:Program}{C:CT}{E:ET}(hE:rl P E):∀(n:Nat) (c:z8) (s:AS) (e:x6) (s':AS) (T:List Nat),xc C E n c s=some (e,s',T)->Fr T s.H s'.H/\∀Q:x6->AS->Prop,Q e s'->ev P (TX C) c Q s
 |0,_,_,_,_,_,h=>by cases h
 |n+1,c,s,e,s',T,h=>by
  cases c<;>simp only[xc,reduceCtorEq]at h
  case skip=>cases h;exact⟨Fr.same,λQ hQ=>hQ⟩
  case reg yL ops keep=>
   obtain⟨x,q,h⟩:=tt.1 h
   obtain⟨a,b,U⟩:=x
   cases a<;>cases h
   ·exact⟨(J0 hE (Qp:=λ_ _ _=>False) (K:=λ_=>True) q zt).2,λQ hQ=>(J0 hE (Qp:=λv H n=>Q (.xM v) ⟨[],H,n⟩) (K:=λs'=>Q .normal (s'.keep keep)) q hQ).1⟩
   ·exact⟨(J0 hE (Qp:=λ_ _ _=>True) (K:=λ_=>False) q zt).2,λQ hQ=>(J0 hE (Qp:=λv H n=>Q (.xM v) ⟨[],H,n⟩) (K:=λs'=>Q .normal (s'.keep keep)) q hQ).1⟩
  case regx yL ops keep=>
   obtain⟨x,q,h⟩:=tt.1 h
   obtain⟨a,b,U⟩:=x
   cases a<;>cases h
   ·exact⟨(J1 hE (Qp:=λ_ _ _=>False) (K:=λ_=>True) q zt).2,λQ hQ=>(J1 hE (Qp:=λv H n=>Q (.xM v) ⟨[],H,n⟩) (K:=λs'=>Q .normal (s'.keep keep)) q hQ).1⟩
   ·exact⟨(J1 hE (Qp:=λ_ _ _=>True) (K:=λ_=>False) q zt).2,λQ hQ=>(J1 hE (Qp:=λv H n=>Q (.xM v) ⟨[],H,n⟩) (K:=λs'=>Q .normal (s'.keep keep)) q hQ).1⟩
  case frz=>
   obtain⟨h1,h⟩:=As h
   cases h
   refine⟨fe,λQ hQ=>?_⟩
   show I7 _ _ _ _
   rw[Wj]
   exact⟨(fzC _).2 h1,hQ⟩
  case frzo=>
   obtain⟨h1,h⟩:=As h
   cases h
   refine⟨aq,λQ hQ=>?_⟩
   show Ga _ _ _ _
   rw[TB]
   exact⟨(foC _).2 h1,hQ⟩
  case seq a b=>
   split at h
   ·rename_i q
    obtain⟨U,h2,rfl⟩:=NT h
    have k1:=Hs hE n a s _ _ _ q
    have k2:=Hs hE n b _ _ _ _ h2
    exact⟨k1.1.trans k2.1,λQ hQ=>k1.2 _ (k2.2 Q hQ)⟩
   ·rename_i r hr
    have k1:=Hs hE n a s _ _ _ h
    refine⟨k1.1,λQ hQ=>k1.2 _ ?_⟩
    cases e<;>first|exact hQ|exact absurd h (hr _ _)
  case cond c a b=>
   obtain⟨h1,h⟩:=As h
   simp only[sf]at h1
   cases hb:Fm (AY s.env c)<;>rw[hb]at h<;>have k:=Hs hE n _ s _ _ _ h<;>refine⟨k.1,λQ hQ=>⟨h1.1,Pb h1.2,λq=>?_,λq=>?_⟩⟩<;>first|exact k.2 Q hQ|(rw[hb]at q;cases q)
  case block id c=>
   split at h
   ·rename_i i t U q
    have k:=Hs hE n c s _ _ _ q
    cases hi:i==id<;>rw[hi]at h<;>cases h
    ·refine⟨k.1,λQ hQ=>k.2 _ ?_⟩
     simp only
     rw[sg (λe=>by rw[e,beq_self_eq_true]at hi;cases hi)]
     exact hQ
    ·refine⟨k.1,λQ hQ=>k.2 _ ?_⟩
     simp only
     rw[sn (eq_of_beq hi)]
     exact hQ
   ·rename_i hr
    have k:=Hs hE n c s _ _ _ h
    refine⟨k.1,λQ hQ=>k.2 _ ?_⟩
    cases e<;>first|exact hQ|exact absurd h (hr _ _ _)
  case loop c=>
   split at h
   ·rename_i s1 U q
    obtain⟨V,h3,rfl⟩:=NT h
    have k1:=Hs hE n c s _ _ _ q
    have k2:=Hs hE n (.loop c) s1 _ _ _ h3
    refine⟨k1.1.trans k2.1,λQ hQ=>?_⟩
    obtain⟨I,μ,h1,h2⟩:=k2.2 Q hQ
    classical
    refine⟨λt=>t=s\/I t,λt=>if I t then μ t else μ s1+1,.inl rfl,λt ht=>?_⟩
    by_cases hI:I t
    ·refine Fx c _ _ t (λe s h=>?_) (h2 t hI)
     cases e
     case normal=>
      obtain⟨s2,w,i2,m2⟩:=h
      refine⟨s2,w,.inr i2,?_⟩
      simp only
      rw[sn i2,sn hI]
      exact m2
     all_goals exact h
    ·obtain rfl:=ht.resolve_right hI
     refine k1.2 _ ⟨s1,.inl rfl,.inr h1,?_⟩
     simp only
     rw[sn h1,sg hI]
     exact Nat.lt_succ_self _
   ·rename_i hr
    have k:=Hs hE n c s _ _ _ h
    refine⟨k.1,λQ hQ=>⟨λt=>t=s,λ_=>0,rfl,λt ht=>?_⟩⟩
    subst ht
    refine k.2 _ ?_
    cases e<;>first|exact hQ|exact absurd h (hr _ _)
  case exit=>cases h;exact⟨Fr.same,λQ hQ=>hQ⟩
  case ret=>cases h;exact⟨Fr.same,λQ hQ=>hQ⟩
def rlC(H:AB)(sz:Nat)(a:Bool):∀v,Ch (BO H sz a v).1
 | .ptr id off=>by
  unfold BO
  try dsimp only
  cases AD H id with
  |none=>exact no
  |some o=>cases o<;>first|exact dc|exact no
 |_=>no
def rn(s:AS):∀l,Ch (L9 s l).1
 |[]=>⟨true,λ_=>zt⟩
 | .t i::l=>ca (p:=(lk s.env (.t i)).1=true) dc (rn s l)
 | .c i sz a::l=>ca (ca (p:=(lk s.env (.t i)).1=true) dc (rlC s.H sz a _)) (rn s l)
structure XF(P:Program) where
 f:FuncId
 run:CT->ET->Nat->List Fs->AB->Nat->Option (xw×AB×Nat×List Nat)
 ok:∀{C E m a H n o H' n' T},COK P C->rl P E->run C E m a H n=some (o,H',n',T)->Fr T H H'/\∀R:xw->AB->Nat->Prop,R o H' n'->AX P f a H n R
structure XS(P:Program) where
 f:FuncId
 sp:List Fs->Option Fs
 ok:∀{a r},sp a=some r->∃a',zn a a'/\Av P f a' r
def xS{P:Program}{f:FuncId}{a:List Fs}{r:Fs}(h:Av P f a r):XS P:=⟨f,λb=>bif wksB b a then some r else none,λe=>by
 obtain⟨q,e⟩:=As e
 cases e
 exact⟨a,(wksB_ok _ _ q).1,h⟩⟩
def xr(c:z8)(rs:List RC)(C:CT)(E:ET)(m:Nat)(a:List Fs)(H:AB)(n:Nat):Option (xw×AB×Nat×List Nat):=match xc C E m c ⟨HD 0 a,H,n⟩with
 |some (.ret,s,T)=>bif (rn s rs).1 then some (.ret (Yh (L9 s rs).2),s.H,s.n,T)else none
 |some (.normal,s,T)=>bif (rn s rs).1 then some (.ret (Yh (L9 s rs).2),s.H,s.n,T)else none
 |some (.xM v,s,T)=>some (.xM v,s.H,s.n,T)
 |_=>none
section
variable {P:Program}
def xF{f:FuncId}{c:z8}{rs:List RC}(ok:Tk P f c rs):XF P:=⟨f,xr c rs,λhC hE h=>by
 unfold xr at h
 split at h
 ·rename_i s T q
  obtain⟨h1,h⟩:=As h
  cases h
  have k:=Hs hE _ _ _ _ _ _ q
  exact⟨k.1,λR hR=>ok (AI (ai hC) (k.2 _ ⟨(rn _ _).2 h1,hR⟩))⟩
 ·rename_i s T q
  obtain⟨h1,h⟩:=As h
  cases h
  have k:=Hs hE _ _ _ _ _ _ q
  exact⟨k.1,λR hR=>ok (AI (ai hC) (k.2 _ ⟨(rn _ _).2 h1,hR⟩))⟩
 ·rename_i s T q
  cases h
  have k:=Hs hE _ _ _ _ _ _ q
  exact⟨k.1,λR hR=>ok (AI (ai hC) (k.2 _ hR))⟩
 ·cases h⟩
section
variable {f y9:FuncId} {ys:List z8} {t:Nat} {d0:Option Nat} {k:xx} {y c:z8} {lo t3 t4:Nat} {rs:List RC}
 (okd:∀{args:List Fs} {rv:Fs} {H:AB} {n:Nat} {Rc:AB->Nat->Prop},IE P c (Dj [] λo H' n'=>o= .ret (.wJ [])/\Rc H' n') ⟨(t3,true,rv)::(t4,true,rv)::HD 0 args,H,n⟩->D8 P y9 args rv H n Rc)
include okd
end
end
section
variable {P:Program} (tab:List (XF P)) (ts:List (XS P)) (m:Nat)
def xp:Nat->CT×ET
 |0=>(λ_ _=>none,λ_ _ _ _=>none)
 |n+1=>(λf a=>match ts.findSome? λe=>bif e.f==f then e.sp a else none with
   |some r=>some r
   |none=>match tab.find? λe=>e.f==f with
    |none=>none
    |some e=>bif uBs (strips a)then(match e.run (xp n).1 (xp n).2 m (strips a) Ak 0 with
     |some (.ret v,_,_,_)=>bif uB (WK v)then some (WK v)else none
     |_=>none)else none,
  λf a H k=>match tab.find? λe=>e.f==f with
   |none=>none
   |some e=>e.run (xp n).1 (xp n).2 m a H k)
theorem j9:∀n,COK P (xp tab ts m n).1/\rl P (xp tab ts m n).2
 |0=>⟨λ_ _ _ h=>(by cases h),λ_ _ _ _ _ _ _ _ h=>(by cases h)⟩
 |n+1=>by
  obtain⟨hC,hE⟩:=j9 n
  constructor
  ·intro f l r h
   unfold xp at h
   dsimp only at h
   split at h
   ·rename_i e he
    cases h
    obtain⟨e,_,he⟩:=List.exists_of_findSome?_eq_some he
    have h9:=As he
    obtain rfl:=eq_of_beq h9.1
    exact e.ok h9.2
   ·split at h
    ·cases h
    ·rename_i e he
     have hf:=List.find?_some he
     obtain rfl:=eq_of_beq hf
     obtain⟨h1,h⟩:=As h
     split at h
     ·rename_i v _ _ _ q
      obtain⟨h2,h⟩:=As h
      cases h
      exact⟨_,xY l,.mk (uBs_ok _ h1) (aX _ h2) ((e.ok hC hE q).2 _ ⟨_,rfl,SO v⟩)⟩
     ·cases h
  ·intro f l H k o H' n' T h
   unfold xp at h
   dsimp only at h
   split at h
   ·cases h
   ·rename_i e he
    have hf:=List.find?_some he
    obtain rfl:=eq_of_beq hf
    exact e.ok hC hE h
end
end Go.AM
namespace Go.AM
open Go.Lib Go.Proofs Go.Proofs.Tryz
def kA:Dc (List (List xv)):=ig EW jr
def oE(p:List (List xv)):kA.ok (EW p)=True:=Ij PU p
def fh(p:List (List xv)):kA.dec (EW p)=p:=PU p
def s4{α β γ δ:Type}(A:Dc α)(B:Dc β)(C:Dc γ)(D:Dc δ)(c:α->β->γ->δ->Prop)(f:α->β->γ->δ->Fs):List Fs->AB->Prop×Fs:=λa _=>match a with
 |[x,y,z,u]=>(A.ok x/\B.ok y/\C.ok z/\D.ok u/\c (A.dec x) (B.dec y) (C.dec z) (D.dec u),f (A.dec x) (B.dec y) (C.dec z) (D.dec u))
 |_=>(False,.wJ [])
def q4{α β γ δ:Type}{A:Dc α}{B:Dc β}{C:Dc γ}{D:Dc δ}{c:α->β->γ->δ->Prop}{f:α->β->γ->δ->Fs}{y9:FuncId}(h:∀x y z u,c x y z u->Av prog y9 [A.enc x,B.enc y,C.enc z,D.enc u] (f x y z u)):∀args H n,(s4 A B C D c f args H).1->Ao prog y9 args H n (s4 A B C D c f args H).2:=by
 intro args H n hh;unfold s4 at hh⊢;split at hh
 ·obtain⟨h1,h2,h3,h4,h5⟩:=hh;refine AX.args ((h _ _ _ _ h5).quiet H n) ?_;rintro g vs ⟨v,r,rfl,k1,w,r',rfl,k2,u,r'',rfl,k3,t,r3,rfl,k4,k5⟩;exact⟨v,_,rfl,A.wk _ h1 _ _ k1,w,_,rfl,B.wk _ h2 _ _ k2,u,_,rfl,C.wk _ h3 _ _ k3,t,_,rfl,D.wk _ h4 _ _ k4,k5⟩
 ·exact hh.elim
def dt(r:Fs):List Fs->AB->Prop×Fs:=λa _=>match a with
 |[]=>(True,r)
 |_=>(False,.wJ [])
def q0v{y9:FuncId}{r:Fs}(h:Av prog y9 [] r):∀args H n,(dt r args H).1->Ao prog y9 args H n (dt r args H).2:=by
 intro args H n hh;unfold dt at hh⊢;split at hh
 ·exact h.quiet H n
 ·exact hh.elim
def UJ:kA.ok (.agg [.sl .nil []])=True:=r9 (show Wk _ (EW np)from Wk.agg (.cons (Wk.sl (.inr rfl)) .nil))
theorem Qj:kA.dec (.agg [.sl .nil []])=np:=rfl
noncomputable def tabS:List (XF prog):=[xF (c5.a),xF (c19.a),xF (c13.a),xF (@a12),xF (c21.a),xF (c22.a),xF (c8.a),xF (c16.a),xF (c35.a),xF (c36.a),xF (c37.a),xF (c34.a),xF (c45.a),xF (c25.a),xF (c23.a),xF (c24.a),xF (c38.a),xF (c39.a),xF (c62.a),xF (c63.a),xF (cG.a),xF (c61.a),xF (c66.a),xF (c65.a),xF (c76.a),xF (cK.a),xF (c78.a),xF (c79.a),xF (c80.a),xF (c81.a),xF (c48.a),xF (c47.a),xF (c95.a),xF (c49.a),xF (c94.a),xF (c96.a),xF (qL.a),xF (cM.a),xF (qN.a),xF (qO.a),xF (@a120),xF (qD.a),xF (qE.a),xF (qG.a),xF (pz.a),xF (cH.a),xF (iP.a),xF (qf.a),xF (qg.a),xF (qA.a),xF (c31.a),xF (c50.a),xF (c84.a),xF (c145.a),xF (qI.a),xF (Q8.a),xF (iD.a),xF (iE.a),xF (qH.a),xF (qC.a),xF (YL.a),xF (Dp.a),xF (qF.a),xF (iC.a),xF (qh.a),xF (qi.a),xF (qj.a),xF (YN.a),xF (c60.a),xF (kK.a),xF (c86.a),xF (c88.a),xF (c87.a),xF (c85.a),xF (qc.a),xF (qM.a),xF (qK.a),xF (iF.a),xF (cJ.a),xF (cI.a),xF (c91.a),xF (c92.a),xF (c93.a),xF (qZ.a),xF (qd.a),xF (qJ.a),xF (qR.a),xF (cN.a),xF (qT.a),xF (qV.a),xF (qX.a),xF (iH.a),xF (qY.a),xF (qS.a),xF (qP.a),xF (qQ.a),xF (qU.a),xF (qW.a)]
def oF:List (XS prog):=[xS (p43 k0 nr),xS (p46 k0 1 nr),xS (p46 k0 3 nr),
  xS (p67 k0 x0 p0 nr fx0 fp0.1 fp0.2),xS (p67 k0 nj np nr fo0 fpe.1 fpe.2),xS (p10 k0 x0 nr fx0),xS (p10 k0 SK nr fb0)]
def GA{ts:List (XS prog)}{f:FuncId}{a:List Fs}{r:Fs}(h:(uBs a&&match (xp tabS ts 400 40).1 f a with
  |some v=>wkB v r
  |none=>false)=true):Av prog f a r:=by
 rw[sf]at h
 obtain⟨hu,h⟩:=h
 split at h
 ·rename_i v e
  obtain⟨a',w,p⟩:=(j9 tabS ts 400 40).1 _ _ _ e
  have k:=aW _ _ h
  exact⟨uBs_ok _ hu,k.2,(AX.args p.2.2 λg vs hv=>w.rel vs hv).mono λo H' n' ⟨v,e,q⟩=>⟨v,e,q.trans k.1⟩⟩
 ·cases h
def rn0:Av prog 21 [] (BA k0):=GA (ts:=[]) (by kernel_rfl)
def rn1:Av prog 8 [BA k0,Cl x0] (.wJ [EW p0,.int .i64 0]):=GA (ts:=oF) (by kernel_rfl)
def rn2:Av prog 8 [BA k0,Cl SK] (.wJ [UB,.int .i64 320]):=GA (ts:=oF) (by kernel_rfl)
def rn3:Av prog 8 [BA k0,Cl j7] (.wJ [EW np,.int .i64 0]):=GA (ts:=oF) (by kernel_rfl)
def rn4:Av prog 19 [BA k0,Lt lib0] (.int .i64 0):=GA (ts:=oF) (by kernel_rfl)
def rn5:Av prog 19 [BA k0,Lt Xf] (.int .i64 0):=GA (ts:=oF) (by kernel_rfl)
def rn6:Av prog 19 [BA k0,Lt lib2] (.int .i64 310):=GA (ts:=oF) (by kernel_rfl)
def tsV:List (XS prog):=xS rn4::xS rn5::xS rn6::oF
def rn7:Av prog 16 [BA k0,.agg [.sl .nil [],.sl .nil []],Cl x0,EW p0] (.wJ [Lt Xf,.int .i64 0]):=GA (ts:=tsV) (by kernel_rfl)
def rn8:Av prog 16 [BA k0,Lt Xf,Cl x0,EW p0] (.wJ [fJ,.int .i64 161]):=GA (ts:=tsV) (by kernel_rfl)
def rn9:Av prog 16 [BA k0,Lt Xf,Cl nj,EW np] (.wJ [fJ,.int .i64 310]):=GA (ts:=tsV) (by kernel_rfl)
def p5:Av prog 5 [] (.bool true):=
 GA (ts:=xS rn0::xS rn1::xS rn2::xS rn3::xS rn7::xS rn8::xS rn9::tsV) (by kernel_rfl)
def au{ts:List (List xv)}:∀t∈ts,t.length<=Bc ts:=by
 induction ts with
 |nil=>intro t h;cases h
 |cons a r ih=>
  intro t h;have:Bc (a::r)=a.length+Bc r:=by unfold Bc;simp
  rcases tg.1 h with rfl|h
  ·omega
  ·have:=ih t h;omega
def Xi{k:zx}{x:zk}{ts:List (List xv)}(hox:OKL x)(hck:BE k=0)(h1:Bc ts<=65536)(h2:ts.length=(EP k.d.wE.length x.ls.length).length):PV ts:=by
 have hsy:=BZ hck;have hAl:(EP k.d.wE.length x.ls.length).length<=4096:=by
  refine sX (Iy _ _) (sX (uW hsy.2 _) (sX (uS zd (show x.ls.length<=3 from hox.ls.2.2.2)) zd))
 exact⟨show ts.length<_ by omega,λt ht=>show t.length<_ by have:=au t ht;omega⟩
def oG:Bg:=AF 5 (dt (.bool true)) (AF 6 (s1 CQ (λ_=>True) λk=>.bool (Qa k)) (AF 7 (s1 dX (λ_=>True) λx=>.bool (Kw x)) (AF 8 (s2 CQ dX (λk x=>zy k.d/\wq x) DL) (AF 10 (s2 CQ dX (λk x=>zy k.d/\wq x) By)
 (AF 9 (s2 CQ dX (λk x=>RfK k/\wq x) DL) (AF 11 (s2 CQ dX (λk x=>RfK k/\wq x) By) (AF 13 (s2 A3 A3 (λa _=>Aq a) λa b=>.bool (decide (a=b))) (AF 12 (s2 kA kA (λa _=>PV a) λa b=>.bool (decide (a=b))) wD))))))))
def oH:AH prog oG:=((((((((AH.wD.add (q2 λa b h=>p12 a b h)).add (q2 λa b h=>p13 a b h)).add (q2 λk x h=>p11 k x h.1 h.2)).add (q2 λk x h=>p9 k x h.1 h.2)).add (q2 λk x h=>p10 k x h.1 h.2)).add (q2 λk x h=>p8 k x h.1 h.2)).add (q1 λx _=>p7 x)).add (q1 λk _=>p6 k)).add (q0v p5)
section
variable (a:List Fs) (H:AB)
end
def Qk:A3.ok (.sl .nil [])=True:=r9 ⟨.inr rfl,rfl⟩
theorem NU:A3.dec (.sl .nil [])=[]:=rfl
def Ql:Aq ([]:List Int)=True:=r9 zd
def p3(k:zx)(x:zk)(hw:WdK k):Av prog 3 [BA k,Cl x] (.bool true):=by
 have u1:CQ.ok (.agg (AG k))=True:=Ce k;have u2:CQ.dec (.agg (AG k))=k:=Bx k;simp only[AG,AE,AL,sJ,sI]at u1 u2;have v1:dX.ok (.agg (Aa x))=True:=Gm x;have v2:dX.dec (.agg (Aa x))=x:=Ei x;simp only[Aa]at v1 v2;refine .mk ⟨Am 0 k,BN 0 x,zt⟩ zt (c3.a (AI oH (AJ ?_)));cases hf:Qa k with
 |false=>simp only[eZ,seval,sa,se,c3,oG,dt,s1,AG,AE,AL,u1,u2,hf,se,sa,AF]
 |true=>
 cases hg:Kw x with
 |false=>simp only[eZ,seval,sa,se,c3,oG,dt,s1,AG,AE,AL,u1,u2,v1,v2,hf,hg,se,sa,AF]
 |true=>
 have hR:=nu hf hw;have hD:=hR.kn.d;have hx:=nK hg;rcases nv hD hx with⟨e,he,h1,h2,h3⟩|⟨q,h1,ho,hck,h2,h3,hs,hm,hr⟩|⟨h1,ho,hck,h2,h3,hs⟩|⟨ts,h1,ho,hck,h2,h3,hs,hrt,hN,ww⟩
 ·simp only[eZ,seval,sa,eY,c3,oG,dt,s1,s2,AG,AE,AL,u1,u2,v1,v2,hf,hg,sa,r9 hD,r9 hR,r9 hx,h2,h3,UJ,Qj,r9 fpe,Qk,NU,Ql,uA,AF]
 ·have l1:Aq q.1=True:=r9 (by show q.1.length<_;rw[(Hn hm).1];have:=ho.ls.2.2.2;omega);have l2:Aq q.2=True:=r9 (by show q.2.length<_;rw[hr.len];have:=ho.cs.2.2.2;omega);simp only[eZ,seval,sa,eY,c3,oG,dt,s1,s2,AG,AE,AL,u1,u2,v1,v2,hf,hg,sa,r9 hD,r9 hR,r9 hx,h2,h3,UJ,Qj,r9 fpe,Ah,Ad,l1,l2,uA,AF]
 ·simp only[eZ,seval,sa,eY,c3,oG,dt,s1,s2,AG,AE,AL,u1,u2,v1,v2,hf,hg,sa,r9 hD,r9 hR,r9 hx,h2,h3,UJ,Qj,r9 fpe,Qk,NU,Ql,uA,AF]
 ·have t1:kA.ok (.agg [mo ts])=True:=oE ts;have t2:kA.dec (.agg [mo ts])=ts:=fh ts;have l3:=Xi ho hck hN ww;simp only[eZ,seval,sa,eY,c3,oG,dt,s1,s2,AG,AE,AL,u1,u2,v1,v2,hf,hg,sa,r9 hD,r9 hR,r9 hx,h2,h3,t1,t2,r9 l3,Qk,NU,Ql,uA,AF]
section
variable (a:List Fs) (H:AB)
end
end Go.AM
namespace Go.AM
open Go.ChangeAt Go.ChangeShapes Go.Lib Go.Proofs Go.RowKit Go.WideElems Go.WideMaps Go.WideShapes Go.Proofs.Tryz
section
abbrev big(n:Nat):Prop:=n<=140737488355328
variable {av:List Fs} {α:Type}
theorem NV{l:List α}(h:big l.length):wide l:=by show l.length<_;omega
theorem own:ownKnob prog.godebug=none:=by kernel_rfl
theorem WL(i:Nat):UK i=none:=by rfl
theorem SP(W:World):Et (gW W)/\G5 W:=
 ⟨(λi cs h=>by rw[WL]at h;cases h),(λi cs h=>by rw[WL]at h;cases h)⟩
abbrev Qm:Sh:=.sl (.int .i64)
abbrev oI:Sh:=.st [.str,.int .i64]
abbrev oJ:Sh:=.st [.str,.sl Qm]
abbrev oK:Sh:=.st [.str,.str,.int .i64,.int .i64,.int .i64,.int .i64]
abbrev oL:Sh:=.st [.str,.str,.int .i64,.int .i64,.sl .str,.sl .str,.int .i64,.int .i64,.int .i64,.int .i64,.str,.int .i64]
abbrev shD:Sh:=.st [.str,.int .i64,.int .i64,.int .i64,.int .i64,Qm,.sl oI,.sl oJ,.sl oK,.sl oL]
abbrev shGr:Sh:=.st [.int .i64,.int .i64,.int .i64,Qm,Qm]
abbrev fi:Sh:=.st [shD,shGr,.sl Qm,.sl (.sl Qm)]
abbrev shQ:Sh:=.st [.int .i64,Qm,Qm,.int .i64]
abbrev shM:Sh:=.st [.int .i64,Qm]
abbrev shX:Sh:=.st [.str,.int .i64,.sl .str,.sl .str,.sl shQ,.sl shM,.int .i64,.int .i64]
theorem rb{n:Nat}(h:n<=reachBytes):big n:=sX h zd
theorem Gq{e:Sh}{enc:α->Fs}{Q:α->Prop}(he:∀vs,e.rd vs->∃a,Q a/\e.wrap vs=enc a)(h:(Sh.sl e).rd av):∃l:List α,big l.length/\(∀x∈l,Q x)/\av=[.sl (.none e.size) (l.map enc)]:=by
 simp only[Sh.rd]at h;obtain⟨l,rfl,ww,h⟩:=h
 suffices ∃m:List α,m.length=l.length/\(∀x∈m,Q x)/\l.map e.wrap=m.map enc by
  obtain⟨m,hm,hq,yh⟩:=this;exact⟨m,by rw[hm];exact rb ww,hq,by rw[yh]⟩
 clear ww;induction l with
 |nil=>exact⟨[],rfl,(λx hx=>by cases hx),rfl⟩
 |cons x l ih=>
  obtain⟨m,h1,h2,h3⟩:=ih λy hy=>h y (by simp [hy])
  obtain⟨a,hq,ha⟩:=he x (h x zw);exact⟨a::m,by simp [h1],λy hy=>by
   rcases tg.1 hy with rfl|hy
   ·exact hq
   ·exact h2 y hy,by rw[sS,sS,h3,ha]⟩
theorem rdI'(vs:List Fs)(h:(Sh.int .i64).rd vs):∃n:Int,True/\(Sh.int .i64).wrap vs=eI n:=by
 obtain⟨n,rfl,_⟩:=h;exact⟨n,zt,rfl⟩
theorem oM(vs:List Fs)(h:Sh.str.rd vs):∃s:Bs,big s.length/\Sh.str.wrap vs= .str s:=by
 obtain⟨s,rfl,hs⟩:=h;exact⟨s,rb hs,rfl⟩
theorem rdIs'(vs:List Fs)(h:(Sh.sl (.int .i64)).rd vs):∃l:List Int,big l.length/\(Sh.sl (.int .i64)).wrap vs=Aj l:=by
 obtain⟨l,h1,-,rfl⟩:=Gq rdI' h;exact⟨l,h1,rfl⟩
theorem MX{e:Sh}{enc:α->Fs}(he:∀vs,e.rd vs->∃a,e.wrap vs=enc a)(h:(Sh.sl e).rd av):∃l:List α,av=[.sl (.none e.size) (l.map enc)]:=by
 obtain⟨l,-,-,h⟩:=Gq (Q:=λ_=>True) (λvs h=>by obtain⟨a,ha⟩:=he vs h;exact⟨a,zt,ha⟩) h;exact⟨l,h⟩
theorem Xj(vs:List Fs)(h:(Sh.int .i64).rd vs):∃n:Int,(Sh.int .i64).wrap vs=eI n:=by
 obtain⟨n,-,h⟩:=rdI' vs h;exact⟨n,h⟩
theorem rdS0(vs:List Fs)(h:Sh.str.rd vs):∃s:Bs,Sh.str.wrap vs= .str s:=by
 obtain⟨n,-,h⟩:=oM vs h;exact⟨n,h⟩
theorem aw(vs:List Fs)(h:(Sh.sl (.int .i64)).rd vs):∃l:List Int,wide l/\(Sh.sl (.int .i64)).wrap vs=Aj l:=by
 obtain⟨l,h1,h2⟩:=rdIs' vs h;exact⟨l,NV h1,h2⟩
theorem rdLlW(vs:List Fs)(h:(Sh.sl (.sl (.int .i64))).rd vs):∃l:List (List Int),(∀m∈l,wide m)/\(Sh.sl (.sl (.int .i64))).wrap vs=Br l:=by
 obtain⟨l,-,h2,rfl⟩:=Gq aw h;exact⟨l,h2,rfl⟩
theorem rdSy(vs:List Fs)(h:oI.rd vs):∃s:xk,oI.wrap vs=JK s:=by
 simp only[Sh.rd.eq_5,Sh.rdL]at h;obtain⟨_,_,rfl,⟨nm,rfl,h1⟩,_,_,rfl,⟨v,rfl,_⟩,rfl⟩:=h;exact⟨⟨nm,v⟩,rfl⟩
theorem rdRg(vs:List Fs)(h:oJ.rd vs):∃r:xz,(∀l∈r.ls,wide l)/\oJ.wrap vs=Gj r:=by
 simp only[Sh.rd.eq_5,Sh.rdL]at h;obtain⟨_,_,rfl,⟨nm,rfl,h1⟩,_,_,rfl,h2,rfl⟩:=h;obtain⟨ls,-,l2,rfl⟩:=Gq aw h2;exact⟨⟨nm,ls⟩,l2,rfl⟩
theorem rdCl(vs:List Fs)(h:oK.rd vs):∃c:x8,oK.wrap vs=Cb c:=by
 simp only[Sh.rd.eq_5,Sh.rdL]at h;obtain⟨_,_,rfl,⟨nm,rfl,h1⟩,_,_,rfl,⟨on,rfl,h2⟩,_,_,rfl,⟨a,rfl,_⟩,_,_,rfl,⟨b,rfl,_⟩,_,_,rfl,⟨c,rfl,_⟩,_,_,rfl,⟨d,rfl,_⟩,rfl⟩:=h;exact⟨⟨nm,on,a,b,c,d⟩,rfl⟩
theorem rdRu(vs:List Fs)(h:oL.rd vs):∃r:zj,(wide r.ns/\wide r.os)/\oL.wrap vs=Bt r:=by
 simp only[Sh.rd.eq_5,Sh.rdL]at h;obtain⟨_,_,rfl,⟨nm,rfl,h1⟩,_,_,rfl,⟨on,rfl,h2⟩,_,_,rfl,⟨k,rfl,_⟩,_,_,rfl,⟨f,rfl,_⟩,_,_,rfl,h3,_,_,rfl,h4,_,_,rfl,⟨set,rfl,_⟩,_,_,rfl,⟨wU,rfl,_⟩,_,_,rfl,⟨op,rfl,_⟩,_,_,rfl,⟨n,rfl,_⟩,_,_,rfl,⟨b,rfl,h5⟩,_,_,rfl,⟨c,rfl,_⟩,rfl⟩:=h;obtain⟨ns,n1,n2,rfl⟩:=Gq oM h3;obtain⟨os,o1,o2,rfl⟩:=Gq oM h4;exact⟨⟨nm,on,k,f,ns,os,set,wU,op,n,b,c⟩,⟨NV n1,NV o1⟩,rfl⟩
theorem rdD(vs:List Fs)(h:shD.rd vs):∃d:xj,((∀r∈d.wK,∀l∈r.ls,wide l)/\∀r∈d.wF,wide r.ns/\wide r.os)/\vs=AL d:=by
 simp only[Sh.rd.eq_5,Sh.rdL]at h;obtain⟨_,_,rfl,⟨nm,rfl,h1⟩,_,_,rfl,⟨v,rfl,_⟩,_,_,rfl,⟨sh,rfl,_⟩,_,_,rfl,⟨w,rfl,_⟩,_,_,rfl,⟨hh,rfl,_⟩,_,_,rfl,h2,_,_,rfl,h3,_,_,rfl,h4,_,_,rfl,h5,_,_,rfl,h6,rfl⟩:=h;obtain⟨ho,rfl⟩:=MX Xj h2;obtain⟨sy,rfl⟩:=MX rdSy h3;obtain⟨rg,-,c2,rfl⟩:=Gq rdRg h4;obtain⟨cl,rfl⟩:=MX rdCl h5;obtain⟨ru,-,e2,rfl⟩:=Gq rdRu h6;exact⟨⟨nm,v,sh,w,hh,ho,sy,rg,cl,ru⟩,⟨c2,e2⟩,rfl⟩
theorem rdGr(vs:List Fs)(h:shGr.rd vs):∃g:v7,vs=AE g.sh g.w g.h g.wC g.cells:=by
 simp only[Sh.rd.eq_5,Sh.rdL]at h;obtain⟨_,_,rfl,⟨sh,rfl,_⟩,_,_,rfl,⟨w,rfl,_⟩,_,_,rfl,⟨hh,rfl,_⟩,_,_,rfl,h2,_,_,rfl,h3,rfl⟩:=h;obtain⟨ho,rfl⟩:=MX Xj h2;obtain⟨ce,rfl⟩:=MX Xj h3;exact⟨⟨sh,w,hh,ho,ce⟩,rfl⟩
theorem rdKn(vs:List Fs)(h:fi.rd vs):∃k:zx,WdK k/\fi.wrap vs=BA k:=by
 rw[Sh.rd.eq_5]at h;simp only[Sh.rdL]at h;obtain⟨_,_,rfl,h1,_,_,rfl,h2,_,_,rfl,h3,_,_,rfl,h4,rfl⟩:=h;obtain⟨d,⟨w1,w2⟩,rfl⟩:=rdD _ h1;obtain⟨g,rfl⟩:=rdGr _ h2;obtain⟨nb,-,w3,rfl⟩:=Gq aw h3;obtain⟨ls,-,w4,rfl⟩:=Gq rdLlW h4;exact⟨⟨d,g,nb,ls⟩,⟨w1,w2,w3,w4⟩,rfl⟩
theorem rdQ(vs:List Fs)(h:shQ.rd vs):∃q:Cnd,shQ.wrap vs=GQ q:=by
 simp only[Sh.rd.eq_5,Sh.rdL]at h;obtain⟨_,_,rfl,⟨k,rfl,_⟩,_,_,rfl,h1,_,_,rfl,h2,_,_,rfl,⟨n,rfl,_⟩,rfl⟩:=h;obtain⟨cs,rfl⟩:=MX Xj h1;obtain⟨ls,rfl⟩:=MX Xj h2;exact⟨⟨k,cs,ls,n⟩,rfl⟩
theorem rdMm(vs:List Fs)(h:shM.rd vs):∃p:Prm,shM.wrap vs=F4 p:=by
 simp only[Sh.rd.eq_5,Sh.rdL]at h;obtain⟨_,_,rfl,⟨c,rfl,_⟩,_,_,rfl,h1,rfl⟩:=h;obtain⟨ls,rfl⟩:=MX Xj h1;exact⟨⟨c,ls⟩,rfl⟩
theorem rdX(vs:List Fs)(h:shX.rd vs):∃x:zk,shX.wrap vs=Cl x:=by
 simp only[Sh.rd.eq_5,Sh.rdL]at h;obtain⟨_,_,rfl,⟨nm,rfl,_⟩,_,_,rfl,⟨lv,rfl,_⟩,_,_,rfl,h1,_,_,rfl,h2,_,_,rfl,h3,_,_,rfl,h4,_,_,rfl,⟨c,rfl,_⟩,_,_,rfl,⟨l,rfl,_⟩,rfl⟩:=h;obtain⟨cs,rfl⟩:=MX rdS0 h1;obtain⟨ls,rfl⟩:=MX rdS0 h2;obtain⟨qs,rfl⟩:=MX rdQ h3;obtain⟨ps,rfl⟩:=MX rdMm h4;exact⟨⟨nm,lv,cs,ls,qs,ps,c,l⟩,rfl⟩
theorem argKX(h:Sh.rdA [fi,shX] av):∃(k:zx) (x:zk),WdK k/\av=[BA k,Cl x]:=by
 simp only[Sh.rdA]at h;obtain⟨_,_,rfl,h1,_,_,rfl,h2,rfl⟩:=h;obtain⟨k,hk,e1⟩:=rdKn _ h1;obtain⟨x,e2⟩:=rdX _ h2;exact⟨k,x,hk,by rw[e1,e2]⟩
end
end Go.AM
