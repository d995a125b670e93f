/-
  A run: code carried out, step for step, from a state that is known; calls that change objects, and calls of which it is .
  Conditions: none beyond those of its parts.
-/
import Derived.Test.YtbngedlokkndkaaGreatDoorB12
import Derived.Test.YtbngedlokkndkaaGreatDoorB8
import Derived.Test.YtbngedlokkndkaaGreatDoorShelf
import Derived.Test.YtbngedlokkndkaaGreatDoorB6
import Derived.Test.YtbngedlokkndkaaGreatDoorB9
import Derived.Test.YtbngedlokkndkaaGreatDoorB7
import Derived.Test.YtbngedlokkndkaaGreatDoorB16
import Derived.KernelRfl

set_option maxRecDepth 20000
set_option linter.all false
set_option maxHeartbeats 1000000
namespace Go.AM
open Go.Proofs Go.Proofs.Tryz
mutual
def UI:Fs->Fs
 | .sl .nil []=>.sl .nil []
 | .sl t l=>.sl (.none t.esz) (strips l)
 | .agg l=>.agg (strips l)
 | .sH l=>.sH (strips l)
 |v=>v
def strips:List Fs->List Fs
 |[]=>[]
 |v::r=>UI v::strips r
end
mutual
theorem Qi:∀v:Fs,Wk v (UI v)
 | .sl .nil []=>Wk.refl _
 | .sl .nil (a::l)=>Wk.slx (.inl rfl) (tU (a::l))
 | .sl (.none e) l=>Wk.slx (.inl rfl) (tU l)
 | .sl (.exact e) l=>Wk.slx (.inl rfl) (tU l)
 | .sl (.own i e) l=>Wk.slx (.inl rfl) (tU l)
 | .agg l=>Wk.agg (tU l)
 | .sH l=>Wk.sH (tU l)
 | .int .. | .bool _| .str _| .nilp| .tG| .tA| .nilmp| .ptr .. | .ep _| .gp _| .ref .. | .ap .. | .fn .. | .ifc .. | .mp _| .up=>Wk.refl _
theorem tU:∀l:List Fs,Wks l (strips l)
 |[]=>.nil
 |a::l=>.cons (Qi a) (tU l)
end
mutual
def wkB:Fs->Fs->Bool
 | .sl .nil [],.sl .nil []=>true
 | .sl t l,.sl (.none e) m=>(decide (t.esz=e)||l.isEmpty)&&wksB l m
 | .agg l,.agg m=>wksB l m
 | .sH l,.sH m=>wksB l m
 | .int k n,.int k' n'=>decide (k=k')&&decide (n=n')
 | .bool b,.bool b'=>b==b'
 | .str s,.str s'=>decide (s=s')
 |_,_=>false
def wksB:List Fs->List Fs->Bool
 |[],[]=>true
 |a::l,b::m=>wkB a b&&wksB l m
 |_,_=>false
end
mutual
theorem YC:∀(a b:Fs),wkB a b=true->Wk a b/\b.under 0
 |a,b,h=>by
  unfold wkB at h
  split at h
  ·exact⟨Wk.refl _,zt,zt⟩
  ·rename_i t l e m _
   simp only[oo,oV,oC,List.isEmpty_iff]at h
   have k:=wksB_ok _ _ h.2
   exact⟨Wk.slx h.1 k.1,zt,k.2⟩
  ·have k:=wksB_ok _ _ h
   exact⟨Wk.agg k.1,k.2⟩
  ·have k:=wksB_ok _ _ h
   exact⟨Wk.sH k.1,k.2⟩
  ·simp only[oo,oC]at h
   obtain⟨rfl,rfl⟩:=h
   exact⟨Wk.refl _,zt⟩
  ·rw[eq_of_beq h]
   exact⟨Wk.refl _,zt⟩
  ·rw[oC]at h
   subst h
   exact⟨Wk.refl _,zt⟩
  ·cases h
theorem wksB_ok:∀(a b:List Fs),wksB a b=true->Wks a b/\sN 0 b
 |[],[],_=>⟨.nil,zt⟩
 |a::l,b::m,h=>by
  simp only[wksB,oo]at h
  have k:=YC _ _ h.1
  have k':=wksB_ok _ _ h.2
  exact⟨.cons k.1 k'.1,k.2,k'.2⟩
 |[],_::_,h=>by simp [wksB]at h
 |_::_,[],h=>by simp [wksB]at h
end
abbrev Ch(p:Prop):={b:Bool//b=true->p}
def dc{p:Prop}[Decidable p]:Ch p:=⟨decide p,pg⟩
def no{p:Prop}:Ch p:=⟨false,λh=>by cases h⟩
def ca{p q:Prop}(a:Ch p)(b:Ch q):Ch (p/\q):=⟨a.1&&b.1,λh=>by rw[oo]at h;exact⟨a.2 h.1,b.2 h.2⟩⟩
def cm{p q:Prop}(h:p->q)(a:Ch p):Ch q:=⟨a.1,λe=>h (a.2 e)⟩
section
variable {k:IntKind} {v:Fs} {H:AB} {s:AS}
instance :Decidable (Iv k v):=by cases v<;>(unfold Iv;infer_instance)
instance :Decidable (Cl v):=by cases v<;>(unfold Cl;infer_instance)
instance :Decidable (JV v):=by cases v<;>(unfold JV;infer_instance)
instance :Decidable (MU v):=by cases v<;>(unfold MU;infer_instance)
instance :Decidable (Vw v):=by cases v<;>(unfold Vw;infer_instance)
instance :Decidable (nT v):=by cases v<;>(unfold nT;infer_instance)
instance {n b:Nat}:Decidable (small n b):=by unfold small;infer_instance
instance {ρ:zx->Fs} {x:Option zx}:Decidable (CK ρ x):=by cases x<;>(unfold CK;infer_instance)
instance {α:Type} {o:Option α}:Decidable (o=none):=match o with
 |none=>isTrue rfl
 |some _=>isFalse (λh=>by cases h)
instance {t:xv}:Decidable (t= .nil):=by cases t<;>first|exact isTrue rfl|exact isFalse (λh=>by cases h)
instance {b:Nat}:Decidable (Ga b v):=by cases v<;>(unfold Ga;infer_instance)
instance {b:Nat}:Decidable (Il b v):=by cases v<;>(unfold Il;infer_instance)
instance {b:Nat}:Decidable (EF b v):=by cases v<;>(unfold EF;infer_instance)
instance :Decidable (fZ v):=by cases v<;>(unfold fZ;infer_instance)
instance {base k id:Nat} {cx:Nat->Fs}:Decidable (QG base cx k id):=by unfold QG;infer_instance
instance {base k:Nat} {cx:Nat->Fs}:Decidable (OF base cx k v):=by cases v<;>(unfold OF;infer_instance)
def bb:∀(f:List Nat) (x y:List Fs),Ch (ED f x y)
 |[],[],[]=>⟨true,λ_=>zt⟩
 |0::fs,.int k _::xs,.int k' _::ys=>ca (p:=k=k') dc (bb fs xs ys)
 |1::fs,.bool _::xs,.bool _::ys=>bb fs xs ys
 |2::fs,.str _::xs,.str _::ys=>bb fs xs ys
 |_,_,_=>no
def ldC(sz:Nat)(ag:Bool):∀v,Ch (A4 H sz ag v).1
 | .ptr id off=>by
  unfold A4
  try dsimp only
  cases AD H id with
  |none=>exact no
  |some o=>cases o<;>first|exact dc|exact no
 | .ap id e i off=>by
  unfold A4
  try dsimp only
  cases AD H id with
  |none=>exact no
  |some o=>cases o<;>first|exact dc|exact no
 | .ep cs=>dc (p:=sz<=cs.length)
 |_=>no
def mxC{ρ:zx->Fs}{a n:Int}:∀(mx:Option zx),Ch (∀m,mx=some m->a<=BV (ρ m)/\BV (ρ m)<=n)
 |none=>⟨true,λ_ _ h=>by cases h⟩
 |some x=>cm (p:=a<=BV (ρ x)/\BV (ρ x)<=n) (λh m e=>by cases e;exact h) dc
def okv(H:AB)(ρ:zx->Fs)(k:x0):Ch (BN H ρ k).1:=by
 cases k<;>dsimp only[BN]
 case ld=>exact ldC _ _ _
 case aeq n fs x y=>
  generalize ρ x=v,ρ y=u
  cases v with
  |agg xs=>cases u with
   |agg ys=>exact bb _ _ _
   |_=>exact no
  |_=>exact no
 case sl esz x lo hi mx=>
  generalize ρ x=v
  cases v with
  |sl t l=>exact ca dc (ca dc (ca dc (ca dc (ca dc (ca dc (ca dc (ca dc (mxC mx))))))))
  |ref id e off len cap=>cases mx<;>(dsimp only[GP];exact dc)
  |_=>exact no
 case b2s=>exact no
 case slp=>exact no
 case capx=>exact no
 case mnmx xs=>exact ca dc ⟨!xs.isEmpty,λh e=>by rw[e]at h;cases h⟩
 case build=>unfold evB;exact dc
 case bs=>unfold evS;exact dc
 case nilc x=>
  generalize ρ x=v
  cases v<;>first|exact dc|(rename_i f _ _;cases f<;>exact dc)
 case fa x=>generalize ρ x=v;cases v<;>exact dc
 case fld x=>generalize ρ x=v;cases v<;>exact dc
 case ia x i=>generalize ρ x=v;cases v<;>exact dc
 case iaA x i=>generalize ρ x=v;cases v<;>exact dc
 case ixA x i=>generalize ρ x=v;cases v<;>exact dc
 case len x=>generalize ρ x=v;cases v<;>exact dc
 case ext x=>generalize ρ x=v;cases v<;>exact dc
 all_goals exact dc
instance {t:xv} {e:Nat}:Decidable (At H e t):=by
 cases t with
 |own id e'=>
  show Decidable (e'=e/\AD H id=some .tok)
  cases AD H id with
  |none=>exact isFalse zw
  |some o=>cases o with
   |tok=>exact decidable_of_iff (e'=e) ⟨λh=>⟨h,rfl⟩,λh=>h.1⟩
   |_=>exact isFalse zw
 |_=>unfold At;infer_instance
def asC{old:Fs}{off sz esz:Nat}{v:Fs}:Ch (Bw old off sz esz v).1:=
 if h:off=0/\sz=esz then⟨true,λ_=>by unfold Bw;rw[oE h];trivial⟩else match old with
  | .agg cs=>⟨decide (cs.length=esz/\off+sz<=esz),λe=>by unfold Bw;rw[og h];exact pg e⟩
  |_=>no
def stC(sz:Nat)(v:Fs):∀a,Ch (Pr H sz v a).1
 | .ptr id off=>by
  unfold Pr
  try dsimp only
  cases AD H id with
  |none=>exact no
  |some o=>cases o<;>first|exact dc|exact no
 | .ap id e i off=>by
  unfold Pr
  dsimp only
  cases AD H id with
  |none=>exact no
  |some o=>cases o with
   |arr e' l=>exact ca dc (ca dc asC)
   |_=>exact no
 |_=>no
def apC(id esz b:Nat)(v:Fs)(x:Option (List Fs)):Ch (Hs H id esz b v x).1:=by
 unfold Hs
 cases v with
 |sl t l=>cases x with
  |none=>exact no
  |some l'=>exact dc
 |_=>exact no
def slC(n:Nat)(lo hi:Int):∀v,Ch (I6 H n lo hi v).1
 | .ptr id 0=>by
  cases h:AD H id with
  |none=>exact no
  |some o=>cases o with
   |box cs=>exact cm (p:=cs.length=n/\0<=lo/\lo<=hi/\hi<=n/\lo<n) (λq=>by simp only[I6,h];exact q) dc
   |arr e cs=>exact cm (p:=e=1/\cs.length=n/\0<=lo/\lo<=hi/\hi<=n/\lo<n) (λq=>by simp only[I6,h];exact q) dc
   |_=>exact no
 |_=>no
def bc(n e:Nat)(lo hi:Int):∀v,Ch (Ix H n e lo hi v).1
 | .ptr id 0=>by
  cases h:AD H id with
  |none=>exact no
  |some o=>cases o with
   |box cs=>exact cm (p:=cs.length=n*e/\0<=lo/\lo<=hi/\hi<=n/\lo<n) (λq=>by simp only[Ix,h];exact q) dc
   |arr e' cs=>exact cm (p:=e'=e/\cs.length=n/\0<=lo/\lo<=hi/\hi<=n/\lo<n) (λq=>by simp only[Ix,h];exact q) dc
   |_=>exact no
 |_=>no
def isC(k:IntKind):∀n l,Ch (Nf k n l)
 |0,[]=>⟨true,λ_=>zt⟩
 |n+1,.int k' _::r=>ca (p:=k'=k) dc (isC k n r)
 |_,_=>no
def ktC:∀(t:KT) v,Ch (t.is v)
 | .int k,.int k' _=>dc (p:=k'=k)
 | .bool,.bool _=>⟨true,λ_=>zt⟩
 | .str,.str _=>⟨true,λ_=>zt⟩
 | .arr n k,.agg xs=>isC k n xs
 |_,_=>no
def mfC(t:KT):∀es,Ch (D6 t es)
 |[]=>⟨true,λ_=>zt⟩
 |(k,_,_)::r=>ca (ktC t k) (mfC t r)
def bmC(e n:Nat):∀is vs,Ch (YT e n is vs)
 |[],[]=>⟨true,λ_=>zt⟩
 |i::is,v::vs=>ca (p:=nT v) dc (ca (p:=v.cells.length=e) dc (ca (p:=i<n) dc (bmC e n is vs)))
 |_,_=>no
def xC(b:Nat):∀x l,Ch (xE b x H l).1
 | .mkm rel,[]=>dc (p:=AD H (b+rel)=none)
 | .look kt z ok,[.nilmp,k]=>ktC kt k
 | .look kt z ok,[.mp id,k]=>by
  unfold xE
  dsimp only
  cases AD H id with
  |none=>exact no
  |some o=>cases o with
   |map es c=>exact ca (ktC _ _) (mfC _ _)
   |_=>exact no
 | .mput kt,[.mp id,k,v]=>by
  unfold xE
  dsimp only
  cases AD H id with
  |none=>exact no
  |some o=>cases o with
   |map es c=>exact ca (ktC _ _) (ca (mfC _ _) dc)
   |_=>exact no
 | .mlen,[.mp id]=>by
  unfold xE
  dsimp only
  cases AD H id with
  |none=>exact no
  |some o=>cases o<;>exact dc
 | .tH 0 _,[.ifc _ _]| .tH 0 _,[.tA]| .tH 1 _,[.ptr _ _]| .tH 1 _,[.nilp]| .tH 1 _,[.ep _]| .tH 2 _,[.fn _ _ _]| .tH 2 _,[.tG]=>⟨true,λ_=>zt⟩
 | .tas _ true _,[.ifc _ _]| .tas _ true _,[.tA]| .i2s,[.int _ _]=>⟨true,λ_=>zt⟩
 | .tas t false _,[.ifc t' _]=>dc (p:=t'=t)
 | .srng rel,[.str _]=>dc (p:=AD H (b+rel)=none)
 | .slx n e false false,[v]=>bc n e 0 n v
 | .slx n e true false,[v,.int _ a]=>bc n e a n v
 | .slx n e false true,[v,.int _ c]=>bc n e 0 c v
 | .slx n e true true,[v,.int _ a,.int _ c]=>bc n e a c v
 | .bsm rel e n z is,vs=>by
  unfold xE
  exact ca dc (ca (bmC _ _ _ _) dc)
 | .mkc rel e b z l c,[]=>by
  unfold xE
  exact dc
 | .cpy e str,[.ref id e1 off len cap,y]=>by
  unfold xE
  dsimp only
  cases AD H id with
  |none=>exact no
  |some o=>cases o with
   |arr e' l=>cases PU H e y str with
    |none=>exact no
    |some l'=>exact dc
   |_=>exact no
 |_,_=>no
def fzC(t:Nat):Ch (Ka s t).1:=by
 unfold Ka
 cases BC s.env t with
 |none=>exact no
 |some p=>
  obtain⟨g,v⟩:=p
  cases g with
  |false=>exact no
  |true=>cases v with
   |ref id e off len cap=>
    dsimp only
    cases AD s.H id with
    |none=>exact no
    |some o=>cases o<;>first|exact dc|exact no
   |_=>exact no
def foC(t:Nat):Ch (HG s t).1:=by
 unfold HG
 cases BC s.env t with
 |none=>exact no
 |some p=>
  obtain⟨g,v⟩:=p
  cases g with
  |false=>exact no
  |true=>cases v with
   |ref id e off len cap=>
    dsimp only
    cases AD s.H id with
    |none=>exact no
    |some o=>cases o<;>first|exact dc|exact no
   |sl t l=>exact⟨true,λ_=>zt⟩
   |_=>exact no
def sdC(base:Nat)(cx:Nat->Fs)(ρ:zx->Fs):∀f k,Ch (Bg base cx ρ f k)
 |0,_=>⟨true,λ_=>zt⟩
 |1,.v (.ld _ _ a)=>dc (p:=Ga base (ρ a))
 |2,.st _ a _=>dc (p:=Il base (ρ a))
 |2,.v (.ld _ _ a)=>dc (p:=fZ (ρ a))
 |k+3,.v (.ld _ _ a)=>dc (p:=OF base cx k (ρ a))
 |k+3,.st _ a _=>dc (p:=OF base cx k (ρ a))
 |k+3,.call false _ _=>dc (p:=300000<=k/\k % 2=0)
 |_,_=>no
mutual
def uB:Fs->Bool
 | .int _ _| .bool _| .str _| .nilp| .tG| .tA| .nilmp=>true
 | .sl .nil l| .sl (.none _) l| .sl (.exact _) l=>uBs l
 | .agg l| .sH l| .ep l=>uBs l
 | .fn _ a b=>uBs a&&uBs b
 |_=>false
def uBs:List Fs->Bool
 |[]=>true
 |a::l=>uB a&&uBs l
end
mutual
theorem UJ:∀v:Fs,uB v=true->v.under 0
 | .int _ _,_| .bool _,_| .str _,_| .nilp,_| .tG,_| .tA,_| .nilmp,_=>trivial
 | .sl .nil l,h| .sl (.none _) l,h| .sl (.exact _) l,h=>⟨zt,uU l h⟩
 | .agg l,h| .sH l,h| .ep l,h=>uU l h
 | .fn _ a b,h=>by
  have h:(uBs a&&uBs b)=true:=h
  rw[oo]at h
  exact⟨uU a h.1,uU b h.2⟩
 | .ptr ..,h| .gp _,h| .sl (.own ..) _,h| .ref ..,h| .ap ..,h| .ifc ..,h| .mp _,h| .up,h=>by cases h
theorem uU:∀l:List Fs,uBs l=true->sN 0 l
 |[],_=>trivial
 |a::l,h=>by
  have h:(uB a&&uBs l)=true:=h
  rw[oo]at h
  exact⟨UJ a h.1,uU l h.2⟩
end
mutual
def flB:Fs->Bool
 | .int _ _| .bool _| .str _=>true
 | .agg l| .sH l=>flBs l
 |_=>false
def flBs:List Fs->Bool
 |[]=>true
 |a::l=>flB a&&flBs l
end
mutual
theorem YD:∀v:Fs,flB v=true->v.flat
 | .int _ _,_| .bool _,_| .str _,_=>trivial
 | .agg l,h| .sH l,h=>flBs_ok l h
 | .nilp,h| .tG,h| .tA,h| .nilmp,h| .ep _,h| .fn ..,h| .sl ..,h| .ptr ..,h| .gp _,h| .ref ..,h| .ap ..,h| .ifc ..,h| .mp _,h| .up,h=>by cases h
theorem flBs_ok:∀l:List Fs,flBs l=true->flats l
 |[],_=>trivial
 |a::l,h=>by
  have h:(flB a&&flBs l)=true:=h
  rw[oo]at h
  exact⟨YD a h.1,flBs_ok l h.2⟩
end
mutual
def vw0(H:AB):Fs->Fs
 | .ref id e off len cap=>match AD H id with
  |some (.arr _ l)=>.sl (.none e) ((l.drop off).take len)
  |_=>.sH []
 | .agg l=>.agg (vws0 H l)
 | .sl (.own _ e) l=>.sl (.none e) l
 |v=>v
def vws0(H:AB):List Fs->List Fs
 |[]=>[]
 |a::l=>vw0 H a::vws0 H l
end
mutual
def vw(H:AB):Fs->Fs
 | .ptr id off=>match AD H id with
  |some (.box cs)=>.ep (vws0 H (cs.drop off))
  |_=>.sH []
 | .agg l=>.agg (vws H l)
 | .fn f a b=>.fn f (vws H a) (vws H b)
 |v=>vw0 H v
def vws(H:AB):List Fs->List Fs
 |[]=>[]
 |a::l=>vw H a::vws H l
end
mutual
def vB0(H:AB):Fs->Bool
 | .ref id e off len cap=>match AD H id with
  |some (.arr e' l)=>decide (e'=e)&&(decide (off+len<=l.length)&&decide (len<=cap))
  |_=>false
 | .agg l=>vBs0 H l
 |_=>true
def vBs0(H:AB):List Fs->Bool
 |[]=>true
 |a::l=>vB0 H a&&vBs0 H l
end
mutual
theorem Sd{H:AB}:∀v,vB0 H v=true->View H (vw0 H v) v
 | .ref id e off len cap,h=>by
  unfold vB0 at h
  split at h
  ·rename_i q
   simp only[oo,oC]at h
   simp only[vw0,q]
   exact .ref (by rw[q,h.1]) h.2.1 h.2.2
  ·cases h
 | .agg l,h=>.agg (vBs0_ok l h)
 | .sl (.own _ e) l,_=>.wk (Wk.sl (.inl rfl))
 | .int ..,_| .bool _,_| .str _,_| .nilp,_| .tG,_| .tA,_| .nilmp,_| .ep _,_| .gp _,_| .sl .nil _,_| .sl (.none _) _,_| .sl (.exact _) _,_| .sH _,_| .ap ..,_| .ifc ..,_| .mp _,_| .up,_| .ptr ..,_| .fn ..,_=>.wk (Wk.refl _)
theorem vBs0_ok{H:AB}:∀l:List Fs,vBs0 H l=true->uQ H (vws0 H l) l
 |[],_=>.nil
 |a::l,h=>by
  have h:(vB0 H a&&vBs0 H l)=true:=h
  rw[oo]at h
  exact .cons (Sd a h.1) (vBs0_ok l h.2)
end
mutual
def vB(H:AB):Fs->Bool
 | .ptr id off=>match AD H id with
  |some (.box cs)=>vBs0 H (cs.drop off)
  |_=>false
 | .agg l=>vBs H l
 | .fn _ a b=>vBs H a&&vBs H b
 |v=>vB0 H v
def vBs(H:AB):List Fs->Bool
 |[]=>true
 |a::l=>vB H a&&vBs H l
end
mutual
theorem vB_ok{H:AB}:∀v,vB H v=true->View H (vw H v) v
 | .ptr id off,h=>by
  unfold vB at h
  split at h
  ·rename_i q
   simp only[vw,q]
   exact .pw q (vBs0_ok _ h)
  ·cases h
 | .agg l,h=>.agg (vBs_ok l h)
 | .fn f a b,h=>by
  have h:(vBs H a&&vBs H b)=true:=h
  rw[oo]at h
  exact .fn (vBs_ok a h.1) (vBs_ok b h.2)
 | .ref a b c d e,h=>Sd (.ref a b c d e) h
 | .sl t l,h=>Sd (.sl t l) h
 | .int ..,_| .bool _,_| .str _,_| .nilp,_| .tG,_| .tA,_| .nilmp,_| .ep _,_| .gp _,_| .sH _,_| .ap ..,_| .ifc ..,_| .mp _,_| .up,_=>.wk (Wk.refl _)
theorem vBs_ok{H:AB}:∀l:List Fs,vBs H l=true->uQ H (vws H l) l
 |[],_=>.nil
 |a::l,h=>by
  have h:(vB H a&&vBs H l)=true:=h
  rw[oo]at h
  exact .cons (vB_ok a h.1) (vBs_ok l h.2)
end
mutual
def nB:Fs->Bool
 | .ref .. | .ptr .. =>false
 | .agg l=>nBs l
 | .fn _ [] []=>true
 | .fn .. =>false
 |_=>true
def nBs:List Fs->Bool
 |[]=>true
 |a::l=>nB a&&nBs l
end
mutual
theorem nB_ok{H:AB}:∀v,nB v=true->Wk v (vw H v)
 | .ref ..,h| .ptr ..,h| .fn _ (_::_) _,h| .fn _ [] (_::_),h=>by cases h
 | .agg l,h=>Wk.agg (nBs_ok l h)
 | .fn f [] [],_=>Wk.refl _
 | .sl (.own _ e) l,_=>Wk.sl (.inl rfl)
 | .int ..,_| .bool _,_| .str _,_| .nilp,_| .tG,_| .tA,_| .nilmp,_| .ep _,_| .gp _,_| .sl .nil _,_| .sl (.none _) _,_| .sl (.exact _) _,_| .sH _,_| .ap ..,_| .ifc ..,_| .mp _,_| .up,_=>Wk.refl _
theorem nBs_ok{H:AB}:∀l:List Fs,nBs l=true->Wks l (vws H l)
 |[],_=>.nil
 |a::l,h=>by
  have h:(nB a&&nBs l)=true:=h
  rw[oo]at h
  exact .cons (nB_ok a h.1) (nBs_ok l h.2)
end
end
def iI(k:IntKind):Fs->Bool
 | .int k' _=>decide (k'=k)
 |_=>false
def iN:Fs->Bool
 | .int _ _=>true
 |_=>false
def iB:Fs->Bool
 | .bool _=>true
 |_=>false
def iS:Fs->Bool
 | .str _=>true
 |_=>false
def iT:Fs->Bool
 | .sH _=>false
 |_=>true
def N9{k:IntKind}{v:Fs}(h:iI k v=true):Iv k v:=by cases v<;>simp_all [iI,Iv]
def iN_ok{v:Fs}(h:iN v=true):Cl v:=by cases v<;>simp_all [iN,Cl]
def OA{v:Fs}(h:iB v=true):JV v:=by cases v<;>simp_all [iB,JV]
def YE{v:Fs}(h:iS v=true):MU v:=by cases v<;>simp_all [iS,MU]
def YF{v:Fs}(h:iT v=true):nT v:=by cases v<;>simp_all [iT,nT]
def Vt:List Nat->List Fs->List Fs->Bool
 |[],[],[]=>true
 |0::fs,.int k _::xs,.int k' _::ys=>decide (k=k')&&Vt fs xs ys
 |1::fs,.bool _::xs,.bool _::ys=>Vt fs xs ys
 |2::fs,.str _::xs,.str _::ys=>Vt fs xs ys
 |_,_,_=>false
def be(f:List Nat)(x y:List Fs)(h:Vt f x y=true):ED f x y:=by
 fun_induction Vt f x y<;>simp_all [ED]
def okB(H:AB)(ρ:zx->Fs):x0->Bool
 | .mv _=>true
 | .arith op k x y=>iI k (ρ x)&&iI k (ρ y)&&(!K3 op||decide (BV (ρ y)≠0))
 | .shift op k ky x y=>iI k (ρ x)&&iI ky (ρ y)&&decide (0<=BV (ρ y))
 | .icmp op k x y=>iI k (ρ x)&&iI k (ρ y)
 | .beq _ x y=>iB (ρ x)&&iB (ρ y)
 | .scmp op x y=>iS (ρ x)&&iS (ρ y)
 | .not x=>iB (ρ x)
 | .fa _ x=>match ρ x with
  | .ptr _ _| .ep _=>true
  |_=>false
 | .ld sz _ x=>match ρ x with
  | .ptr id off=>(match AD H id with
   |some (.box cs)=>decide (off+sz<=cs.length)
   |_=>false)
  | .ep cs=>decide (sz<=cs.length)
  |_=>false
 | .ia esz x i=>match ρ x with
  | .sl tok l=>decide (tok.esz=esz)&&iN (ρ i)&&decide (0<=BV (ρ i))&&decide (BV (ρ i)<l.length)
  |_=>false
 | .len x=>match ρ x with
  | .sl _ _=>true
  |_=>false
 | .lenS x=>iS (ρ x)
 | .build zero parts=>parts.all λp=>iT (ρ p.2.2)&&decide ((ρ p.2.2).cells.length=p.2.1)&&decide (p.1+p.2.1<=zero.length)
 | .bs esz n zero parts=>(parts.all λp=>iT (ρ p.2)&&decide ((ρ p.2).cells.length=esz)&&decide (p.1<n))&&decide (zero.cells.length=esz)&&decide (n*esz<=16777216)
 | .fn _ _ _=>true
 | .ext i x=>match ρ x with
  | .sH vs=>decide (i<vs.length)
  |_=>false
 | .aeq _ fs x y=>match ρ x,ρ y with
  | .agg xs,.agg ys=>Vt fs xs ys
  |_,_=>false
 |_=>false
def jp{H:AB}{ρ:zx->Fs}{k:x0}(h:okB H ρ k=true):(BN H ρ k).1:=by
 cases k<;>simp only[okB,oP,oo,oV,qM,oC,oM]at h
 case mv=>trivial
 case arith=>exact⟨N9 h.1.1,N9 h.1.2,λq=>by
  rcases h.2 with h|h; ·rw[h]at q;cases q
  ·exact h⟩
 case shift=>exact⟨N9 h.1.1,N9 h.1.2,h.2⟩
 case icmp=>exact⟨N9 h.1,N9 h.2⟩
 case beq=>exact⟨OA h.1,OA h.2⟩
 case scmp=>exact⟨YE h.1,YE h.2⟩
 case not=>exact OA h
 case fa=>simp only[BN];split at h<;>simp_all
 case ld sz ag x=>
  simp only[BN]
  generalize ρ x=v at h
  cases v<;>simp only[oP]at h
  case ptr id off=>
   simp only[A4]
   split at h
   ·rename_i q;rw[q];exact pg h
   ·cases h
  case ep cs=>simp only[A4];exact pg h
 case ia esz x i=>
  simp only[BN]
  split at h
  ·rename_i q
   simp only[oo,oC]at h
   rw[q]
   exact⟨h.1.1.1,iN_ok h.1.1.2,h.1.2,h.2⟩
  ·cases h
 case len=>simp only[BN];split at h<;>simp_all
 case lenS=>exact YE h
 case build=>exact λp hp=>⟨YF (h p hp).1.1,(h p hp).1.2,(h p hp).2⟩
 case bs=>exact⟨λp hp=>⟨YF (h.1.1 p hp).1.1,(h.1.1 p hp).1.2,(h.1.1 p hp).2⟩,h.1.2,h.2⟩
 case fn=>trivial
 case ext=>
  simp only[BN]
  split at h
  ·rename_i q
   rw[q]
   exact pg h
  ·cases h
 case aeq=>
  simp only[BN]
  split at h
  ·rename_i q q'
   rw[q,q']
   exact be _ _ _ h
  ·cases h
def okF(H:AB)(ρ:zx->Fs)(k:x0):Bool:=okB H ρ k||(okv H ρ k).1
def jq{H:AB}{ρ:zx->Fs}{k:x0}(h:okF H ρ k=true):(BN H ρ k).1:=((oV _ _).mp h).elim jp (okv H ρ k).2
def seen(H:AB)(l:List Fs)(r:Fs):Prop:=Wks l (vws H l)\/(sN 0 (vws H l)/\uQ H (vws H l) l/\r.flat)
def seB(H:AB)(l:List Fs)(r:Fs):Bool:=nBs l||(uBs (vws H l)&&(vBs H l&&flB r))
def YG{H:AB}{l:List Fs}{r:Fs}(h:seB H l r=true):seen H l r:=by
 simp only[seB,oV,oo]at h
 exact h.imp (nBs_ok l) λq=>⟨uU _ q.1,vBs_ok l q.2.1,YD r q.2.2⟩
abbrev CT:=FuncId->List Fs->Option Fs
abbrev ET:=FuncId->List Fs->AB->Nat->Option (xx×AB×Nat×List Nat)
def Fr(T:List Nat)(H H':AB):Prop:=∀id,id∉T->AD H' id=AD H id
def Fr.same{T:List Nat}{H:AB}:Fr T H H:=λ_ _=>rfl
def Fr.set{T:List Nat}{H:AB}{i:Nat}{o:xq}(h:i∈T):Fr T H (sA H i o):=λj hj=>by rw[AN,og (by rintro rfl;exact hj h)]
def Fr.trans{T U:List Nat}{H H1 H2:AB}(h:Fr T H H1)(k:Fr U H1 H2):Fr (T++U) H H2:=λj hj=>by
 rw[pI,not_or]at hj
 rw[k j hj.2,h j hj.1]
def TX(C:CT):Bk:=λf l H=>match C f (vws H l)with
 |some r=>(seen H l r,r)
 |none=>(False,.sH [])
def COK(P:Program)(C:CT):Prop:=∀f l r,C f l=some r->∃a,Wks l a/\A6 P f a r
def jr(P:Program)(E:ET):Prop:=∀f l H n o H' n' T,E f l H n=some (o,H',n',T)->Fr T H H'/\∀R:xx->AB->Nat->Prop,R o H' n'->AO P f l H n R
def OB{P:Program}{C:CT}(h:COK P C):AG P (TX C):=by
 intro f l H n q
 unfold TX at q⊢
 split at q
 ·rename_i r e
  obtain⟨a,w,p⟩:=h _ _ _ e
  rcases q with q|q
  ·exact AO.args (p.quiet H n) λg vs hv=>w.rel vs (q.rel vs hv)
  ·exact A6.view ⟨q.1,p.2.1,AO.args p.2.2 λg vs hv=>w.rel vs hv⟩ q.2.2 q.2.1 n
 ·exact q.elim
def goB(env:List (Nat×Bool×Fs)):Option (Nat×Bool)->Bool
 |none=>true
 |some (t,_)=>match BC env t with
  |none=>false
  |some (g,v)=>!g||iB v
def Se{env:List (Nat×Bool×Fs)}{g:Option (Nat×Bool)}(h:goB env g=true):GQ env g:=by
 cases g with
 |none=>trivial
 |some tw=>
  obtain⟨t,w⟩:=tw
  simp only[goB]at h
  simp only[GQ]
  split at h
  ·cases h
  ·rename_i g v q
   rw[q]
   intro e
   rw[e]at h
   exact OA h
def oB(env:List (Nat×Bool×Fs))(l:List zx):Bool:=l.all λx=>(lk env x).1
theorem OC{env:List (Nat×Bool×Fs)}:∀{l:List zx},oB env l=true->Bz env l
 |[],_=>trivial
 |x::l,h=>by
  simp only[oB,qJ,oo]at h
  exact⟨h.1,OC h.2⟩
def Aj{α:Type}{b:Bool}{x:Option α}{y:α}(h:(bif b then x else none)=some y):b=true/\x=some y:=by
 cases b
 ·cases h
 ·exact⟨rfl,h⟩
def go(d:Option Nat)(s:AS)(b:Bool)(H:AB)(v:Fs):Option AS:=bif b then some ({s with H:=H}.put d true v)else none
def Sf(base:Nat)(o:xj)(s:AS):Option AS:=match o.k with
 | .alloc rel cs=>go o.dst s (AD s.H (base+rel)).isNone (sA s.H (base+rel) (.box cs)) (.ptr (base+rel) 0)
 | .box rel sz x=>go o.dst s ((AD s.H (base+rel)).isNone&&(iT (AV s.env x)&&decide ((AV s.env x).cells.length=sz))) (sA s.H (base+rel) (.box (AV s.env x).cells)) (.ptr (base+rel) 0)
 | .st sz a x=>go o.dst s (decide (nT (AV s.env x)/\(AV s.env x).cells.length=sz)&&(stC (H:=s.H) sz (AV s.env x) (AV s.env a)).1) (Pr s.H sz (AV s.env x) (AV s.env a)).2 (.sH [])
 | .app rel e b x y t=>go o.dst s (apC (H:=s.H) (base+rel) e b (AV s.env x) (CG s.H (AV s.env) e y t)).1 (Hs s.H (base+rel) e b (AV s.env x) (CG s.H (AV s.env) e y t)).2.1 (Hs s.H (base+rel) e b (AV s.env x) (CG s.H (AV s.env) e y t)).2.2
 | .mks rel e b z x=>go o.dst s (decide (AD s.H (base+rel)=none/\Cl (AV s.env x)/\0<=BV (AV s.env x)/\small (BV (AV s.env x)).toNat b/\BV (AV s.env x)<=35184372088832/\z.cells.length=e)) (TP s.H (base+rel) e b z (AV s.env x)).2.1 (TP s.H (base+rel) e b z (AV s.env x)).2.2
 | .slA n x lo hi=>go o.dst s (decide (CK (AV s.env) lo/\CK (AV s.env) hi)&&(slC (H:=s.H) n (sS (AV s.env) 0 lo) (sS (AV s.env) n hi) (AV s.env x)).1) (I6 s.H n (sS (AV s.env) 0 lo) (sS (AV s.env) n hi) (AV s.env x)).2.1 (I6 s.H n (sS (AV s.env) 0 lo) (sS (AV s.env) n hi) (AV s.env x)).2.2
 | .ext x xs=>go o.dst s (xC (H:=s.H) base x (xs.map (AV s.env))).1 (xE base x s.H (xs.map (AV s.env))).2.1 (xE base x s.H (xs.map (AV s.env))).2.2
 | .nils q x=>(match AV s.env x with
  | .sl .nil []=>go o.dst s true s.H (.bool !q)
  | .sl _ (_::_)=>go o.dst s true s.H (.bool q)
  | .ref .. =>go o.dst s true s.H (.bool q)
  |_=>none)
 |_=>none
def bg{P:Program}{Qp:Fs->AB->Nat->Prop}{base:Nat}{o:xj}{K:AS->Prop}{s s':AS}(h:Sf base o s=some s')(hK:K s'):BB P Qp base o K s:=by
 obtain⟨d,g,k⟩:=o
 cases k<;>simp only[Sf,reduceCtorEq,go]at h
 case alloc=>
  obtain⟨h1,h⟩:=Aj h
  cases h
  exact⟨Option.isNone_iff_eq_none.1 h1,hK⟩
 case box=>
  obtain⟨h1,h⟩:=Aj h
  cases h
  simp only[oo,oC]at h1
  exact⟨Option.isNone_iff_eq_none.1 h1.1,YF h1.2.1,h1.2.2,hK⟩
 case st sz a x=>
  obtain⟨h1,h⟩:=Aj h
  cases h
  rw[oo]at h1
  have e:=pg h1.1
  have q:Ng s.H sz (AV s.env x) (λH'=>K ({s with H:=H'}.put d true (.sH []))) (AV s.env a):=by
   rw[M5]
   exact⟨(stC _ _ _).2 h1.2,hK⟩
  exact⟨e.1,e.2,q⟩
 case app rel e b x y t=>
  obtain⟨h1,h⟩:=Aj h
  cases h
  have q:MY s.H (base+rel) e b (λH' v=>K ({s with H:=H'}.put d true v)) (AV s.env x) (CG s.H (AV s.env) e y t):=by
   rw[Ps]
   exact⟨(apC _ _ _ _ _).2 h1,hK⟩
  exact q
 case mks=>
  obtain⟨h1,h⟩:=Aj h
  cases h
  have e:=pg h1
  exact⟨e.1,e.2.1,e.2.2.1,e.2.2.2.1,e.2.2.2.2.1,e.2.2.2.2.2,hK⟩
 case slA n x lo hi=>
  obtain⟨h1,h⟩:=Aj h
  cases h
  rw[oo]at h1
  have e:=pg h1.1
  refine⟨e.1,e.2,?_⟩
  rw[Ur]
  exact⟨(slC _ _ _ _).2 h1.2,hK⟩
 case ext=>
  obtain⟨h1,h⟩:=Aj h
  cases h
  exact⟨(xC _ _ _).2 h1,hK⟩
 case nils q x=>
  show Gs (λb=>K (s.put d true (.bool b))) q (AV s.env x)
  split at h
  ·rename_i e;rw[e];cases h;exact hK
  ·rename_i t _ _ e;rw[e];cases h;cases t<;>exact hK
  ·rename_i e;rw[e];cases h;exact hK
  ·cases h
def La:List Fs->List Nat
 | .mp id::_| .ptr id _::_| .ref id .. ::_| .ap id .. ::_| .sl (.own id _) _::_=>[id]
 |_=>[]
def tch(base:Nat)(o:xj)(s:AS):List Nat:=match o.k with
 | .alloc rel _| .box rel _ _| .mks rel .. =>[base+rel]
 | .app rel _ _ x _ _=>(base+rel)::La [AV s.env x]
 | .st _ a _=>La [AV s.env a]
 | .slA _ x _ _=>La [AV s.env x]
 | .ext x xs=>(match x with
  | .mkm rel| .srng rel| .mrng rel| .bsm rel .. | .mkc rel .. =>[base+rel]
  |_=>[])++La (xs.map (AV s.env))
 |_=>[]
def FN{T:List Nat}{s s1:AS}{d:Option Nat}{g:Bool}{v:Fs}(h:Fr T s.H s1.H):Fr T s.H (s1.put d g v).H:=by rw[Pt];exact h
def bh{T:List Nat}{H:AB}{v u:Fs}{l:List Fs}:Fr (T++La (v::l)) H (Vx H v u).2.1:=by
 unfold Vx
 split
 ·split<;>first|exact Fr.same|exact Fr.set (by simp [La])
 ·exact Fr.same
def bj{T:List Nat}{H:AB}{n e:Nat}{lo hi:Int}{v:Fs}{l:List Fs}:Fr (T++La (v::l)) H (Ix H n e lo hi v).2.1:=by
 unfold Ix
 split
 ·split<;>first|exact Fr.same|exact Fr.set (by simp [La])
 ·exact Fr.same
def bk{base:Nat}{o:xj}{s s':AS}(h:Sf base o s=some s'):Fr (tch base o s) s.H s'.H:=by
 obtain⟨d,g,k⟩:=o
 cases k<;>simp only[Sf,reduceCtorEq,go]at h
 case nils q x=>split at h<;>first|(cases h;exact FN Fr.same)|cases h
 all_goals
  obtain⟨h1,h⟩:=Aj h
  cases h
  refine FN ?_
  simp only[tch]
 case alloc=>exact Fr.set zw
 case box=>exact Fr.set zw
 case mks=>exact Fr.set zw
 case st sz a x=>
  generalize AV s.env a=v
  cases v<;>simp only[Pr]<;>first|exact Fr.same|(split<;>first|exact Fr.same|exact Fr.set (by simp [La]))
 case slA n x lo hi=>
  generalize AV s.env x=v
  unfold I6
  split
  ·split<;>first|exact Fr.same|exact Fr.set (by simp [La])
  ·exact Fr.same
 case app rel e b x y t=>
  generalize AV s.env x=v,CG s.H (AV s.env) e y t=u
  unfold Hs
  split
  ·rename_i tk l l'
   cases tk<;>simp only[AR,La]
   case own=>exact λj hj=>by simp only[ph,not_or]at hj;rw[AN,og (Ne.symm hj.1),AN,og (Ne.symm hj.2.1)]
   all_goals exact Fr.set zw
  ·exact Fr.same
 case ext x xs=>
  generalize xs.map (AV s.env)=l
  cases x<;>(unfold xE;try dsimp only)<;>(repeat' split)<;>first|with_reducible exact Fr.same|with_reducible exact bj|with_reducible exact bh|exact Fr.set (by simp_all [La])
def fS(C:CT)(base:Nat)(o:xj)(s:AS):Option AS:=
 bif goB s.env o.guard then match o.k with
  | .v k=>bif !Be s.env o.guard||(oB s.env k.sF&&okF s.H (AV s.env) k)then some (s.put o.dst (Be s.env o.guard) (BN s.H (AV s.env) k).2)else none
  | .pick c a b=>bif !Be s.env o.guard||((lk s.env c).1&&iB (AV s.env c)&&(bif FZ (AV s.env c)then(lk s.env a).1 else(lk s.env b).1))then some (s.put o.dst (Be s.env o.guard) (QF (FZ (AV s.env c)) (AV s.env a) (AV s.env b)))else none
  | .call true f l=>bif Be s.env o.guard then(bif (lk s.env f).1&&oB s.env l then(match AV s.env f with
    | .fn (.func i) a b=>(match C i (vws s.H (a++l.map (AV s.env)++b))with
     |some r=>bif seB s.H (a++l.map (AV s.env)++b) r then some (s.put o.dst true r)else none
     |none=>none)
    |_=>none)else none)else some (s.put o.dst false (GE (TX C) (l.map (AV s.env)) s.H (AV s.env f)).2)
  | .cpu f l=>bif Be s.env o.guard then(bif (lk s.env f).1&&oB s.env l then(match AV s.env f with
    | .fn (.func i) a b=>(match C i (vws Ac (a++l.map (AV s.env)++b))with
     |some r=>bif seB Ac (a++l.map (AV s.env)++b) r&&(uBs (a++l.map (AV s.env)++b)&&uB r)then some (s.put o.dst true r)else none
     |none=>none)
    |_=>none)else none)else some (s.put o.dst false (.sH []))
  |_=>bif Be s.env o.guard then(bif oB s.env o.k.sF then Sf base o s else none)else some (s.put o.dst false (.sH []))
 else none
def YH{P:Program}{C:CT}{Qp:Fs->AB->Nat->Prop}{base:Nat}{o:xj}{K:AS->Prop}{s s':AS}(h:fS C base o s=some s')(hK:K s'):BW P (TX C) Qp base o K s:=by
 unfold fS at h
 have hb:=Aj h
 clear h
 obtain⟨hz,h⟩:=hb
 have h0:=Se hz
 clear hz
 have eff:(bif Be s.env o.guard then(bif oB s.env o.k.sF then Sf base o s else none)else some (s.put o.dst false (.sH [])))=some s'->(Be s.env o.guard=true->Bz s.env o.k.sF/\BB P Qp base o K s)/\(Be s.env o.guard=false->K (s.put o.dst false (.sH []))):=by
  intro h
  cases hg:Be s.env o.guard<;>rw[hg]at h
  ·cases h
   exact⟨λq=>(by cases q),λ_=>hK⟩
  ·obtain⟨h1,h⟩:=Aj h
   exact⟨λ_=>⟨OC h1,bg h hK⟩,λq=>(by cases q)⟩
 obtain⟨d,g,k⟩:=o
 cases k<;>simp only[reduceCtorEq]at h
 case v k=>
  obtain⟨h1,h⟩:=Aj h
  cases h
  refine⟨h0,λq=>?_,hK⟩
  rw[q]at h1
  simp only[o9,qT,oo]at h1
  exact⟨OC h1.1,jq h1.2⟩
 case pick c a b=>
  obtain⟨h1,h⟩:=Aj h
  cases h
  refine⟨h0,λq=>?_,hK⟩
  rw[q]at h1
  simp only[o9,qT,oo]at h1
  refine⟨h1.1.1,OA h1.1.2,λe=>?_,λe=>?_⟩<;>(have:=h1.2;rw[e]at this;exact this)
 case call q f l=>
  cases q
  ·exact(show AX P Qp base ⟨d,g,.call false f l⟩ K s from⟨h0,eff h⟩)
  dsimp only at h
  cases hg:Be s.env g<;>rw[hg]at h
  ·cases h
   simp only[BW,hg]
   exact⟨h0,λq=>(by cases q),hK⟩
  ·obtain⟨h1,h⟩:=Aj h
   simp only[oo]at h1
   split at h
   ·rename_i i a b e
    split at h
    ·rename_i r e'
     obtain⟨h2,h⟩:=Aj h
     cases h
     have hc:GE (TX C) (l.map (AV s.env)) s.H (AV s.env f)=(seen s.H (a++l.map (AV s.env)++b) r,r):=by rw[e];simp only[GE,TX,e']
     simp only[BW,hg,hc]
     exact⟨h0,λ_=>⟨h1.1,OC h1.2,YG h2⟩,hK⟩
    ·cases h
   ·cases h
 case cpu f l=>
  cases hg:Be s.env g<;>rw[hg]at h
  ·cases h
   simp only[BW,hg]
   exact⟨h0,λq=>(by cases q),λ_=>hK⟩
  ·obtain⟨h1,h⟩:=Aj h
   simp only[oo]at h1
   split at h
   ·rename_i i a b e
    split at h
    ·rename_i r e'
     obtain⟨h2,h⟩:=Aj h
     cases h
     simp only[oo]at h2
     have hc:Nn (TX C) (l.map (AV s.env)) (AV s.env f)=(seen Ac (a++l.map (AV s.env)++b) r/\sN 0 (a++l.map (AV s.env)++b)/\r.under 0,r):=by rw[e];simp only[Nn,TX,e']
     simp only[BW,hg,hc]
     exact⟨h0,λ_=>⟨⟨h1.1,OC h1.2,YG h2.1,uU _ h2.2.1,UJ _ h2.2.2⟩,hK⟩,λq=>(by cases q)⟩
    ·cases h
   ·cases h
 all_goals exact⟨h0,eff h⟩
def nX(C:CT)(E:ET)(base:Nat)(o:xj)(s:AS):Option (Option Fs×AS×List Nat):=match o.k with
 | .call false f l=>bif goB s.env o.guard then(bif Be s.env o.guard then(bif (lk s.env f).1&&oB s.env l then(match AV s.env f with
   | .fn (.func i) a b=>(match E i (a++l.map (AV s.env)++b) s.H s.n with
    |some (.ret v,H',n',T)=>some (none,{s with H:=H',n:=n'}.put o.dst true v,T)
    |some (.tJ v,H',n',T)=>some (some v,⟨[],H',n'⟩,T)
    |none=>none)
   |_=>none)else none)else some (none,s.put o.dst false (.sH []),[]))else none
 | .tJ x=>bif goB s.env o.guard then(bif Be s.env o.guard then(bif (lk s.env x).1&&decide (Vw (AV s.env x))then some (some (AV s.env x),⟨[],s.H,s.n⟩,[])else none)else some (none,s.put o.dst false (.sH []),[]))else none
 |_=>(fS C base o s).map λs'=>(none,s',tch base o s)
def PK(Qp:Fs->AB->Nat->Prop)(K:AS->Prop):Option Fs×AS×List Nat->Prop
 |(none,s,_)=>K s
 |(some v,s,_)=>Qp v s.H s.n
def PS{P:Program}{C:CT}{E:ET}(hE:jr P E){Qp:Fs->AB->Nat->Prop}{base:Nat}{o:xj}{K:AS->Prop}{s:AS}{r:Option Fs×AS×List Nat}(h:nX C E base o s=some r)(hK:PK Qp K r):BW P (TX C) Qp base o K s:=by
 unfold nX at h
 split at h
 ·rename_i f l e
  obtain⟨d,g,k⟩:=o
  cases e
  obtain⟨hz,h⟩:=Aj h
  show AX P Qp base ⟨d,g,.call false f l⟩ K s
  refine⟨Se hz,λq=>?_,λq=>?_⟩
  ·simp only[q,cond_true]at h
   obtain⟨h1,h⟩:=Aj h
   rw[oo]at h1
   refine⟨⟨h1.1,OC h1.2⟩,?_⟩
   simp only[BB]
   split at h
   ·rename_i e
    rw[e]
    split at h
    ·rename_i e'
     cases h
     exact(hE _ _ _ _ _ _ _ _ e').2 _ hK
    ·rename_i e'
     cases h
     exact(hE _ _ _ _ _ _ _ _ e').2 _ hK
    ·cases h
   ·cases h
  ·simp only[q,cond_false,Option.some.injEq]at h
   subst h
   exact hK
 ·rename_i x e
  obtain⟨d,g,k⟩:=o
  cases e
  obtain⟨hz,h⟩:=Aj h
  show AX P Qp base ⟨d,g,.tJ x⟩ K s
  refine⟨Se hz,λq=>?_,λq=>?_⟩
  ·simp only[q,cond_true]at h
   obtain⟨h1,h⟩:=Aj h
   rw[oo]at h1
   cases h
   exact⟨⟨h1.1,zt⟩,pg h1.2,hK⟩
  ·simp only[q,cond_false,Option.some.injEq]at h
   subst h
   exact hK
 ·cases hx:fS C base o s with
  |none=>rw[hx]at h;cases h
  |some s'=>
   rw[hx]at h
   cases h
   exact YH hx hK
def YI{C:CT}{base:Nat}{o:xj}{s s':AS}(h:fS C base o s=some s'):Fr (tch base o s) s.H s'.H:=by
 unfold fS at h
 have hb:=Aj h
 clear h
 obtain⟨hz,h⟩:=hb
 obtain⟨d,g,k⟩:=o
 have eff:(bif Be s.env g then(bif oB s.env k.sF then Sf base ⟨d,g,k⟩ s else none)else some (s.put d false (.sH [])))=some s'->Fr (tch base ⟨d,g,k⟩ s) s.H s'.H:=by
  intro h
  cases hg:Be s.env g<;>rw[hg]at h
  ·cases h;exact FN Fr.same
  ·exact bk (Aj h).2
 cases k<;>simp only[reduceCtorEq]at h
 case v=>have h:=(Aj h).2;cases h;exact FN Fr.same
 case pick=>have h:=(Aj h).2;cases h;exact FN Fr.same
 case cpu=>
  cases hg:Be s.env g<;>rw[hg]at h
  ·cases h;exact FN Fr.same
  ·have h:=(Aj h).2
   split at h
   ·split at h
    ·have h:=(Aj h).2;cases h;exact FN Fr.same
    ·cases h
   ·cases h
 case call q f l=>
  cases q
  ·exact eff h
  dsimp only at h
  cases hg:Be s.env g<;>rw[hg]at h
  ·cases h;exact FN Fr.same
  ·have h:=(Aj h).2
   split at h
   ·split at h
    ·have h:=(Aj h).2;cases h;exact FN Fr.same
    ·cases h
   ·cases h
 all_goals exact eff h
def MQ{P:Program}{C:CT}{E:ET}(hE:jr P E){base:Nat}{o:xj}{s s':AS}{p:Option Fs}{T:List Nat}(h:nX C E base o s=some (p,s',T)):Fr T s.H s'.H:=by
 unfold nX at h
 split at h
 ·have h:=(Aj h).2
  cases hg:Be s.env o.guard<;>rw[hg]at h
  ·cases h;exact FN Fr.same
  ·have h:=(Aj h).2
   split at h
   ·split at h
    ·rename_i e;cases h;exact FN (hE _ _ _ _ _ _ _ _ e).1
    ·rename_i e;cases h;exact(hE _ _ _ _ _ _ _ _ e).1
    ·cases h
   ·cases h
 ·have h:=(Aj h).2
  cases hg:Be s.env o.guard<;>rw[hg]at h
  ·cases h;exact FN Fr.same
  ·have h:=(Aj h).2;cases h;exact Fr.same
 ·cases hx:fS C base o s with
  |none=>rw[hx]at h;cases h
  |some s1=>rw[hx]at h;cases h;exact YI hx
def js(T:List Nat):Option (Option Fs×AS×List Nat)->Option (Option Fs×AS×List Nat)
 |some (p,s,U)=>some (p,s,T++U)
 |none=>none
def bp(C:CT)(E:ET)(base:Nat):List xj->AS->Option (Option Fs×AS×List Nat)
 |[],s=>some (none,s,[])
 |o::r,s=>match nX C E base o s with
  |some (none,s',T)=>js T (bp C E base r s')
  |x=>x
def kyC(cx:Nat->Fs)(H:AB)(T:List Nat):∀f k,Ch (∀H',Fr T H H'->FF cx f k H H')
 |0,k=>⟨true,λ_ _ _=>by rw[Fe];trivial⟩
 |_,.v _=>⟨true,λ_ _ _=>by rw[UN];trivial⟩
 |_,.st _ _ _=>⟨true,λ_ _ _=>by rw[Qn];trivial⟩
 |k+3,.call false _ _=>cm (p:=∀id∈T,EF id (cx ((k-300000)/2))\/AD H id=none) (λh H' hf=>by
   show Gt _ _ _
   intro id h1 h2
   exact hf id λhm=>(h id hm).elim h1 h2) dc
 |_,_=>no
def bq(C:CT)(E:ET)(base:Nat)(cx:Nat->Fs):List (Nat×xj)->AS->Option (Option Fs×AS×List Nat)
 |[],s=>some (none,s,[])
 |o::r,s=>bif !Be s.env o.2.guard||(sdC base cx (AV s.env) o.1 o.2.k).1 then(match nX C E base o.2 s with
  |some (none,s',T)=>bif (kyC cx s.H T o.1 o.2.k).1 then js T (bq C E base cx r s')else none
  |x=>x)else none
section
variable {P:Program} {C:CT} {E:ET} (hE:jr P E) {Qp:Fs->AB->Nat->Prop} {base:Nat} {K:AS->Prop}
theorem OD{T:List Nat}{y:Option (Option Fs×AS×List Nat)}{x:Option Fs×AS×List Nat}(h:js T y=some x):∃U,y=some (x.1,x.2.1,U)/\x.2.2=T++U:=by
 cases y with
 |none=>cases h
 |some y=>obtain⟨p,s,U⟩:=y;cases h;exact⟨U,rfl,rfl⟩
theorem YJ{x:Option Fs×AS×List Nat}{U:List Nat}(h:PK Qp K x):PK Qp K (x.1,x.2.1,U):=by
 obtain⟨a,b,c⟩:=x
 cases a<;>exact h
include hE
theorem JR:∀{l:List xj} {s:AS} {x:Option Fs×AS×List Nat},bp C E base l s=some x->PK Qp K x->Eb P (TX C) Qp base l K s/\Fr x.2.2 s.H x.2.1.H
 |[],s,x,h,hK=>by cases h;exact⟨hK,Fr.same⟩
 |o::r,s,x,h,hK=>by
  unfold bp at h
  split at h
  ·rename_i s' T e
   obtain⟨U,h,hT⟩:=OD h
   have ih:=JR h (YJ hK)
   rw[hT]
   exact⟨PS hE e ih.1,(MQ hE e).trans ih.2⟩
  ·rename_i q
   obtain⟨a,b,T⟩:=x
   refine⟨PS hE h ?_,MQ hE h⟩
   cases a
   ·exact absurd h (q _ _)
   ·exact hK
theorem JS{cx:Nat->Fs}:∀{l:List (Nat×xj)} {s:AS} {x:Option Fs×AS×List Nat},bq C E base cx l s=some x->PK Qp K x->DV P (TX C) Qp base cx l K s/\Fr x.2.2 s.H x.2.1.H
 |[],s,x,h,hK=>by cases h;exact⟨hK,Fr.same⟩
 |o::r,s,x,h,hK=>by
  unfold bq at h
  obtain⟨h1,h⟩:=Aj h
  have hs:Be s.env o.2.guard=true->Bg base cx (AV s.env) o.1 o.2.k:=λq=>(sdC _ _ _ _ _).2 (by rwa[q]at h1)
  split at h
  ·rename_i s' T e
   obtain⟨h2,h⟩:=Aj h
   obtain⟨U,h,hT⟩:=OD h
   have ih:=JS h (YJ hK)
   rw[hT]
   exact⟨⟨hs,PS hE e ⟨(kyC _ _ _ _ _).2 h2 _ (MQ hE e),ih.1⟩⟩,(MQ hE e).trans ih.2⟩
  ·rename_i q
   obtain⟨a,b,T⟩:=x
   refine⟨⟨hs,PS hE h ?_⟩,MQ hE h⟩
   cases a
   ·exact absurd h (q _ _)
   ·exact hK
end
def done(keep:List Nat):Option Fs×AS×List Nat->x5×AS×List Nat
 |(none,s,T)=>(.normal,s.keep keep,T)
 |(some v,s,T)=>(.tJ v,⟨[],s.H,s.n⟩,T)
def YK(T:List Nat):Option (x5×AS×List Nat)->Option (x5×AS×List Nat)
 |some (e,s,U)=>some (e,s,T++U)
 |none=>none
def MR{T:List Nat}{y:Option (x5×AS×List Nat)}{e:x5}{s:AS}{V:List Nat}(h:YK T y=some (e,s,V)):∃U,y=some (e,s,U)/\V=T++U:=by
 cases y with
 |none=>cases h
 |some y=>obtain⟨p,s,U⟩:=y;cases h;exact⟨U,rfl,rfl⟩
def fT(s:AS)(t:Nat):List Nat:=match BC s.env t with
 |some (true,.ref id ..)|some (true,.ptr id _)=>[id]
 |_=>[]
def br{s:AS}{t:Nat}:Fr (fT s t) s.H (Ka s t).2.H:=by
 cases h:BC s.env t with
 |none=>simp only[Ka,fT,h];exact Fr.same
 |some p=>
  obtain⟨g,v⟩:=p
  cases g<;>cases v<;>simp only[Ka,fT,h]<;>first|exact Fr.same|(repeat' split)<;>first|exact Fr.same|exact Fr.set (po ..)|exact Fr.set (by simp_all)
def YL{s:AS}{t:Nat}:Fr (s.n::fT s t) s.H (HG s t).2.H:=by
 cases h:BC s.env t with
 |none=>simp only[HG,fT,h];exact Fr.same
 |some p=>
  obtain⟨g,v⟩:=p
  cases g<;>cases v<;>simp only[HG,fT,h]<;>first|exact Fr.same|(split<;>first|exact Fr.same|(intro j hj;simp only[ph,not_or]at hj;show AD (sA (sA s.H _ _) _ _) j=_;rw[AN,og (Ne.symm hj.1),AN,og (Ne.symm hj.2.1)]))
def xc(C:CT)(E:ET):Nat->q9->AS->Option (x5×AS×List Nat)
 |0,_,_=>none
 |n+1,c,s=>match c with
  | .skip=>some (.normal,s,[])
  | .reg bump ops keep=>(bp C E s.n ops {s with n:=s.n+bump}).map (done keep)
  | .regx bump ops keep=>(bq C E s.n (Sl s.env s.n) ops {s with n:=s.n+bump}).map (done keep)
  | .frz t=>bif (fzC (s:=s) t).1 then some (.normal,(Ka s t).2,fT s t)else none
  | .frzo t=>bif (foC (s:=s) t).1 then some (.normal,(HG s t).2,s.n::fT s t)else none
  | .seq a b=>(match xc C E n a s with
   |some (.normal,s',T)=>YK T (xc C E n b s')
   |r=>r)
  | .cond c a b=>bif (lk s.env c).1&&iB (AV s.env c)then(bif FZ (AV s.env c)then xc C E n a s else xc C E n b s)else none
  | .block id c=>(match xc C E n c s with
   |some (.exit i,s',T)=>bif i==id then some (.normal,s',T)else some (.exit i,s',T)
   |r=>r)
  | .loop c=>(match xc C E n c s with
   |some (.normal,s',T)=>YK T (xc C E n (.loop c) s')
   |r=>r)
  | .exit id=>some (.exit id,s,[])
  | .ret=>some (.ret,s,[])
  |_=>none
theorem Ee{P:Program}{C:CT}{E:ET}(hE:jr P E):∀(n:Nat) (c:q9) (s:AS) (e:x5) (s':AS) (T:List Nat),xc C E n c s=some (e,s',T)->Fr T s.H s'.H/\∀Q:x5->AS->Prop,Q e s'->ev P (TX C) c Q s
 |0,_,_,_,_,_,h=>by cases h
 |n+1,c,s,e,s',T,h=>by
  cases c<;>simp only[xc,reduceCtorEq]at h
  case skip=>cases h;exact⟨Fr.same,λQ hQ=>hQ⟩
  case reg bump ops keep=>
   obtain⟨x,q,h⟩:=pY.1 h
   obtain⟨a,b,U⟩:=x
   cases a<;>cases h
   ·exact⟨(JR hE (Qp:=λ_ _ _=>False) (K:=λ_=>True) q zt).2,λQ hQ=>(JR hE (Qp:=λv H n=>Q (.tJ v) ⟨[],H,n⟩) (K:=λs'=>Q .normal (s'.keep keep)) q hQ).1⟩
   ·exact⟨(JR hE (Qp:=λ_ _ _=>True) (K:=λ_=>False) q zt).2,λQ hQ=>(JR hE (Qp:=λv H n=>Q (.tJ v) ⟨[],H,n⟩) (K:=λs'=>Q .normal (s'.keep keep)) q hQ).1⟩
  case regx bump ops keep=>
   obtain⟨x,q,h⟩:=pY.1 h
   obtain⟨a,b,U⟩:=x
   cases a<;>cases h
   ·exact⟨(JS hE (Qp:=λ_ _ _=>False) (K:=λ_=>True) q zt).2,λQ hQ=>(JS hE (Qp:=λv H n=>Q (.tJ v) ⟨[],H,n⟩) (K:=λs'=>Q .normal (s'.keep keep)) q hQ).1⟩
   ·exact⟨(JS hE (Qp:=λ_ _ _=>True) (K:=λ_=>False) q zt).2,λQ hQ=>(JS hE (Qp:=λv H n=>Q (.tJ v) ⟨[],H,n⟩) (K:=λs'=>Q .normal (s'.keep keep)) q hQ).1⟩
  case frz=>
   obtain⟨h1,h⟩:=Aj h
   cases h
   refine⟨br,λQ hQ=>?_⟩
   show Ie _ _ _ _
   rw[Us]
   exact⟨(fzC _).2 h1,hQ⟩
  case frzo=>
   obtain⟨h1,h⟩:=Aj h
   cases h
   refine⟨YL,λQ hQ=>?_⟩
   show F9 _ _ _ _
   rw[Rk]
   exact⟨(foC _).2 h1,hQ⟩
  case seq a b=>
   split at h
   ·rename_i q
    obtain⟨U,h2,rfl⟩:=MR h
    have k1:=Ee hE n a s _ _ _ q
    have k2:=Ee hE n b _ _ _ _ h2
    exact⟨k1.1.trans k2.1,λQ hQ=>k1.2 _ (k2.2 Q hQ)⟩
   ·rename_i r hr
    have k1:=Ee hE n a s _ _ _ h
    refine⟨k1.1,λQ hQ=>k1.2 _ ?_⟩
    cases e<;>first|exact hQ|exact absurd h (hr _ _)
  case cond c a b=>
   obtain⟨h1,h⟩:=Aj h
   simp only[oo]at h1
   cases hb:FZ (AV s.env c)<;>rw[hb]at h<;>have k:=Ee hE n _ s _ _ _ h<;>refine⟨k.1,λQ hQ=>⟨h1.1,OA h1.2,λq=>?_,λq=>?_⟩⟩<;>first|exact k.2 Q hQ|(rw[hb]at q;cases q)
  case block id c=>
   split at h
   ·rename_i i t U q
    have k:=Ee hE n c s _ _ _ q
    cases hi:i==id<;>rw[hi]at h<;>cases h
    ·refine⟨k.1,λQ hQ=>k.2 _ ?_⟩
     simp only
     rw[og (λe=>by rw[e,beq_self_eq_true]at hi;cases hi)]
     exact hQ
    ·refine⟨k.1,λQ hQ=>k.2 _ ?_⟩
     simp only
     rw[oE (eq_of_beq hi)]
     exact hQ
   ·rename_i hr
    have k:=Ee hE n c s _ _ _ h
    refine⟨k.1,λQ hQ=>k.2 _ ?_⟩
    cases e<;>first|exact hQ|exact absurd h (hr _ _ _)
  case loop c=>
   split at h
   ·rename_i s1 U q
    obtain⟨V,h3,rfl⟩:=MR h
    have k1:=Ee hE n c s _ _ _ q
    have k2:=Ee hE n (.loop c) s1 _ _ _ h3
    refine⟨k1.1.trans k2.1,λQ hQ=>?_⟩
    obtain⟨I,μ,h1,h2⟩:=k2.2 Q hQ
    classical
    refine⟨λt=>t=s\/I t,λt=>if I t then μ t else μ s1+1,.inl rfl,λt ht=>?_⟩
    by_cases hI:I t
    ·refine Fh c _ _ t (λe s h=>?_) (h2 t hI)
     cases e
     case normal=>
      obtain⟨s2,w,i2,m2⟩:=h
      refine⟨s2,w,.inr i2,?_⟩
      simp only
      rw[oE i2,oE hI]
      exact m2
     all_goals exact h
    ·obtain rfl:=ht.resolve_right hI
     refine k1.2 _ ⟨s1,.inl rfl,.inr h1,?_⟩
     simp only
     rw[oE h1,og hI]
     exact Nat.lt_succ_self _
   ·rename_i hr
    have k:=Ee hE n c s _ _ _ h
    refine⟨k.1,λQ hQ=>⟨λt=>t=s,λ_=>0,rfl,λt ht=>?_⟩⟩
    subst ht
    refine k.2 _ ?_
    cases e<;>first|exact hQ|exact absurd h (hr _ _)
  case exit=>cases h;exact⟨Fr.same,λQ hQ=>hQ⟩
  case ret=>cases h;exact⟨Fr.same,λQ hQ=>hQ⟩
def rlC(H:AB)(sz:Nat)(a:Bool):∀v,Ch (Au H sz a v).1
 | .ptr id off=>by
  unfold Au
  try dsimp only
  cases AD H id with
  |none=>exact no
  |some o=>cases o<;>first|exact dc|exact no
 |_=>no
def Z7(s:AS):∀l,Ch (J5 s l).1
 |[]=>⟨true,λ_=>zt⟩
 | .t i::l=>ca (p:=(lk s.env (.t i)).1=true) dc (Z7 s l)
 | .c i sz a::l=>ca (ca (p:=(lk s.env (.t i)).1=true) dc (rlC s.H sz a _)) (Z7 s l)
structure XF(P:Program) where
 f:FuncId
 run:CT->ET->Nat->List Fs->AB->Nat->Option (xx×AB×Nat×List Nat)
 ok:∀{C E m a H n o H' n' T},COK P C->jr P E->run C E m a H n=some (o,H',n',T)->Fr T H H'/\∀R:xx->AB->Nat->Prop,R o H' n'->AO P f a H n R
structure XS(P:Program) where
 f:FuncId
 sp:List Fs->Option Fs
 ok:∀{a r},sp a=some r->∃a',Wks a a'/\A6 P f a' r
def xS{P:Program}{f:FuncId}{a:List Fs}{r:Fs}(h:A6 P f a r):XS P:=⟨f,λb=>bif wksB b a then some r else none,λe=>by
 obtain⟨q,e⟩:=Aj e
 cases e
 exact⟨a,(wksB_ok _ _ q).1,h⟩⟩
def xr(c:q9)(rs:List RC)(C:CT)(E:ET)(m:Nat)(a:List Fs)(H:AB)(n:Nat):Option (xx×AB×Nat×List Nat):=match xc C E m c ⟨Ev 0 a,H,n⟩with
 |some (.ret,s,T)=>bif (Z7 s rs).1 then some (.ret (Ul (J5 s rs).2),s.H,s.n,T)else none
 |some (.normal,s,T)=>bif (Z7 s rs).1 then some (.ret (Ul (J5 s rs).2),s.H,s.n,T)else none
 |some (.tJ v,s,T)=>some (.tJ v,s.H,s.n,T)
 |_=>none
section
variable {P:Program}
def xF{f:FuncId}{c:q9}{rs:List RC}(ok:TN P f c rs):XF P:=⟨f,xr c rs,λhC hE h=>by
 unfold xr at h
 split at h
 ·rename_i s T q
  obtain⟨h1,h⟩:=Aj h
  cases h
  have k:=Ee hE _ _ _ _ _ _ q
  exact⟨k.1,λR hR=>ok (AE (OB hC) (k.2 _ ⟨(Z7 _ _).2 h1,hR⟩))⟩
 ·rename_i s T q
  obtain⟨h1,h⟩:=Aj h
  cases h
  have k:=Ee hE _ _ _ _ _ _ q
  exact⟨k.1,λR hR=>ok (AE (OB hC) (k.2 _ ⟨(Z7 _ _).2 h1,hR⟩))⟩
 ·rename_i s T q
  cases h
  have k:=Ee hE _ _ _ _ _ _ q
  exact⟨k.1,λR hR=>ok (AE (OB hC) (k.2 _ hR))⟩
 ·cases h⟩
def xdR(c:q9)(t3 t4:Nat)(rs:List RC)(env:List (Nat×Bool×Fs))(fc:List Fs)(C:CT)(E:ET)(m:Nat)(rv:Fs)(s:AS)(T:List Nat):Option (xx×AB×Nat×List Nat):=match xc C E m c ⟨(t3,true,rv)::(t4,true,rv)::Ev 0 fc,s.H,s.n⟩with
 |some (.ret,s,U)=>bif (Z7 ⟨env,s.H,s.n⟩ rs).1 then some (.ret (Ul (J5 ⟨env,s.H,s.n⟩ rs).2),s.H,s.n,T++U)else none
 |some (.normal,s,U)=>bif (Z7 ⟨env,s.H,s.n⟩ rs).1 then some (.ret (Ul (J5 ⟨env,s.H,s.n⟩ rs).2),s.H,s.n,T++U)else none
 |_=>none
section
variable {f tF:FuncId} {ys:List q9} {t:Nat} {d0:Option Nat} {k:x0} {y c:q9} {lo t3 t4:Nat} {rs:List RC}
 (okd:∀{args:List Fs} {rv:Fs} {H:AB} {n:Nat} {Rc:AB->Nat->Prop},Gl P c (Co [] λo H' n'=>o= .ret (.sH [])/\Rc H' n') ⟨(t3,true,rv)::(t4,true,rv)::Ev 0 args,H,n⟩->C8 P tF args rv H n Rc)
include okd
theorem Sg{C:CT}{E:ET}{m:Nat}(hC:COK P C)(hE:jr P E){env:List (Nat×Bool×Fs)}{fc:List Fs}{rv:Fs}{s:AS}{o:xx}{H0 H':AB}{n':Nat}{T V:List Nat}(hf:Fr T H0 s.H)(h:xdR c t3 t4 rs env fc C E m rv s T=some (o,H',n',V)):Fr V H0 H'/\∀R:xx->AB->Nat->Prop,R o H' n'->C8 P tF fc rv s.H s.n (TL rs env R):=by
 unfold xdR at h
 split at h
 ·rename_i q
  obtain⟨h1,h⟩:=Aj h
  cases h
  have k:=Ee hE _ _ _ _ _ _ q
  exact⟨hf.trans k.1,λR hR=>okd (AE (OB hC) (k.2 _ ⟨zt,rfl,(Z7 _ _).2 h1,hR⟩))⟩
 ·rename_i q
  obtain⟨h1,h⟩:=Aj h
  cases h
  have k:=Ee hE _ _ _ _ _ _ q
  exact⟨hf.trans k.1,λR hR=>okd (AE (OB hC) (k.2 _ ⟨zt,rfl,(Z7 _ _).2 h1,hR⟩))⟩
 ·cases h
def xD(ok:∀{args:List Fs} {H:AB} {n:Nat} {R:xx->AB->Nat->Prop},Gl P (Fu ys) (LI P t ⟨d0,none,.v k⟩ y lo tF rs R) ⟨Ev 0 args,H,n⟩->AO P f args H n R):XF P:=
 ⟨f,λC E m a H n=>match xc C E m (Fu ys) ⟨Ev 0 a,H,n⟩with
  |some (.normal,s,T)=>(match fS C s.n ⟨d0,none,.v k⟩ s with
   |some s1=>(match AV s1.env (.t t)with
    | .fn (.func i) x b=>bif (lk s1.env (.t t)).1&&i==tF then(match xc C E m y s1 with
     |some (.ret,s2,U)=>xdR c t3 t4 rs (s1.env.filter λe=>Nat.blt e.1 lo) (x++b) C E m .tA s2 (T++[]++U)
     |some (.normal,s2,U)=>xdR c t3 t4 rs (s1.env.filter λe=>Nat.blt e.1 lo) (x++b) C E m .tA s2 (T++[]++U)
     |some (.tJ v,s2,U)=>xdR c t3 t4 rs (s1.env.filter λe=>Nat.blt e.1 lo) (x++b) C E m v s2 (T++[]++U)
     |_=>none)else none
    |_=>none)
   |none=>none)
  |_=>none,λhC hE h=>by
  split at h
  ·rename_i s T q
   split at h
   ·rename_i s1 q1
    split at h
    ·rename_i i x b q2
     obtain⟨h1,h⟩:=Aj h
     rw[oo]at h1
     rw[eq_of_beq h1.2]at q2
     have hT:=OB hC
     have k0:=Ee hE _ _ _ _ _ _ q
     have f1:Fr [] s.H s1.H:=YI q1
     have fin:∀{R:xx->AB->Nat->Prop},ev P (TX _) y (Un P tF (x++b) rs (s1.env.filter λe=>Nat.blt e.1 lo) R) s1->AO P f _ _ _ R:=λhv=>
      ok (AE hT (k0.2 _ (Hr hT (Qp:=λ_ _ _=>False) (base:=s.n) (λ_ h=>h) (YH (K:=λs1=>(lk s1.env (.t t)).1=true/\∃first cap,AV s1.env (.t t)= .fn (.func tF) first cap/\Gl P y (Un P tF (first++cap) rs (s1.env.filter λe=>Nat.blt e.1 lo) _) s1) q1 ⟨h1.1,x,b,q2,AE hT hv⟩))))
     split at h
     ·rename_i q3
      have k1:=Ee hE _ _ _ _ _ _ q3
      have k2:=Sg okd hC hE ((k0.1.trans f1).trans k1.1) h
      exact⟨k2.1,λR hR=>fin (k1.2 _ (k2.2 R hR))⟩
     ·rename_i q3
      have k1:=Ee hE _ _ _ _ _ _ q3
      have k2:=Sg okd hC hE ((k0.1.trans f1).trans k1.1) h
      exact⟨k2.1,λR hR=>fin (k1.2 _ (k2.2 R hR))⟩
     ·rename_i q3
      have k1:=Ee hE _ _ _ _ _ _ q3
      have k2:=Sg okd hC hE ((k0.1.trans f1).trans k1.1) h
      exact⟨k2.1,λR hR=>fin (k1.2 _ (k2.2 R hR))⟩
     ·cases h
    ·cases h
   ·cases h
  ·cases h⟩
end
end
section
variable {P:Program} (tab:List (XF P)) (ts:List (XS P)) (m:Nat)
def xp:Nat->CT×ET
 |0=>(λ_ _=>none,λ_ _ _ _=>none)
 |n+1=>(λf a=>match ts.findSome? λe=>bif e.f==f then e.sp a else none with
   |some r=>some r
   |none=>match tab.find? λe=>e.f==f with
    |none=>none
    |some e=>bif uBs (strips a)then(match e.run (xp n).1 (xp n).2 m (strips a) Ac 0 with
     |some (.ret v,_,_,_)=>bif uB (UI v)then some (UI v)else none
     |_=>none)else none,
  λf a H k=>match tab.find? λe=>e.f==f with
   |none=>none
   |some e=>e.run (xp n).1 (xp n).2 m a H k)
theorem fU:∀n,COK P (xp tab ts m n).1/\jr P (xp tab ts m n).2
 |0=>⟨λ_ _ _ h=>(by cases h),λ_ _ _ _ _ _ _ _ h=>(by cases h)⟩
 |n+1=>by
  obtain⟨hC,hE⟩:=fU n
  constructor
  ·intro f l r h
   unfold xp at h
   dsimp only at h
   split at h
   ·rename_i e he
    cases h
    obtain⟨e,_,he⟩:=List.exists_of_findSome?_eq_some he
    have h9:=Aj he
    obtain rfl:=eq_of_beq h9.1
    exact e.ok h9.2
   ·split at h
    ·cases h
    ·rename_i e he
     have hf:=List.find?_some he
     obtain rfl:=eq_of_beq hf
     obtain⟨h1,h⟩:=Aj h
     split at h
     ·rename_i v _ _ _ q
      obtain⟨h2,h⟩:=Aj h
      cases h
      exact⟨_,tU l,.mk (uU _ h1) (UJ _ h2) ((e.ok hC hE q).2 _ ⟨_,rfl,Qi v⟩)⟩
     ·cases h
  ·intro f l H k o H' n' T h
   unfold xp at h
   dsimp only at h
   split at h
   ·cases h
   ·rename_i e he
    have hf:=List.find?_some he
    obtain rfl:=eq_of_beq hf
    exact e.ok hC hE h
end
end Go.AM
namespace Go.AM
open Go.Lib Go.Proofs Go.RowKit Go.Sort Go.Proofs.Tryz
def bt:List Fs->AB->Prop×Fs:=λa H=>match a with
 |[.str l,.int .u8 c]=>(0<=c/\c<256,.int .i64 (indexByte l (UInt8.ofNat c.toNat)))
 |_=>(False,.sH [])
def q207:∀args H n,(bt args H).1->Ad prog 207 args H n (bt args H).2:=by
 intro args H n h;unfold bt at h⊢;split at h
 ·rename_i l c;refine A6.quiet ?_ H n;refine Gz c207.l ⟨zt,zt,zt⟩ zt ?_;rintro g w vs hR ⟨v,r,rfl,k1,v2,r2,rfl,k2,k3⟩;have k1':v= .string ⟨l.toArray⟩:=k1;have k2':v2= .int .u8 c:=k2;have k3':r2=[]:=k3;subst k1';subst k2';subst k3';refine(strings_IndexByte ⟨l.toArray⟩ c w).mono ?_;rintro e w' ⟨rfl,rfl⟩;exact⟨⟨_,rfl,rfl⟩,Below.refl _ _⟩
 ·exact h.elim
section
abbrev jt:Bs:=[97,112,97,114,116]
abbrev wConn:Bs:=[99,111,110,110,101,99,116,101,100]
abbrev wEach:Bs:=[101,97,99,104]
abbrev wFill:Bs:=[102,105,108,108,101,100]
abbrev ju:Bs:=[103,105,118,101,110]
abbrev wLoop:Bs:=[108,111,111,112]
abbrev wNot:Bs:=[110,111,116]
abbrev jv:Bs:=[115,116,101,112,115]
abbrev bu:Bs:=[117,110,108,105,107,101]
def wS:List Bs:=[jt,wConn,wEach,wFill,ju,wLoop,wNot,jv,bu]
def wd(i:Nat):Bs:=wS[i]?.getD []
abbrev Nd(i:Nat):Fs:=.str (wd i)
def bw{a b:Nat}(ha:a<9)(hb:b<9):Op.bytesLess (wd a) (wd b)=decide (a<b):=by
 have key:∀a b:Fin 9,Op.bytesLess (wd a.val) (wd b.val)=decide (a.val<b.val):=by decide+kernel
 exact key ⟨a,ha⟩ ⟨b,hb⟩
def p311(a:Bs):A6 prog 311 [.str a] (.bool false):=by
 refine .mk ⟨zt,zt⟩ zt (c311.a (AE AG.sE (AF ?_)));have h:scmp .neq a a=false:=by simp [scmp]
 simp only[eE,eN,seval,c311,h]
def Tnn:Bk:=AJ 311 (s1 dS I7 λ_=>.bool false) sE
def jw:AG prog Tnn:=AG.sE.add (q1 λx h=>p311 x)
def p303(a b:Bs):A6 prog 303 [.str a,.str b] (.bool (Op.bytesLess a b)):=by
 refine .mk ⟨zt,zt,zt⟩ zt (c303.a (AE jw (AF ?_)));have h:scmp .lss a b=Op.bytesLess a b:=rfl;simp only[eZ,seval,oh,c303,Tnn,s1,Fc,Db,h,AJ]
def Tls:Bk:=AJ 303 (s2 dS dS Wg λa b=>.bool (Op.bytesLess a b)) sE
def jx:AG prog Tls:=AG.sE.add (q2 λx y h=>p303 x y)
abbrev gt(l:List Nat)(p:Nat):Nat:=l[p]?.getD 0
def nY(l:List Nat)(j:Nat):List Nat:=(l.set j (gt l (j-1))).set (j-1) (gt l j)
variable {H:AB} {l xs rest:List Nat} {j p n id cap:Nat}
theorem jy(h0:0<j)(hj:j<l.length)(p:Nat):gt (nY l j) p=if p=j then gt l (j-1)else if p=j-1 then gt l j else gt l p:=by
 unfold nY;simp only[gt];rw[List.getElem?_set,List.getElem?_set];by_cases h1:p=j
 ·subst h1;rw[og zo,oE rfl,oE rfl];simp [hj]
 ·rw[og h1];by_cases h2:p=j-1
  ·subst h2;rw[oE rfl,oE rfl,oE (by rw[qN];omega)];rfl
  ·rw[og h2,og zo,og zo]
theorem YM(h0:0<j)(hj:j<l.length):(nY l j).Perm l:=by
 have e1:gt l (j-1)=l[j-1]:=by simp only[gt];rw[o8 zo];rfl
 have e2:gt l j=l[j]:=by simp only[gt];rw[o8 hj];rfl
 unfold nY;rw[e1,e2];exact List.set_set_perm hj zo
theorem UK{m:List Nat}(h:l.Perm m)(hm:∀x∈m,x<9)(hp:p<l.length):gt l p<9:=by
 have:l[p]∈m:=h.mem_iff.1 (oK hp);simp only[gt];rw[o8 hp];exact hm _ this
structure II(xs:List Nat)(i:Nat)(v:Nat×List Nat):Prop where
 j:v.1<=i
 pm:v.2.Perm xs
 c1:∀p q,p<q->q<=i->p≠v.1->q≠v.1->gt v.2 p<=gt v.2 q
 c2:∀q,v.1<q->q<=i->gt v.2 v.1<=gt v.2 q
theorem II.step{i:Nat}(h:II xs i (j,l))(hi:i<xs.length)(h0:0<j)(e9:gt l j<gt l (j-1)):II xs i (j-1,nY l j):=by
 obtain⟨h1,h2,h3,h4⟩:=h;simp only at h1 h2 h3 h4;have l9:=h2.length_eq;have hg:=jy (l:=l) h0 zo;refine⟨zp,(YM h0 zo).trans h2,λp q hpq hq hp1 hq1=>?_,λq hq hqi=>?_⟩
 ·simp only at hp1 hq1⊢;rw[hg,hg,og (show ¬p=j-1 from hp1),og (show ¬q=j-1 from hq1)];by_cases e1:p=j
  ·rw[oE e1,og zo];exact h3 (j-1) q zo hq zo zo
  ·rw[og e1];by_cases e2:q=j
   ·rw[oE e2];exact h3 p (j-1) zo zo e1 zo
   ·rw[og e2];exact h3 p q hpq hq e1 e2
 ·simp only at hq⊢;rw[hg,hg,og zo,oE rfl];by_cases e1:q=j
  ·rw[oE e1];omega
  ·rw[og e1,og zo];exact h4 q zo hqi
theorem II.done{i:Nat}(h:II xs i (j,l))(he:j=0\/¬gt l j<gt l (j-1)):∀p q,p<q->q<i+1->gt l p<=gt l q:=by
 obtain⟨h1,h2,h3,h4⟩:=h;simp only at h1 h2 h3 h4;intro p q hpq hq;by_cases e1:p=j
 ·subst e1;exact h4 q hpq zo
 ·by_cases e2:q=j
  ·subst e2;have hle:gt l (q-1)<=gt l q:=by rcases he with he|he<;>omega
   by_cases e3:p=q-1
   ·rw[e3];exact hle
   ·have:=h3 p (q-1) zo zo e1 zo;omega
  ·exact h3 p q hpq zo e1 e2
abbrev fV(l rest:List Nat):xq:=.arr 1 ((l++rest).map Nd)
theorem fW(h:p<l.length):(l++rest)[p]?=some (gt l p):=by
 rw[pH h,o8 h];simp [gt,o8 h]
theorem jz(h:0<j)(hj:j<1000):IntKind.wrap .i64 ((j:Int)-1)=((j-1:Nat):Int):=by rw[An zo zo];omega
theorem fX{x:Nat}(h:p<l.length):((l++rest).map Nd).set p (Nd x)=((l.set p x)++rest).map Nd:=by
 rw[<-List.map_set,List.set_append_left _ _ h]
theorem t_ins(ho:AD H id=some (fV xs rest))(hx:∀x∈xs,x<9)(hl:xs.length<=12):
  AO prog 297 [.ref id 1 0 xs.length cap,.int .i64 0,.int .i64 xs.length] H n λo H' n'=>o= .ret (.sH [])/\(∃ys:List Nat,ys.Perm xs/\ys.Pairwise (· <= ·)/\H'=sA H id (fV ys rest))/\n'=n:=by
 refine c297.a (AE jx (AF ?_));have nP:IntKind.wrap .i64 ((0:Int)+1)=((1:Nat):Int):=zd
 simp only[eE,eN,seval,c1,c297,nP];refine AQ (λv:Nat×List Nat=>⟨[(0,true,.ref id 1 0 xs.length cap),(1,true,.int .i64 0),(2,true,.int .i64 xs.length),(6,true,.int .i64 v.1)],sA H id (fV v.2 rest),n⟩)
  (λv=>1<=v.1/\v.2.Perm xs/\(v.1<=xs.length\/v.1=1)/\∀p q,p<q->q<v.1->gt v.2 p<=gt v.2 q) (λv=>xs.length-v.1) (1,xs) ?_ ⟨od _,.refl _,.inr rfl,λp q h1 h2=>by simp only at h2;omega⟩ ?_
 ·show(⟨_,_,_⟩:AS)=_;have:sA H id (fV xs rest)=H:=by
   funext k;simp only[sA];split
   ·rename_i e;rw[<-e];exact ho.symm
   ·rfl
  simp only[];rw[this];rfl
 rintro⟨i,ys⟩ ⟨h1,hp,hi,hs⟩;simp only at h1 hp hi hs;have l9:=hp.length_eq;by_cases e9:i<xs.length;case neg=>
  simp only[eZ,seval,Ah e9];refine⟨ys,hp,?_,rfl⟩;rw[pW];intro p q tj hql hpq;have:=hs p q hpq zo;simp only[gt,o8 tj,o8 hql,oQ]at this;exact this
 simp only[eZ,seval,AT e9];refine AQ (λv:Nat×List Nat=>⟨[(0,true,.ref id 1 0 xs.length cap),(1,true,.int .i64 0),(2,true,.int .i64 xs.length),(6,true,.int .i64 i),(7,true,.int .i64 v.1)],sA H id (fV v.2 rest),n⟩)
  (II xs i) (λv=>v.1) (i,ys) rfl ⟨od _,hp,λp q h1 h2 h3 h4=>hs p q h1 (by simp only at h4;omega),λq h1 h2=>by simp only at h1;omega⟩ ?_
 rintro⟨j,zs⟩ hI;have hI':=hI;obtain⟨k1,k2,k3,k4⟩:=hI';simp only at k1 k2 k3 k4;have hzl:=k2.length_eq;have wi:=AI (k:=i) zo;have nxt:(j=0\/¬gt zs j<gt zs (j-1))->1<=i+1/\zs.Perm xs/\(i+1<=xs.length\/i+1=1)/\∀p q,p<q->q<i+1->gt zs p<=gt zs q:=λhe=>⟨zo,k2,.inl e9,hI.done he⟩
 by_cases hj:0<j;case neg=>
  obtain rfl:j=0:=zo
  have z1:((0:Int)<((0:Nat):Int))=False:=oA zd;simp only[eZ,seval,c0,i00,Int.toNat_zero,rH,o6,oO,ou,wi];exact .mk (i+1,zs) rfl (nxt (.inl rfl)) zp
 have z1:((0:Int)<(j:Int))=True:=o7 zo;have tz:j<zs.length:=zo
 have pj:=jz hj zo;have hb1:(j<xs.length)=True:=o7 zo;have am:(j-1<xs.length)=True:=o7 zo;have hb3:((j:Int)<(xs.length:Int))=True:=o7 zo;have hb4:(((j-1:Nat):Int)<(xs.length:Int))=True:=o7 zo;have hb5:((j-1:Nat)<zs.length+rest.length)=True:=o7 zo;have hb6:((j:Nat)<zs.length+rest.length)=True:=o7 zo;have g1:(zs++rest)[j]?=some (gt zs j):=fW tz;have g2:(zs++rest)[j-1]?=some (gt zs (j-1)):=fW zo;have hless:=bw (UK k2 hx tz) (UK k2 hx (show j-1<zs.length by omega));by_cases hc:gt zs j<gt zs (j-1)
 ·rw[pk hc]at hless;simp only[eZ,seval,oQ,oH,oS,o6,oO,ou,qN,z1,pj,hb3,hb4,hb5,hb6,g1,g2,Tls,s2,Fc,Db,hless,AJ];refine .mk (j-1,nY zs j) ?_ (hI.step e9 hj hc) zp;rw[AH,AH,fX tz,fX (by rw[qN];omega)];rfl
 ·rw[oN hc]at hless;simp only[eZ,seval,oQ,oH,oS,o6,oO,ou,z1,pj,hb3,hb4,hb5,hb6,g1,g2,Tls,s2,Fc,Db,hless,wi,AJ];exact .mk (i+1,zs) rfl (nxt (.inr hc)) zp
theorem j0:CF prog 238:=⟨f238,by kernel_rfl,by kernel_rfl,by kernel_rfl⟩
def fY:List Fs->AB->Prop×Fs:=λa H=>match a with
 |[.int .u64 x]=>(0<=x/\x<=18446744073709551615,.int .i64 (Lib.bitLen x.toNat))
 |_=>(False,.sH [])
theorem qLn64:∀args H n,(fY args H).1->Ad prog 238 args H n (fY args H).2:=by
 intro args H n h;unfold fY at h⊢;split at h
 ·rename_i x;refine A6.quiet ?_ H n;refine Gz j0 ⟨zt,zt⟩ zt ?_;rintro g w vs hR ⟨v,r,rfl,k1,k3⟩;have k1':v= .int .u64 x:=k1;have k3':r=[]:=k3;subst k1';subst k3';refine(bits_Len64 x w h.1 h.2).mono ?_;rintro e w' ⟨rfl,rfl⟩;exact⟨⟨_,rfl,rfl⟩,Below.refl _ _⟩
 ·exact h.elim
def Tl64:Bk:=AJ 238 fY sE
theorem bx:AG prog Tl64:=AG.sE.add qLn64
theorem p197(x:Int)(h:0<=x/\x<=18446744073709551615):A6 prog 197 [.int .u64 x] (.int .i64 (Lib.bitLen x.toNat)):=by
 refine .mk ⟨zt,zt⟩ zt (c197.a (AE bx (AF ?_)));simp only[eZ,seval,c197,Tl64,fY,h.1,h.2,AJ]
def Tlen:Bk:=AJ 197 fY sE
theorem bz:AG prog Tlen:=AG.sE.add (by
 intro args H n h;unfold fY at h⊢;split at h
 ·exact(p197 _ h).quiet H n
 ·exact h.elim)
def SrtP(H:AB)(n id:Nat)(xs rest:List Nat):xx->AB->Nat->Prop:=λo H' n'=>o= .ret (.sH [])/\(∃ys:List Nat,ys.Perm xs/\ys.Pairwise (· <= ·)/\H'=sA H id (fV ys rest))/\n'=n
theorem t_pdq{lim:Int}(ho:AD H id=some (fV xs rest))(hx:∀x∈xs,x<9)(hl:xs.length<=12):
  AO prog 289 [.ref id 1 0 xs.length cap,.int .i64 0,.int .i64 xs.length,.int .i64 lim] H n (SrtP H n id xs rest):=by
 refine c289.a (AE AG.sE (AF ?_));rw[c289];simp only[eE,eN,seval];refine AQ (λu:Unit=>⟨[(0,true,.ref id 1 0 xs.length cap),(1,true,.int .i64 0),(2,true,.int .i64 xs.length),(3,true,.int .i64 lim),(8,true,.bool true),(9,true,.bool true)],H,n⟩) (λ_=>True) (λ_=>0) () rfl zt ?_;rintro u -;have w0:IntKind.wrap .i64 ((xs.length:Int)-0)=xs.length:=by rw[Int.sub_zero,An zo zo]
 have w1:((xs.length:Int)<=12)=True:=o7 zo;simp only[eZ,seval,w0,w1];refine(t_ins ho hx hl).mono ?_;rintro o H' n' ⟨rfl,h1,rfl⟩;simp only[eE,eN,BG];exact⟨rfl,h1,rfl⟩
theorem cA(ho:AD H id=some (fV xs rest))(hx:∀x∈xs,x<9)(hl:xs.length<=12):
  AO prog 277 [.ref id 1 0 xs.length cap] H n (SrtP H n id xs rest):=by
 refine c277.a (AE bz (AF ?_));have w0:IntKind.wrap .u64 (xs.length:Int)=xs.length:=by
  have:(xs.length:Int)<18446744073709551616:=zo
  unfold IntKind.wrap;simp [IntKind.bits];omega
 have w1:((0:Int)<=(xs.length:Int)/\(xs.length:Int)<=18446744073709551615)=True:=o7 ⟨zo,zo⟩;simp only[eE,eN,seval,oH,oS,c277,w0,Tlen,fY,AJ];refine⟨zo,(t_pdq ho hx hl).mono ?_⟩;rintro o H' n' ⟨rfl,h1,rfl⟩;simp only[eE,eN,BG];exact⟨rfl,h1,rfl⟩
end
section
abbrev clK(q:Nat):Fs:=.fn (.func 278) [] [.ptr q 0]
abbrev j7(q c:Nat):List (Nat×Bool×Fs):=[(2,true,.ptr c 0),(4,true,.sl .nil []),(6,true,clK q)]
structure ApY(q c L l':Nat)(H0:AB)(n0:Nat)(qs:List Nat)(H:AB)(m:Nat):Prop where
 fr:AU H m
 lc:n0<=c
 cl:c<L
 lm:L<m
 hc:∃lv,AD H c=some (.box [lv])/\Np Nd 1 (L+1) H lv qs
 hL:AD H L=some (.lp ⟨l',.ready,none,13,j7 q c, #[7],Jt,Ju⟩)
 kp:∀id ob,id<n0->AD H0 id=some ob->AD H id=some ob
variable {H:AB} {q n mp:Nat}
theorem y_apY{c L l':Nat}{H0:AB}{n0:Nat}{qs:List Nat}{m:Nat}(F:ApY q c L l' H0 n0 qs H m)(x:Nat)(hs:qs.length<1000000000){R:Bool->AB->Nat->Prop}
  (hR:∀H' m',ApY q c L l' H0 n0 (qs++[x]) H' m'->(∀j ob,j<m->j≠c->j≠L->(∀e Z,ob≠ .arr e Z)->AD H j=some ob->AD H' j=some ob)->m<=m'->R true H' m'):Cf prog l' [Nd x] H m R:=by
 obtain⟨fr,lc,cl,lm,⟨lv,hc,ut⟩,hL,kp⟩:=F;refine mT hL rfl (AE AG.sE (AF ?_));simp only[eE,eN,seval,P1,Hp,rm,rA,qc,rT];refine⟨_,hL,rfl,AE AG.sE (AF ?_)⟩;have y1:∀k,(L=m+k)=False:=λk=>oA zo
 have y2:(L=c)=False:=oA zo;have y3:(c=L)=False:=oA zo;simp only[eE,seval,P0,hc,y2];have g1:∀k,AD (sA H L (.lp ⟨l',.busy,none,13,j7 q c, #[7],Jt,Ju⟩)) (m+k)=none:=λk=>by rw[AA _ _ _ _ zo];exact Bx fr k
 refine Ly (enc:=Nd) (lo:=L+1) (qs:=qs) (z0:=9) ?_ rfl zd rfl rfl (AY zo zd) (g1 3) zo zo ?_
 ·rcases ut with h|⟨sZ,id,rest,h1,h2,h3⟩
  ·exact .inl h
  ·exact .inr ⟨sZ,id,rest,h1,h2,by rw[AA _ _ _ _ zo];exact h3⟩
 intro id rest vf s5;have hidm:id<m+5:=by
  rcases s5 with rfl|⟨Z,h⟩
  ·omega
  ·apply Classical.byContradiction;intro z;obtain⟨k,rfl⟩:∃k,id=m+k:=⟨id-m,zo⟩;rw[g1]at h;cases h
 have hida:∀j ob,j<m->j≠L->(∀e Z,ob≠ .arr e Z)->AD H j=some ob->j≠id:=by
  intro j ob hj hjL hob h0 e;subst e;rcases s5 with rfl|⟨Z,h⟩
  ·omega
  ·rw[AA _ _ _ _ (Ne.symm hjL),h0]at h;cases h;exact hob _ _ rfl
 have z1:(id=L)=False:=oA zo;have z2:(id=c)=False:=oA zo;have z3:(L=id)=False:=oA zo;have z4:(c=id)=False:=oA zo;have hidn:¬id<n0:=zo
 simp only[eE,eN,seval,Dy,z2,y2,hc];refine⟨⟨l',.busy,none,13,j7 q c, #[7],Jt,Ju⟩,by simp only[AN,y3,z1,pb,pG],hR _ _ ⟨?_,lc,cl,zp,⟨_,by simp only[AN,y2,pb,pG],.inr ⟨zw,id,rest,rfl,vf,by simp only[AN,z3,z4,pb,pG]⟩⟩,by simp only[AN,pG],?_⟩ ?_ (py _ _)⟩
 ·intro j hj;have ul:m+5<=j:=hj;simp only[AN];repeat rw[og zo]
  exact fr j zo
 ·intro j ob hj h0;simp only[AN];repeat rw[og zo]
  exact kp j ob hj h0
 ·intro j ob hj hjc hjL hob h0;have:=hida j ob hj hjL hob h0;simp only[AN];repeat rw[og zo]
  exact h0
def rkL:List Nat:=[2,8,0,6,1,5,4,3,7]
def rk(b:Nat):Nat:=rkL[b]?.getD 0
abbrev PT(k:Int)(f:FuncId):Fs:=.agg [.int .i64 k,.fn (.func f) [] []]
abbrev JT:List (Fs×Fs×Nat):=[(Nd 2,PT 0 268,0),(Nd 8,PT 6 269,1),(Nd 0,PT 7 270,2),(Nd 6,PT 8 271,3),(Nd 1,PT 9 272,4),(Nd 5,PT 10 272,5),(Nd 4,PT 11 273,6),(Nd 3,PT 12 274,7),(Nd 7,PT 13 275,8)]
theorem Qj{e:Fs×Fs×Nat}(h:e∈JT):e.2.2<9/\e.1=Nd (rk e.2.2)/\MV e.2.2 JT=some (e.1,e.2.1):=by
 simp only[JT,ph,qV,or_false]at h;rcases h with rfl|rfl|rfl|rfl|rfl|rfl|rfl|rfl|rfl<;>exact⟨zd,rfl,rfl⟩
theorem UL{es:List (Fs×Fs×Nat)}{seen:List Nat}{e:Fs×Fs×Nat}(h:e∈C9 es seen):(C9 es (seen++[e.2.2])).length<(C9 es seen).length:=by
 have e1:C9 es (seen++[e.2.2])=(C9 es seen).filter λx=>decide (x.2.2≠e.2.2):=by
  unfold C9;rw[rZ];refine rS λx hx=>?_
  by_cases h1:x.2.2∈seen<;>by_cases h2:x.2.2=e.2.2<;>simp [h1,h2]
 rw[e1,List.length_filter_lt_length_iff_exists];exact⟨e,h,zw⟩
theorem YN{seen:List Nat}(hn:seen.Nodup)(hl:∀b∈seen,b<9)(hd:C9 JT seen=[]):(seen.map rk).Perm (List.range 9):=by
 have h1:seen.Perm (List.range 9):=(ry hn List.nodup_range).2 λb=>⟨λh=>px.2 (hl b h),λh=>by
  have hb:=px.1 h;apply Classical.byContradiction;intro hns;obtain⟨e,he,rfl⟩:∃e∈JT,e.2.2=b:=by
   have:b=0\/b=1\/b=2\/b=3\/b=4\/b=5\/b=6\/b=7\/b=8:=zo
   rcases this with rfl|rfl|rfl|rfl|rfl|rfl|rfl|rfl|rfl
   ·exact⟨_,qo.2 ⟨0,rfl⟩,rfl⟩
   ·exact⟨_,qo.2 ⟨1,rfl⟩,rfl⟩
   ·exact⟨_,qo.2 ⟨2,rfl⟩,rfl⟩
   ·exact⟨_,qo.2 ⟨3,rfl⟩,rfl⟩
   ·exact⟨_,qo.2 ⟨4,rfl⟩,rfl⟩
   ·exact⟨_,qo.2 ⟨5,rfl⟩,rfl⟩
   ·exact⟨_,qo.2 ⟨6,rfl⟩,rfl⟩
   ·exact⟨_,qo.2 ⟨7,rfl⟩,rfl⟩
   ·exact⟨_,qo.2 ⟨8,rfl⟩,rfl⟩
  have:e∈C9 JT seen:=qn.2 ⟨he,by simpa using hns⟩;rw[hd]at this;cases this⟩
 have h2:=h1.map rk;refine h2.trans ?_;have:(List.range 9).map rk=rkL:=zd
 rw[this];decide
theorem YO{ys:List Nat}(h1:ys.Perm (List.range 9))(h2:ys.Pairwise (· <= ·)):ys=List.range 9:=
 h1.eq_of_pairwise (λa b _ _ h k=>Nat.le_antisymm h k) h2 zd
theorem ApY.it{c L l':Nat}{H0:AB}{n0:Nat}{qs:List Nat}{m it:Nat}{ob ob':xq}(F:ApY q c L l' H0 n0 qs H m)(h1:n0<=it)(h2:it≠c)(h3:it≠L)(h4:it<m)(h5:AD H it=some ob)(h6:∀e Z,ob≠ .arr e Z):ApY q c L l' H0 n0 qs (sA H it ob') m:=by
 obtain⟨fr,lc,cl,lm,⟨lv,hc,ut⟩,hL,kp⟩:=F;refine⟨fr.sA (od _) h4,lc,cl,lm,⟨lv,by rw[AA _ _ _ _ h2];exact hc,?_⟩,by rw[AA _ _ _ _ h3];exact hL,λj o hj h0=>by rw[AA _ _ _ _ zo];exact kp j o hj h0⟩;rcases ut with h|⟨sZ,id,rest,k1,k2,k3⟩
 ·exact .inl h
 ·exact .inr ⟨sZ,id,rest,k1,k2,by rw[AA _ _ _ _ (λe=>by subst e;rw[h5]at k3;cases k3;exact h6 _ _ rfl)];exact k3⟩
structure VK where
 seen:List Nat
 H:AB
 n:Nat
structure IK(q n mp l':Nat)(H:AB)(v:VK):Prop where
 F:ApY q n (n+2) l' H n (v.seen.map rk) v.H v.n
 it:AD v.H (n+4)=some (.mit mp 9 v.seen 9)
 lt:n+4<v.n
 nd:v.seen.Nodup
 rg:∀b∈v.seen,b<9
 ln:v.seen.length+(C9 JT v.seen).length<=9
theorem t_apY(hf:AU H n)(hq:AD H q=some (.box [.mp mp]))(hm:AD H mp=some (.map JT 9)):
  AO prog 288 [.sl .nil [],clK q] H n λo H' n'=>∃lv qs,o= .ret lv/\qs.Perm (List.range 9)/\Np Nd 1 (n+3) H' lv qs/\AU H' n'/\n<=n'/\∀id ob,id<n->AD H id=some ob->AD H' id=some ob:=by
 have hqn:=hf.lt hq;have hmn:=hf.lt hm;refine a288 (AE AG.sE (AF ?_));simp only[eE,eN,seval,c288,W0 hf,Gc];intro l';generalize hH1:sA (sA H n (.box [.sl .nil []])) (n+2) _=H1;have F0:ApY q n (n+2) l' H n [] H1 (n+3):=by
  subst hH1;refine⟨λj hj=>?_,od _,zo,zo,⟨.sl .nil [],?_,.inl ⟨rfl,rfl⟩⟩,AC ..,λj ob hj h0=>?_⟩
  ·simp only[AN];repeat rw[og zo]
   exact hf j zo
  ·simp only[AN];rw[og zo,oE zt]
  ·simp only[AN];repeat rw[og zo]
   exact h0
 have hc0:AD H1 n=some (.box [.sl .nil []]):=by
  subst hH1;simp only[AN];rw[og zo,oE zt]
 clear hH1;have hq1:=F0.kp q _ hqn hq;have hm1:=F0.kp mp _ hmn hm;have hfn:=Bx F0.fr;refine mU.a (AE AG.sE (AF ?_));simp only[eE,eN,seval,xE,mU,hq1,hm1];refine⟨hfn 1,?_⟩;refine AQ (λv:VK=>⟨[(0,true,.fn (.yield l') [] []),(5,true,.ptr (n+4) 0)],v.H,v.n⟩) (IK q n mp l' H) (λv=>(C9 JT v.seen).length) ⟨[],sA H1 (n+4) (.mit mp 9 [] 9),n+5⟩ rfl
  ⟨⟨F0.fr.sA (m:=n+5) zo zo,od _,zo,zp,⟨.sl .nil [],by rw[AA _ _ _ _ zo];exact hc0,.inl ⟨rfl,rfl⟩⟩,by rw[AA _ _ _ _ zo];exact F0.hL,λj o hj h0=>by rw[AA _ _ _ _ zo];exact F0.kp j o hj h0⟩,AC ..,zp,List.nodup_nil,λb hb=>(by cases hb),(show 0+(C9 JT []).length<=9 by decide)⟩ ?_
 rintro⟨seen,H2,m⟩ ⟨F,hit,e9,sg,hrg,uz⟩;simp only at F hit e9 sg hrg uz;have hm2:=F.kp mp _ hmn hm;have hq2:=F.kp q _ hqn hq;simp only[eE,eC,seval];rw[Ut hit hm2];refine⟨od _,λe he=>(Qj he).1,λAc=>?_,λe he=>?_⟩
 ·have hp:=YN sg hrg Ac;obtain⟨fr,lc,cl,lm,⟨lv,hc,ut⟩,hL,kp⟩:=F;have y1:(n+2=n)=False:=oA zo;simp only[eZ,seval,eY,Hf,hL,hc,y1];refine⟨lv,_,rfl,hp,?_,fr.sA (od m) (show n+2<m by omega),zo,λid ob s5 h0=>by rw[og zo];exact kp id ob s5 h0⟩;rcases ut with h|⟨sZ,id,rest,h1,h2,h3⟩
  ·exact .inl h
  ·exact .inr ⟨sZ,id,rest,h1,h2,by rw[AA _ _ _ _ zo];exact h3⟩
 ·obtain⟨he1,he2⟩:=qn.1 he;obtain⟨b1,b2,b3⟩:=Qj he1;have hns:e.2.2∉seen:=by simpa using he2
  have sY:Iw (sA H2 (n+4) (.mit mp 9 (seen++[e.2.2]) 9)) mp (seen++[e.2.2])=some (e.1,e.2.1):=by
   unfold Iw;rw[AA _ _ _ _ zo,hm2,List.getLast?_concat];exact b3
  have y0:(n+4=mp)=False:=oA zo;simp only[eZ,seval,xE,eY,y0,hm2,sY,b2];refine y_apY (F.it zo zo zo e9 hit zw) (rk e.2.2) (by rw[o6];omega) λH' m' F' hk hmm=>?_
  simp only[eZ,seval,o9,TO];refine⟨⟨seen++[e.2.2],H',m'⟩,.inr ⟨?_,.inl ⟨rfl,rfl⟩⟩,⟨by simp only[oD,oL,pc];exact F',hk _ _ e9 zo zo zw (AC ..),zp,?_,λb hb=>?_,by have:=UL he;simp only[ou,oI,pd];omega⟩,UL he⟩
  ·exact⟨⟨_,rfl,Wk.refl _⟩,⟨_,rfl,Wk.refl _⟩,zt⟩
  ·rw[qD];exact⟨sg,zw,λa ha b hb=>by rw[pV.1 hb];exact λe=>hns (e▸ha)⟩
  ·rcases pI.1 hb with hb|hb
   ·exact hrg b hb
   ·rw[pV.1 hb];exact b1
theorem cB(hf:AU H n)(hq:AD H q=some (.box [.mp mp]))(hm:AD H mp=some (.map JT 9)):
  AO prog 276 [clK q] H n λo H' n'=>∃lv qs,o= .ret lv/\qs.Perm (List.range 9)/\Np Nd 1 (n+3) H' lv qs/\AU H' n'/\n<=n'/\∀id ob,id<n->AD H id=some ob->AD H' id=some ob:=by
 refine c276.a (AE AG.sE (AF ?_));simp only[eE,eN,seval,c276];refine(t_apY hf hq hm).mono ?_;rintro o H' n' ⟨lv,qs,rfl,h1,h2,h3,h4,h5⟩;simp only[eE,eN,seval,BG];exact⟨lv,qs,rfl,h1,h2,h3,h4,h5⟩
def SrY(ob:List Fs->xq)(H:AB):xx->AB->Nat->Prop:=λo H' n'=>
 Cr H H'/\∃id rest,o= .ret (.ref id 1 0 9 (9+rest.length))/\AD H id=none/\AD H' id=some (ob ((List.range 9++rest).map Nd))
theorem j8(hf:AU H n)(hq:AD H q=some (.box [.mp mp]))(hm:AD H mp=some (.map JT 9)):
  AO prog 250 [clK q] H n (Wb H (Fw wS)):=by
 refine AO.out (AO.seal (R:=SrY (.arr 1) H) (R':=SrY (.frz 1) H) (mS.a (AE AG.sE (AF ?_))) ?_) ?_
 ·simp only[eE,eN,seval,mS];refine(cB hf hq hm).mono ?_;rintro o H1 n1 ⟨lv,qs,rfl,hp,ut,t7,w7,hk⟩;simp only[eE,eN,seval,BG];have hK:Cr H H1:=λid ob h0=>hk id ob (hf.lt h0) h0
  have l9:qs.length=9:=by rw[hp.length_eq];rfl
  rcases ut with⟨rfl,rfl⟩|⟨sZ,id,rest,rfl,h2,h3⟩
  ·cases l9
  ·refine(cA h3 (λx hx=>px.1 (hp.mem_iff.1 hx)) zo).mono ?_;rintro o H2 n2 ⟨rfl,⟨ys,hy1,hy2,rfl⟩,rfl⟩;have hys:=YO (hy1.trans hp) hy2;subst hys;rw[l9];simp only[eE,eN,seval,BG];refine⟨λi ob h0=>?_,id,rest,rfl,hf _ zo,AC ..⟩;rw[AA _ _ _ _ (λe=>by subst e;rw[hf _ zo]at h0;cases h0)];exact hK i ob h0
 ·rintro o H' n' ⟨hK,id,rest,h1,h2,h3⟩;refine .inr ⟨id,1,_,h3,λi ob h0=>?_,id,rest,h1,h2,AC ..⟩;rw[AA _ _ _ _ (λe=>by subst e;rw[h2]at h0;cases h0)];exact hK i ob h0
 ·rintro o H' n' ⟨hK,id,rest,rfl,h2,h3⟩;refine⟨.ret (Fw wS),⟨⟨_,rfl,Wk.refl _⟩,hK⟩,λg w e hR he=>?_⟩;have hL:LF 1 (.ref id 1 0 9 (9+rest.length)) H' (wS.map .str):=.inr ⟨by simp [wS],id,9+rest.length,rest.map Nd,rfl,by rw[h3,oD];rfl,by simp [wS]⟩;cases e with
  |returned v=>exact Kq hL hR he
  |panicked c=>exact he.elim
  |outgrown=>exact he.elim
def j9:List Fs->AB->Prop×Fs:=λa H=>match a with
 |[.fn (.func f) [] [.ptr q 0]]=>(f=278/\∃mp,AD H q=some (.box [.mp mp])/\AD H mp=some (.map JT 9),Fw wS)
 |_=>(False,.sH [])
theorem qSrY:∀args H n,(j9 args H).1->Ad prog 250 args H n (j9 args H).2:=by
 intro args H n hh;unfold j9 at hh⊢;split at hh
 ·obtain⟨rfl,mp,h0,h1⟩:=hh;exact Ad.of mS.l (Bo n _) λhf=>j8 hf h0 h1
 ·exact hh.elim
end
theorem Qk:∀l:List Fs,Wks l l
 |[]=>.nil
 |a::l=>.cons (Wk.refl a) (Qk l)
def xQ{P:Program}{f:FuncId}{s:List Fs->AB->Prop×Fs}(c:List Fs->Bool)(hc:∀a,c a=true->(s a Ac).1)(q:∀args H n,(s args H).1->Ad P f args H n (s args H).2):XS P:=⟨f,λa=>bif c a&&(uBs a&&uB (s a Ac).2)then some (s a Ac).2 else none,λ{a r} e=>by
 obtain⟨h,e⟩:=Aj e;cases e;simp only[oo]at h;exact⟨a,Qk a,uU _ h.2.1,UJ _ h.2.2,(q a Ac 0 (hc a h.1)).mono λo H' n' hh=>⟨_,hh.1,Wk.refl _⟩⟩⟩
def vEq:Fs->Fs->Bool
 | .str a,.str b=>decide (a=b)
 | .agg [.int k n,.fn (.func f) [] []],.agg [.int k' n',.fn (.func f') [] []]=>decide (k=k')&&(decide (n=n')&&decide (f=f'))
 |_,_=>false
def YP:∀a b:Fs,vEq a b=true->a=b:=λa b h=>by
 unfold vEq at h;split at h
 ·rw[pg h]
 ·simp only[oo,oC]at h;obtain⟨rfl,rfl,rfl⟩:=h;rfl
 ·cases h
def cC:List (Fs×Fs×Nat)->List (Fs×Fs×Nat)->Bool
 |[],[]=>true
 |(a,b,n)::r,(a',b',n')::r'=>(vEq a a'&&vEq b b')&&(decide (n=n')&&cC r r')
 |_,_=>false
theorem UM:∀a b,cC a b=true->a=b
 |[],[],_=>rfl
 |(a,b,n)::r,(a',b',n')::r',h=>by
  simp only[cC,oo,oC]at h;rw[YP _ _ h.1.1,YP _ _ h.1.2,h.2.1,UM _ _ h.2.2]
 |[],_::_,h=>by cases h
 |_::_,[],h=>by cases h
def xSrt:XF prog:=⟨250,λC E m a H n=>match a with
 |[.fn (.func f) [] [.ptr q 0]]=>(match AD H q with
  |some (.box [.mp mp])=>(match AD H mp with
   |some (.map es c)=>bif decide (f=278/\c=9)&&cC es JT then some (.ret (Fw wS),H,n,[])else none
   |_=>none)
  |_=>none)
 |_=>none,λhC hE h=>by
  split at h
  ·rename_i f q;split at h
   ·rename_i mp hq;split at h
    ·rename_i es c hm;obtain⟨h1,h⟩:=Aj h;cases h;rw[oo,oC]at h1;obtain⟨⟨rfl,rfl⟩,h2⟩:=h1;rw[UM _ _ h2]at hm;refine⟨Fr.same,λR hR=>(qSrY [.fn (.func 278) [] [.ptr q 0]] _ _ ⟨rfl,mp,hq,hm⟩).mono ?_⟩;rintro o H' n' ⟨rfl,rfl,rfl⟩;exact hR
    ·cases h
   ·cases h
  ·cases h⟩
def ts0:List (XS prog):=[xQ (fun|[.str _,.int .u8 c]=>decide (0<=c/\c<256)|_=>false) (λa h=>by unfold bt;split at h<;>first|exact pg h|cases h) q207]
end Go.AM
