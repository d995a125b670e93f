/-
  Parts of the proof. Conditions: none.
-/
import Derived.Test.YtbohiinkdkoacaaGreatDoorB16
set_option maxRecDepth 20000
set_option linter.all false
set_option maxHeartbeats 1000000
namespace Go.AM
open Go.Proofs Go.Proofs.Tryz
mutual
def Rb:Fs->Fs
 | .sl .nil []=>.sl .nil []
 | .sl t l=>.sl (.none t.esz) (strips l)
 | .agg l=>.agg (strips l)
 | .tup l=>.tup (strips l)
 |v=>v
def strips:List Fs->List Fs
 |[]=>[]
 |v::r=>Rb v::strips r
end
mutual
theorem MK:∀v:Fs,Wk v (Rb v)
 | .sl .nil []=>Wk.refl _
 | .sl .nil (a::l)=>Wk.slx (.inl rfl) (strips_wk (a::l))
 | .sl (.none e) l=>Wk.slx (.inl rfl) (strips_wk l)
 | .sl (.exact e) l=>Wk.slx (.inl rfl) (strips_wk l)
 | .sl (.own i e) l=>Wk.slx (.inl rfl) (strips_wk l)
 | .agg l=>Wk.agg (strips_wk l)
 | .tup l=>Wk.tup (strips_wk l)
 | .int .. | .bool _| .str _| .nilp| .nilfn| .nilifc| .nilmp| .ptr .. | .ep _| .gp _| .ref .. | .ap .. | .fn .. | .ifc .. | .mp _| .up=>Wk.refl _
theorem strips_wk:∀l:List Fs,Wks l (strips l)
 |[]=>.nil
 |a::l=>.cons (MK a) (strips_wk l)
end
mutual
def wkB:Fs->Fs->Bool
 | .sl .nil [],.sl .nil []=>true
 | .sl t l,.sl (.none e) m=>(decide (t.esz=e)||l.isEmpty)&&wksB l m
 | .agg l,.agg m=>wksB l m
 | .tup l,.tup m=>wksB l m
 | .int k n,.int k' n'=>decide (k=k')&&decide (n=n')
 | .bool b,.bool b'=>b==b'
 | .str s,.str s'=>decide (s=s')
 |_,_=>false
def wksB:List Fs->List Fs->Bool
 |[],[]=>true
 |a::l,b::m=>wkB a b&&wksB l m
 |_,_=>false
end
mutual
theorem TB:∀(a b:Fs),wkB a b=true->Wk a b/\b.under 0
 |a,b,h=>by
  unfold wkB at h
  split at h
  ·exact⟨Wk.refl _,trivial,trivial⟩
  ·rename_i t l e m _
   simp only[V7,Wd,Vu,List.isEmpty_iff]at h
   have k:=wksB_ok _ _ h.2
   exact⟨Wk.slx h.1 k.1,trivial,k.2⟩
  ·have k:=wksB_ok _ _ h
   exact⟨Wk.agg k.1,k.2⟩
  ·have k:=wksB_ok _ _ h
   exact⟨Wk.tup k.1,k.2⟩
  ·simp only[V7,Vu]at h
   obtain⟨rfl,rfl⟩:=h
   exact⟨Wk.refl _,trivial⟩
  ·rw[eq_of_beq h]
   exact⟨Wk.refl _,trivial⟩
  ·rw[Vu]at h
   subst h
   exact⟨Wk.refl _,trivial⟩
  ·cases h
theorem wksB_ok:∀(a b:List Fs),wksB a b=true->Wks a b/\unders 0 b
 |[],[],_=>⟨.nil,trivial⟩
 |a::l,b::m,h=>by
  simp only[wksB,V7]at h
  have k:=TB _ _ h.1
  have k':=wksB_ok _ _ h.2
  exact⟨.cons k.1 k'.1,k.2,k'.2⟩
 |[],_::_,h=>by simp [wksB]at h
 |_::_,[],h=>by simp [wksB]at h
end
abbrev Ch(p:Prop):={b:Bool//b=true->p}
def dc{p:Prop}[Decidable p]:Ch p:=⟨decide p,Wn⟩
def no{p:Prop}:Ch p:=⟨false,λh=>by cases h⟩
def ca{p q:Prop}(a:Ch p)(b:Ch q):Ch (p/\q):=⟨a.1&&b.1,λh=>by rw[V7]at h;exact⟨a.2 h.1,b.2 h.2⟩⟩
def cm{p q:Prop}(h:p->q)(a:Ch p):Ch q:=⟨a.1,λe=>h (a.2 e)⟩
section
variable {k:IntKind} {v:Fs} {H:AC} {s:AS}
instance :Decidable (isI k v):=by cases v<;>(unfold isI;infer_instance)
instance :Decidable (CP v):=by cases v<;>(unfold CP;infer_instance)
instance :Decidable (isB v):=by cases v<;>(unfold isB;infer_instance)
instance :Decidable (isS v):=by cases v<;>(unfold isS;infer_instance)
instance :Decidable (isF v):=by cases v<;>(unfold isF;infer_instance)
instance :Decidable (nT v):=by cases v<;>(unfold nT;infer_instance)
instance {n b:Nat}:Decidable (small n b):=by unfold small;infer_instance
instance {ρ:Yy->Fs} {x:Option Yy}:Decidable (bndI ρ x):=by cases x<;>(unfold bndI;infer_instance)
instance {α:Type} {o:Option α}:Decidable (o=none):=match o with
 |none=>isTrue rfl
 |some _=>isFalse (λh=>by cases h)
instance {t:Zd}:Decidable (t= .nil):=by cases t<;>first|exact isTrue rfl|exact isFalse (λh=>by cases h)
instance {b:Nat}:Decidable (Fu b v):=by cases v<;>(unfold Fu;infer_instance)
instance {b:Nat}:Decidable (Hh b v):=by cases v<;>(unfold Hh;infer_instance)
instance {b:Nat}:Decidable (addr b v):=by cases v<;>(unfold addr;infer_instance)
instance :Decidable (isP v):=by cases v<;>(unfold isP;infer_instance)
instance {base k id:Nat} {cx:Nat->Fs}:Decidable (atN base cx k id):=by unfold atN;infer_instance
instance {base k:Nat} {cx:Nat->Fs}:Decidable (atK base cx k v):=by cases v<;>(unfold atK;infer_instance)
def fitC:∀(f:List Nat) (x y:List Fs),Ch (cfit f x y)
 |[],[],[]=>⟨true,λ_=>trivial⟩
 |0::fs,.int k _::xs,.int k' _::ys=>ca (p:=k=k') dc (fitC fs xs ys)
 |1::fs,.bool _::xs,.bool _::ys=>fitC fs xs ys
 |2::fs,.str _::xs,.str _::ys=>fitC fs xs ys
 |_,_,_=>no
def ldC(sz:Nat)(ag:Bool):∀v,Ch (Ay H sz ag v).1
 | .ptr id off=>by
  unfold Ay
  try dsimp only
  cases hget H id with
  |none=>exact no
  |some o=>cases o<;>first|exact dc|exact no
 | .ap id e i off=>by
  unfold Ay
  try dsimp only
  cases hget H id with
  |none=>exact no
  |some o=>cases o<;>first|exact dc|exact no
 | .ep cs=>dc (p:=sz<=cs.length)
 |_=>no
def mxC{ρ:Yy->Fs}{a n:Int}:∀(mx:Option Yy),Ch (∀m,mx=some m->a<=toI (ρ m)/\toI (ρ m)<=n)
 |none=>⟨true,λ_ _ h=>by cases h⟩
 |some x=>cm (p:=a<=toI (ρ x)/\toI (ρ x)<=n) (λh m e=>by cases e;exact h) dc
def okv(H:AC)(ρ:Yy->Fs)(k:Z1):Ch (evk H ρ k).1:=by
 cases k<;>dsimp only[evk]
 case ld=>exact ldC _ _ _
 case aeq n fs x y=>
  generalize ρ x=v,ρ y=u
  cases v with
  |agg xs=>cases u with
   |agg ys=>exact fitC _ _ _
   |_=>exact no
  |_=>exact no
 case sl esz x lo hi mx=>
  generalize ρ x=v
  cases v with
  |sl t l=>exact ca dc (ca dc (ca dc (ca dc (ca dc (ca dc (ca dc (ca dc (mxC mx))))))))
  |ref id e off len cap=>cases mx<;>(dsimp only[Eu];exact dc)
  |_=>exact no
 case b2s=>exact no
 case slp=>exact no
 case capx=>exact no
 case mnmx xs=>exact ca dc ⟨!xs.isEmpty,λh e=>by rw[e]at h;cases h⟩
 case build=>unfold evB;exact dc
 case bs=>unfold evS;exact dc
 case nilc x=>
  generalize ρ x=v
  cases v<;>first|exact dc|(rename_i f _ _;cases f<;>exact dc)
 case fa x=>generalize ρ x=v;cases v<;>exact dc
 case fld x=>generalize ρ x=v;cases v<;>exact dc
 case ia x i=>generalize ρ x=v;cases v<;>exact dc
 case iaA x i=>generalize ρ x=v;cases v<;>exact dc
 case ixA x i=>generalize ρ x=v;cases v<;>exact dc
 case len x=>generalize ρ x=v;cases v<;>exact dc
 case ext x=>generalize ρ x=v;cases v<;>exact dc
 all_goals exact dc
instance {t:Zd} {e:Nat}:Decidable (At H e t):=by
 cases t with
 |own id e'=>
  show Decidable (e'=e/\hget H id=some .tok)
  cases hget H id with
  |none=>exact isFalse zw
  |some o=>cases o with
   |tok=>exact decidable_of_iff (e'=e) ⟨λh=>⟨h,rfl⟩,λh=>h.1⟩
   |_=>exact isFalse zw
 |_=>unfold At;infer_instance
def asC{old:Fs}{off sz esz:Nat}{v:Fs}:Ch (DL old off sz esz v).1:=
 if h:off=0/\sz=esz then⟨true,λ_=>by unfold DL;rw[Vv h];trivial⟩else match old with
  | .agg cs=>⟨decide (cs.length=esz/\off+sz<=esz),λe=>by unfold DL;rw[V5 h];exact Wn e⟩
  |_=>no
def stC(sz:Nat)(v:Fs):∀a,Ch (stE H sz v a).1
 | .ptr id off=>by
  unfold stE
  try dsimp only
  cases hget H id with
  |none=>exact no
  |some o=>cases o<;>first|exact dc|exact no
 | .ap id e i off=>by
  unfold stE
  dsimp only
  cases hget H id with
  |none=>exact no
  |some o=>cases o with
   |arr e' l=>exact ca dc (ca dc asC)
   |_=>exact no
 |_=>no
def apC(id esz b:Nat)(v:Fs)(x:Option (List Fs)):Ch (appE H id esz b v x).1:=by
 unfold appE
 cases v with
 |sl t l=>cases x with
  |none=>exact no
  |some l'=>exact dc
 |_=>exact no
def slC(n:Nat)(lo hi:Int):∀v,Ch (slAE H n lo hi v).1
 | .ptr id 0=>by
  cases h:hget H id with
  |none=>exact no
  |some o=>cases o with
   |box cs=>exact cm (p:=cs.length=n/\0<=lo/\lo<=hi/\hi<=n/\lo<n) (λq=>by simp only[slAE,h];exact q) dc
   |arr e cs=>exact cm (p:=e=1/\cs.length=n/\0<=lo/\lo<=hi/\hi<=n/\lo<n) (λq=>by simp only[slAE,h];exact q) dc
   |_=>exact no
 |_=>no
def slxC(n e:Nat)(lo hi:Int):∀v,Ch (slxE H n e lo hi v).1
 | .ptr id 0=>by
  cases h:hget H id with
  |none=>exact no
  |some o=>cases o with
   |box cs=>exact cm (p:=cs.length=n*e/\0<=lo/\lo<=hi/\hi<=n/\lo<n) (λq=>by simp only[slxE,h];exact q) dc
   |arr e' cs=>exact cm (p:=e'=e/\cs.length=n/\0<=lo/\lo<=hi/\hi<=n/\lo<n) (λq=>by simp only[slxE,h];exact q) dc
   |_=>exact no
 |_=>no
def isC(k:IntKind):∀n l,Ch (isIs k n l)
 |0,[]=>⟨true,λ_=>trivial⟩
 |n+1,.int k' _::r=>ca (p:=k'=k) dc (isC k n r)
 |_,_=>no
def ktC:∀(t:KT) v,Ch (t.is v)
 | .int k,.int k' _=>dc (p:=k'=k)
 | .bool,.bool _=>⟨true,λ_=>trivial⟩
 | .str,.str _=>⟨true,λ_=>trivial⟩
 | .arr n k,.agg xs=>isC k n xs
 |_,_=>no
def mfC(t:KT):∀es,Ch (Di t es)
 |[]=>⟨true,λ_=>trivial⟩
 |(k,_,_)::r=>ca (ktC t k) (mfC t r)
def bmC(e n:Nat):∀is vs,Ch (bsmS e n is vs)
 |[],[]=>⟨true,λ_=>trivial⟩
 |i::is,v::vs=>ca (p:=nT v) dc (ca (p:=v.cells.length=e) dc (ca (p:=i<n) dc (bmC e n is vs)))
 |_,_=>no
def xC(b:Nat):∀x l,Ch (xE b x H l).1
 | .mkm rel,[]=>dc (p:=hget H (b+rel)=none)
 | .look kt z ok,[.nilmp,k]=>ktC kt k
 | .look kt z ok,[.mp id,k]=>by
  unfold xE
  dsimp only
  cases hget H id with
  |none=>exact no
  |some o=>cases o with
   |map es c=>exact ca (ktC _ _) (mfC _ _)
   |_=>exact no
 | .mput kt,[.mp id,k,v]=>by
  unfold xE
  dsimp only
  cases hget H id with
  |none=>exact no
  |some o=>cases o with
   |map es c=>exact ca (ktC _ _) (ca (mfC _ _) dc)
   |_=>exact no
 | .mlen,[.mp id]=>by
  unfold xE
  dsimp only
  cases hget H id with
  |none=>exact no
  |some o=>cases o<;>exact dc
 | .nileq 0 _,[.ifc _ _]| .nileq 0 _,[.nilifc]| .nileq 1 _,[.ptr _ _]| .nileq 1 _,[.nilp]| .nileq 1 _,[.ep _]| .nileq 2 _,[.fn _ _ _]| .nileq 2 _,[.nilfn]=>⟨true,λ_=>trivial⟩
 | .tas _ true _,[.ifc _ _]| .tas _ true _,[.nilifc]| .i2s,[.int _ _]=>⟨true,λ_=>trivial⟩
 | .tas t false _,[.ifc t' _]=>dc (p:=t'=t)
 | .srng rel,[.str _]=>dc (p:=hget H (b+rel)=none)
 | .slx n e false false,[v]=>slxC n e 0 n v
 | .slx n e true false,[v,.int _ a]=>slxC n e a n v
 | .slx n e false true,[v,.int _ c]=>slxC n e 0 c v
 | .slx n e true true,[v,.int _ a,.int _ c]=>slxC n e a c v
 | .bsm rel e n z is,vs=>by
  unfold xE
  exact ca dc (ca (bmC _ _ _ _) dc)
 | .mkc rel e b z l c,[]=>by
  unfold xE
  exact dc
 | .cpy e str,[.ref id e1 off len cap,y]=>by
  unfold xE
  dsimp only
  cases hget H id with
  |none=>exact no
  |some o=>cases o with
   |arr e' l=>cases srcV H e y str with
    |none=>exact no
    |some l'=>exact dc
   |_=>exact no
 |_,_=>no
def fzC(t:Nat):Ch (frzE s t).1:=by
 unfold frzE
 cases eget s.env t with
 |none=>exact no
 |some p=>
  obtain⟨g,v⟩:=p
  cases g with
  |false=>exact no
  |true=>cases v with
   |ref id e off len cap=>
    dsimp only
    cases hget s.H id with
    |none=>exact no
    |some o=>cases o<;>first|exact dc|exact no
   |_=>exact no
def foC(t:Nat):Ch (GO s t).1:=by
 unfold GO
 cases eget s.env t with
 |none=>exact no
 |some p=>
  obtain⟨g,v⟩:=p
  cases g with
  |false=>exact no
  |true=>cases v with
   |ref id e off len cap=>
    dsimp only
    cases hget s.H id with
    |none=>exact no
    |some o=>cases o<;>first|exact dc|exact no
   |sl t l=>exact⟨true,λ_=>trivial⟩
   |_=>exact no
def sdC(base:Nat)(cx:Nat->Fs)(ρ:Yy->Fs):∀f k,Ch (BS base cx ρ f k)
 |0,_=>⟨true,λ_=>trivial⟩
 |1,.v (.ld _ _ a)=>dc (p:=Fu base (ρ a))
 |2,.st _ a _=>dc (p:=Hh base (ρ a))
 |2,.v (.ld _ _ a)=>dc (p:=isP (ρ a))
 |k+3,.v (.ld _ _ a)=>dc (p:=atK base cx k (ρ a))
 |k+3,.st _ a _=>dc (p:=atK base cx k (ρ a))
 |k+3,.call false _ _=>dc (p:=300000<=k/\k % 2=0)
 |_,_=>no
mutual
def uB:Fs->Bool
 | .int _ _| .bool _| .str _| .nilp| .nilfn| .nilifc| .nilmp=>true
 | .sl .nil l| .sl (.none _) l| .sl (.exact _) l=>uBs l
 | .agg l| .tup l| .ep l=>uBs l
 | .fn _ a b=>uBs a&&uBs b
 |_=>false
def uBs:List Fs->Bool
 |[]=>true
 |a::l=>uB a&&uBs l
end
mutual
theorem Rd:∀v:Fs,uB v=true->v.under 0
 | .int _ _,_| .bool _,_| .str _,_| .nilp,_| .nilfn,_| .nilifc,_| .nilmp,_=>trivial
 | .sl .nil l,h| .sl (.none _) l,h| .sl (.exact _) l,h=>⟨trivial,uBs_ok l h⟩
 | .agg l,h| .tup l,h| .ep l,h=>uBs_ok l h
 | .fn _ a b,h=>by
  have h:(uBs a&&uBs b)=true:=h
  rw[V7]at h
  exact⟨uBs_ok a h.1,uBs_ok b h.2⟩
 | .ptr ..,h| .gp _,h| .sl (.own ..) _,h| .ref ..,h| .ap ..,h| .ifc ..,h| .mp _,h| .up,h=>by cases h
theorem uBs_ok:∀l:List Fs,uBs l=true->unders 0 l
 |[],_=>trivial
 |a::l,h=>by
  have h:(uB a&&uBs l)=true:=h
  rw[V7]at h
  exact⟨Rd a h.1,uBs_ok l h.2⟩
end
mutual
def flB:Fs->Bool
 | .int _ _| .bool _| .str _=>true
 | .agg l| .tup l=>flBs l
 |_=>false
def flBs:List Fs->Bool
 |[]=>true
 |a::l=>flB a&&flBs l
end
mutual
theorem TC:∀v:Fs,flB v=true->v.flat
 | .int _ _,_| .bool _,_| .str _,_=>trivial
 | .agg l,h| .tup l,h=>flBs_ok l h
 | .nilp,h| .nilfn,h| .nilifc,h| .nilmp,h| .ep _,h| .fn ..,h| .sl ..,h| .ptr ..,h| .gp _,h| .ref ..,h| .ap ..,h| .ifc ..,h| .mp _,h| .up,h=>by cases h
theorem flBs_ok:∀l:List Fs,flBs l=true->flats l
 |[],_=>trivial
 |a::l,h=>by
  have h:(flB a&&flBs l)=true:=h
  rw[V7]at h
  exact⟨TC a h.1,flBs_ok l h.2⟩
end
mutual
def vw0(H:AC):Fs->Fs
 | .ref id e off len cap=>match hget H id with
  |some (.arr _ l)=>.sl (.none e) ((l.drop off).take len)
  |_=>.tup []
 | .agg l=>.agg (vws0 H l)
 | .sl (.own _ e) l=>.sl (.none e) l
 |v=>v
def vws0(H:AC):List Fs->List Fs
 |[]=>[]
 |a::l=>vw0 H a::vws0 H l
end
mutual
def vw(H:AC):Fs->Fs
 | .ptr id off=>match hget H id with
  |some (.box cs)=>.ep (vws0 H (cs.drop off))
  |_=>.tup []
 | .agg l=>.agg (vws H l)
 | .fn f a b=>.fn f (vws H a) (vws H b)
 |v=>vw0 H v
def vws(H:AC):List Fs->List Fs
 |[]=>[]
 |a::l=>vw H a::vws H l
end
mutual
def vB0(H:AC):Fs->Bool
 | .ref id e off len cap=>match hget H id with
  |some (.arr e' l)=>decide (e'=e)&&(decide (off+len<=l.length)&&decide (len<=cap))
  |_=>false
 | .agg l=>vBs0 H l
 |_=>true
def vBs0(H:AC):List Fs->Bool
 |[]=>true
 |a::l=>vB0 H a&&vBs0 H l
end
mutual
theorem PB{H:AC}:∀v,vB0 H v=true->View H (vw0 H v) v
 | .ref id e off len cap,h=>by
  unfold vB0 at h
  split at h
  ·rename_i q
   simp only[V7,Vu]at h
   simp only[vw0,q]
   exact .ref (by rw[q,h.1]) h.2.1 h.2.2
  ·cases h
 | .agg l,h=>.agg (vBs0_ok l h)
 | .sl (.own _ e) l,_=>.wk (Wk.sl (.inl rfl))
 | .int ..,_| .bool _,_| .str _,_| .nilp,_| .nilfn,_| .nilifc,_| .nilmp,_| .ep _,_| .gp _,_| .sl .nil _,_| .sl (.none _) _,_| .sl (.exact _) _,_| .tup _,_| .ap ..,_| .ifc ..,_| .mp _,_| .up,_| .ptr ..,_| .fn ..,_=>.wk (Wk.refl _)
theorem vBs0_ok{H:AC}:∀l:List Fs,vBs0 H l=true->Views H (vws0 H l) l
 |[],_=>.nil
 |a::l,h=>by
  have h:(vB0 H a&&vBs0 H l)=true:=h
  rw[V7]at h
  exact .cons (PB a h.1) (vBs0_ok l h.2)
end
mutual
def vB(H:AC):Fs->Bool
 | .ptr id off=>match hget H id with
  |some (.box cs)=>vBs0 H (cs.drop off)
  |_=>false
 | .agg l=>vBs H l
 | .fn _ a b=>vBs H a&&vBs H b
 |v=>vB0 H v
def vBs(H:AC):List Fs->Bool
 |[]=>true
 |a::l=>vB H a&&vBs H l
end
mutual
theorem vB_ok{H:AC}:∀v,vB H v=true->View H (vw H v) v
 | .ptr id off,h=>by
  unfold vB at h
  split at h
  ·rename_i q
   simp only[vw,q]
   exact .pw q (vBs0_ok _ h)
  ·cases h
 | .agg l,h=>.agg (vBs_ok l h)
 | .fn f a b,h=>by
  have h:(vBs H a&&vBs H b)=true:=h
  rw[V7]at h
  exact .fn (vBs_ok a h.1) (vBs_ok b h.2)
 | .ref a b c d e,h=>PB (.ref a b c d e) h
 | .sl t l,h=>PB (.sl t l) h
 | .int ..,_| .bool _,_| .str _,_| .nilp,_| .nilfn,_| .nilifc,_| .nilmp,_| .ep _,_| .gp _,_| .tup _,_| .ap ..,_| .ifc ..,_| .mp _,_| .up,_=>.wk (Wk.refl _)
theorem vBs_ok{H:AC}:∀l:List Fs,vBs H l=true->Views H (vws H l) l
 |[],_=>.nil
 |a::l,h=>by
  have h:(vB H a&&vBs H l)=true:=h
  rw[V7]at h
  exact .cons (vB_ok a h.1) (vBs_ok l h.2)
end
mutual
def nB:Fs->Bool
 | .ref .. | .ptr .. =>false
 | .agg l=>nBs l
 | .fn _ [] []=>true
 | .fn .. =>false
 |_=>true
def nBs:List Fs->Bool
 |[]=>true
 |a::l=>nB a&&nBs l
end
mutual
theorem nB_ok{H:AC}:∀v,nB v=true->Wk v (vw H v)
 | .ref ..,h| .ptr ..,h| .fn _ (_::_) _,h| .fn _ [] (_::_),h=>by cases h
 | .agg l,h=>Wk.agg (nBs_ok l h)
 | .fn f [] [],_=>Wk.refl _
 | .sl (.own _ e) l,_=>Wk.sl (.inl rfl)
 | .int ..,_| .bool _,_| .str _,_| .nilp,_| .nilfn,_| .nilifc,_| .nilmp,_| .ep _,_| .gp _,_| .sl .nil _,_| .sl (.none _) _,_| .sl (.exact _) _,_| .tup _,_| .ap ..,_| .ifc ..,_| .mp _,_| .up,_=>Wk.refl _
theorem nBs_ok{H:AC}:∀l:List Fs,nBs l=true->Wks l (vws H l)
 |[],_=>.nil
 |a::l,h=>by
  have h:(nB a&&nBs l)=true:=h
  rw[V7]at h
  exact .cons (nB_ok a h.1) (nBs_ok l h.2)
end
end
def iI(k:IntKind):Fs->Bool
 | .int k' _=>decide (k'=k)
 |_=>false
def iN:Fs->Bool
 | .int _ _=>true
 |_=>false
def iB:Fs->Bool
 | .bool _=>true
 |_=>false
def iS:Fs->Bool
 | .str _=>true
 |_=>false
def iT:Fs->Bool
 | .tup _=>false
 |_=>true
def NL{k:IntKind}{v:Fs}(h:iI k v=true):isI k v:=by cases v<;>simp_all [iI,isI]
def iN_ok{v:Fs}(h:iN v=true):CP v:=by cases v<;>simp_all [iN,CP]
def NN{v:Fs}(h:iB v=true):isB v:=by cases v<;>simp_all [iB,isB]
def Ua{v:Fs}(h:iS v=true):isS v:=by cases v<;>simp_all [iS,isS]
def Ub{v:Fs}(h:iT v=true):nT v:=by cases v<;>simp_all [iT,nT]
def fitB:List Nat->List Fs->List Fs->Bool
 |[],[],[]=>true
 |0::fs,.int k _::xs,.int k' _::ys=>decide (k=k')&&fitB fs xs ys
 |1::fs,.bool _::xs,.bool _::ys=>fitB fs xs ys
 |2::fs,.str _::xs,.str _::ys=>fitB fs xs ys
 |_,_,_=>false
def Uc(f:List Nat)(x y:List Fs)(h:fitB f x y=true):cfit f x y:=by
 fun_induction fitB f x y<;>simp_all [cfit]
def okB(H:AC)(ρ:Yy->Fs):Z1->Bool
 | .mv _=>true
 | .arith op k x y=>iI k (ρ x)&&iI k (ρ y)&&(!Jp op||decide (toI (ρ y)≠0))
 | .shift op k ky x y=>iI k (ρ x)&&iI ky (ρ y)&&decide (0<=toI (ρ y))
 | .icmp op k x y=>iI k (ρ x)&&iI k (ρ y)
 | .beq _ x y=>iB (ρ x)&&iB (ρ y)
 | .scmp op x y=>iS (ρ x)&&iS (ρ y)
 | .not x=>iB (ρ x)
 | .fa _ x=>match ρ x with
  | .ptr _ _| .ep _=>true
  |_=>false
 | .ld sz _ x=>match ρ x with
  | .ptr id off=>(match hget H id with
   |some (.box cs)=>decide (off+sz<=cs.length)
   |_=>false)
  | .ep cs=>decide (sz<=cs.length)
  |_=>false
 | .ia esz x i=>match ρ x with
  | .sl tok l=>decide (tok.esz=esz)&&iN (ρ i)&&decide (0<=toI (ρ i))&&decide (toI (ρ i)<l.length)
  |_=>false
 | .len x=>match ρ x with
  | .sl _ _=>true
  |_=>false
 | .lenS x=>iS (ρ x)
 | .build zero parts=>parts.all λp=>iT (ρ p.2.2)&&decide ((ρ p.2.2).cells.length=p.2.1)&&decide (p.1+p.2.1<=zero.length)
 | .bs esz n zero parts=>(parts.all λp=>iT (ρ p.2)&&decide ((ρ p.2).cells.length=esz)&&decide (p.1<n))&&decide (zero.cells.length=esz)&&decide (n*esz<=16777216)
 | .fn _ _ _=>true
 | .ext i x=>match ρ x with
  | .tup vs=>decide (i<vs.length)
  |_=>false
 | .aeq _ fs x y=>match ρ x,ρ y with
  | .agg xs,.agg ys=>fitB fs xs ys
  |_,_=>false
 |_=>false
def okB_ok{H:AC}{ρ:Yy->Fs}{k:Z1}(h:okB H ρ k=true):(evk H ρ k).1:=by
 cases k<;>simp only[okB,W5,V7,Wd,Xu,Vu,W4]at h
 case mv=>trivial
 case arith=>exact⟨NL h.1.1,NL h.1.2,λq=>by
  rcases h.2 with h|h; ·rw[h]at q;cases q
  ·exact h⟩
 case shift=>exact⟨NL h.1.1,NL h.1.2,h.2⟩
 case icmp=>exact⟨NL h.1,NL h.2⟩
 case beq=>exact⟨NN h.1,NN h.2⟩
 case scmp=>exact⟨Ua h.1,Ua h.2⟩
 case not=>exact NN h
 case fa=>simp only[evk];split at h<;>simp_all
 case ld sz ag x=>
  simp only[evk]
  generalize ρ x=v at h
  cases v<;>simp only[W5]at h
  case ptr id off=>
   simp only[Ay]
   split at h
   ·rename_i q;rw[q];exact Wn h
   ·cases h
  case ep cs=>simp only[Ay];exact Wn h
 case ia esz x i=>
  simp only[evk]
  split at h
  ·rename_i q
   simp only[V7,Vu]at h
   rw[q]
   exact⟨h.1.1.1,iN_ok h.1.1.2,h.1.2,h.2⟩
  ·cases h
 case len=>simp only[evk];split at h<;>simp_all
 case lenS=>exact Ua h
 case build=>exact λp hp=>⟨Ub (h p hp).1.1,(h p hp).1.2,(h p hp).2⟩
 case bs=>exact⟨λp hp=>⟨Ub (h.1.1 p hp).1.1,(h.1.1 p hp).1.2,(h.1.1 p hp).2⟩,h.1.2,h.2⟩
 case fn=>trivial
 case ext=>
  simp only[evk]
  split at h
  ·rename_i q
   rw[q]
   exact Wn h
  ·cases h
 case aeq=>
  simp only[evk]
  split at h
  ·rename_i q q'
   rw[q,q']
   exact Uc _ _ _ h
  ·cases h
def okF(H:AC)(ρ:Yy->Fs)(k:Z1):Bool:=okB H ρ k||(okv H ρ k).1
def okF_ok{H:AC}{ρ:Yy->Fs}{k:Z1}(h:okF H ρ k=true):(evk H ρ k).1:=((Wd _ _).mp h).elim okB_ok (okv H ρ k).2
def seen(H:AC)(l:List Fs)(r:Fs):Prop:=Wks l (vws H l)\/(unders 0 (vws H l)/\Views H (vws H l) l/\r.flat)
def seB(H:AC)(l:List Fs)(r:Fs):Bool:=nBs l||(uBs (vws H l)&&(vBs H l&&flB r))
def TD{H:AC}{l:List Fs}{r:Fs}(h:seB H l r=true):seen H l r:=by
 simp only[seB,Wd,V7]at h
 exact h.imp (nBs_ok l) λq=>⟨uBs_ok _ q.1,vBs_ok l q.2.1,TC r q.2.2⟩
abbrev CT:=FuncId->List Fs->Option Fs
abbrev ET:=FuncId->List Fs->AC->Nat->Option (Zb×AC×Nat×List Nat)
def Fr(T:List Nat)(H H':AC):Prop:=∀id,id∉T->hget H' id=hget H id
def Fr.same{T:List Nat}{H:AC}:Fr T H H:=λ_ _=>rfl
def Fr.set{T:List Nat}{H:AC}{i:Nat}{o:Z7}(h:i∈T):Fr T H (hset H i o):=λj hj=>by rw[AJ,V5 (by rintro rfl;exact hj h)]
def Fr.trans{T U:List Nat}{H H1 H2:AC}(h:Fr T H H1)(k:Fr U H1 H2):Fr (T++U) H H2:=λj hj=>by
 rw[WH,not_or]at hj
 rw[k j hj.2,h j hj.1]
def TX(C:CT):Tab:=λf l H=>match C f (vws H l)with
 |some r=>(seen H l r,r)
 |none=>(False,.tup [])
def COK(P:Program)(C:CT):Prop:=∀f l r,C f l=some r->∃a,Wks l a/\Pur P f a r
def EOK(P:Program)(E:ET):Prop:=∀f l H n o H' n' T,E f l H n=some (o,H',n',T)->Fr T H H'/\∀R:Zb->AC->Nat->Prop,R o H' n'->AN P f l H n R
def NO{P:Program}{C:CT}(h:COK P C):AI P (TX C):=by
 intro f l H n q
 unfold TX at q⊢
 split at q
 ·rename_i r e
  obtain⟨a,w,p⟩:=h _ _ _ e
  rcases q with q|q
  ·exact AN.args (p.quiet H n) λg vs hv=>w.rel vs (q.rel vs hv)
  ·exact Pur.view ⟨q.1,p.2.1,AN.args p.2.2 λg vs hv=>w.rel vs hv⟩ q.2.2 q.2.1 n
 ·exact q.elim
def goB(env:List (Nat×Bool×Fs)):Option (Nat×Bool)->Bool
 |none=>true
 |some (t,_)=>match eget env t with
  |none=>false
  |some (g,v)=>!g||iB v
def PC{env:List (Nat×Bool×Fs)}{g:Option (Nat×Bool)}(h:goB env g=true):gok env g:=by
 cases g with
 |none=>trivial
 |some tw=>
  obtain⟨t,w⟩:=tw
  simp only[goB]at h
  simp only[gok]
  split at h
  ·cases h
  ·rename_i g v q
   rw[q]
   intro e
   rw[e]at h
   exact NN h
def oB(env:List (Nat×Bool×Fs))(l:List Yy):Bool:=l.all λx=>(lk env x).1
theorem NP{env:List (Nat×Bool×Fs)}:∀{l:List Yy},oB env l=true->oks env l
 |[],_=>trivial
 |x::l,h=>by
  simp only[oB,Xr,V7]at h
  exact⟨h.1,NP h.2⟩
def AY{α:Type}{b:Bool}{x:Option α}{y:α}(h:(bif b then x else none)=some y):b=true/\x=some y:=by
 cases b
 ·cases h
 ·exact⟨rfl,h⟩
def go(d:Option Nat)(s:AS)(b:Bool)(H:AC)(v:Fs):Option AS:=bif b then some ({s with H:=H}.put d true v)else none
def xeff(base:Nat)(o:Z9)(s:AS):Option AS:=match o.k with
 | .alloc rel cs=>go o.dst s (hget s.H (base+rel)).isNone (hset s.H (base+rel) (.box cs)) (.ptr (base+rel) 0)
 | .box rel sz x=>go o.dst s ((hget s.H (base+rel)).isNone&&(iT (lkv s.env x)&&decide ((lkv s.env x).cells.length=sz))) (hset s.H (base+rel) (.box (lkv s.env x).cells)) (.ptr (base+rel) 0)
 | .st sz a x=>go o.dst s (decide (nT (lkv s.env x)/\(lkv s.env x).cells.length=sz)&&(stC (H:=s.H) sz (lkv s.env x) (lkv s.env a)).1) (stE s.H sz (lkv s.env x) (lkv s.env a)).2 (.tup [])
 | .app rel e b x y t=>go o.dst s (apC (H:=s.H) (base+rel) e b (lkv s.env x) (Bz s.H (lkv s.env) e y t)).1 (appE s.H (base+rel) e b (lkv s.env x) (Bz s.H (lkv s.env) e y t)).2.1 (appE s.H (base+rel) e b (lkv s.env x) (Bz s.H (lkv s.env) e y t)).2.2
 | .mks rel e b z x=>go o.dst s (decide (hget s.H (base+rel)=none/\CP (lkv s.env x)/\0<=toI (lkv s.env x)/\small (toI (lkv s.env x)).toNat b/\toI (lkv s.env x)<=35184372088832/\z.cells.length=e)) (mksE s.H (base+rel) e b z (lkv s.env x)).2.1 (mksE s.H (base+rel) e b z (lkv s.env x)).2.2
 | .slA n x lo hi=>go o.dst s (decide (bndI (lkv s.env) lo/\bndI (lkv s.env) hi)&&(slC (H:=s.H) n (bnd (lkv s.env) 0 lo) (bnd (lkv s.env) n hi) (lkv s.env x)).1) (slAE s.H n (bnd (lkv s.env) 0 lo) (bnd (lkv s.env) n hi) (lkv s.env x)).2.1 (slAE s.H n (bnd (lkv s.env) 0 lo) (bnd (lkv s.env) n hi) (lkv s.env x)).2.2
 | .ext x xs=>go o.dst s (xC (H:=s.H) base x (xs.map (lkv s.env))).1 (xE base x s.H (xs.map (lkv s.env))).2.1 (xE base x s.H (xs.map (lkv s.env))).2.2
 | .nils q x=>(match lkv s.env x with
  | .sl .nil []=>go o.dst s true s.H (.bool !q)
  | .sl _ (_::_)=>go o.dst s true s.H (.bool q)
  | .ref .. =>go o.dst s true s.H (.bool q)
  |_=>none)
 |_=>none
def Ud{P:Program}{Qp:Fs->AC->Nat->Prop}{base:Nat}{o:Z9}{K:AS->Prop}{s s':AS}(h:xeff base o s=some s')(hK:K s'):A5 P Qp base o K s:=by
 obtain⟨d,g,k⟩:=o
 cases k<;>simp only[xeff,reduceCtorEq,go]at h
 case alloc=>
  obtain⟨h1,h⟩:=AY h
  cases h
  exact⟨Option.isNone_iff_eq_none.1 h1,hK⟩
 case box=>
  obtain⟨h1,h⟩:=AY h
  cases h
  simp only[V7,Vu]at h1
  exact⟨Option.isNone_iff_eq_none.1 h1.1,Ub h1.2.1,h1.2.2,hK⟩
 case st sz a x=>
  obtain⟨h1,h⟩:=AY h
  cases h
  rw[V7]at h1
  have e:=Wn h1.1
  have q:stAt s.H sz (lkv s.env x) (λH'=>K ({s with H:=H'}.put d true (.tup []))) (lkv s.env a):=by
   rw[KP]
   exact⟨(stC _ _ _).2 h1.2,hK⟩
  exact⟨e.1,e.2,q⟩
 case app rel e b x y t=>
  obtain⟨h1,h⟩:=AY h
  cases h
  have q:K9 s.H (base+rel) e b (λH' v=>K ({s with H:=H'}.put d true v)) (lkv s.env x) (Bz s.H (lkv s.env) e y t):=by
   rw[Ld]
   exact⟨(apC _ _ _ _ _).2 h1,hK⟩
  exact q
 case mks=>
  obtain⟨h1,h⟩:=AY h
  cases h
  have e:=Wn h1
  exact⟨e.1,e.2.1,e.2.2.1,e.2.2.2.1,e.2.2.2.2.1,e.2.2.2.2.2,hK⟩
 case slA n x lo hi=>
  obtain⟨h1,h⟩:=AY h
  cases h
  rw[V7]at h1
  have e:=Wn h1.1
  refine⟨e.1,e.2,?_⟩
  rw[QG]
  exact⟨(slC _ _ _ _).2 h1.2,hK⟩
 case ext=>
  obtain⟨h1,h⟩:=AY h
  cases h
  exact⟨(xC _ _ _).2 h1,hK⟩
 case nils q x=>
  show FU (λb=>K (s.put d true (.bool b))) q (lkv s.env x)
  split at h
  ·rename_i e;rw[e];cases h;exact hK
  ·rename_i t _ _ e;rw[e];cases h;cases t<;>exact hK
  ·rename_i e;rw[e];cases h;exact hK
  ·cases h
def hdZq:List Fs->List Nat
 | .mp id::_| .ptr id _::_| .ref id .. ::_| .ap id .. ::_| .sl (.own id _) _::_=>[id]
 |_=>[]
def tch(base:Nat)(o:Z9)(s:AS):List Nat:=match o.k with
 | .alloc rel _| .box rel _ _| .mks rel .. =>[base+rel]
 | .app rel _ _ x _ _=>(base+rel)::hdZq [lkv s.env x]
 | .st _ a _=>hdZq [lkv s.env a]
 | .slA _ x _ _=>hdZq [lkv s.env x]
 | .ext x xs=>(match x with
  | .mkm rel| .srng rel| .mrng rel| .bsm rel .. | .mkc rel .. =>[base+rel]
  |_=>[])++hdZq (xs.map (lkv s.env))
 |_=>[]
def D7{T:List Nat}{s s1:AS}{d:Option Nat}{g:Bool}{v:Fs}(h:Fr T s.H s1.H):Fr T s.H (s1.put d g v).H:=by rw[Mt];exact h
def Ue{T:List Nat}{H:AC}{v u:Fs}{l:List Fs}:Fr (T++hdZq (v::l)) H (cpbE H v u).2.1:=by
 unfold cpbE
 split
 ·split<;>first|exact Fr.same|exact Fr.set (by simp [hdZq])
 ·exact Fr.same
def Uf{T:List Nat}{H:AC}{n e:Nat}{lo hi:Int}{v:Fs}{l:List Fs}:Fr (T++hdZq (v::l)) H (slxE H n e lo hi v).2.1:=by
 unfold slxE
 split
 ·split<;>first|exact Fr.same|exact Fr.set (by simp [hdZq])
 ·exact Fr.same
def Ug{base:Nat}{o:Z9}{s s':AS}(h:xeff base o s=some s'):Fr (tch base o s) s.H s'.H:=by
 obtain⟨d,g,k⟩:=o
 cases k<;>simp only[xeff,reduceCtorEq,go]at h
 case nils q x=>split at h<;>first|(cases h;exact D7 Fr.same)|cases h
 all_goals
  obtain⟨h1,h⟩:=AY h
  cases h
  refine D7 ?_
  simp only[tch]
 case alloc=>exact Fr.set zw
 case box=>exact Fr.set zw
 case mks=>exact Fr.set zw
 case st sz a x=>
  generalize lkv s.env a=v
  cases v<;>simp only[stE]<;>first|exact Fr.same|(split<;>first|exact Fr.same|exact Fr.set (by simp [hdZq]))
 case slA n x lo hi=>
  generalize lkv s.env x=v
  unfold slAE
  split
  ·split<;>first|exact Fr.same|exact Fr.set (by simp [hdZq])
  ·exact Fr.same
 case app rel e b x y t=>
  generalize lkv s.env x=v,Bz s.H (lkv s.env) e y t=u
  unfold appE
  split
  ·rename_i tk l l'
   cases tk<;>simp only[AL,hdZq]
   case own=>exact λj hj=>by simp only[Wp,not_or]at hj;rw[AJ,V5 (Ne.symm hj.1),AJ,V5 (Ne.symm hj.2.1)]
   all_goals exact Fr.set zw
  ·exact Fr.same
 case ext x xs=>
  generalize xs.map (lkv s.env)=l
  cases x<;>(unfold xE;try dsimp only)<;>(repeat' split)<;>first|with_reducible exact Fr.same|with_reducible exact Uf|with_reducible exact Ue|exact Fr.set (by simp_all [hdZq])
def xop(C:CT)(base:Nat)(o:Z9)(s:AS):Option AS:=
 bif goB s.env o.guard then match o.k with
  | .v k=>bif !gvb s.env o.guard||(oB s.env k.opds&&okF s.H (lkv s.env) k)then some (s.put o.dst (gvb s.env o.guard) (evk s.H (lkv s.env) k).2)else none
  | .pick c a b=>bif !gvb s.env o.guard||((lk s.env c).1&&iB (lkv s.env c)&&(bif toB (lkv s.env c)then(lk s.env a).1 else(lk s.env b).1))then some (s.put o.dst (gvb s.env o.guard) (sel (toB (lkv s.env c)) (lkv s.env a) (lkv s.env b)))else none
  | .call true f l=>bif gvb s.env o.guard then(bif (lk s.env f).1&&oB s.env l then(match lkv s.env f with
    | .fn (.func i) a b=>(match C i (vws s.H (a++l.map (lkv s.env)++b))with
     |some r=>bif seB s.H (a++l.map (lkv s.env)++b) r then some (s.put o.dst true r)else none
     |none=>none)
    |_=>none)else none)else some (s.put o.dst false (Fd (TX C) (l.map (lkv s.env)) s.H (lkv s.env f)).2)
  | .cpu f l=>bif gvb s.env o.guard then(bif (lk s.env f).1&&oB s.env l then(match lkv s.env f with
    | .fn (.func i) a b=>(match C i (vws hnil (a++l.map (lkv s.env)++b))with
     |some r=>bif seB hnil (a++l.map (lkv s.env)++b) r&&(uBs (a++l.map (lkv s.env)++b)&&uB r)then some (s.put o.dst true r)else none
     |none=>none)
    |_=>none)else none)else some (s.put o.dst false (.tup []))
  |_=>bif gvb s.env o.guard then(bif oB s.env o.k.opds then xeff base o s else none)else some (s.put o.dst false (.tup []))
 else none
def TE{P:Program}{C:CT}{Qp:Fs->AC->Nat->Prop}{base:Nat}{o:Z9}{K:AS->Prop}{s s':AS}(h:xop C base o s=some s')(hK:K s'):BJ P (TX C) Qp base o K s:=by
 unfold xop at h
 have hb:=AY h
 clear h
 obtain⟨hz,h⟩:=hb
 have h0:=PC hz
 clear hz
 have eff:(bif gvb s.env o.guard then(bif oB s.env o.k.opds then xeff base o s else none)else some (s.put o.dst false (.tup [])))=some s'->(gvb s.env o.guard=true->oks s.env o.k.opds/\A5 P Qp base o K s)/\(gvb s.env o.guard=false->K (s.put o.dst false (.tup []))):=by
  intro h
  cases hg:gvb s.env o.guard<;>rw[hg]at h
  ·cases h
   exact⟨λq=>(by cases q),λ_=>hK⟩
  ·obtain⟨h1,h⟩:=AY h
   exact⟨λ_=>⟨NP h1,Ud h hK⟩,λq=>(by cases q)⟩
 obtain⟨d,g,k⟩:=o
 cases k<;>simp only[reduceCtorEq]at h
 case v k=>
  obtain⟨h1,h⟩:=AY h
  cases h
  refine⟨h0,λq=>?_,hK⟩
  rw[q]at h1
  simp only[V3,Xx,V7]at h1
  exact⟨NP h1.1,okF_ok h1.2⟩
 case pick c a b=>
  obtain⟨h1,h⟩:=AY h
  cases h
  refine⟨h0,λq=>?_,hK⟩
  rw[q]at h1
  simp only[V3,Xx,V7]at h1
  refine⟨h1.1.1,NN h1.1.2,λe=>?_,λe=>?_⟩<;>(have:=h1.2;rw[e]at this;exact this)
 case call q f l=>
  cases q
  ·exact(show AU P Qp base ⟨d,g,.call false f l⟩ K s from⟨h0,eff h⟩)
  dsimp only at h
  cases hg:gvb s.env g<;>rw[hg]at h
  ·cases h
   simp only[BJ,hg]
   exact⟨h0,λq=>(by cases q),hK⟩
  ·obtain⟨h1,h⟩:=AY h
   simp only[V7]at h1
   split at h
   ·rename_i i a b e
    split at h
    ·rename_i r e'
     obtain⟨h2,h⟩:=AY h
     cases h
     have hc:Fd (TX C) (l.map (lkv s.env)) s.H (lkv s.env f)=(seen s.H (a++l.map (lkv s.env)++b) r,r):=by rw[e];simp only[Fd,TX,e']
     simp only[BJ,hg,hc]
     exact⟨h0,λ_=>⟨h1.1,NP h1.2,TD h2⟩,hK⟩
    ·cases h
   ·cases h
 case cpu f l=>
  cases hg:gvb s.env g<;>rw[hg]at h
  ·cases h
   simp only[BJ,hg]
   exact⟨h0,λq=>(by cases q),λ_=>hK⟩
  ·obtain⟨h1,h⟩:=AY h
   simp only[V7]at h1
   split at h
   ·rename_i i a b e
    split at h
    ·rename_i r e'
     obtain⟨h2,h⟩:=AY h
     cases h
     simp only[V7]at h2
     have hc:cpuT (TX C) (l.map (lkv s.env)) (lkv s.env f)=(seen hnil (a++l.map (lkv s.env)++b) r/\unders 0 (a++l.map (lkv s.env)++b)/\r.under 0,r):=by rw[e];simp only[cpuT,TX,e']
     simp only[BJ,hg,hc]
     exact⟨h0,λ_=>⟨⟨h1.1,NP h1.2,TD h2.1,uBs_ok _ h2.2.1,Rd _ h2.2.2⟩,hK⟩,λq=>(by cases q)⟩
    ·cases h
   ·cases h
 all_goals exact⟨h0,eff h⟩
def xst(C:CT)(E:ET)(base:Nat)(o:Z9)(s:AS):Option (Option Fs×AS×List Nat):=match o.k with
 | .call false f l=>bif goB s.env o.guard then(bif gvb s.env o.guard then(bif (lk s.env f).1&&oB s.env l then(match lkv s.env f with
   | .fn (.func i) a b=>(match E i (a++l.map (lkv s.env)++b) s.H s.n with
    |some (.ret v,H',n',T)=>some (none,{s with H:=H',n:=n'}.put o.dst true v,T)
    |some (.pan v,H',n',T)=>some (some v,⟨[],H',n'⟩,T)
    |none=>none)
   |_=>none)else none)else some (none,s.put o.dst false (.tup []),[]))else none
 | .pan x=>bif goB s.env o.guard then(bif gvb s.env o.guard then(bif (lk s.env x).1&&decide (isF (lkv s.env x))then some (some (lkv s.env x),⟨[],s.H,s.n⟩,[])else none)else some (none,s.put o.dst false (.tup []),[]))else none
 |_=>(xop C base o s).map λs'=>(none,s',tch base o s)
def PK(Qp:Fs->AC->Nat->Prop)(K:AS->Prop):Option Fs×AS×List Nat->Prop
 |(none,s,_)=>K s
 |(some v,s,_)=>Qp v s.H s.n
def ML{P:Program}{C:CT}{E:ET}(hE:EOK P E){Qp:Fs->AC->Nat->Prop}{base:Nat}{o:Z9}{K:AS->Prop}{s:AS}{r:Option Fs×AS×List Nat}(h:xst C E base o s=some r)(hK:PK Qp K r):BJ P (TX C) Qp base o K s:=by
 unfold xst at h
 split at h
 ·rename_i f l e
  obtain⟨d,g,k⟩:=o
  cases e
  obtain⟨hz,h⟩:=AY h
  show AU P Qp base ⟨d,g,.call false f l⟩ K s
  refine⟨PC hz,λq=>?_,λq=>?_⟩
  ·simp only[q,cond_true]at h
   obtain⟨h1,h⟩:=AY h
   rw[V7]at h1
   refine⟨⟨h1.1,NP h1.2⟩,?_⟩
   simp only[A5]
   split at h
   ·rename_i e
    rw[e]
    split at h
    ·rename_i e'
     cases h
     exact(hE _ _ _ _ _ _ _ _ e').2 _ hK
    ·rename_i e'
     cases h
     exact(hE _ _ _ _ _ _ _ _ e').2 _ hK
    ·cases h
   ·cases h
  ·simp only[q,cond_false,Option.some.injEq]at h
   subst h
   exact hK
 ·rename_i x e
  obtain⟨d,g,k⟩:=o
  cases e
  obtain⟨hz,h⟩:=AY h
  show AU P Qp base ⟨d,g,.pan x⟩ K s
  refine⟨PC hz,λq=>?_,λq=>?_⟩
  ·simp only[q,cond_true]at h
   obtain⟨h1,h⟩:=AY h
   rw[V7]at h1
   cases h
   exact⟨⟨h1.1,trivial⟩,Wn h1.2,hK⟩
  ·simp only[q,cond_false,Option.some.injEq]at h
   subst h
   exact hK
 ·cases hx:xop C base o s with
  |none=>rw[hx]at h;cases h
  |some s'=>
   rw[hx]at h
   cases h
   exact TE hx hK
def TF{C:CT}{base:Nat}{o:Z9}{s s':AS}(h:xop C base o s=some s'):Fr (tch base o s) s.H s'.H:=by
 unfold xop at h
 have hb:=AY h
 clear h
 obtain⟨hz,h⟩:=hb
 obtain⟨d,g,k⟩:=o
 have eff:(bif gvb s.env g then(bif oB s.env k.opds then xeff base ⟨d,g,k⟩ s else none)else some (s.put d false (.tup [])))=some s'->Fr (tch base ⟨d,g,k⟩ s) s.H s'.H:=by
  intro h
  cases hg:gvb s.env g<;>rw[hg]at h
  ·cases h;exact D7 Fr.same
  ·exact Ug (AY h).2
 cases k<;>simp only[reduceCtorEq]at h
 case v=>have h:=(AY h).2;cases h;exact D7 Fr.same
 case pick=>have h:=(AY h).2;cases h;exact D7 Fr.same
 case cpu=>
  cases hg:gvb s.env g<;>rw[hg]at h
  ·cases h;exact D7 Fr.same
  ·have h:=(AY h).2
   split at h
   ·split at h
    ·have h:=(AY h).2;cases h;exact D7 Fr.same
    ·cases h
   ·cases h
 case call q f l=>
  cases q
  ·exact eff h
  dsimp only at h
  cases hg:gvb s.env g<;>rw[hg]at h
  ·cases h;exact D7 Fr.same
  ·have h:=(AY h).2
   split at h
   ·split at h
    ·have h:=(AY h).2;cases h;exact D7 Fr.same
    ·cases h
   ·cases h
 all_goals exact eff h
def Jm{P:Program}{C:CT}{E:ET}(hE:EOK P E){base:Nat}{o:Z9}{s s':AS}{p:Option Fs}{T:List Nat}(h:xst C E base o s=some (p,s',T)):Fr T s.H s'.H:=by
 unfold xst at h
 split at h
 ·have h:=(AY h).2
  cases hg:gvb s.env o.guard<;>rw[hg]at h
  ·cases h;exact D7 Fr.same
  ·have h:=(AY h).2
   split at h
   ·split at h
    ·rename_i e;cases h;exact D7 (hE _ _ _ _ _ _ _ _ e).1
    ·rename_i e;cases h;exact(hE _ _ _ _ _ _ _ _ e).1
    ·cases h
   ·cases h
 ·have h:=(AY h).2
  cases hg:gvb s.env o.guard<;>rw[hg]at h
  ·cases h;exact D7 Fr.same
  ·have h:=(AY h).2;cases h;exact Fr.same
 ·cases hx:xop C base o s with
  |none=>rw[hx]at h;cases h
  |some s1=>rw[hx]at h;cases h;exact TF hx
def more(T:List Nat):Option (Option Fs×AS×List Nat)->Option (Option Fs×AS×List Nat)
 |some (p,s,U)=>some (p,s,T++U)
 |none=>none
def xops(C:CT)(E:ET)(base:Nat):List Z9->AS->Option (Option Fs×AS×List Nat)
 |[],s=>some (none,s,[])
 |o::r,s=>match xst C E base o s with
  |some (none,s',T)=>more T (xops C E base r s')
  |x=>x
def kyC(cx:Nat->Fs)(H:AC)(T:List Nat):∀f k,Ch (∀H',Fr T H H'->EJ cx f k H H')
 |0,k=>⟨true,λ_ _ _=>by rw[Dp];trivial⟩
 |_,.v _=>⟨true,λ_ _ _=>by rw[PH];trivial⟩
 |_,.st _ _ _=>⟨true,λ_ _ _=>by rw[MP];trivial⟩
 |k+3,.call false _ _=>cm (p:=∀id∈T,addr id (cx ((k-300000)/2))\/hget H id=none) (λh H' hf=>by
   show FW _ _ _
   intro id h1 h2
   exact hf id λhm=>(h id hm).elim h1 h2) dc
 |_,_=>no
def xopx(C:CT)(E:ET)(base:Nat)(cx:Nat->Fs):List (Nat×Z9)->AS->Option (Option Fs×AS×List Nat)
 |[],s=>some (none,s,[])
 |o::r,s=>bif !gvb s.env o.2.guard||(sdC base cx (lkv s.env) o.1 o.2.k).1 then(match xst C E base o.2 s with
  |some (none,s',T)=>bif (kyC cx s.H T o.1 o.2.k).1 then more T (xopx C E base cx r s')else none
  |x=>x)else none
section
variable {P:Program} {C:CT} {E:ET} (hE:EOK P E) {Qp:Fs->AC->Nat->Prop} {base:Nat} {K:AS->Prop}
theorem Jn{T:List Nat}{y:Option (Option Fs×AS×List Nat)}{x:Option Fs×AS×List Nat}(h:more T y=some x):∃U,y=some (x.1,x.2.1,U)/\x.2.2=T++U:=by
 cases y with
 |none=>cases h
 |some y=>obtain⟨p,s,U⟩:=y;cases h;exact⟨U,rfl,rfl⟩
theorem TG{x:Option Fs×AS×List Nat}{U:List Nat}(h:PK Qp K x):PK Qp K (x.1,x.2.1,U):=by
 obtain⟨a,b,c⟩:=x
 cases a<;>exact h
include hE
theorem Gh:∀{l:List Z9} {s:AS} {x:Option Fs×AS×List Nat},xops C E base l s=some x->PK Qp K x->runT P (TX C) Qp base l K s/\Fr x.2.2 s.H x.2.1.H
 |[],s,x,h,hK=>by cases h;exact⟨hK,Fr.same⟩
 |o::r,s,x,h,hK=>by
  unfold xops at h
  split at h
  ·rename_i s' T e
   obtain⟨U,h,hT⟩:=Jn h
   have ih:=Gh h (TG hK)
   rw[hT]
   exact⟨ML hE e ih.1,(Jm hE e).trans ih.2⟩
  ·rename_i q
   obtain⟨a,b,T⟩:=x
   refine⟨ML hE h ?_,Jm hE h⟩
   cases a
   ·exact absurd h (q _ _)
   ·exact hK
theorem Gi{cx:Nat->Fs}:∀{l:List (Nat×Z9)} {s:AS} {x:Option Fs×AS×List Nat},xopx C E base cx l s=some x->PK Qp K x->DM P (TX C) Qp base cx l K s/\Fr x.2.2 s.H x.2.1.H
 |[],s,x,h,hK=>by cases h;exact⟨hK,Fr.same⟩
 |o::r,s,x,h,hK=>by
  unfold xopx at h
  obtain⟨h1,h⟩:=AY h
  have hs:gvb s.env o.2.guard=true->BS base cx (lkv s.env) o.1 o.2.k:=λq=>(sdC _ _ _ _ _).2 (by rwa[q]at h1)
  split at h
  ·rename_i s' T e
   obtain⟨h2,h⟩:=AY h
   obtain⟨U,h,hT⟩:=Jn h
   have ih:=Gi h (TG hK)
   rw[hT]
   exact⟨⟨hs,ML hE e ⟨(kyC _ _ _ _ _).2 h2 _ (Jm hE e),ih.1⟩⟩,(Jm hE e).trans ih.2⟩
  ·rename_i q
   obtain⟨a,b,T⟩:=x
   refine⟨⟨hs,ML hE h ?_⟩,Jm hE h⟩
   cases a
   ·exact absurd h (q _ _)
   ·exact hK
end
def done(keep:List Nat):Option Fs×AS×List Nat->Z3×AS×List Nat
 |(none,s,T)=>(.normal,s.keep keep,T)
 |(some v,s,T)=>(.pan v,⟨[],s.H,s.n⟩,T)
def Uh(T:List Nat):Option (Z3×AS×List Nat)->Option (Z3×AS×List Nat)
 |some (e,s,U)=>some (e,s,T++U)
 |none=>none
def Hx{T:List Nat}{y:Option (Z3×AS×List Nat)}{e:Z3}{s:AS}{V:List Nat}(h:Uh T y=some (e,s,V)):∃U,y=some (e,s,U)/\V=T++U:=by
 cases y with
 |none=>cases h
 |some y=>obtain⟨p,s,U⟩:=y;cases h;exact⟨U,rfl,rfl⟩
def hdF(s:AS)(t:Nat):List Nat:=match eget s.env t with
 |some (true,.ref id ..)|some (true,.ptr id _)=>[id]
 |_=>[]
def Ui{s:AS}{t:Nat}:Fr (hdF s t) s.H (frzE s t).2.H:=by
 cases h:eget s.env t with
 |none=>simp only[frzE,hdF,h];exact Fr.same
 |some p=>
  obtain⟨g,v⟩:=p
  cases g<;>cases v<;>simp only[frzE,hdF,h]<;>first|exact Fr.same|(repeat' split)<;>first|exact Fr.same|exact Fr.set (Wu ..)|exact Fr.set (by simp_all)
def Re{s:AS}{t:Nat}:Fr (s.n::hdF s t) s.H (GO s t).2.H:=by
 cases h:eget s.env t with
 |none=>simp only[GO,hdF,h];exact Fr.same
 |some p=>
  obtain⟨g,v⟩:=p
  cases g<;>cases v<;>simp only[GO,hdF,h]<;>first|exact Fr.same|(split<;>first|exact Fr.same|(intro j hj;simp only[Wp,not_or]at hj;show hget (hset (hset s.H _ _) _ _) j=_;rw[AJ,V5 (Ne.symm hj.1),AJ,V5 (Ne.symm hj.2.1)]))
def xc(C:CT)(E:ET):Nat->Yw->AS->Option (Z3×AS×List Nat)
 |0,_,_=>none
 |n+1,c,s=>match c with
  | .skip=>some (.normal,s,[])
  | .reg bump ops keep=>(xops C E s.n ops {s with n:=s.n+bump}).map (done keep)
  | .regx bump ops keep=>(xopx C E s.n (cxOf s.env s.n) ops {s with n:=s.n+bump}).map (done keep)
  | .frz t=>bif (fzC (s:=s) t).1 then some (.normal,(frzE s t).2,hdF s t)else none
  | .frzo t=>bif (foC (s:=s) t).1 then some (.normal,(GO s t).2,s.n::hdF s t)else none
  | .seq a b=>(match xc C E n a s with
   |some (.normal,s',T)=>Uh T (xc C E n b s')
   |r=>r)
  | .cond c a b=>bif (lk s.env c).1&&iB (lkv s.env c)then(bif toB (lkv s.env c)then xc C E n a s else xc C E n b s)else none
  | .block id c=>(match xc C E n c s with
   |some (.exit i,s',T)=>bif i==id then some (.normal,s',T)else some (.exit i,s',T)
   |r=>r)
  | .loop c=>(match xc C E n c s with
   |some (.normal,s',T)=>Uh T (xc C E n (.loop c) s')
   |r=>r)
  | .exit id=>some (.exit id,s,[])
  | .ret=>some (.ret,s,[])
  |_=>none
theorem EA{P:Program}{C:CT}{E:ET}(hE:EOK P E):∀(n:Nat) (c:Yw) (s:AS) (e:Z3) (s':AS) (T:List Nat),xc C E n c s=some (e,s',T)->Fr T s.H s'.H/\∀Q:Z3->AS->Prop,Q e s'->ev P (TX C) c Q s
 |0,_,_,_,_,_,h=>by cases h
 |n+1,c,s,e,s',T,h=>by
  cases c<;>simp only[xc,reduceCtorEq]at h
  case skip=>cases h;exact⟨Fr.same,λQ hQ=>hQ⟩
  case reg bump ops keep=>
   obtain⟨x,q,h⟩:=WY.1 h
   obtain⟨a,b,U⟩:=x
   cases a<;>cases h
   ·exact⟨(Gh hE (Qp:=λ_ _ _=>False) (K:=λ_=>True) q trivial).2,λQ hQ=>(Gh hE (Qp:=λv H n=>Q (.pan v) ⟨[],H,n⟩) (K:=λs'=>Q .normal (s'.keep keep)) q hQ).1⟩
   ·exact⟨(Gh hE (Qp:=λ_ _ _=>True) (K:=λ_=>False) q trivial).2,λQ hQ=>(Gh hE (Qp:=λv H n=>Q (.pan v) ⟨[],H,n⟩) (K:=λs'=>Q .normal (s'.keep keep)) q hQ).1⟩
  case regx bump ops keep=>
   obtain⟨x,q,h⟩:=WY.1 h
   obtain⟨a,b,U⟩:=x
   cases a<;>cases h
   ·exact⟨(Gi hE (Qp:=λ_ _ _=>False) (K:=λ_=>True) q trivial).2,λQ hQ=>(Gi hE (Qp:=λv H n=>Q (.pan v) ⟨[],H,n⟩) (K:=λs'=>Q .normal (s'.keep keep)) q hQ).1⟩
   ·exact⟨(Gi hE (Qp:=λ_ _ _=>True) (K:=λ_=>False) q trivial).2,λQ hQ=>(Gi hE (Qp:=λv H n=>Q (.pan v) ⟨[],H,n⟩) (K:=λs'=>Q .normal (s'.keep keep)) q hQ).1⟩
  case frz=>
   obtain⟨h1,h⟩:=AY h
   cases h
   refine⟨Ui,λQ hQ=>?_⟩
   show frzA _ _ _ _
   rw[QH]
   exact⟨(fzC _).2 h1,hQ⟩
  case frzo=>
   obtain⟨h1,h⟩:=AY h
   cases h
   refine⟨Re,λQ hQ=>?_⟩
   show FX _ _ _ _
   rw[Mr]
   exact⟨(foC _).2 h1,hQ⟩
  case seq a b=>
   split at h
   ·rename_i q
    obtain⟨U,h2,rfl⟩:=Hx h
    have k1:=EA hE n a s _ _ _ q
    have k2:=EA hE n b _ _ _ _ h2
    exact⟨k1.1.trans k2.1,λQ hQ=>k1.2 _ (k2.2 Q hQ)⟩
   ·rename_i r hr
    have k1:=EA hE n a s _ _ _ h
    refine⟨k1.1,λQ hQ=>k1.2 _ ?_⟩
    cases e<;>first|exact hQ|exact absurd h (hr _ _)
  case cond c a b=>
   obtain⟨h1,h⟩:=AY h
   simp only[V7]at h1
   cases hb:toB (lkv s.env c)<;>rw[hb]at h<;>have k:=EA hE n _ s _ _ _ h<;>refine⟨k.1,λQ hQ=>⟨h1.1,NN h1.2,λq=>?_,λq=>?_⟩⟩<;>first|exact k.2 Q hQ|(rw[hb]at q;cases q)
  case block id c=>
   split at h
   ·rename_i i t U q
    have k:=EA hE n c s _ _ _ q
    cases hi:i==id<;>rw[hi]at h<;>cases h
    ·refine⟨k.1,λQ hQ=>k.2 _ ?_⟩
     simp only
     rw[V5 (λe=>by rw[e,beq_self_eq_true]at hi;cases hi)]
     exact hQ
    ·refine⟨k.1,λQ hQ=>k.2 _ ?_⟩
     simp only
     rw[Vv (eq_of_beq hi)]
     exact hQ
   ·rename_i hr
    have k:=EA hE n c s _ _ _ h
    refine⟨k.1,λQ hQ=>k.2 _ ?_⟩
    cases e<;>first|exact hQ|exact absurd h (hr _ _ _)
  case loop c=>
   split at h
   ·rename_i s1 U q
    obtain⟨V,h3,rfl⟩:=Hx h
    have k1:=EA hE n c s _ _ _ q
    have k2:=EA hE n (.loop c) s1 _ _ _ h3
    refine⟨k1.1.trans k2.1,λQ hQ=>?_⟩
    obtain⟨I,μ,h1,h2⟩:=k2.2 Q hQ
    classical
    refine⟨λt=>t=s\/I t,λt=>if I t then μ t else μ s1+1,.inl rfl,λt ht=>?_⟩
    by_cases hI:I t
    ·refine Dy c _ _ t (λe s h=>?_) (h2 t hI)
     cases e
     case normal=>
      obtain⟨s2,w,i2,m2⟩:=h
      refine⟨s2,w,.inr i2,?_⟩
      simp only
      rw[Vv i2,Vv hI]
      exact m2
     all_goals exact h
    ·obtain rfl:=ht.resolve_right hI
     refine k1.2 _ ⟨s1,.inl rfl,.inr h1,?_⟩
     simp only
     rw[Vv h1,V5 hI]
     exact Nat.lt_succ_self _
   ·rename_i hr
    have k:=EA hE n c s _ _ _ h
    refine⟨k.1,λQ hQ=>⟨λt=>t=s,λ_=>0,rfl,λt ht=>?_⟩⟩
    subst ht
    refine k.2 _ ?_
    cases e<;>first|exact hQ|exact absurd h (hr _ _)
  case exit=>cases h;exact⟨Fr.same,λQ hQ=>hQ⟩
  case ret=>cases h;exact⟨Fr.same,λQ hQ=>hQ⟩
def rlC(H:AC)(sz:Nat)(a:Bool):∀v,Ch (Au H sz a v).1
 | .ptr id off=>by
  unfold Au
  try dsimp only
  cases hget H id with
  |none=>exact no
  |some o=>cases o<;>first|exact dc|exact no
 |_=>no
def rcC(s:AS):∀l,Ch (rcs s l).1
 |[]=>⟨true,λ_=>trivial⟩
 | .t i::l=>ca (p:=(lk s.env (.t i)).1=true) dc (rcC s l)
 | .c i sz a::l=>ca (ca (p:=(lk s.env (.t i)).1=true) dc (rlC s.H sz a _)) (rcC s l)
structure XF(P:Program) where
 f:FuncId
 run:CT->ET->Nat->List Fs->AC->Nat->Option (Zb×AC×Nat×List Nat)
 ok:∀{C E m a H n o H' n' T},COK P C->EOK P E->run C E m a H n=some (o,H',n',T)->Fr T H H'/\∀R:Zb->AC->Nat->Prop,R o H' n'->AN P f a H n R
structure XS(P:Program) where
 f:FuncId
 sp:List Fs->Option Fs
 ok:∀{a r},sp a=some r->∃a',Wks a a'/\Pur P f a' r
def xS{P:Program}{f:FuncId}{a:List Fs}{r:Fs}(h:Pur P f a r):XS P:=⟨f,λb=>bif wksB b a then some r else none,λe=>by
 obtain⟨q,e⟩:=AY e
 cases e
 exact⟨a,(wksB_ok _ _ q).1,h⟩⟩
def xr(c:Yw)(rs:List RC)(C:CT)(E:ET)(m:Nat)(a:List Fs)(H:AC)(n:Nat):Option (Zb×AC×Nat×List Nat):=match xc C E m c ⟨penv 0 a,H,n⟩with
 |some (.ret,s,T)=>bif (rcC s rs).1 then some (.ret (rvS (rcs s rs).2),s.H,s.n,T)else none
 |some (.normal,s,T)=>bif (rcC s rs).1 then some (.ret (rvS (rcs s rs).2),s.H,s.n,T)else none
 |some (.pan v,s,T)=>some (.pan v,s.H,s.n,T)
 |_=>none
section
variable {P:Program}
def xF{f:FuncId}{c:Yw}{rs:List RC}(ok:AOf P f c rs):XF P:=⟨f,xr c rs,λhC hE h=>by
 unfold xr at h
 split at h
 ·rename_i s T q
  obtain⟨h1,h⟩:=AY h
  cases h
  have k:=EA hE _ _ _ _ _ _ q
  exact⟨k.1,λR hR=>ok (AE (NO hC) (k.2 _ ⟨(rcC _ _).2 h1,hR⟩))⟩
 ·rename_i s T q
  obtain⟨h1,h⟩:=AY h
  cases h
  have k:=EA hE _ _ _ _ _ _ q
  exact⟨k.1,λR hR=>ok (AE (NO hC) (k.2 _ ⟨(rcC _ _).2 h1,hR⟩))⟩
 ·rename_i s T q
  cases h
  have k:=EA hE _ _ _ _ _ _ q
  exact⟨k.1,λR hR=>ok (AE (NO hC) (k.2 _ hR))⟩
 ·cases h⟩
def xdR(c:Yw)(t3 t4:Nat)(rs:List RC)(env:List (Nat×Bool×Fs))(fc:List Fs)(C:CT)(E:ET)(m:Nat)(rv:Fs)(s:AS)(T:List Nat):Option (Zb×AC×Nat×List Nat):=match xc C E m c ⟨(t3,true,rv)::(t4,true,rv)::penv 0 fc,s.H,s.n⟩with
 |some (.ret,s,U)=>bif (rcC ⟨env,s.H,s.n⟩ rs).1 then some (.ret (rvS (rcs ⟨env,s.H,s.n⟩ rs).2),s.H,s.n,T++U)else none
 |some (.normal,s,U)=>bif (rcC ⟨env,s.H,s.n⟩ rs).1 then some (.ret (rvS (rcs ⟨env,s.H,s.n⟩ rs).2),s.H,s.n,T++U)else none
 |_=>none
section
variable {f fid:FuncId} {ys:List Yw} {t:Nat} {d0:Option Nat} {k:Z1} {y c:Yw} {lo t3 t4:Nat} {rs:List RC}
 (okd:∀{args:List Fs} {rv:Fs} {H:AC} {n:Nat} {Rc:AC->Nat->Prop},awp P c (Cd [] λo H' n'=>o= .ret (.tup [])/\Rc H' n') ⟨(t3,true,rv)::(t4,true,rv)::penv 0 args,H,n⟩->CL P fid args rv H n Rc)
include okd
theorem PD{C:CT}{E:ET}{m:Nat}(hC:COK P C)(hE:EOK P E){env:List (Nat×Bool×Fs)}{fc:List Fs}{rv:Fs}{s:AS}{o:Zb}{H0 H':AC}{n':Nat}{T V:List Nat}(hf:Fr T H0 s.H)(h:xdR c t3 t4 rs env fc C E m rv s T=some (o,H',n',V)):Fr V H0 H'/\∀R:Zb->AC->Nat->Prop,R o H' n'->CL P fid fc rv s.H s.n (RcOf rs env R):=by
 unfold xdR at h
 split at h
 ·rename_i q
  obtain⟨h1,h⟩:=AY h
  cases h
  have k:=EA hE _ _ _ _ _ _ q
  exact⟨hf.trans k.1,λR hR=>okd (AE (NO hC) (k.2 _ ⟨trivial,rfl,(rcC _ _).2 h1,hR⟩))⟩
 ·rename_i q
  obtain⟨h1,h⟩:=AY h
  cases h
  have k:=EA hE _ _ _ _ _ _ q
  exact⟨hf.trans k.1,λR hR=>okd (AE (NO hC) (k.2 _ ⟨trivial,rfl,(rcC _ _).2 h1,hR⟩))⟩
 ·cases h
def xD(ok:∀{args:List Fs} {H:AC} {n:Nat} {R:Zb->AC->Nat->Prop},awp P (EQ ys) (KL P t ⟨d0,none,.v k⟩ y lo fid rs R) ⟨penv 0 args,H,n⟩->AN P f args H n R):XF P:=
 ⟨f,λC E m a H n=>match xc C E m (EQ ys) ⟨penv 0 a,H,n⟩with
  |some (.normal,s,T)=>(match xop C s.n ⟨d0,none,.v k⟩ s with
   |some s1=>(match lkv s1.env (.t t)with
    | .fn (.func i) x b=>bif (lk s1.env (.t t)).1&&i==fid then(match xc C E m y s1 with
     |some (.ret,s2,U)=>xdR c t3 t4 rs (s1.env.filter λe=>Nat.blt e.1 lo) (x++b) C E m .nilifc s2 (T++[]++U)
     |some (.normal,s2,U)=>xdR c t3 t4 rs (s1.env.filter λe=>Nat.blt e.1 lo) (x++b) C E m .nilifc s2 (T++[]++U)
     |some (.pan v,s2,U)=>xdR c t3 t4 rs (s1.env.filter λe=>Nat.blt e.1 lo) (x++b) C E m v s2 (T++[]++U)
     |_=>none)else none
    |_=>none)
   |none=>none)
  |_=>none,λhC hE h=>by
  split at h
  ·rename_i s T q
   split at h
   ·rename_i s1 q1
    split at h
    ·rename_i i x b q2
     obtain⟨h1,h⟩:=AY h
     rw[V7]at h1
     rw[eq_of_beq h1.2]at q2
     have hT:=NO hC
     have k0:=EA hE _ _ _ _ _ _ q
     have f1:Fr [] s.H s1.H:=TF q1
     have fin:∀{R:Zb->AC->Nat->Prop},ev P (TX _) y (SF P fid (x++b) rs (s1.env.filter λe=>Nat.blt e.1 lo) R) s1->AN P f _ _ _ R:=λhv=>
      ok (AE hT (k0.2 _ (FC hT (Qp:=λ_ _ _=>False) (base:=s.n) (λ_ h=>h) (TE (K:=λs1=>(lk s1.env (.t t)).1=true/\∃first cap,lkv s1.env (.t t)= .fn (.func fid) first cap/\awp P y (SF P fid (first++cap) rs (s1.env.filter λe=>Nat.blt e.1 lo) _) s1) q1 ⟨h1.1,x,b,q2,AE hT hv⟩))))
     split at h
     ·rename_i q3
      have k1:=EA hE _ _ _ _ _ _ q3
      have k2:=PD okd hC hE ((k0.1.trans f1).trans k1.1) h
      exact⟨k2.1,λR hR=>fin (k1.2 _ (k2.2 R hR))⟩
     ·rename_i q3
      have k1:=EA hE _ _ _ _ _ _ q3
      have k2:=PD okd hC hE ((k0.1.trans f1).trans k1.1) h
      exact⟨k2.1,λR hR=>fin (k1.2 _ (k2.2 R hR))⟩
     ·rename_i q3
      have k1:=EA hE _ _ _ _ _ _ q3
      have k2:=PD okd hC hE ((k0.1.trans f1).trans k1.1) h
      exact⟨k2.1,λR hR=>fin (k1.2 _ (k2.2 R hR))⟩
     ·cases h
    ·cases h
   ·cases h
  ·cases h⟩
end
end
section
variable {P:Program} (tab:List (XF P)) (ts:List (XS P)) (m:Nat)
def xp:Nat->CT×ET
 |0=>(λ_ _=>none,λ_ _ _ _=>none)
 |n+1=>(λf a=>match ts.findSome? λe=>bif e.f==f then e.sp a else none with
   |some r=>some r
   |none=>match tab.find? λe=>e.f==f with
    |none=>none
    |some e=>bif uBs (strips a)then(match e.run (xp n).1 (xp n).2 m (strips a) hnil 0 with
     |some (.ret v,_,_,_)=>bif uB (Rb v)then some (Rb v)else none
     |_=>none)else none,
  λf a H k=>match tab.find? λe=>e.f==f with
   |none=>none
   |some e=>e.run (xp n).1 (xp n).2 m a H k)
theorem xp_ok:∀n,COK P (xp tab ts m n).1/\EOK P (xp tab ts m n).2
 |0=>⟨λ_ _ _ h=>(by cases h),λ_ _ _ _ _ _ _ _ h=>(by cases h)⟩
 |n+1=>by
  obtain⟨hC,hE⟩:=xp_ok n
  constructor
  ·intro f l r h
   unfold xp at h
   dsimp only at h
   split at h
   ·rename_i e he
    cases h
    obtain⟨e,_,he⟩:=List.exists_of_findSome?_eq_some he
    have h9:=AY he
    obtain rfl:=eq_of_beq h9.1
    exact e.ok h9.2
   ·split at h
    ·cases h
    ·rename_i e he
     have hf:=List.find?_some he
     obtain rfl:=eq_of_beq hf
     obtain⟨h1,h⟩:=AY h
     split at h
     ·rename_i v _ _ _ q
      obtain⟨h2,h⟩:=AY h
      cases h
      exact⟨_,strips_wk l,.mk (uBs_ok _ h1) (Rd _ h2) ((e.ok hC hE q).2 _ ⟨_,rfl,MK v⟩)⟩
     ·cases h
  ·intro f l H k o H' n' T h
   unfold xp at h
   dsimp only at h
   split at h
   ·cases h
   ·rename_i e he
    have hf:=List.find?_some he
    obtain rfl:=eq_of_beq hf
    exact e.ok hC hE h
end
end Go.AM
namespace Go.AM
open Go.Lib Go.Proofs Go.RowKit Go.Sort Go.Proofs.Tryz
def s220:List Fs->AC->Prop×Fs:=λa H=>match a with
 |[.str l,.int .u8 c]=>(0<=c/\c<256,.int .i64 (indexByte l (UInt8.ofNat c.toNat)))
 |_=>(False,.tup [])
def q220:∀args H n,(s220 args H).1->Ab prog 220 args H n (s220 args H).2:=by
 intro args H n h;unfold s220 at h⊢;split at h
 ·rename_i l c;refine Pur.quiet ?_ H n;refine EU c220.l ⟨trivial,trivial,trivial⟩ trivial ?_;rintro g w vs hR ⟨v,r,rfl,k1,v2,r2,rfl,k2,k3⟩;have k1':v= .string ⟨l.toArray⟩:=k1;have k2':v2= .int .u8 c:=k2;have k3':r2=[]:=k3;subst k1';subst k2';subst k3';refine(strings_IndexByte ⟨l.toArray⟩ c w).mono ?_;rintro e w' ⟨rfl,rfl⟩;exact⟨⟨_,rfl,rfl⟩,Below.refl _ _⟩
 ·exact h.elim
section
abbrev wApart:Bs:=[97,112,97,114,116]
abbrev wConn:Bs:=[99,111,110,110,101,99,116,101,100]
abbrev wEach:Bs:=[101,97,99,104]
abbrev wFill:Bs:=[102,105,108,108,101,100]
abbrev wGiven:Bs:=[103,105,118,101,110]
abbrev wLoop:Bs:=[108,111,111,112]
abbrev wNot:Bs:=[110,111,116]
abbrev wSteps:Bs:=[115,116,101,112,115]
abbrev Uj:Bs:=[117,110,108,105,107,101]
def wS:List Bs:=[wApart,wConn,wEach,wFill,wGiven,wLoop,wNot,wSteps,Uj]
def wd(i:Nat):Bs:=wS[i]?.getD []
abbrev eWd(i:Nat):Fs:=.str (wd i)
def Uk{a b:Nat}(ha:a<9)(hb:b<9):Op.bytesLess (wd a) (wd b)=decide (a<b):=by
 have key:∀a b:Fin 9,Op.bytesLess (wd a.val) (wd b.val)=decide (a.val<b.val):=by decide+kernel
 exact key ⟨a,ha⟩ ⟨b,hb⟩
def p313(a:Bs):Pur prog 313 [.str a] (.bool false):=by
 refine .mk ⟨trivial,trivial⟩ trivial (c313.a (AE AI.tnil (AF ?_)));have h:scmp .neq a a=false:=by simp [scmp]
 simp only[eE,eN,seval,c313,h]
def Tnn:Tab:=tadd 313 (s1 dS any1 λ_=>.bool false) tnil
def Tnn_ok:AI prog Tnn:=AI.tnil.add (q1 λx h=>p313 x)
def p305(a b:Bs):Pur prog 305 [.str a,.str b] (.bool (Op.bytesLess a b)):=by
 refine .mk ⟨trivial,trivial,trivial⟩ trivial (c305.a (AE Tnn_ok (AF ?_)));have h:scmp .lss a b=Op.bytesLess a b:=rfl;simp only[eZ,seval,V6,c305,Tnn,s1,FI,DH,h,tadd]
def Tls:Tab:=tadd 305 (s2 dS dS any2 λa b=>.bool (Op.bytesLess a b)) tnil
def Tls_ok:AI prog Tls:=AI.tnil.add (q2 λx y h=>p305 x y)
abbrev gt(l:List Nat)(p:Nat):Nat:=l[p]?.getD 0
def swp(l:List Nat)(j:Nat):List Nat:=(l.set j (gt l (j-1))).set (j-1) (gt l j)
variable {H:AC} {l xs rest:List Nat} {j p n id cap:Nat}
theorem swp_gt(h0:0<j)(hj:j<l.length)(p:Nat):gt (swp l j) p=if p=j then gt l (j-1)else if p=j-1 then gt l j else gt l p:=by
 unfold swp;simp only[gt];rw[List.getElem?_set,List.getElem?_set];by_cases h1:p=j
 ·subst h1;rw[V5 zo,Vv rfl,Vv rfl];simp [hj]
 ·rw[V5 h1];by_cases h2:p=j-1
  ·subst h2;rw[Vv rfl,Vv rfl,Vv (by rw[XQ];omega)];rfl
  ·rw[V5 h2,V5 zo,V5 zo]
theorem Rf(h0:0<j)(hj:j<l.length):(swp l j).Perm l:=by
 have e1:gt l (j-1)=l[j-1]:=by simp only[gt];rw[V2 zo];rfl
 have e2:gt l j=l[j]:=by simp only[gt];rw[V2 hj];rfl
 unfold swp;rw[e1,e2];exact List.set_set_perm hj zo
theorem PE{m:List Nat}(h:l.Perm m)(hm:∀x∈m,x<9)(hp:p<l.length):gt l p<9:=by
 have:l[p]∈m:=h.mem_iff.1 (W1 hp);simp only[gt];rw[V2 hp];exact hm _ this
structure II(xs:List Nat)(i:Nat)(v:Nat×List Nat):Prop where
 j:v.1<=i
 pm:v.2.Perm xs
 c1:∀p q,p<q->q<=i->p≠v.1->q≠v.1->gt v.2 p<=gt v.2 q
 c2:∀q,v.1<q->q<=i->gt v.2 v.1<=gt v.2 q
theorem II.step{i:Nat}(h:II xs i (j,l))(hi:i<xs.length)(h0:0<j)(c6:gt l j<gt l (j-1)):II xs i (j-1,swp l j):=by
 obtain⟨h1,h2,h3,h4⟩:=h;simp only at h1 h2 h3 h4;have d6:=h2.length_eq;have hg:=swp_gt (l:=l) h0 zo;refine⟨zp,(Rf h0 zo).trans h2,λp q hpq hq hp1 hq1=>?_,λq hq hqi=>?_⟩
 ·simp only at hp1 hq1⊢;rw[hg,hg,V5 (show ¬p=j-1 from hp1),V5 (show ¬q=j-1 from hq1)];by_cases e1:p=j
  ·rw[Vv e1,V5 zo];exact h3 (j-1) q zo hq zo zo
  ·rw[V5 e1];by_cases e2:q=j
   ·rw[Vv e2];exact h3 p (j-1) zo zo e1 zo
   ·rw[V5 e2];exact h3 p q hpq hq e1 e2
 ·simp only at hq⊢;rw[hg,hg,V5 zo,Vv rfl];by_cases e1:q=j
  ·rw[Vv e1];omega
  ·rw[V5 e1,V5 zo];exact h4 q zo hqi
theorem II.done{i:Nat}(h:II xs i (j,l))(he:j=0\/¬gt l j<gt l (j-1)):∀p q,p<q->q<i+1->gt l p<=gt l q:=by
 obtain⟨h1,h2,h3,h4⟩:=h;simp only at h1 h2 h3 h4;intro p q hpq hq;by_cases e1:p=j
 ·subst e1;exact h4 q hpq zo
 ·by_cases e2:q=j
  ·subst e2;have hle:gt l (q-1)<=gt l q:=by rcases he with he|he<;>omega
   by_cases e3:p=q-1
   ·rw[e3];exact hle
   ·have:=h3 p (q-1) zo zo e1 zo;omega
  ·exact h3 p q hpq zo e1 e2
abbrev arW(l rest:List Nat):Z7:=.arr 1 ((l++rest).map eWd)
theorem get_W(h:p<l.length):(l++rest)[p]?=some (gt l p):=by
 rw[WI h,V2 h];simp [gt,V2 h]
theorem pred_w(h:0<j)(hj:j<1000):IntKind.wrap .i64 ((j:Int)-1)=((j-1:Nat):Int):=by rw[Ae zo zo];omega
theorem set_W{x:Nat}(h:p<l.length):((l++rest).map eWd).set p (eWd x)=((l.set p x)++rest).map eWd:=by
 rw[<-List.map_set,List.set_append_left _ _ h]
theorem t_ins(ho:hget H id=some (arW xs rest))(hx:∀x∈xs,x<9)(hl:xs.length<=12):
  AN prog 299 [.ref id 1 0 xs.length cap,.int .i64 0,.int .i64 xs.length] H n λo H' n'=>o= .ret (.tup [])/\(∃ys:List Nat,ys.Perm xs/\ys.Pairwise (· <= ·)/\H'=hset H id (arW ys rest))/\n'=n:=by
 refine c299.a (AE Tls_ok (AF ?_));have w01:IntKind.wrap .i64 ((0:Int)+1)=((1:Nat):Int):=zd
 simp only[eE,eN,seval,c1,c299,w01];refine AO (λv:Nat×List Nat=>⟨[(0,true,.ref id 1 0 xs.length cap),(1,true,.int .i64 0),(2,true,.int .i64 xs.length),(6,true,.int .i64 v.1)],hset H id (arW v.2 rest),n⟩)
  (λv=>1<=v.1/\v.2.Perm xs/\(v.1<=xs.length\/v.1=1)/\∀p q,p<q->q<v.1->gt v.2 p<=gt v.2 q) (λv=>xs.length-v.1) (1,xs) ?_ ⟨V4 _,.refl _,.inr rfl,λp q h1 h2=>by simp only at h2;omega⟩ ?_
 ·show(⟨_,_,_⟩:AS)=_;have:hset H id (arW xs rest)=H:=by
   funext k;simp only[hset];split
   ·rename_i e;rw[<-e];exact ho.symm
   ·rfl
  simp only[];rw[this];rfl
 rintro⟨i,ys⟩ ⟨h1,hp,hi,hs⟩;simp only at h1 hp hi hs;have d6:=hp.length_eq;by_cases c6:i<xs.length;case neg=>
  simp only[eZ,seval,lt_F c6];refine⟨ys,hp,?_,rfl⟩;rw[WW];intro p q r9 hql hpq;have:=hs p q hpq zo;simp only[gt,V2 r9,V2 hql,W7]at this;exact this
 simp only[eZ,seval,lt_T c6];refine AO (λv:Nat×List Nat=>⟨[(0,true,.ref id 1 0 xs.length cap),(1,true,.int .i64 0),(2,true,.int .i64 xs.length),(6,true,.int .i64 i),(7,true,.int .i64 v.1)],hset H id (arW v.2 rest),n⟩)
  (II xs i) (λv=>v.1) (i,ys) rfl ⟨V4 _,hp,λp q h1 h2 h3 h4=>hs p q h1 (by simp only at h4;omega),λq h1 h2=>by simp only at h1;omega⟩ ?_
 rintro⟨j,zs⟩ hI;have hI':=hI;obtain⟨k1,k2,k3,k4⟩:=hI';simp only at k1 k2 k3 k4;have hzl:=k2.length_eq;have wi:=AG (k:=i) zo;have nxt:(j=0\/¬gt zs j<gt zs (j-1))->1<=i+1/\zs.Perm xs/\(i+1<=xs.length\/i+1=1)/\∀p q,p<q->q<i+1->gt zs p<=gt zs q:=λhe=>⟨zo,k2,.inl c6,hI.done he⟩
 by_cases hj:0<j;case neg=>
  obtain rfl:j=0:=zo
  have z1:((0:Int)<((0:Nat):Int))=False:=Vs zd;simp only[eZ,seval,c0,i00,Int.toNat_zero,Y7,V0,W3,V9,wi];exact .mk (i+1,zs) rfl (nxt (.inl rfl)) zp
 have z1:((0:Int)<(j:Int))=True:=V1 zo;have u9:j<zs.length:=zo
 have pj:=pred_w hj zo;have hb1:(j<xs.length)=True:=V1 zo;have l5:(j-1<xs.length)=True:=V1 zo;have hb3:((j:Int)<(xs.length:Int))=True:=V1 zo;have hb4:(((j-1:Nat):Int)<(xs.length:Int))=True:=V1 zo;have hb5:((j-1:Nat)<zs.length+rest.length)=True:=V1 zo;have hb6:((j:Nat)<zs.length+rest.length)=True:=V1 zo;have g1:(zs++rest)[j]?=some (gt zs j):=get_W u9;have g2:(zs++rest)[j-1]?=some (gt zs (j-1)):=get_W zo;have hless:=Uk (PE k2 hx u9) (PE k2 hx (show j-1<zs.length by omega));by_cases hc:gt zs j<gt zs (j-1)
 ·rw[Wo hc]at hless;simp only[eZ,seval,W7,Vy,Wa,V0,W3,V9,XQ,z1,pj,hb3,hb4,hb5,hb6,g1,g2,Tls,s2,FI,DH,hless,tadd];refine .mk (j-1,swp zs j) ?_ (hI.step c6 hj hc) zp;rw[AD,AD,set_W u9,set_W (by rw[XQ];omega)];rfl
 ·rw[W2 hc]at hless;simp only[eZ,seval,W7,Vy,Wa,V0,W3,V9,z1,pj,hb3,hb4,hb5,hb6,g1,g2,Tls,s2,FI,DH,hless,wi,tadd];exact .mk (i+1,zs) rfl (nxt (.inr hc)) zp
theorem lLen64:BW prog 241:=⟨f241,by kernel_rfl,by kernel_rfl,by kernel_rfl⟩
def sLn:List Fs->AC->Prop×Fs:=λa H=>match a with
 |[.int .u64 x]=>(0<=x/\x<=18446744073709551615,.int .i64 (Lib.bitLen x.toNat))
 |_=>(False,.tup [])
theorem qLn64:∀args H n,(sLn args H).1->Ab prog 241 args H n (sLn args H).2:=by
 intro args H n h;unfold sLn at h⊢;split at h
 ·rename_i x;refine Pur.quiet ?_ H n;refine EU lLen64 ⟨trivial,trivial⟩ trivial ?_;rintro g w vs hR ⟨v,r,rfl,k1,k3⟩;have k1':v= .int .u64 x:=k1;have k3':r=[]:=k3;subst k1';subst k3';refine(bits_Len64 x w h.1 h.2).mono ?_;rintro e w' ⟨rfl,rfl⟩;exact⟨⟨_,rfl,rfl⟩,Below.refl _ _⟩
 ·exact h.elim
def Tl64:Tab:=tadd 241 sLn tnil
theorem Ul:AI prog Tl64:=AI.tnil.add qLn64
theorem p197(x:Int)(h:0<=x/\x<=18446744073709551615):Pur prog 197 [.int .u64 x] (.int .i64 (Lib.bitLen x.toNat)):=by
 refine .mk ⟨trivial,trivial⟩ trivial (c197.a (AE Ul (AF ?_)));simp only[eZ,seval,c197,Tl64,sLn,h.1,h.2,tadd]
def Tlen:Tab:=tadd 197 sLn tnil
theorem Um:AI prog Tlen:=AI.tnil.add (by
 intro args H n h;unfold sLn at h⊢;split at h
 ·exact(p197 _ h).quiet H n
 ·exact h.elim)
def SrtP(H:AC)(n id:Nat)(xs rest:List Nat):Zb->AC->Nat->Prop:=λo H' n'=>o= .ret (.tup [])/\(∃ys:List Nat,ys.Perm xs/\ys.Pairwise (· <= ·)/\H'=hset H id (arW ys rest))/\n'=n
theorem t_pdq{lim:Int}(ho:hget H id=some (arW xs rest))(hx:∀x∈xs,x<9)(hl:xs.length<=12):
  AN prog 291 [.ref id 1 0 xs.length cap,.int .i64 0,.int .i64 xs.length,.int .i64 lim] H n (SrtP H n id xs rest):=by
 refine c291.a (AE AI.tnil (AF ?_));rw[c291];simp only[eE,eN,seval];refine AO (λu:Unit=>⟨[(0,true,.ref id 1 0 xs.length cap),(1,true,.int .i64 0),(2,true,.int .i64 xs.length),(3,true,.int .i64 lim),(8,true,.bool true),(9,true,.bool true)],H,n⟩) (λ_=>True) (λ_=>0) () rfl trivial ?_;rintro u -;have w0:IntKind.wrap .i64 ((xs.length:Int)-0)=xs.length:=by rw[Int.sub_zero,Ae zo zo]
 have w1:((xs.length:Int)<=12)=True:=V1 zo;simp only[eZ,seval,w0,w1];refine(t_ins ho hx hl).mono ?_;rintro o H' n' ⟨rfl,h1,rfl⟩;simp only[eE,eN,retK];exact⟨rfl,h1,rfl⟩
theorem Un(ho:hget H id=some (arW xs rest))(hx:∀x∈xs,x<9)(hl:xs.length<=12):
  AN prog 279 [.ref id 1 0 xs.length cap] H n (SrtP H n id xs rest):=by
 refine c279.a (AE Um (AF ?_));have w0:IntKind.wrap .u64 (xs.length:Int)=xs.length:=by
  have:(xs.length:Int)<18446744073709551616:=zo
  unfold IntKind.wrap;simp [IntKind.bits];omega
 have w1:((0:Int)<=(xs.length:Int)/\(xs.length:Int)<=18446744073709551615)=True:=V1 ⟨zo,zo⟩;simp only[eE,eN,seval,Vy,Wa,c279,w0,Tlen,sLn,tadd];refine⟨zo,(t_pdq ho hx hl).mono ?_⟩;rintro o H' n' ⟨rfl,h1,rfl⟩;simp only[eE,eN,retK];exact⟨rfl,h1,rfl⟩
end
section
abbrev clK(q:Nat):Fs:=.fn (.func 280) [] [.ptr q 0]
abbrev eApY(q c:Nat):List (Nat×Bool×Fs):=[(2,true,.ptr c 0),(4,true,.sl .nil []),(6,true,clK q)]
structure ApY(q c L l':Nat)(H0:AC)(n0:Nat)(qs:List Nat)(H:AC)(m:Nat):Prop where
 fr:AR H m
 lc:n0<=c
 cl:c<L
 lm:L<m
 hc:∃lv,hget H c=some (.box [lv])/\LvG eWd 1 (L+1) H lv qs
 hL:hget H L=some (.lp ⟨l',.ready,none,13,eApY q c, #[7],HH,HI⟩)
 kp:∀id ob,id<n0->hget H0 id=some ob->hget H id=some ob
variable {H:AC} {q n mp:Nat}
theorem y_apY{c L l':Nat}{H0:AC}{n0:Nat}{qs:List Nat}{m:Nat}(F:ApY q c L l' H0 n0 qs H m)(x:Nat)(hs:qs.length<1000000000){R:Bool->AC->Nat->Prop}
  (hR:∀H' m',ApY q c L l' H0 n0 (qs++[x]) H' m'->(∀j ob,j<m->j≠c->j≠L->(∀e Z,ob≠ .arr e Z)->hget H j=some ob->hget H' j=some ob)->m<=m'->R true H' m'):B2 prog l' [eWd x] H m R:=by
 obtain⟨fr,lc,cl,lm,⟨lv,hc,hlv⟩,hL,kp⟩:=F;refine y290_0 hL rfl (AE AI.tnil (AF ?_));simp only[eE,eN,seval,Ln,renv,XN,XY,X3,Yk];refine⟨_,hL,rfl,AE AI.tnil (AF ?_)⟩;have y1:∀k,(L=m+k)=False:=λk=>Vs zo
 have y2:(L=c)=False:=Vs zo;have y3:(c=L)=False:=Vs zo;simp only[eE,seval,Ll,hc,y2];have g1:∀k,hget (hset H L (.lp ⟨l',.busy,none,13,eApY q c, #[7],HH,HI⟩)) (m+k)=none:=λk=>by rw[AA _ _ _ _ zo];exact fr1 fr k
 refine JK (enc:=eWd) (lo:=L+1) (qs:=qs) (z0:=9) ?_ rfl zd rfl rfl (AP zo zd) (g1 3) zo zo ?_
 ·rcases hlv with h|⟨hne,id,rest,h1,h2,h3⟩
  ·exact .inl h
  ·exact .inr ⟨hne,id,rest,h1,h2,by rw[AA _ _ _ _ zo];exact h3⟩
 intro id rest hlo d7;have hidm:id<m+5:=by
  rcases d7 with rfl|⟨Z,h⟩
  ·omega
  ·apply Classical.byContradiction;intro z;obtain⟨k,rfl⟩:∃k,id=m+k:=⟨id-m,zo⟩;rw[g1]at h;cases h
 have hida:∀j ob,j<m->j≠L->(∀e Z,ob≠ .arr e Z)->hget H j=some ob->j≠id:=by
  intro j ob hj hjL hob h0 e;subst e;rcases d7 with rfl|⟨Z,h⟩
  ·omega
  ·rw[AA _ _ _ _ (Ne.symm hjL),h0]at h;cases h;exact hob _ _ rfl
 have z1:(id=L)=False:=Vs zo;have z2:(id=c)=False:=Vs zo;have z3:(L=id)=False:=Vs zo;have z4:(c=id)=False:=Vs zo;have hidn:¬id<n0:=zo
 simp only[eE,eN,seval,DF,z2,y2,hc];refine⟨⟨l',.busy,none,13,eApY q c, #[7],HH,HI⟩,by simp only[AJ,y3,z1,Wf,WB],hR _ _ ⟨?_,lc,cl,zp,⟨_,by simp only[AJ,y2,Wf,WB],.inr ⟨zw,id,rest,rfl,hlo,by simp only[AJ,z3,z4,Wf,WB]⟩⟩,by simp only[AJ,WB],?_⟩ ?_ (Wx _ _)⟩
 ·intro j hj;have x7:m+5<=j:=hj;simp only[AJ];repeat rw[V5 zo]
  exact fr j zo
 ·intro j ob hj h0;simp only[AJ];repeat rw[V5 zo]
  exact kp j ob hj h0
 ·intro j ob hj hjc hjL hob h0;have:=hida j ob hj hjL hob h0;simp only[AJ];repeat rw[V5 zo]
  exact h0
def rkL:List Nat:=[2,8,0,6,1,5,4,3,7]
def rk(b:Nat):Nat:=rkL[b]?.getD 0
abbrev frmV(k:Int)(f:FuncId):Fs:=.agg [.int .i64 k,.fn (.func f) [] []]
abbrev frmE:List (Fs×Fs×Nat):=[(eWd 2,frmV 0 270,0),(eWd 8,frmV 6 271,1),(eWd 0,frmV 7 272,2),(eWd 6,frmV 8 273,3),(eWd 1,frmV 9 274,4),(eWd 5,frmV 10 274,5),(eWd 4,frmV 11 275,6),(eWd 3,frmV 12 276,7),(eWd 7,frmV 13 277,8)]
theorem MM{e:Fs×Fs×Nat}(h:e∈frmE):e.2.2<9/\e.1=eWd (rk e.2.2)/\K5 e.2.2 frmE=some (e.1,e.2.1):=by
 simp only[frmE,Wp,Xz,or_false]at h;rcases h with rfl|rfl|rfl|rfl|rfl|rfl|rfl|rfl|rfl<;>exact⟨zd,rfl,rfl⟩
theorem PF{es:List (Fs×Fs×Nat)}{seen:List Nat}{e:Fs×Fs×Nat}(h:e∈Cp es seen):(Cp es (seen++[e.2.2])).length<(Cp es seen).length:=by
 have e1:Cp es (seen++[e.2.2])=(Cp es seen).filter λx=>decide (x.2.2≠e.2.2):=by
  unfold Cp;rw[Yr];refine Yj λx hx=>?_
  by_cases h1:x.2.2∈seen<;>by_cases h2:x.2.2=e.2.2<;>simp [h1,h2]
 rw[e1,List.length_filter_lt_length_iff_exists];exact⟨e,h,zw⟩
theorem Rg{seen:List Nat}(hn:seen.Nodup)(hl:∀b∈seen,b<9)(hd:Cp frmE seen=[]):(seen.map rk).Perm (List.range 9):=by
 have h1:seen.Perm (List.range 9):=(XW hn List.nodup_range).2 λb=>⟨λh=>Wy.2 (hl b h),λh=>by
  have hb:=Wy.1 h;apply Classical.byContradiction;intro hns;obtain⟨e,he,rfl⟩:∃e∈frmE,e.2.2=b:=by
   have:b=0\/b=1\/b=2\/b=3\/b=4\/b=5\/b=6\/b=7\/b=8:=zo
   rcases this with rfl|rfl|rfl|rfl|rfl|rfl|rfl|rfl|rfl
   ·exact⟨_,Xc.2 ⟨0,rfl⟩,rfl⟩
   ·exact⟨_,Xc.2 ⟨1,rfl⟩,rfl⟩
   ·exact⟨_,Xc.2 ⟨2,rfl⟩,rfl⟩
   ·exact⟨_,Xc.2 ⟨3,rfl⟩,rfl⟩
   ·exact⟨_,Xc.2 ⟨4,rfl⟩,rfl⟩
   ·exact⟨_,Xc.2 ⟨5,rfl⟩,rfl⟩
   ·exact⟨_,Xc.2 ⟨6,rfl⟩,rfl⟩
   ·exact⟨_,Xc.2 ⟨7,rfl⟩,rfl⟩
   ·exact⟨_,Xc.2 ⟨8,rfl⟩,rfl⟩
  have:e∈Cp frmE seen:=Xb.2 ⟨he,by simpa using hns⟩;rw[hd]at this;cases this⟩
 have h2:=h1.map rk;refine h2.trans ?_;have:(List.range 9).map rk=rkL:=zd
 rw[this];decide
theorem Rh{ys:List Nat}(h1:ys.Perm (List.range 9))(h2:ys.Pairwise (· <= ·)):ys=List.range 9:=
 h1.eq_of_pairwise (λa b _ _ h k=>Nat.le_antisymm h k) h2 zd
theorem ApY.it{c L l':Nat}{H0:AC}{n0:Nat}{qs:List Nat}{m it:Nat}{ob ob':Z7}(F:ApY q c L l' H0 n0 qs H m)(h1:n0<=it)(h2:it≠c)(h3:it≠L)(h4:it<m)(h5:hget H it=some ob)(h6:∀e Z,ob≠ .arr e Z):ApY q c L l' H0 n0 qs (hset H it ob') m:=by
 obtain⟨fr,lc,cl,lm,⟨lv,hc,hlv⟩,hL,kp⟩:=F;refine⟨fr.hset (V4 _) h4,lc,cl,lm,⟨lv,by rw[AA _ _ _ _ h2];exact hc,?_⟩,by rw[AA _ _ _ _ h3];exact hL,λj o hj h0=>by rw[AA _ _ _ _ zo];exact kp j o hj h0⟩;rcases hlv with h|⟨hne,id,rest,k1,k2,k3⟩
 ·exact .inl h
 ·exact .inr ⟨hne,id,rest,k1,k2,by rw[AA _ _ _ _ (λe=>by subst e;rw[h5]at k3;cases k3;exact h6 _ _ rfl)];exact k3⟩
structure VK where
 seen:List Nat
 H:AC
 n:Nat
structure IK(q n mp l':Nat)(H:AC)(v:VK):Prop where
 F:ApY q n (n+2) l' H n (v.seen.map rk) v.H v.n
 it:hget v.H (n+4)=some (.mit mp 9 v.seen 9)
 lt:n+4<v.n
 nd:v.seen.Nodup
 rg:∀b∈v.seen,b<9
 ln:v.seen.length+(Cp frmE v.seen).length<=9
theorem t_apY(hf:AR H n)(hq:hget H q=some (.box [.mp mp]))(hm:hget H mp=some (.map frmE 9)):
  AN prog 290 [.sl .nil [],clK q] H n λo H' n'=>∃lv qs,o= .ret lv/\qs.Perm (List.range 9)/\LvG eWd 1 (n+3) H' lv qs/\AR H' n'/\n<=n'/\∀id ob,id<n->hget H id=some ob->hget H' id=some ob:=by
 have hqn:=hf.lt hq;have hmn:=hf.lt hm;refine a290 (AE AI.tnil (AF ?_));simp only[eE,eN,seval,c290,fr0 hf,Fw];intro l';generalize hH1:hset (hset H n (.box [.sl .nil []])) (n+2) _=H1;have F0:ApY q n (n+2) l' H n [] H1 (n+3):=by
  subst hH1;refine⟨λj hj=>?_,V4 _,zo,zo,⟨.sl .nil [],?_,.inl ⟨rfl,rfl⟩⟩,AB ..,λj ob hj h0=>?_⟩
  ·simp only[AJ];repeat rw[V5 zo]
   exact hf j zo
  ·simp only[AJ];rw[V5 zo,Vv trivial]
  ·simp only[AJ];repeat rw[V5 zo]
   exact h0
 have hc0:hget H1 n=some (.box [.sl .nil []]):=by
  subst hH1;simp only[AJ];rw[V5 zo,Vv trivial]
 clear hH1;have hq1:=F0.kp q _ hqn hq;have hm1:=F0.kp mp _ hmn hm;have hfn:=fr1 F0.fr;refine c280.a (AE AI.tnil (AF ?_));simp only[eE,eN,seval,xE,c280,hq1,hm1];refine⟨hfn 1,?_⟩;refine AO (λv:VK=>⟨[(0,true,.fn (.yield l') [] []),(5,true,.ptr (n+4) 0)],v.H,v.n⟩) (IK q n mp l' H) (λv=>(Cp frmE v.seen).length) ⟨[],hset H1 (n+4) (.mit mp 9 [] 9),n+5⟩ rfl
  ⟨⟨F0.fr.hset (m:=n+5) zo zo,V4 _,zo,zp,⟨.sl .nil [],by rw[AA _ _ _ _ zo];exact hc0,.inl ⟨rfl,rfl⟩⟩,by rw[AA _ _ _ _ zo];exact F0.hL,λj o hj h0=>by rw[AA _ _ _ _ zo];exact F0.kp j o hj h0⟩,AB ..,zp,List.nodup_nil,λb hb=>(by cases hb),(show 0+(Cp frmE []).length<=9 by decide)⟩ ?_
 rintro⟨seen,H2,m⟩ ⟨F,hit,c6,m0,hrg,hln⟩;simp only at F hit c6 m0 hrg hln;have hm2:=F.kp mp _ hmn hm;have hq2:=F.kp q _ hqn hq;simp only[eE,eC,seval];rw[QI hit hm2];refine⟨V4 _,λe he=>(MM he).1,λhnil=>?_,λe he=>?_⟩
 ·have hp:=Rg m0 hrg hnil;obtain⟨fr,lc,cl,lm,⟨lv,hc,hlv⟩,hL,kp⟩:=F;have y1:(n+2=n)=False:=Vs zo;simp only[eZ,seval,eY,Gl,hL,hc,y1];refine⟨lv,_,rfl,hp,?_,fr.hset (V4 m) (show n+2<m by omega),zo,λid ob d7 h0=>by rw[V5 zo];exact kp id ob d7 h0⟩;rcases hlv with h|⟨hne,id,rest,h1,h2,h3⟩
  ·exact .inl h
  ·exact .inr ⟨hne,id,rest,h1,h2,by rw[AA _ _ _ _ zo];exact h3⟩
 ·obtain⟨he1,he2⟩:=Xb.1 he;obtain⟨b1,b2,b3⟩:=MM he1;have hns:e.2.2∉seen:=by simpa using he2
  have hst:Gj (hset H2 (n+4) (.mit mp 9 (seen++[e.2.2]) 9)) mp (seen++[e.2.2])=some (e.1,e.2.1):=by
   unfold Gj;rw[AA _ _ _ _ zo,hm2,List.getLast?_concat];exact b3
  have y0:(n+4=mp)=False:=Vs zo;simp only[eZ,seval,xE,eY,y0,hm2,hst,b2];refine y_apY (F.it zo zo zo c6 hit zw) (rk e.2.2) (by rw[V0];omega) λH' m' F' hk hmm=>?_
  simp only[eZ,seval,V3,yldK];refine⟨⟨seen++[e.2.2],H',m'⟩,.inr ⟨?_,.inl ⟨rfl,rfl⟩⟩,⟨by simp only[Vt,W6,Wh];exact F',hk _ _ c6 zo zo zw (AB ..),zp,?_,λb hb=>?_,by have:=PF he;simp only[V9,Vz,Wq];omega⟩,PF he⟩
  ·exact⟨⟨_,rfl,Wk.refl _⟩,⟨_,rfl,Wk.refl _⟩,trivial⟩
  ·rw[Xo];exact⟨m0,zw,λa ha b hb=>by rw[WV.1 hb];exact λe=>hns (e▸ha)⟩
  ·rcases WH.1 hb with hb|hb
   ·exact hrg b hb
   ·rw[WV.1 hb];exact b1
theorem Uo(hf:AR H n)(hq:hget H q=some (.box [.mp mp]))(hm:hget H mp=some (.map frmE 9)):
  AN prog 278 [clK q] H n λo H' n'=>∃lv qs,o= .ret lv/\qs.Perm (List.range 9)/\LvG eWd 1 (n+3) H' lv qs/\AR H' n'/\n<=n'/\∀id ob,id<n->hget H id=some ob->hget H' id=some ob:=by
 refine c278.a (AE AI.tnil (AF ?_));simp only[eE,eN,seval,c278];refine(t_apY hf hq hm).mono ?_;rintro o H' n' ⟨lv,qs,rfl,h1,h2,h3,h4,h5⟩;simp only[eE,eN,seval,retK];exact⟨lv,qs,rfl,h1,h2,h3,h4,h5⟩
def SrY(ob:List Fs->Z7)(H:AC):Zb->AC->Nat->Prop:=λo H' n'=>
 Ce H H'/\∃id rest,o= .ret (.ref id 1 0 9 (9+rest.length))/\hget H id=none/\hget H' id=some (ob ((List.range 9++rest).map eWd))
theorem t_srtY(hf:AR H n)(hq:hget H q=some (.box [.mp mp]))(hm:hget H mp=some (.map frmE 9)):
  AN prog 254 [clK q] H n (QRet H (eSs wS)):=by
 refine AN.out (AN.seal (R:=SrY (.arr 1) H) (R':=SrY (.frz 1) H) (c254.a (AE AI.tnil (AF ?_))) ?_) ?_
 ·simp only[eE,eN,seval,c254];refine(Uo hf hq hm).mono ?_;rintro o H1 n1 ⟨lv,qs,rfl,hp,hlv,e9,j9,hk⟩;simp only[eE,eN,seval,retK];have hK:Ce H H1:=λid ob h0=>hk id ob (hf.lt h0) h0
  have d6:qs.length=9:=by rw[hp.length_eq];rfl
  rcases hlv with⟨rfl,rfl⟩|⟨hne,id,rest,rfl,h2,h3⟩
  ·cases d6
  ·refine(Un h3 (λx hx=>Wy.1 (hp.mem_iff.1 hx)) zo).mono ?_;rintro o H2 n2 ⟨rfl,⟨ys,hy1,hy2,rfl⟩,rfl⟩;have hys:=Rh (hy1.trans hp) hy2;subst hys;rw[d6];simp only[eE,eN,seval,retK];refine⟨λi ob h0=>?_,id,rest,rfl,hf _ zo,AB ..⟩;rw[AA _ _ _ _ (λe=>by subst e;rw[hf _ zo]at h0;cases h0)];exact hK i ob h0
 ·rintro o H' n' ⟨hK,id,rest,h1,h2,h3⟩;refine .inr ⟨id,1,_,h3,λi ob h0=>?_,id,rest,h1,h2,AB ..⟩;rw[AA _ _ _ _ (λe=>by subst e;rw[h2]at h0;cases h0)];exact hK i ob h0
 ·rintro o H' n' ⟨hK,id,rest,rfl,h2,h3⟩;refine⟨.ret (eSs wS),⟨⟨_,rfl,Wk.refl _⟩,hK⟩,λg w e hR he=>?_⟩;have hL:LF 1 (.ref id 1 0 9 (9+rest.length)) H' (wS.map .str):=.inr ⟨by simp [wS],id,9+rest.length,rest.map eWd,rfl,by rw[h3,Vt];rfl,by simp [wS]⟩;cases e with
  |returned v=>exact Ie hL hR he
  |panicked c=>exact he.elim
  |outgrown=>exact he.elim
def sSrY:List Fs->AC->Prop×Fs:=λa H=>match a with
 |[.fn (.func f) [] [.ptr q 0]]=>(f=280/\∃mp,hget H q=some (.box [.mp mp])/\hget H mp=some (.map frmE 9),eSs wS)
 |_=>(False,.tup [])
theorem qSrY:∀args H n,(sSrY args H).1->Ab prog 254 args H n (sSrY args H).2:=by
 intro args H n hh;unfold sSrY at hh⊢;split at hh
 ·obtain⟨rfl,mp,h0,h1⟩:=hh;exact Ab.of c254.l (BK n _) λhf=>t_srtY hf h0 h1
 ·exact hh.elim
end
theorem MN:∀l:List Fs,Wks l l
 |[]=>.nil
 |a::l=>.cons (Wk.refl a) (MN l)
def xQ{P:Program}{f:FuncId}{s:List Fs->AC->Prop×Fs}(c:List Fs->Bool)(hc:∀a,c a=true->(s a hnil).1)(q:∀args H n,(s args H).1->Ab P f args H n (s args H).2):XS P:=⟨f,λa=>bif c a&&(uBs a&&uB (s a hnil).2)then some (s a hnil).2 else none,λ{a r} e=>by
 obtain⟨h,e⟩:=AY e;cases e;simp only[V7]at h;exact⟨a,MN a,uBs_ok _ h.2.1,Rd _ h.2.2,(q a hnil 0 (hc a h.1)).mono λo H' n' hh=>⟨_,hh.1,Wk.refl _⟩⟩⟩
def vEq:Fs->Fs->Bool
 | .str a,.str b=>decide (a=b)
 | .agg [.int k n,.fn (.func f) [] []],.agg [.int k' n',.fn (.func f') [] []]=>decide (k=k')&&(decide (n=n')&&decide (f=f'))
 |_,_=>false
def TH:∀a b:Fs,vEq a b=true->a=b:=λa b h=>by
 unfold vEq at h;split at h
 ·rw[Wn h]
 ·simp only[V7,Vu]at h;obtain⟨rfl,rfl,rfl⟩:=h;rfl
 ·cases h
def esEq:List (Fs×Fs×Nat)->List (Fs×Fs×Nat)->Bool
 |[],[]=>true
 |(a,b,n)::r,(a',b',n')::r'=>(vEq a a'&&vEq b b')&&(decide (n=n')&&esEq r r')
 |_,_=>false
theorem PG:∀a b,esEq a b=true->a=b
 |[],[],_=>rfl
 |(a,b,n)::r,(a',b',n')::r',h=>by
  simp only[esEq,V7,Vu]at h;rw[TH _ _ h.1.1,TH _ _ h.1.2,h.2.1,PG _ _ h.2.2]
 |[],_::_,h=>by cases h
 |_::_,[],h=>by cases h
def xSrt:XF prog:=⟨254,λC E m a H n=>match a with
 |[.fn (.func f) [] [.ptr q 0]]=>(match hget H q with
  |some (.box [.mp mp])=>(match hget H mp with
   |some (.map es c)=>bif decide (f=280/\c=9)&&esEq es frmE then some (.ret (eSs wS),H,n,[])else none
   |_=>none)
  |_=>none)
 |_=>none,λhC hE h=>by
  split at h
  ·rename_i f q;split at h
   ·rename_i mp hq;split at h
    ·rename_i es c hm;obtain⟨h1,h⟩:=AY h;cases h;rw[V7,Vu]at h1;obtain⟨⟨rfl,rfl⟩,h2⟩:=h1;rw[PG _ _ h2]at hm;refine⟨Fr.same,λR hR=>(qSrY [.fn (.func 280) [] [.ptr q 0]] _ _ ⟨rfl,mp,hq,hm⟩).mono ?_⟩;rintro o H' n' ⟨rfl,rfl,rfl⟩;exact hR
    ·cases h
   ·cases h
  ·cases h⟩
def ts0:List (XS prog):=[xQ (fun|[.str _,.int .u8 c]=>decide (0<=c/\c<256)|_=>false) (λa h=>by unfold s220;split at h<;>first|exact Wn h|cases h) q220]
end Go.AM
