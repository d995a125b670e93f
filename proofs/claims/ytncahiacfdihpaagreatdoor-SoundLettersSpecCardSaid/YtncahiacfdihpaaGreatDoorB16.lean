/-
  Parts of the proof. Conditions: none.
-/
import Derived.Test.YtncahiacfdihpaaGreatDoorB15
set_option maxRecDepth 20000
set_option linter.all false
set_option maxHeartbeats 1000000
namespace Go.AM
open Go.Proofs Go.Proofs.Tryz
section
mutual
def Sc:Fs->Fs
 | .sl .nil []=>.sl .nil []
 | .sl t l=>.sl (.none t.esz) (strips l)
 | .agg l=>.agg (strips l)
 | .tup l=>.tup (strips l)
 |v=>v
def strips:List Fs->List Fs
 |[]=>[]
 |v::r=>Sc v::strips r
end
mutual
theorem Mg:∀v:Fs,Wk v (Sc v)
 | .sl .nil []=>Wk.refl _
 | .sl .nil (a::l)=>Wk.slx (.inl rfl) (strips_wk (a::l))
 | .sl (.none e) l=>Wk.slx (.inl rfl) (strips_wk l)
 | .sl (.exact e) l=>Wk.slx (.inl rfl) (strips_wk l)
 | .sl (.own i e) l=>Wk.slx (.inl rfl) (strips_wk l)
 | .agg l=>Wk.agg (strips_wk l)
 | .tup l=>Wk.tup (strips_wk l)
 | .int .. | .bool _| .str _| .nilp| .nilfn| .nilifc| .nilmp| .ptr .. | .ep _| .gp _| .ref .. | .ap .. | .fn .. | .ifc .. | .mp _| .up=>Wk.refl _
theorem strips_wk:∀l:List Fs,Wks l (strips l)
 |[]=>.nil
 |a::l=>.cons (Mg a) (strips_wk l)
end
mutual
def wkB:Fs->Fs->Bool
 | .sl .nil [],.sl .nil []=>true
 | .sl t l,.sl (.none e) m=>(decide (t.esz=e)||l.isEmpty)&&wksB l m
 | .agg l,.agg m=>wksB l m
 | .tup l,.tup m=>wksB l m
 | .int k n,.int k' n'=>decide (k=k')&&decide (n=n')
 | .bool b,.bool b'=>b==b'
 | .str s,.str s'=>decide (s=s')
 |_,_=>false
def wksB:List Fs->List Fs->Bool
 |[],[]=>true
 |a::l,b::m=>wkB a b&&wksB l m
 |_,_=>false
end
mutual
theorem UG:∀(a b:Fs),wkB a b=true->Wk a b/\b.under 0
 |a,b,h=>by
  unfold wkB at h;split at h
  ·exact⟨Wk.refl _,trivial,trivial⟩
  ·rename_i t l e m _;simp only[W5,Wz,W9,List.isEmpty_iff]at h;have k:=wksB_ok _ _ h.2;exact⟨Wk.slx h.1 k.1,trivial,k.2⟩
  ·have k:=wksB_ok _ _ h;exact⟨Wk.agg k.1,k.2⟩
  ·have k:=wksB_ok _ _ h;exact⟨Wk.tup k.1,k.2⟩
  ·simp only[W5,W9]at h;obtain⟨rfl,rfl⟩:=h;exact⟨Wk.refl _,trivial⟩
  ·rw[eq_of_beq h];exact⟨Wk.refl _,trivial⟩
  ·rw[W9]at h;subst h;exact⟨Wk.refl _,trivial⟩
  ·cases h
theorem wksB_ok:∀(a b:List Fs),wksB a b=true->Wks a b/\unders 0 b
 |[],[],_=>⟨.nil,trivial⟩
 |a::l,b::m,h=>by
  simp only[wksB,W5]at h;have k:=UG _ _ h.1;have k':=wksB_ok _ _ h.2;exact⟨.cons k.1 k'.1,k.2,k'.2⟩
 |[],_::_,h=>by simp [wksB]at h
 |_::_,[],h=>by simp [wksB]at h
end
abbrev Ch(p:Prop):={b:Bool//b=true->p}
variable {H:AC} {o:Zn} {s s':AS} {K:AS->Prop} {v:Fs} {Qp:Fs->AC->Nat->Prop} {T:List Nat} {base:Nat} {P:Program} {p:Prop}
def dc[Decidable p]:Ch p:=⟨decide p,Xa⟩
def no:Ch p:=⟨false,λh=>by cases h⟩
def ca{q:Prop}(a:Ch p)(b:Ch q):Ch (p/\q):=⟨a.1&&b.1,λh=>by rw[W5]at h;exact⟨a.2 h.1,b.2 h.2⟩⟩
def cm{q:Prop}(h:p->q)(a:Ch p):Ch q:=⟨a.1,λe=>h (a.2 e)⟩
section
variable {k:IntKind} {v:Fs} {H:AC} {s:AS}
instance :Decidable (isI k v):=by cases v<;>(unfold isI;infer_instance)
instance :Decidable (CV v):=by cases v<;>(unfold CV;infer_instance)
instance :Decidable (isB v):=by cases v<;>(unfold isB;infer_instance)
instance :Decidable (isS v):=by cases v<;>(unfold isS;infer_instance)
instance :Decidable (isF v):=by cases v<;>(unfold isF;infer_instance)
instance :Decidable (nT v):=by cases v<;>(unfold nT;infer_instance)
instance {n b:Nat}:Decidable (Aj n b):=by unfold Aj;infer_instance
instance {ρ:Ze->Fs} {x:Option Ze}:Decidable (bndI ρ x):=by cases x<;>(unfold bndI;infer_instance)
instance {α:Type} {o:Option α}:Decidable (o=none):=match o with
 |none=>isTrue rfl
 |some _=>isFalse (λh=>by cases h)
instance {t:Zu}:Decidable (t= .nil):=by cases t<;>first|exact isTrue rfl|exact isFalse (λh=>by cases h)
instance {b:Nat}:Decidable (Fx b v):=by cases v<;>(unfold Fx;infer_instance)
instance {b:Nat}:Decidable (Hy b v):=by cases v<;>(unfold Hy;infer_instance)
instance {b:Nat}:Decidable (addr b v):=by cases v<;>(unfold addr;infer_instance)
instance :Decidable (isP v):=by cases v<;>(unfold isP;infer_instance)
instance {base k id:Nat} {cx:Nat->Fs}:Decidable (atN base cx k id):=by unfold atN;infer_instance
instance {base k:Nat} {cx:Nat->Fs}:Decidable (atK base cx k v):=by cases v<;>(unfold atK;infer_instance)
def fitC:∀(f:List Nat) (x y:List Fs),Ch (cfit f x y)
 |[],[],[]=>⟨true,λ_=>trivial⟩
 |0::fs,.int k _::xs,.int k' _::ys=>ca (p:=k=k') dc (fitC fs xs ys)
 |1::fs,.bool _::xs,.bool _::ys=>fitC fs xs ys
 |2::fs,.str _::xs,.str _::ys=>fitC fs xs ys
 |_,_,_=>no
def ldC(sz:Nat)(ag:Bool):∀v,Ch (Az H sz ag v).1
 | .ptr id off=>by
  unfold Az;try dsimp only
  cases hget H id with
  |none=>exact no
  |some o=>cases o<;>first|exact dc|exact no
 | .ap id e i off=>by
  unfold Az;try dsimp only
  cases hget H id with
  |none=>exact no
  |some o=>cases o<;>first|exact dc|exact no
 | .ep cs=>dc (p:=sz<=cs.length)
 |_=>no
def mxC{ρ:Ze->Fs}{a n:Int}:∀(mx:Option Ze),Ch (∀m,mx=some m->a<=toI (ρ m)/\toI (ρ m)<=n)
 |none=>⟨true,λ_ _ h=>by cases h⟩
 |some x=>cm (p:=a<=toI (ρ x)/\toI (ρ x)<=n) (λh m e=>by cases e;exact h) dc
def okv(H:AC)(ρ:Ze->Fs)(k:Zp):Ch (evk H ρ k).1:=by
 cases k<;>dsimp only[evk];case ld=>exact ldC _ _ _
 case aeq n fs x y=>
  generalize ρ x=v,ρ y=u;cases v with
  |agg xs=>cases u with
   |agg ys=>exact fitC _ _ _
   |_=>exact no
  |_=>exact no
 case sl esz x lo hi mx=>
  generalize ρ x=v;cases v with
  |sl t l=>exact ca dc (ca dc (ca dc (ca dc (ca dc (ca dc (ca dc (ca dc (mxC mx))))))))
  |ref id e off len cap=>cases mx<;>(dsimp only[E6];exact dc)
  |_=>exact no
 case b2s=>exact no
 case mnmx xs=>exact ca dc ⟨!xs.isEmpty,λh e=>by rw[e]at h;cases h⟩
 case build=>unfold evB;exact dc
 case bs=>unfold evS;exact dc
 case nilc x=>
  generalize ρ x=v;cases v<;>first|exact dc|(rename_i f _ _;cases f<;>exact dc)
 case fa x=>generalize ρ x=v;cases v<;>exact dc
 case fld x=>generalize ρ x=v;cases v<;>exact dc
 case ia x i=>generalize ρ x=v;cases v<;>exact dc
 case iaA x i=>generalize ρ x=v;cases v<;>exact dc
 case ixA x i=>generalize ρ x=v;cases v<;>exact dc
 case len x=>generalize ρ x=v;cases v<;>exact dc
 case ext x=>generalize ρ x=v;cases v<;>exact dc
 all_goals exact dc
instance {t:Zu} {e:Nat}:Decidable (A5 H e t):=by
 cases t with
 |own id e'=>
  show Decidable (e'=e/\hget H id=some .tok);cases hget H id with
  |none=>exact isFalse zw
  |some o=>cases o with
   |tok=>exact decidable_of_iff (e'=e) ⟨λh=>⟨h,rfl⟩,λh=>h.1⟩
   |_=>exact isFalse zw
 |_=>unfold A5;infer_instance
def asC{old:Fs}{off sz esz:Nat}{v:Fs}:Ch (DQ old off sz esz v).1:=
 if h:off=0/\sz=esz then⟨true,λ_=>by unfold DQ;rw[Wg h];trivial⟩else match old with
  | .agg cs=>⟨decide (cs.length=esz/\off+sz<=esz),λe=>by unfold DQ;rw[W7 h];exact Xa e⟩
  |_=>no
def stC(sz:Nat)(v:Fs):∀a,Ch (stE H sz v a).1
 | .ptr id off=>by
  unfold stE;try dsimp only
  cases hget H id with
  |none=>exact no
  |some o=>cases o<;>first|exact dc|exact no
 | .ap id e i off=>by
  unfold stE;dsimp only;cases hget H id with
  |none=>exact no
  |some o=>cases o with
   |arr e' l=>exact ca dc (ca dc asC)
   |_=>exact no
 |_=>no
def apC(id esz b:Nat)(v:Fs)(x:Option (List Fs)):Ch (appE H id esz b v x).1:=by
 unfold appE;cases v with
 |sl t l=>cases x with
  |none=>exact no
  |some l'=>exact dc
 |_=>exact no
def slC(n:Nat)(lo hi:Int):∀v,Ch (slAE H n lo hi v).1
 | .ptr id 0=>by
  cases h:hget H id with
  |none=>exact no
  |some o=>cases o with
   |box cs=>exact cm (p:=cs.length=n/\0<=lo/\lo<=hi/\hi<=n/\lo<n) (λq=>by simp only[slAE,h];exact q) dc
   |arr e cs=>exact cm (p:=e=1/\cs.length=n/\0<=lo/\lo<=hi/\hi<=n/\lo<n) (λq=>by simp only[slAE,h];exact q) dc
   |_=>exact no
 |_=>no
def slxC(n e:Nat)(lo hi:Int):∀v,Ch (slxE H n e lo hi v).1
 | .ptr id 0=>by
  cases h:hget H id with
  |none=>exact no
  |some o=>cases o with
   |box cs=>exact cm (p:=cs.length=n*e/\0<=lo/\lo<=hi/\hi<=n/\lo<n) (λq=>by simp only[slxE,h];exact q) dc
   |arr e' cs=>exact cm (p:=e'=e/\cs.length=n/\0<=lo/\lo<=hi/\hi<=n/\lo<n) (λq=>by simp only[slxE,h];exact q) dc
   |_=>exact no
 |_=>no
def isC(k:IntKind):∀n l,Ch (isIs k n l)
 |0,[]=>⟨true,λ_=>trivial⟩
 |n+1,.int k' _::r=>ca (p:=k'=k) dc (isC k n r)
 |_,_=>no
def ktC:∀(t:KT) v,Ch (t.is v)
 | .int k,.int k' _=>dc (p:=k'=k)
 | .bool,.bool _=>⟨true,λ_=>trivial⟩
 | .str,.str _=>⟨true,λ_=>trivial⟩
 | .arr n k,.agg xs=>isC k n xs
 |_,_=>no
def mfC(t:KT):∀es,Ch (Dn t es)
 |[]=>⟨true,λ_=>trivial⟩
 |(k,_,_)::r=>ca (ktC t k) (mfC t r)
def bmC(e n:Nat):∀is vs,Ch (bsmS e n is vs)
 |[],[]=>⟨true,λ_=>trivial⟩
 |i::is,v::vs=>ca (p:=nT v) dc (ca (p:=v.cells.length=e) dc (ca (p:=i<n) dc (bmC e n is vs)))
 |_,_=>no
def xC(b:Nat):∀x l,Ch (xE b x H l).1
 | .mkm rel,[]=>dc (p:=hget H (b+rel)=none)
 | .look kt z ok,[.nilmp,k]=>ktC kt k
 | .look kt z ok,[.mp id,k]=>by
  unfold xE;dsimp only;cases hget H id with
  |none=>exact no
  |some o=>cases o with
   |map es c=>exact ca (ktC _ _) (mfC _ _)
   |_=>exact no
 | .mput kt,[.mp id,k,v]=>by
  unfold xE;dsimp only;cases hget H id with
  |none=>exact no
  |some o=>cases o with
   |map es c=>exact ca (ktC _ _) (ca (mfC _ _) dc)
   |_=>exact no
 | .mlen,[.mp id]=>by
  unfold xE;dsimp only;cases hget H id with
  |none=>exact no
  |some o=>cases o<;>exact dc
 | .nileq 0 _,[.ifc _ _]| .nileq 0 _,[.nilifc]| .nileq 1 _,[.ptr _ _]| .nileq 1 _,[.nilp]| .nileq 1 _,[.ep _]| .nileq 2 _,[.fn _ _ _]| .nileq 2 _,[.nilfn]=>⟨true,λ_=>trivial⟩
 | .tas _ true _,[.ifc _ _]| .tas _ true _,[.nilifc]| .i2s,[.int _ _]=>⟨true,λ_=>trivial⟩
 | .tas t false _,[.ifc t' _]=>dc (p:=t'=t)
 | .srng rel,[.str _]=>dc (p:=hget H (b+rel)=none)
 | .slx n e false false,[v]=>slxC n e 0 n v
 | .slx n e true false,[v,.int _ a]=>slxC n e a n v
 | .slx n e false true,[v,.int _ c]=>slxC n e 0 c v
 | .slx n e true true,[v,.int _ a,.int _ c]=>slxC n e a c v
 | .bsm rel e n z is,vs=>by
  unfold xE;exact ca dc (ca (bmC _ _ _ _) dc)
 | .cpy e str,[.ref id e1 off len cap,y]=>by
  unfold xE;dsimp only;cases hget H id with
  |none=>exact no
  |some o=>cases o with
   |arr e' l=>cases srcV H e y str with
    |none=>exact no
    |some l'=>exact dc
   |_=>exact no
 |_,_=>no
def fzC(t:Nat):Ch (frzE s t).1:=by
 unfold frzE;cases eget s.env t with
 |none=>exact no
 |some p=>
  obtain⟨g,v⟩:=p;cases g with
  |false=>exact no
  |true=>cases v with
   |ref id e off len cap=>
    dsimp only;cases hget s.H id with
    |none=>exact no
    |some o=>cases o<;>first|exact dc|exact no
   |_=>exact no
def foC(t:Nat):Ch (GY s t).1:=by
 unfold GY;cases eget s.env t with
 |none=>exact no
 |some p=>
  obtain⟨g,v⟩:=p;cases g with
  |false=>exact no
  |true=>cases v with
   |ref id e off len cap=>
    dsimp only;cases hget s.H id with
    |none=>exact no
    |some o=>cases o<;>first|exact dc|exact no
   |sl t l=>exact⟨true,λ_=>trivial⟩
   |_=>exact no
def sdC(base:Nat)(cx:Nat->Fs)(ρ:Ze->Fs):∀f k,Ch (BR base cx ρ f k)
 |0,_=>⟨true,λ_=>trivial⟩
 |1,.v (.ld _ _ a)=>dc (p:=Fx base (ρ a))
 |2,.st _ a _=>dc (p:=Hy base (ρ a))
 |2,.v (.ld _ _ a)=>dc (p:=isP (ρ a))
 |k+3,.v (.ld _ _ a)=>dc (p:=atK base cx k (ρ a))
 |k+3,.st _ a _=>dc (p:=atK base cx k (ρ a))
 |k+3,.call false _ _=>dc (p:=300000<=k/\k % 2=0)
 |_,_=>no
mutual
def uB:Fs->Bool
 | .int _ _| .bool _| .str _| .nilp| .nilfn| .nilifc| .nilmp=>true
 | .sl .nil l| .sl (.none _) l| .sl (.exact _) l=>uBs l
 | .agg l| .tup l| .ep l=>uBs l
 | .fn _ a b=>uBs a&&uBs b
 |_=>false
def uBs:List Fs->Bool
 |[]=>true
 |a::l=>uB a&&uBs l
end
mutual
theorem Sd:∀v:Fs,uB v=true->v.under 0
 | .int _ _,_| .bool _,_| .str _,_| .nilp,_| .nilfn,_| .nilifc,_| .nilmp,_=>trivial
 | .sl .nil l,h| .sl (.none _) l,h| .sl (.exact _) l,h=>⟨trivial,uBs_ok l h⟩
 | .agg l,h| .tup l,h| .ep l,h=>uBs_ok l h
 | .fn _ a b,h=>by
  have h:(uBs a&&uBs b)=true:=h;rw[W5]at h;exact⟨uBs_ok a h.1,uBs_ok b h.2⟩
 | .ptr ..,h| .gp _,h| .sl (.own ..) _,h| .ref ..,h| .ap ..,h| .ifc ..,h| .mp _,h| .up,h=>by cases h
theorem uBs_ok:∀l:List Fs,uBs l=true->unders 0 l
 |[],_=>trivial
 |a::l,h=>by
  have h:(uB a&&uBs l)=true:=h;rw[W5]at h;exact⟨Sd a h.1,uBs_ok l h.2⟩
end
mutual
def flB:Fs->Bool
 | .int _ _| .bool _| .str _=>true
 | .agg l| .tup l=>flBs l
 |_=>false
def flBs:List Fs->Bool
 |[]=>true
 |a::l=>flB a&&flBs l
end
mutual
theorem UH:∀v:Fs,flB v=true->v.flat
 | .int _ _,_| .bool _,_| .str _,_=>trivial
 | .agg l,h| .tup l,h=>flBs_ok l h
 | .nilp,h| .nilfn,h| .nilifc,h| .nilmp,h| .ep _,h| .fn ..,h| .sl ..,h| .ptr ..,h| .gp _,h| .ref ..,h| .ap ..,h| .ifc ..,h| .mp _,h| .up,h=>by cases h
theorem flBs_ok:∀l:List Fs,flBs l=true->flats l
 |[],_=>trivial
 |a::l,h=>by
  have h:(flB a&&flBs l)=true:=h;rw[W5]at h;exact⟨UH a h.1,flBs_ok l h.2⟩
end
mutual
def vw0(H:AC):Fs->Fs
 | .ref id e off len cap=>match hget H id with
  |some (.arr _ l)=>.sl (.none e) ((l.drop off).take len)
  |_=>.tup []
 | .agg l=>.agg (vws0 H l)
 | .sl (.own _ e) l=>.sl (.none e) l
 |v=>v
def vws0(H:AC):List Fs->List Fs
 |[]=>[]
 |a::l=>vw0 H a::vws0 H l
end
mutual
def vw(H:AC):Fs->Fs
 | .ptr id off=>match hget H id with
  |some (.box cs)=>.ep (vws0 H (cs.drop off))
  |_=>.tup []
 | .agg l=>.agg (vws H l)
 | .fn f a b=>.fn f (vws H a) (vws H b)
 |v=>vw0 H v
def vws(H:AC):List Fs->List Fs
 |[]=>[]
 |a::l=>vw H a::vws H l
end
mutual
def vB0(H:AC):Fs->Bool
 | .ref id e off len cap=>match hget H id with
  |some (.arr e' l)=>decide (e'=e)&&(decide (off+len<=l.length)&&decide (len<=cap))
  |_=>false
 | .agg l=>vBs0 H l
 |_=>true
def vBs0(H:AC):List Fs->Bool
 |[]=>true
 |a::l=>vB0 H a&&vBs0 H l
end
mutual
theorem Py{H:AC}:∀v,vB0 H v=true->View H (vw0 H v) v
 | .ref id e off len cap,h=>by
  unfold vB0 at h;split at h
  ·rename_i q;simp only[W5,W9]at h;simp only[vw0,q];exact .ref (by rw[q,h.1]) h.2.1 h.2.2
  ·cases h
 | .agg l,h=>.agg (vBs0_ok l h)
 | .sl (.own _ e) l,_=>.wk (Wk.sl (.inl rfl))
 | .int ..,_| .bool _,_| .str _,_| .nilp,_| .nilfn,_| .nilifc,_| .nilmp,_| .ep _,_| .gp _,_| .sl .nil _,_| .sl (.none _) _,_| .sl (.exact _) _,_| .tup _,_| .ap ..,_| .ifc ..,_| .mp _,_| .up,_| .ptr ..,_| .fn ..,_=>.wk (Wk.refl _)
theorem vBs0_ok{H:AC}:∀l:List Fs,vBs0 H l=true->Views H (vws0 H l) l
 |[],_=>.nil
 |a::l,h=>by
  have h:(vB0 H a&&vBs0 H l)=true:=h;rw[W5]at h;exact .cons (Py a h.1) (vBs0_ok l h.2)
end
mutual
def vB(H:AC):Fs->Bool
 | .ptr id off=>match hget H id with
  |some (.box cs)=>vBs0 H (cs.drop off)
  |_=>false
 | .agg l=>vBs H l
 | .fn _ a b=>vBs H a&&vBs H b
 |v=>vB0 H v
def vBs(H:AC):List Fs->Bool
 |[]=>true
 |a::l=>vB H a&&vBs H l
end
mutual
theorem vB_ok{H:AC}:∀v,vB H v=true->View H (vw H v) v
 | .ptr id off,h=>by
  unfold vB at h;split at h
  ·rename_i q;simp only[vw,q];exact .pw q (vBs0_ok _ h)
  ·cases h
 | .agg l,h=>.agg (vBs_ok l h)
 | .fn f a b,h=>by
  have h:(vBs H a&&vBs H b)=true:=h;rw[W5]at h;exact .fn (vBs_ok a h.1) (vBs_ok b h.2)
 | .ref a b c d e,h=>Py (.ref a b c d e) h
 | .sl t l,h=>Py (.sl t l) h
 | .int ..,_| .bool _,_| .str _,_| .nilp,_| .nilfn,_| .nilifc,_| .nilmp,_| .ep _,_| .gp _,_| .tup _,_| .ap ..,_| .ifc ..,_| .mp _,_| .up,_=>.wk (Wk.refl _)
theorem vBs_ok{H:AC}:∀l:List Fs,vBs H l=true->Views H (vws H l) l
 |[],_=>.nil
 |a::l,h=>by
  have h:(vB H a&&vBs H l)=true:=h;rw[W5]at h;exact .cons (vB_ok a h.1) (vBs_ok l h.2)
end
mutual
def nB:Fs->Bool
 | .ref .. | .ptr .. =>false
 | .agg l=>nBs l
 | .fn _ [] []=>true
 | .fn .. =>false
 |_=>true
def nBs:List Fs->Bool
 |[]=>true
 |a::l=>nB a&&nBs l
end
mutual
theorem nB_ok{H:AC}:∀v,nB v=true->Wk v (vw H v)
 | .ref ..,h| .ptr ..,h| .fn _ (_::_) _,h| .fn _ [] (_::_),h=>by cases h
 | .agg l,h=>Wk.agg (nBs_ok l h)
 | .fn f [] [],_=>Wk.refl _
 | .sl (.own _ e) l,_=>Wk.sl (.inl rfl)
 | .int ..,_| .bool _,_| .str _,_| .nilp,_| .nilfn,_| .nilifc,_| .nilmp,_| .ep _,_| .gp _,_| .sl .nil _,_| .sl (.none _) _,_| .sl (.exact _) _,_| .tup _,_| .ap ..,_| .ifc ..,_| .mp _,_| .up,_=>Wk.refl _
theorem nBs_ok{H:AC}:∀l:List Fs,nBs l=true->Wks l (vws H l)
 |[],_=>.nil
 |a::l,h=>by
  have h:(nB a&&nBs l)=true:=h;rw[W5]at h;exact .cons (nB_ok a h.1) (nBs_ok l h.2)
end
end
def iI(k:IntKind):Fs->Bool
 | .int k' _=>decide (k'=k)
 |_=>false
def iN:Fs->Bool
 | .int _ _=>true
 |_=>false
def iB:Fs->Bool
 | .bool _=>true
 |_=>false
def iS:Fs->Bool
 | .str _=>true
 |_=>false
def iT:Fs->Bool
 | .tup _=>false
 |_=>true
theorem Nr{k:IntKind}(h:iI k v=true):isI k v:=by cases v<;>simp_all [iI,isI]
theorem iN_ok(h:iN v=true):CV v:=by cases v<;>simp_all [iN,CV]
theorem Ns(h:iB v=true):isB v:=by cases v<;>simp_all [iB,isB]
theorem VO(h:iS v=true):isS v:=by cases v<;>simp_all [iS,isS]
theorem VP(h:iT v=true):nT v:=by cases v<;>simp_all [iT,nT]
def fitB:List Nat->List Fs->List Fs->Bool
 |[],[],[]=>true
 |0::fs,.int k _::xs,.int k' _::ys=>decide (k=k')&&fitB fs xs ys
 |1::fs,.bool _::xs,.bool _::ys=>fitB fs xs ys
 |2::fs,.str _::xs,.str _::ys=>fitB fs xs ys
 |_,_,_=>false
theorem VQ(f:List Nat)(x y:List Fs)(h:fitB f x y=true):cfit f x y:=by
 fun_induction fitB f x y<;>simp_all [cfit]
def okB(H:AC)(ρ:Ze->Fs):Zp->Bool
 | .mv _=>true
 | .arith op k x y=>iI k (ρ x)&&iI k (ρ y)&&(!KC op||decide (toI (ρ y)≠0))
 | .shift op k ky x y=>iI k (ρ x)&&iI ky (ρ y)&&decide (0<=toI (ρ y))
 | .icmp op k x y=>iI k (ρ x)&&iI k (ρ y)
 | .beq _ x y=>iB (ρ x)&&iB (ρ y)
 | .scmp op x y=>iS (ρ x)&&iS (ρ y)
 | .not x=>iB (ρ x)
 | .fa _ x=>match ρ x with
  | .ptr _ _| .ep _=>true
  |_=>false
 | .ld sz _ x=>match ρ x with
  | .ptr id off=>(match hget H id with
   |some (.box cs)=>decide (off+sz<=cs.length)
   |_=>false)
  | .ep cs=>decide (sz<=cs.length)
  |_=>false
 | .ia esz x i=>match ρ x with
  | .sl tok l=>decide (tok.esz=esz)&&iN (ρ i)&&decide (0<=toI (ρ i))&&decide (toI (ρ i)<l.length)
  |_=>false
 | .len x=>match ρ x with
  | .sl _ _=>true
  |_=>false
 | .lenS x=>iS (ρ x)
 | .build zero parts=>parts.all λp=>iT (ρ p.2.2)&&decide ((ρ p.2.2).cells.length=p.2.1)&&decide (p.1+p.2.1<=zero.length)
 | .bs esz n zero parts=>(parts.all λp=>iT (ρ p.2)&&decide ((ρ p.2).cells.length=esz)&&decide (p.1<n))&&decide (zero.cells.length=esz)&&decide (n*esz<=16777216)
 | .fn _ _ _=>true
 | .ext i x=>match ρ x with
  | .tup vs=>decide (i<vs.length)
  |_=>false
 | .aeq _ fs x y=>match ρ x,ρ y with
  | .agg xs,.agg ys=>fitB fs xs ys
  |_,_=>false
 |_=>false
theorem okB_ok{ρ:Ze->Fs}{k:Zp}(h:okB H ρ k=true):(evk H ρ k).1:=by
 cases k<;>simp only[okB,Ws,W5,Wz,XQ,W9,Wo]at h;case mv=>trivial
 case arith=>exact⟨Nr h.1.1,Nr h.1.2,λq=>by
  rcases h.2 with h|h; ·rw[h]at q;cases q
  ·exact h⟩
 case shift=>exact⟨Nr h.1.1,Nr h.1.2,h.2⟩
 case icmp=>exact⟨Nr h.1,Nr h.2⟩
 case beq=>exact⟨Ns h.1,Ns h.2⟩
 case scmp=>exact⟨VO h.1,VO h.2⟩
 case not=>exact Ns h
 case fa=>simp only[evk];split at h<;>simp_all
 case ld sz ag x=>
  simp only[evk];generalize ρ x=v at h;cases v<;>simp only[Ws]at h;case ptr id off=>
   simp only[Az];split at h
   ·rename_i q;rw[q];exact Xa h
   ·cases h
  case ep cs=>simp only[Az];exact Xa h
 case ia esz x i=>
  simp only[evk];split at h
  ·rename_i q;simp only[W5,W9]at h;rw[q];exact⟨h.1.1.1,iN_ok h.1.1.2,h.1.2,h.2⟩
  ·cases h
 case len=>simp only[evk];split at h<;>simp_all
 case lenS=>exact VO h
 case build=>exact λp hp=>⟨VP (h p hp).1.1,(h p hp).1.2,(h p hp).2⟩
 case bs=>exact⟨λp hp=>⟨VP (h.1.1 p hp).1.1,(h.1.1 p hp).1.2,(h.1.1 p hp).2⟩,h.1.2,h.2⟩
 case fn=>trivial
 case ext=>
  simp only[evk];split at h
  ·rename_i q;rw[q];exact Xa h
  ·cases h
 case aeq=>
  simp only[evk];split at h
  ·rename_i q q';rw[q,q'];exact VQ _ _ _ h
  ·cases h
def okF(H:AC)(ρ:Ze->Fs)(k:Zp):Bool:=okB H ρ k||(okv H ρ k).1
theorem okF_ok{ρ:Ze->Fs}{k:Zp}(h:okF H ρ k=true):(evk H ρ k).1:=((Wz _ _).mp h).elim okB_ok (okv H ρ k).2
def seen(H:AC)(l:List Fs)(r:Fs):Prop:=Wks l (vws H l)\/(unders 0 (vws H l)/\Views H (vws H l) l/\r.flat)
def seB(H:AC)(l:List Fs)(r:Fs):Bool:=nBs l||(uBs (vws H l)&&(vBs H l&&flB r))
theorem UI{l:List Fs}{r:Fs}(h:seB H l r=true):seen H l r:=by
 simp only[seB,Wz,W5]at h;exact h.imp (nBs_ok l) λq=>⟨uBs_ok _ q.1,vBs_ok l q.2.1,UH r q.2.2⟩
abbrev CT:=FuncId->List Fs->Option Fs
abbrev ET:=FuncId->List Fs->AC->Nat->Option (Zr×AC×Nat×List Nat)
def Fr(T:List Nat)(H H':AC):Prop:=∀id,id∉T->hget H' id=hget H id
theorem Fr.same:Fr T H H:=λ_ _=>rfl
theorem Fr.set{i:Nat}{o:Zk}(h:i∈T):Fr T H (hset H i o):=λj hj=>by rw[AK,W7 (by rintro rfl;exact hj h)]
theorem Fr.trans{U:List Nat}{H1 H2:AC}(h:Fr T H H1)(k:Fr U H1 H2):Fr (T++U) H H2:=λj hj=>by
 rw[Xo,not_or]at hj;rw[k j hj.2,h j hj.1]
def TX(C:CT):Tab:=λf l H=>match C f (vws H l)with
 |some r=>(seen H l r,r)
 |none=>(False,.tup [])
def COK(P:Program)(C:CT):Prop:=∀f l r,C f l=some r->∃a,Wks l a/\Pur P f a r
def EOK(P:Program)(E:ET):Prop:=∀f l H n o H' n' T,E f l H n=some (o,H',n',T)->Fr T H H'/\∀R:Zr->AC->Nat->Prop,R o H' n'->AP P f l H n R
theorem Nt{C:CT}(h:COK P C):AI P (TX C):=by
 intro f l H n q;unfold TX at q⊢;split at q
 ·rename_i r e;obtain⟨a,w,p⟩:=h _ _ _ e;rcases q with q|q
  ·exact AP.args (p.quiet H n) λg vs hv=>w.rel vs (q.rel vs hv)
  ·exact Pur.view ⟨q.1,p.2.1,AP.args p.2.2 λg vs hv=>w.rel vs hv⟩ q.2.2 q.2.1 n
 ·exact q.elim
def goB(env:List (Nat×Bool×Fs)):Option (Nat×Bool)->Bool
 |none=>true
 |some (t,_)=>match eget env t with
  |none=>false
  |some (g,v)=>!g||iB v
theorem Pz{env:List (Nat×Bool×Fs)}{g:Option (Nat×Bool)}(h:goB env g=true):gok env g:=by
 cases g with
 |none=>trivial
 |some tw=>
  obtain⟨t,w⟩:=tw;simp only[goB]at h;simp only[gok];split at h
  ·cases h
  ·rename_i g v q;rw[q];intro e;rw[e]at h;exact Ns h
def oB(env:List (Nat×Bool×Fs))(l:List Ze):Bool:=l.all λx=>(lk env x).1
theorem Nu{env:List (Nat×Bool×Fs)}:∀{l:List Ze},oB env l=true->oks env l
 |[],_=>trivial
 |x::l,h=>by
  simp only[oB,Yw,W5]at h;exact⟨h.1,Nu h.2⟩
theorem Aa{α:Type}{b:Bool}{x:Option α}{y:α}(h:(bif b then x else none)=some y):b=true/\x=some y:=by
 cases b
 ·cases h
 ·exact⟨rfl,h⟩
def go(d:Option Nat)(s:AS)(b:Bool)(H:AC)(v:Fs):Option AS:=bif b then some ({s with H:=H}.put d true v)else none
def xeff(base:Nat)(o:Zn)(s:AS):Option AS:=match o.k with
 | .alloc rel cs=>go o.dst s (hget s.H (base+rel)).isNone (hset s.H (base+rel) (.box cs)) (.ptr (base+rel) 0)
 | .box rel sz x=>go o.dst s ((hget s.H (base+rel)).isNone&&(iT (lkv s.env x)&&decide ((lkv s.env x).cells.length=sz))) (hset s.H (base+rel) (.box (lkv s.env x).cells)) (.ptr (base+rel) 0)
 | .st sz a x=>go o.dst s (decide (nT (lkv s.env x)/\(lkv s.env x).cells.length=sz)&&(stC (H:=s.H) sz (lkv s.env x) (lkv s.env a)).1) (stE s.H sz (lkv s.env x) (lkv s.env a)).2 (.tup [])
 | .app rel e b x y t=>go o.dst s (apC (H:=s.H) (base+rel) e b (lkv s.env x) (Bx s.H (lkv s.env) e y t)).1 (appE s.H (base+rel) e b (lkv s.env x) (Bx s.H (lkv s.env) e y t)).2.1 (appE s.H (base+rel) e b (lkv s.env x) (Bx s.H (lkv s.env) e y t)).2.2
 | .mks rel e b z x=>go o.dst s (decide (hget s.H (base+rel)=none/\CV (lkv s.env x)/\0<=toI (lkv s.env x)/\Aj (toI (lkv s.env x)).toNat b/\toI (lkv s.env x)<=35184372088832/\z.cells.length=e)) (mksE s.H (base+rel) e b z (lkv s.env x)).2.1 (mksE s.H (base+rel) e b z (lkv s.env x)).2.2
 | .slA n x lo hi=>go o.dst s (decide (bndI (lkv s.env) lo/\bndI (lkv s.env) hi)&&(slC (H:=s.H) n (bnd (lkv s.env) 0 lo) (bnd (lkv s.env) n hi) (lkv s.env x)).1) (slAE s.H n (bnd (lkv s.env) 0 lo) (bnd (lkv s.env) n hi) (lkv s.env x)).2.1 (slAE s.H n (bnd (lkv s.env) 0 lo) (bnd (lkv s.env) n hi) (lkv s.env x)).2.2
 | .ext x xs=>go o.dst s (xC (H:=s.H) base x (xs.map (lkv s.env))).1 (xE base x s.H (xs.map (lkv s.env))).2.1 (xE base x s.H (xs.map (lkv s.env))).2.2
 | .nils q x=>(match lkv s.env x with
  | .sl .nil []=>go o.dst s true s.H (.bool !q)
  | .sl _ (_::_)=>go o.dst s true s.H (.bool q)
  | .ref .. =>go o.dst s true s.H (.bool q)
  |_=>none)
 |_=>none
theorem VR(h:xeff base o s=some s')(hK:K s'):A6 P Qp base o K s:=by
 obtain⟨d,g,k⟩:=o;cases k<;>simp only[xeff,seval,go]at h;case alloc=>
  obtain⟨h1,h⟩:=Aa h;cases h;exact⟨Option.isNone_iff_eq_none.1 h1,hK⟩
 case box=>
  obtain⟨h1,h⟩:=Aa h;cases h;simp only[W5,W9]at h1;exact⟨Option.isNone_iff_eq_none.1 h1.1,VP h1.2.1,h1.2.2,hK⟩
 case st sz a x=>
  obtain⟨h1,h⟩:=Aa h;cases h;rw[W5]at h1;have e:=Xa h1.1;have q:stAt s.H sz (lkv s.env x) (λH'=>K ({s with H:=H'}.put d true (.tup []))) (lkv s.env a):=by
   rw[Kp];exact⟨(stC _ _ _).2 h1.2,hK⟩
  exact⟨e.1,e.2,q⟩
 case app rel e b x y t=>
  obtain⟨h1,h⟩:=Aa h;cases h;have q:Lb s.H (base+rel) e b (λH' v=>K ({s with H:=H'}.put d true v)) (lkv s.env x) (Bx s.H (lkv s.env) e y t):=by
   rw[L6];exact⟨(apC _ _ _ _ _).2 h1,hK⟩
  exact q
 case mks=>
  obtain⟨h1,h⟩:=Aa h;cases h;have e:=Xa h1;exact⟨e.1,e.2.1,e.2.2.1,e.2.2.2.1,e.2.2.2.2.1,e.2.2.2.2.2,hK⟩
 case slA n x lo hi=>
  obtain⟨h1,h⟩:=Aa h;cases h;rw[W5]at h1;have e:=Xa h1.1;refine⟨e.1,e.2,?_⟩;rw[Q3];exact⟨(slC _ _ _ _).2 h1.2,hK⟩
 case ext=>
  obtain⟨h1,h⟩:=Aa h;cases h;exact⟨(xC _ _ _).2 h1,hK⟩
 case nils q x=>
  show FU (λb=>K (s.put d true (.bool b))) q (lkv s.env x);split at h
  ·rename_i e;rw[e];cases h;exact hK
  ·rename_i t _ _ e;rw[e];cases h;cases t<;>exact hK
  ·rename_i e;rw[e];cases h;exact hK
  ·cases h
def hdZq:List Fs->List Nat
 | .mp id::_| .ptr id _::_| .ref id .. ::_| .ap id .. ::_| .sl (.own id _) _::_=>[id]
 |_=>[]
def tch(base:Nat)(o:Zn)(s:AS):List Nat:=match o.k with
 | .alloc rel _| .box rel _ _| .mks rel .. =>[base+rel]
 | .app rel _ _ x _ _=>(base+rel)::hdZq [lkv s.env x]
 | .st _ a _=>hdZq [lkv s.env a]
 | .slA _ x _ _=>hdZq [lkv s.env x]
 | .ext x xs=>(match x with
  | .mkm rel| .srng rel| .mrng rel| .bsm rel .. =>[base+rel]
  |_=>[])++hdZq (xs.map (lkv s.env))
 |_=>[]
theorem EE{s1:AS}{d:Option Nat}{g:Bool}(h:Fr T s.H s1.H):Fr T s.H (s1.put d g v).H:=by rw[Kr];exact h
theorem VS{n e:Nat}{lo hi:Int}{l:List Fs}:Fr (T++hdZq (v::l)) H (slxE H n e lo hi v).2.1:=by
 unfold slxE;split
 ·split<;>first|exact Fr.same|exact Fr.set (by simp [hdZq])
 ·exact Fr.same
theorem VT(h:xeff base o s=some s'):Fr (tch base o s) s.H s'.H:=by
 obtain⟨d,g,k⟩:=o;cases k<;>simp only[xeff,seval,go]at h;case nils q x=>split at h<;>first|(cases h;exact EE Fr.same)|cases h
 all_goals
  obtain⟨h1,h⟩:=Aa h;cases h;refine EE ?_;simp only[tch]
 case alloc=>exact Fr.set zw
 case box=>exact Fr.set zw
 case mks=>exact Fr.set zw
 case st sz a x=>
  generalize lkv s.env a=v;cases v<;>simp only[stE]<;>first|exact Fr.same|(split<;>first|exact Fr.same|exact Fr.set (by simp [hdZq]))
 case slA n x lo hi=>
  generalize lkv s.env x=v;unfold slAE;split
  ·split<;>first|exact Fr.same|exact Fr.set (by simp [hdZq])
  ·exact Fr.same
 case app rel e b x y t=>
  generalize lkv s.env x=v,Bx s.H (lkv s.env) e y t=u;unfold appE;split
  ·rename_i tk l l';cases tk<;>simp only[AO,hdZq];case own=>exact λj hj=>by simp only[X7,not_or]at hj;rw[AK,W7 (Ne.symm hj.1),AK,W7 (Ne.symm hj.2.1)]
   all_goals exact Fr.set zw
  ·exact Fr.same
 case ext x xs=>
  generalize xs.map (lkv s.env)=l;cases x<;>(unfold xE;try dsimp only)<;>(repeat' split)<;>first|with_reducible exact Fr.same|with_reducible exact VS|exact Fr.set (by simp_all [hdZq])
def xop(C:CT)(base:Nat)(o:Zn)(s:AS):Option AS:=
 bif goB s.env o.guard then match o.k with
  | .v k=>bif !gvb s.env o.guard||(oB s.env k.opds&&okF s.H (lkv s.env) k)then some (s.put o.dst (gvb s.env o.guard) (evk s.H (lkv s.env) k).2)else none
  | .pick c a b=>bif !gvb s.env o.guard||((lk s.env c).1&&iB (lkv s.env c)&&(bif toB (lkv s.env c)then(lk s.env a).1 else(lk s.env b).1))then some (s.put o.dst (gvb s.env o.guard) (sel (toB (lkv s.env c)) (lkv s.env a) (lkv s.env b)))else none
  | .call true f l=>bif gvb s.env o.guard then(bif (lk s.env f).1&&oB s.env l then(match lkv s.env f with
    | .fn (.func i) a b=>(match C i (vws s.H (a++l.map (lkv s.env)++b))with
     |some r=>bif seB s.H (a++l.map (lkv s.env)++b) r then some (s.put o.dst true r)else none
     |none=>none)
    |_=>none)else none)else some (s.put o.dst false (Fb (TX C) (l.map (lkv s.env)) s.H (lkv s.env f)).2)
  | .cpu f l=>bif gvb s.env o.guard then(bif (lk s.env f).1&&oB s.env l then(match lkv s.env f with
    | .fn (.func i) a b=>(match C i (vws hnil (a++l.map (lkv s.env)++b))with
     |some r=>bif seB hnil (a++l.map (lkv s.env)++b) r&&(uBs (a++l.map (lkv s.env)++b)&&uB r)then some (s.put o.dst true r)else none
     |none=>none)
    |_=>none)else none)else some (s.put o.dst false (.tup []))
  |_=>bif gvb s.env o.guard then(bif oB s.env o.k.opds then xeff base o s else none)else some (s.put o.dst false (.tup []))
 else none
theorem UJ{C:CT}(h:xop C base o s=some s')(hK:K s'):BI P (TX C) Qp base o K s:=by
 unfold xop at h;have hb:=Aa h;clear h;obtain⟨hz,h⟩:=hb;have h0:=Pz hz;clear hz;have eff:(bif gvb s.env o.guard then(bif oB s.env o.k.opds then xeff base o s else none)else some (s.put o.dst false (.tup [])))=some s'->(gvb s.env o.guard=true->oks s.env o.k.opds/\A6 P Qp base o K s)/\(gvb s.env o.guard=false->K (s.put o.dst false (.tup []))):=by
  intro h;cases hg:gvb s.env o.guard<;>rw[hg]at h
  ·cases h;exact⟨λq=>(by cases q),λ_=>hK⟩
  ·obtain⟨h1,h⟩:=Aa h;exact⟨λ_=>⟨Nu h1,VR h hK⟩,λq=>(by cases q)⟩
 obtain⟨d,g,k⟩:=o;cases k<;>simp only[]at h;case v k=>
  obtain⟨h1,h⟩:=Aa h;cases h;refine⟨h0,λq=>?_,hK⟩;rw[q]at h1;simp only[W3,XG,W5]at h1;exact⟨Nu h1.1,okF_ok h1.2⟩
 case pick c a b=>
  obtain⟨h1,h⟩:=Aa h;cases h;refine⟨h0,λq=>?_,hK⟩;rw[q]at h1;simp only[W3,XG,W5]at h1;refine⟨h1.1.1,Ns h1.1.2,λe=>?_,λe=>?_⟩<;>(have:=h1.2;rw[e]at this;exact this)
 case call q f l=>
  cases q
  ·exact(show AW P Qp base ⟨d,g,.call false f l⟩ K s from⟨h0,eff h⟩)
  dsimp only at h;cases hg:gvb s.env g<;>rw[hg]at h
  ·cases h;simp only[BI,hg];exact⟨h0,λq=>(by cases q),hK⟩
  ·obtain⟨h1,h⟩:=Aa h;simp only[W5]at h1;split at h
   ·rename_i i a b e;split at h
    ·rename_i r e';obtain⟨h2,h⟩:=Aa h;cases h;have hc:Fb (TX C) (l.map (lkv s.env)) s.H (lkv s.env f)=(seen s.H (a++l.map (lkv s.env)++b) r,r):=by rw[e];simp only[Fb,TX,e']
     simp only[BI,hg,hc];exact⟨h0,λ_=>⟨h1.1,Nu h1.2,UI h2⟩,hK⟩
    ·cases h
   ·cases h
 case cpu f l=>
  cases hg:gvb s.env g<;>rw[hg]at h
  ·cases h;simp only[BI,hg];exact⟨h0,λq=>(by cases q),λ_=>hK⟩
  ·obtain⟨h1,h⟩:=Aa h;simp only[W5]at h1;split at h
   ·rename_i i a b e;split at h
    ·rename_i r e';obtain⟨h2,h⟩:=Aa h;cases h;simp only[W5]at h2;have hc:cpuT (TX C) (l.map (lkv s.env)) (lkv s.env f)=(seen hnil (a++l.map (lkv s.env)++b) r/\unders 0 (a++l.map (lkv s.env)++b)/\r.under 0,r):=by rw[e];simp only[cpuT,TX,e']
     simp only[BI,hg,hc];exact⟨h0,λ_=>⟨⟨h1.1,Nu h1.2,UI h2.1,uBs_ok _ h2.2.1,Sd _ h2.2.2⟩,hK⟩,λq=>(by cases q)⟩
    ·cases h
   ·cases h
 all_goals exact⟨h0,eff h⟩
def xst(C:CT)(E:ET)(base:Nat)(o:Zn)(s:AS):Option (Option Fs×AS×List Nat):=match o.k with
 | .call false f l=>bif goB s.env o.guard then(bif gvb s.env o.guard then(bif (lk s.env f).1&&oB s.env l then(match lkv s.env f with
   | .fn (.func i) a b=>(match E i (a++l.map (lkv s.env)++b) s.H s.n with
    |some (.ret v,H',n',T)=>some (none,{s with H:=H',n:=n'}.put o.dst true v,T)
    |some (.pan v,H',n',T)=>some (some v,⟨[],H',n'⟩,T)
    |none=>none)
   |_=>none)else none)else some (none,s.put o.dst false (.tup []),[]))else none
 | .pan x=>bif goB s.env o.guard then(bif gvb s.env o.guard then(bif (lk s.env x).1&&decide (isF (lkv s.env x))then some (some (lkv s.env x),⟨[],s.H,s.n⟩,[])else none)else some (none,s.put o.dst false (.tup []),[]))else none
 |_=>(xop C base o s).map λs'=>(none,s',tch base o s)
def PK(Qp:Fs->AC->Nat->Prop)(K:AS->Prop):Option Fs×AS×List Nat->Prop
 |(none,s,_)=>K s
 |(some v,s,_)=>Qp v s.H s.n
theorem Mh{C:CT}{E:ET}(hE:EOK P E){r:Option Fs×AS×List Nat}(h:xst C E base o s=some r)(hK:PK Qp K r):BI P (TX C) Qp base o K s:=by
 unfold xst at h;split at h
 ·rename_i f l e;obtain⟨d,g,k⟩:=o;cases e;obtain⟨hz,h⟩:=Aa h;show AW P Qp base ⟨d,g,.call false f l⟩ K s;refine⟨Pz hz,λq=>?_,λq=>?_⟩
  ·simp only[q,cond_true]at h;obtain⟨h1,h⟩:=Aa h;rw[W5]at h1;refine⟨⟨h1.1,Nu h1.2⟩,?_⟩;simp only[A6];split at h
   ·rename_i e;rw[e];split at h
    ·rename_i e';cases h;exact(hE _ _ _ _ _ _ _ _ e').2 _ hK
    ·rename_i e';cases h;exact(hE _ _ _ _ _ _ _ _ e').2 _ hK
    ·cases h
   ·cases h
  ·simp only[q,cond_false,Option.some.injEq]at h;subst h;exact hK
 ·rename_i x e;obtain⟨d,g,k⟩:=o;cases e;obtain⟨hz,h⟩:=Aa h;show AW P Qp base ⟨d,g,.pan x⟩ K s;refine⟨Pz hz,λq=>?_,λq=>?_⟩
  ·simp only[q,cond_true]at h;obtain⟨h1,h⟩:=Aa h;rw[W5]at h1;cases h;exact⟨⟨h1.1,trivial⟩,Xa h1.2,hK⟩
  ·simp only[q,cond_false,Option.some.injEq]at h;subst h;exact hK
 ·cases hx:xop C base o s with
  |none=>rw[hx]at h;cases h
  |some s'=>
   rw[hx]at h;cases h;exact UJ hx hK
theorem UK{C:CT}(h:xop C base o s=some s'):Fr (tch base o s) s.H s'.H:=by
 unfold xop at h;have hb:=Aa h;clear h;obtain⟨hz,h⟩:=hb;obtain⟨d,g,k⟩:=o;have eff:(bif gvb s.env g then(bif oB s.env k.opds then xeff base ⟨d,g,k⟩ s else none)else some (s.put d false (.tup [])))=some s'->Fr (tch base ⟨d,g,k⟩ s) s.H s'.H:=by
  intro h;cases hg:gvb s.env g<;>rw[hg]at h
  ·cases h;exact EE Fr.same
  ·exact VT (Aa h).2
 cases k<;>simp only[]at h;case v=>have h:=(Aa h).2;cases h;exact EE Fr.same
 case pick=>have h:=(Aa h).2;cases h;exact EE Fr.same
 case cpu=>
  cases hg:gvb s.env g<;>rw[hg]at h
  ·cases h;exact EE Fr.same
  ·have h:=(Aa h).2;split at h
   ·split at h
    ·have h:=(Aa h).2;cases h;exact EE Fr.same
    ·cases h
   ·cases h
 case call q f l=>
  cases q
  ·exact eff h
  dsimp only at h;cases hg:gvb s.env g<;>rw[hg]at h
  ·cases h;exact EE Fr.same
  ·have h:=(Aa h).2;split at h
   ·split at h
    ·have h:=(Aa h).2;cases h;exact EE Fr.same
    ·cases h
   ·cases h
 all_goals exact eff h
theorem J8{C:CT}{E:ET}(hE:EOK P E){p:Option Fs}(h:xst C E base o s=some (p,s',T)):Fr T s.H s'.H:=by
 unfold xst at h;split at h
 ·have h:=(Aa h).2;cases hg:gvb s.env o.guard<;>rw[hg]at h
  ·cases h;exact EE Fr.same
  ·have h:=(Aa h).2;split at h
   ·split at h
    ·rename_i e;cases h;exact EE (hE _ _ _ _ _ _ _ _ e).1
    ·rename_i e;cases h;exact(hE _ _ _ _ _ _ _ _ e).1
    ·cases h
   ·cases h
 ·have h:=(Aa h).2;cases hg:gvb s.env o.guard<;>rw[hg]at h
  ·cases h;exact EE Fr.same
  ·have h:=(Aa h).2;cases h;exact Fr.same
 ·cases hx:xop C base o s with
  |none=>rw[hx]at h;cases h
  |some s1=>rw[hx]at h;cases h;exact UK hx
def more(T:List Nat):Option (Option Fs×AS×List Nat)->Option (Option Fs×AS×List Nat)
 |some (p,s,U)=>some (p,s,T++U)
 |none=>none
def xops(C:CT)(E:ET)(base:Nat):List Zn->AS->Option (Option Fs×AS×List Nat)
 |[],s=>some (none,s,[])
 |o::r,s=>match xst C E base o s with
  |some (none,s',T)=>more T (xops C E base r s')
  |x=>x
def kyC(cx:Nat->Fs)(H:AC)(T:List Nat):∀f k,Ch (∀H',Fr T H H'->Ex cx f k H H')
 |0,k=>⟨true,λ_ _ _=>by rw[De];trivial⟩
 |_,.v _=>⟨true,λ_ _ _=>by rw[P9];trivial⟩
 |_,.st _ _ _=>⟨true,λ_ _ _=>by rw[Mo];trivial⟩
 |k+3,.call false _ _=>cm (p:=∀id∈T,addr id (cx ((k-300000)/2))\/hget H id=none) (λh H' hf=>by
   show GA _ _ _;intro id h1 h2;exact hf id λhm=>(h id hm).elim h1 h2) dc
 |_,_=>no
def xopx(C:CT)(E:ET)(base:Nat)(cx:Nat->Fs):List (Nat×Zn)->AS->Option (Option Fs×AS×List Nat)
 |[],s=>some (none,s,[])
 |o::r,s=>bif !gvb s.env o.2.guard||(sdC base cx (lkv s.env) o.1 o.2.k).1 then(match xst C E base o.2 s with
  |some (none,s',T)=>bif (kyC cx s.H T o.1 o.2.k).1 then more T (xopx C E base cx r s')else none
  |x=>x)else none
section
variable {P:Program} {C:CT} {E:ET} (hE:EOK P E) {Qp:Fs->AC->Nat->Prop} {base:Nat} {K:AS->Prop}
theorem J9{T:List Nat}{y:Option (Option Fs×AS×List Nat)}{x:Option Fs×AS×List Nat}(h:more T y=some x):∃U,y=some (x.1,x.2.1,U)/\x.2.2=T++U:=by
 cases y with
 |none=>cases h
 |some y=>obtain⟨p,s,U⟩:=y;cases h;exact⟨U,rfl,rfl⟩
theorem UL{x:Option Fs×AS×List Nat}{U:List Nat}(h:PK Qp K x):PK Qp K (x.1,x.2.1,U):=by
 obtain⟨a,b,c⟩:=x;cases a<;>exact h
include hE
theorem G2:∀{l:List Zn} {s:AS} {x:Option Fs×AS×List Nat},xops C E base l s=some x->PK Qp K x->runT P (TX C) Qp base l K s/\Fr x.2.2 s.H x.2.1.H
 |[],s,x,h,hK=>by cases h;exact⟨hK,Fr.same⟩
 |o::r,s,x,h,hK=>by
  unfold xops at h;split at h
  ·rename_i s' T e;obtain⟨U,h,hT⟩:=J9 h;have ih:=G2 h (UL hK);rw[hT];exact⟨Mh hE e ih.1,(J8 hE e).trans ih.2⟩
  ·rename_i q;obtain⟨a,b,T⟩:=x;refine⟨Mh hE h ?_,J8 hE h⟩;cases a
   ·exact absurd h (q _ _)
   ·exact hK
theorem G3{cx:Nat->Fs}:∀{l:List (Nat×Zn)} {s:AS} {x:Option Fs×AS×List Nat},xopx C E base cx l s=some x->PK Qp K x->DM P (TX C) Qp base cx l K s/\Fr x.2.2 s.H x.2.1.H
 |[],s,x,h,hK=>by cases h;exact⟨hK,Fr.same⟩
 |o::r,s,x,h,hK=>by
  unfold xopx at h;obtain⟨h1,h⟩:=Aa h;have hs:gvb s.env o.2.guard=true->BR base cx (lkv s.env) o.1 o.2.k:=λq=>(sdC _ _ _ _ _).2 (by rwa[q]at h1)
  split at h
  ·rename_i s' T e;obtain⟨h2,h⟩:=Aa h;obtain⟨U,h,hT⟩:=J9 h;have ih:=G3 h (UL hK);rw[hT];exact⟨⟨hs,Mh hE e ⟨(kyC _ _ _ _ _).2 h2 _ (J8 hE e),ih.1⟩⟩,(J8 hE e).trans ih.2⟩
  ·rename_i q;obtain⟨a,b,T⟩:=x;refine⟨⟨hs,Mh hE h ?_⟩,J8 hE h⟩;cases a
   ·exact absurd h (q _ _)
   ·exact hK
end
def done(keep:List Nat):Option Fs×AS×List Nat->Zg×AS×List Nat
 |(none,s,T)=>(.normal,s.keep keep,T)
 |(some v,s,T)=>(.pan v,⟨[],s.H,s.n⟩,T)
def VV(T:List Nat):Option (Zg×AS×List Nat)->Option (Zg×AS×List Nat)
 |some (e,s,U)=>some (e,s,T++U)
 |none=>none
theorem IJ{y:Option (Zg×AS×List Nat)}{e:Zg}{V:List Nat}(h:VV T y=some (e,s,V)):∃U,y=some (e,s,U)/\V=T++U:=by
 cases y with
 |none=>cases h
 |some y=>obtain⟨p,s,U⟩:=y;cases h;exact⟨U,rfl,rfl⟩
def hdF(s:AS)(t:Nat):List Nat:=match eget s.env t with
 |some (true,.ref id ..)=>[id]
 |_=>[]
theorem VW{t:Nat}:Fr (hdF s t) s.H (frzE s t).2.H:=by
 cases h:eget s.env t with
 |none=>simp only[frzE,hdF,h];exact Fr.same
 |some p=>
  obtain⟨g,v⟩:=p;cases g<;>cases v<;>simp only[frzE,hdF,h]<;>first|exact Fr.same|(split<;>first|exact Fr.same|exact Fr.set (Xe ..))
theorem Se{t:Nat}:Fr (s.n::hdF s t) s.H (GY s t).2.H:=by
 cases h:eget s.env t with
 |none=>simp only[GY,hdF,h];exact Fr.same
 |some p=>
  obtain⟨g,v⟩:=p;cases g<;>cases v<;>simp only[GY,hdF,h]<;>first|exact Fr.same|(split<;>first|exact Fr.same|(intro j hj;simp only[X7,not_or]at hj;show hget (hset (hset s.H _ _) _ _) j=_;rw[AK,W7 (Ne.symm hj.1),AK,W7 (Ne.symm hj.2.1)]))
def xc(C:CT)(E:ET):Nat->Zd->AS->Option (Zg×AS×List Nat)
 |0,_,_=>none
 |n+1,c,s=>match c with
  | .skip=>some (.normal,s,[])
  | .reg bump ops keep=>(xops C E s.n ops {s with n:=s.n+bump}).map (done keep)
  | .regx bump ops keep=>(xopx C E s.n (cxOf s.env s.n) ops {s with n:=s.n+bump}).map (done keep)
  | .frz t=>bif (fzC (s:=s) t).1 then some (.normal,(frzE s t).2,hdF s t)else none
  | .frzo t=>bif (foC (s:=s) t).1 then some (.normal,(GY s t).2,s.n::hdF s t)else none
  | .seq a b=>(match xc C E n a s with
   |some (.normal,s',T)=>VV T (xc C E n b s')
   |r=>r)
  | .cond c a b=>bif (lk s.env c).1&&iB (lkv s.env c)then(bif toB (lkv s.env c)then xc C E n a s else xc C E n b s)else none
  | .block id c=>(match xc C E n c s with
   |some (.exit i,s',T)=>bif i==id then some (.normal,s',T)else some (.exit i,s',T)
   |r=>r)
  | .loop c=>(match xc C E n c s with
   |some (.normal,s',T)=>VV T (xc C E n (.loop c) s')
   |r=>r)
  | .exit id=>some (.exit id,s,[])
  | .ret=>some (.ret,s,[])
  |_=>none
theorem EK{C:CT}{E:ET}(hE:EOK P E):∀(n:Nat) (c:Zd) (s:AS) (e:Zg) (s':AS) (T:List Nat),xc C E n c s=some (e,s',T)->Fr T s.H s'.H/\∀Q:Zg->AS->Prop,Q e s'->ev P (TX C) c Q s
 |0,_,_,_,_,_,h=>by cases h
 |n+1,c,s,e,s',T,h=>by
  cases c<;>simp only[xc,seval]at h;case skip=>cases h;exact⟨Fr.same,λQ hQ=>hQ⟩
  case reg bump ops keep=>
   obtain⟨x,q,h⟩:=XP.1 h;obtain⟨a,b,U⟩:=x;cases a<;>cases h
   ·exact⟨(G2 hE (Qp:=λ_ _ _=>False) (K:=λ_=>True) q trivial).2,λQ hQ=>(G2 hE (Qp:=λv H n=>Q (.pan v) ⟨[],H,n⟩) (K:=λs'=>Q .normal (s'.keep keep)) q hQ).1⟩
   ·exact⟨(G2 hE (Qp:=λ_ _ _=>True) (K:=λ_=>False) q trivial).2,λQ hQ=>(G2 hE (Qp:=λv H n=>Q (.pan v) ⟨[],H,n⟩) (K:=λs'=>Q .normal (s'.keep keep)) q hQ).1⟩
  case regx bump ops keep=>
   obtain⟨x,q,h⟩:=XP.1 h;obtain⟨a,b,U⟩:=x;cases a<;>cases h
   ·exact⟨(G3 hE (Qp:=λ_ _ _=>False) (K:=λ_=>True) q trivial).2,λQ hQ=>(G3 hE (Qp:=λv H n=>Q (.pan v) ⟨[],H,n⟩) (K:=λs'=>Q .normal (s'.keep keep)) q hQ).1⟩
   ·exact⟨(G3 hE (Qp:=λ_ _ _=>True) (K:=λ_=>False) q trivial).2,λQ hQ=>(G3 hE (Qp:=λv H n=>Q (.pan v) ⟨[],H,n⟩) (K:=λs'=>Q .normal (s'.keep keep)) q hQ).1⟩
  case frz=>
   obtain⟨h1,h⟩:=Aa h;cases h;refine⟨VW,λQ hQ=>?_⟩;show frzA _ _ _ _;rw[Q4];exact⟨(fzC _).2 h1,hQ⟩
  case frzo=>
   obtain⟨h1,h⟩:=Aa h;cases h;refine⟨Se,λQ hQ=>?_⟩;show FV _ _ _ _;rw[NE];exact⟨(foC _).2 h1,hQ⟩
  case seq a b=>
   split at h
   ·rename_i q;obtain⟨U,h2,rfl⟩:=IJ h;have k1:=EK hE n a s _ _ _ q;have k2:=EK hE n b _ _ _ _ h2;exact⟨k1.1.trans k2.1,λQ hQ=>k1.2 _ (k2.2 Q hQ)⟩
   ·rename_i r hr;have k1:=EK hE n a s _ _ _ h;refine⟨k1.1,λQ hQ=>k1.2 _ ?_⟩;cases e<;>first|exact hQ|exact absurd h (hr _ _)
  case cond c a b=>
   obtain⟨h1,h⟩:=Aa h;simp only[W5]at h1;cases hb:toB (lkv s.env c)<;>rw[hb]at h<;>have k:=EK hE n _ s _ _ _ h<;>refine⟨k.1,λQ hQ=>⟨h1.1,Ns h1.2,λq=>?_,λq=>?_⟩⟩<;>first|exact k.2 Q hQ|(rw[hb]at q;cases q)
  case block id c=>
   split at h
   ·rename_i i t U q;have k:=EK hE n c s _ _ _ q;cases hi:i==id<;>rw[hi]at h<;>cases h
    ·refine⟨k.1,λQ hQ=>k.2 _ ?_⟩;simp only;rw[W7 (λe=>by rw[e,beq_self_eq_true]at hi;cases hi)];exact hQ
    ·refine⟨k.1,λQ hQ=>k.2 _ ?_⟩;simp only;rw[Wg (eq_of_beq hi)];exact hQ
   ·rename_i hr;have k:=EK hE n c s _ _ _ h;refine⟨k.1,λQ hQ=>k.2 _ ?_⟩;cases e<;>first|exact hQ|exact absurd h (hr _ _ _)
  case loop c=>
   split at h
   ·rename_i s1 U q;obtain⟨V,h3,rfl⟩:=IJ h;have k1:=EK hE n c s _ _ _ q;have k2:=EK hE n (.loop c) s1 _ _ _ h3;refine⟨k1.1.trans k2.1,λQ hQ=>?_⟩;obtain⟨I,μ,h1,h2⟩:=k2.2 Q hQ
    classical
    refine⟨λt=>t=s\/I t,λt=>if I t then μ t else μ s1+1,.inl rfl,λt ht=>?_⟩;by_cases hI:I t
    ·refine D6 c _ _ t (λe s h=>?_) (h2 t hI);cases e;case normal=>
      obtain⟨s2,w,i2,m2⟩:=h;refine⟨s2,w,.inr i2,?_⟩;simp only;rw[Wg i2,Wg hI];exact m2
     all_goals exact h
    ·obtain rfl:=ht.resolve_right hI;refine k1.2 _ ⟨s1,.inl rfl,.inr h1,?_⟩;simp only;rw[Wg h1,W7 hI];exact Nat.lt_succ_self _
   ·rename_i hr;have k:=EK hE n c s _ _ _ h;refine⟨k.1,λQ hQ=>⟨λt=>t=s,λ_=>0,rfl,λt ht=>?_⟩⟩;subst ht;refine k.2 _ ?_;cases e<;>first|exact hQ|exact absurd h (hr _ _)
  case exit=>cases h;exact⟨Fr.same,λQ hQ=>hQ⟩
  case ret=>cases h;exact⟨Fr.same,λQ hQ=>hQ⟩
def rlC(H:AC)(sz:Nat)(a:Bool):∀v,Ch (BG H sz a v).1
 | .ptr id off=>by
  unfold BG;try dsimp only
  cases hget H id with
  |none=>exact no
  |some o=>cases o<;>first|exact dc|exact no
 |_=>no
def rcC(s:AS):∀l,Ch (rcs s l).1
 |[]=>⟨true,λ_=>trivial⟩
 | .t i::l=>ca (p:=(lk s.env (.t i)).1=true) dc (rcC s l)
 | .c i sz a::l=>ca (ca (p:=(lk s.env (.t i)).1=true) dc (rlC s.H sz a _)) (rcC s l)
structure XF(P:Program) where
 f:FuncId
 run:CT->ET->Nat->List Fs->AC->Nat->Option (Zr×AC×Nat×List Nat)
 ok:∀{C E m a H n o H' n' T},COK P C->EOK P E->run C E m a H n=some (o,H',n',T)->Fr T H H'/\∀R:Zr->AC->Nat->Prop,R o H' n'->AP P f a H n R
structure XS(P:Program) where
 f:FuncId
 sp:List Fs->Option Fs
 ok:∀{a r},sp a=some r->∃a',Wks a a'/\Pur P f a' r
def xS{f:FuncId}{a:List Fs}{r:Fs}(h:Pur P f a r):XS P:=⟨f,λb=>bif wksB b a then some r else none,λe=>by
 obtain⟨q,e⟩:=Aa e;cases e;exact⟨a,(wksB_ok _ _ q).1,h⟩⟩
def xr(c:Zd)(rs:List RC)(C:CT)(E:ET)(m:Nat)(a:List Fs)(H:AC)(n:Nat):Option (Zr×AC×Nat×List Nat):=match xc C E m c ⟨penv 0 a,H,n⟩with
 |some (.ret,s,T)=>bif (rcC s rs).1 then some (.ret (rvS (rcs s rs).2),s.H,s.n,T)else none
 |some (.normal,s,T)=>bif (rcC s rs).1 then some (.ret (rvS (rcs s rs).2),s.H,s.n,T)else none
 |some (.pan v,s,T)=>some (.pan v,s.H,s.n,T)
 |_=>none
section
variable {P:Program}
def xF{f:FuncId}{c:Zd}{rs:List RC}(ok:AOf P f c rs):XF P:=⟨f,xr c rs,λhC hE h=>by
 unfold xr at h;split at h
 ·rename_i s T q;obtain⟨h1,h⟩:=Aa h;cases h;have k:=EK hE _ _ _ _ _ _ q;exact⟨k.1,λR hR=>ok (AF (Nt hC) (k.2 _ ⟨(rcC _ _).2 h1,hR⟩))⟩
 ·rename_i s T q;obtain⟨h1,h⟩:=Aa h;cases h;have k:=EK hE _ _ _ _ _ _ q;exact⟨k.1,λR hR=>ok (AF (Nt hC) (k.2 _ ⟨(rcC _ _).2 h1,hR⟩))⟩
 ·rename_i s T q;cases h;have k:=EK hE _ _ _ _ _ _ q;exact⟨k.1,λR hR=>ok (AF (Nt hC) (k.2 _ hR))⟩
 ·cases h⟩
def xdR(c:Zd)(t3 t4:Nat)(rs:List RC)(env:List (Nat×Bool×Fs))(fc:List Fs)(C:CT)(E:ET)(m:Nat)(rv:Fs)(s:AS)(T:List Nat):Option (Zr×AC×Nat×List Nat):=match xc C E m c ⟨(t3,true,rv)::(t4,true,rv)::penv 0 fc,s.H,s.n⟩with
 |some (.ret,s,U)=>bif (rcC ⟨env,s.H,s.n⟩ rs).1 then some (.ret (rvS (rcs ⟨env,s.H,s.n⟩ rs).2),s.H,s.n,T++U)else none
 |some (.normal,s,U)=>bif (rcC ⟨env,s.H,s.n⟩ rs).1 then some (.ret (rvS (rcs ⟨env,s.H,s.n⟩ rs).2),s.H,s.n,T++U)else none
 |_=>none
section
variable {f i4:FuncId} {ys:List Zd} {t:Nat} {d0:Option Nat} {k:Zp} {y c:Zd} {lo t3 t4:Nat} {rs:List RC}
 (okd:∀{args:List Fs} {rv:Fs} {H:AC} {n:Nat} {Rc:AC->Nat->Prop},awp P c (C3 [] λo H' n'=>o= .ret (.tup [])/\Rc H' n') ⟨(t3,true,rv)::(t4,true,rv)::penv 0 args,H,n⟩->CS P i4 args rv H n Rc)
include okd
theorem P0{C:CT}{E:ET}{m:Nat}(hC:COK P C)(hE:EOK P E){env:List (Nat×Bool×Fs)}{fc:List Fs}{rv:Fs}{s:AS}{o:Zr}{H0 H':AC}{n':Nat}{T V:List Nat}(hf:Fr T H0 s.H)(h:xdR c t3 t4 rs env fc C E m rv s T=some (o,H',n',V)):Fr V H0 H'/\∀R:Zr->AC->Nat->Prop,R o H' n'->CS P i4 fc rv s.H s.n (RcOf rs env R):=by
 unfold xdR at h;split at h
 ·rename_i q;obtain⟨h1,h⟩:=Aa h;cases h;have k:=EK hE _ _ _ _ _ _ q;exact⟨hf.trans k.1,λR hR=>okd (AF (Nt hC) (k.2 _ ⟨trivial,rfl,(rcC _ _).2 h1,hR⟩))⟩
 ·rename_i q;obtain⟨h1,h⟩:=Aa h;cases h;have k:=EK hE _ _ _ _ _ _ q;exact⟨hf.trans k.1,λR hR=>okd (AF (Nt hC) (k.2 _ ⟨trivial,rfl,(rcC _ _).2 h1,hR⟩))⟩
 ·cases h
def xD(ok:∀{args:List Fs} {H:AC} {n:Nat} {R:Zr->AC->Nat->Prop},awp P (EZ ys) (Kk P t ⟨d0,none,.v k⟩ y lo i4 rs R) ⟨penv 0 args,H,n⟩->AP P f args H n R):XF P:=
 ⟨f,λC E m a H n=>match xc C E m (EZ ys) ⟨penv 0 a,H,n⟩with
  |some (.normal,s,T)=>(match xop C s.n ⟨d0,none,.v k⟩ s with
   |some s1=>(match lkv s1.env (.t t)with
    | .fn (.func i) x b=>bif (lk s1.env (.t t)).1&&i==i4 then(match xc C E m y s1 with
     |some (.ret,s2,U)=>xdR c t3 t4 rs (s1.env.filter λe=>Nat.blt e.1 lo) (x++b) C E m .nilifc s2 (T++[]++U)
     |some (.normal,s2,U)=>xdR c t3 t4 rs (s1.env.filter λe=>Nat.blt e.1 lo) (x++b) C E m .nilifc s2 (T++[]++U)
     |some (.pan v,s2,U)=>xdR c t3 t4 rs (s1.env.filter λe=>Nat.blt e.1 lo) (x++b) C E m v s2 (T++[]++U)
     |_=>none)else none
    |_=>none)
   |none=>none)
  |_=>none,λhC hE h=>by
  split at h
  ·rename_i s T q;split at h
   ·rename_i s1 q1;split at h
    ·rename_i i x b q2;obtain⟨h1,h⟩:=Aa h;rw[W5]at h1;rw[eq_of_beq h1.2]at q2;have hT:=Nt hC;have k0:=EK hE _ _ _ _ _ _ q;have f1:Fr [] s.H s1.H:=UK q1;have fin:∀{R:Zr->AC->Nat->Prop},ev P (TX _) y (TE P i4 (x++b) rs (s1.env.filter λe=>Nat.blt e.1 lo) R) s1->AP P f _ _ _ R:=λhv=>
      ok (AF hT (k0.2 _ (FK hT (Qp:=λ_ _ _=>False) (base:=s.n) (λ_ h=>h) (UJ (K:=λs1=>(lk s1.env (.t t)).1=true/\∃first cap,lkv s1.env (.t t)= .fn (.func i4) first cap/\awp P y (TE P i4 (first++cap) rs (s1.env.filter λe=>Nat.blt e.1 lo) _) s1) q1 ⟨h1.1,x,b,q2,AF hT hv⟩))))
     split at h
     ·rename_i q3;have k1:=EK hE _ _ _ _ _ _ q3;have k2:=P0 okd hC hE ((k0.1.trans f1).trans k1.1) h;exact⟨k2.1,λR hR=>fin (k1.2 _ (k2.2 R hR))⟩
     ·rename_i q3;have k1:=EK hE _ _ _ _ _ _ q3;have k2:=P0 okd hC hE ((k0.1.trans f1).trans k1.1) h;exact⟨k2.1,λR hR=>fin (k1.2 _ (k2.2 R hR))⟩
     ·rename_i q3;have k1:=EK hE _ _ _ _ _ _ q3;have k2:=P0 okd hC hE ((k0.1.trans f1).trans k1.1) h;exact⟨k2.1,λR hR=>fin (k1.2 _ (k2.2 R hR))⟩
     ·cases h
    ·cases h
   ·cases h
  ·cases h⟩
end
end
section
variable {P:Program} (tab:List (XF P)) (ts:List (XS P)) (m:Nat)
def xp:Nat->CT×ET
 |0=>(λ_ _=>none,λ_ _ _ _=>none)
 |n+1=>(λf a=>match ts.findSome? λe=>bif e.f==f then e.sp a else none with
   |some r=>some r
   |none=>match tab.find? λe=>e.f==f with
    |none=>none
    |some e=>bif uBs (strips a)then(match e.run (xp n).1 (xp n).2 m (strips a) hnil 0 with
     |some (.ret v,_,_,_)=>bif uB (Sc v)then some (Sc v)else none
     |_=>none)else none,
  λf a H k=>match tab.find? λe=>e.f==f with
   |none=>none
   |some e=>e.run (xp n).1 (xp n).2 m a H k)
theorem xp_ok:∀n,COK P (xp tab ts m n).1/\EOK P (xp tab ts m n).2
 |0=>⟨λ_ _ _ h=>(by cases h),λ_ _ _ _ _ _ _ _ h=>(by cases h)⟩
 |n+1=>by
  obtain⟨hC,hE⟩:=xp_ok n;constructor
  ·intro f l r h;unfold xp at h;dsimp only at h;split at h
   ·rename_i e he;cases h;obtain⟨e,_,he⟩:=List.exists_of_findSome?_eq_some he;have h9:=Aa he;obtain rfl:=eq_of_beq h9.1;exact e.ok h9.2
   ·split at h
    ·cases h
    ·rename_i e he;have hf:=List.find?_some he;obtain rfl:=eq_of_beq hf;obtain⟨h1,h⟩:=Aa h;split at h
     ·rename_i v _ _ _ q;obtain⟨h2,h⟩:=Aa h;cases h;exact⟨_,strips_wk l,.mk (uBs_ok _ h1) (Sd _ h2) ((e.ok hC hE q).2 _ ⟨_,rfl,Mg v⟩)⟩
     ·cases h
  ·intro f l H k o H' n' T h;unfold xp at h;dsimp only at h;split at h
   ·cases h
   ·rename_i e he;have hf:=List.find?_some he;obtain rfl:=eq_of_beq hf;exact e.ok hC hE h
end
end
end Go.AM
namespace Go.AM
open Go.Lib Go.Proofs Go.Proofs.Tryz
theorem Mi:∀l:List Fs,Wks l l
 |[]=>.nil
 |a::l=>.cons (Wk.refl a) (Mi l)
def xQ{P:Program}{f:FuncId}{s:List Fs->AC->Prop×Fs}(c:List Fs->Bool)(hc:∀a,c a=true->(s a hnil).1)(q:∀args H n,(s args H).1->Am P f args H n (s args H).2):XS P:=⟨f,λa=>bif c a&&(uBs a&&uB (s a hnil).2)then some (s a hnil).2 else none,λ{a r} e=>by
 obtain⟨h,e⟩:=Aa e;cases e;simp only[W5]at h;exact⟨a,Mi a,uBs_ok _ h.2.1,Sd _ h.2.2,(q a hnil 0 (hc a h.1)).mono λo H' n' hh=>⟨_,hh.1,Wk.refl _⟩⟩⟩
def sd1:Zo:=⟨[107],1,1,2,1,[],[⟨[97],1⟩,⟨[98],2⟩,⟨[99],3⟩],[],[],[]⟩
def sk1:Zm:=⟨sd1,⟨1,2,1,[],[0,1]⟩,[[1],[0]],[[[0],[1]],[[0,1]],[[0],[1]],[],[[1],[0]],[[0,1],[0,1]],[[0,1]],[[0,1]]]⟩
def skE:Zm:=⟨⟨[],0,0,0,0,[],[],[],[],[]⟩,⟨0,0,0,[],[]⟩,[],[]⟩
def sx1:Zt:=⟨[120],1,[[112]],[[97]],[],[],0,0⟩
def sx2:Zt:=⟨[120],1,[[112]],[[97],[98]],[],[⟨0,[1]⟩],0,0⟩
def st1:List Cas:=[⟨2,0⟩]
def sp6:List (List Cas):=[st1,st1,st1,st1,st1,st1]
def sp1:List (List Cas):=[st1]
def fsd:Zh sd1:=⟨zd,zd,zd,λr hr=>(by cases hr),zd,zd,λr hr=>(by cases hr)⟩
def fsE:Zh skE.d:=⟨zd,zd,zd,λr hr=>(by cases hr),zd,zd,λr hr=>(by cases hr)⟩
def fsx1:FewL sx1:=⟨zd,zd,zd,zd,λq hq=>(by cases hq),λp hp=>(by cases hp)⟩
def fsx2:FewL sx2:=⟨zd,zd,zd,zd,λq hq=>(by cases hq),λp hp=>by rw[Xs.1 hp];decide⟩
def fsp6:few sp6/\∀t∈sp6,few t:=⟨zd,λt ht=>by
 have:t=st1:=by simpa [sp6]using ht
 rw[this];decide⟩
def fsp1:few sp1/\∀t∈sp1,few t:=⟨zd,λt ht=>by
 have:t=st1:=by simpa [sp1]using ht
 rw[this];decide⟩
def tsO:List (XS prog):=[xQ (fun|[.str _,.int .u8 c]=>decide (0<=c/\c<256)|_=>false) (λa h=>by unfold s159;split at h<;>first|exact Xa h|cases h) q159,
 xS (p57 sd1 fsd),xS (p32 sk1 fsd),xS (p32 skE fsE),xS (p11 sk1 0 fsd),xS (p11 sk1 2 fsd),xS (p11 sk1 4 fsd),xS (p11 skE 1 fsE),
 xS (p20 sk1 sx1 fsd fsx1),xS (p20 sk1 sx2 fsd fsx2),xS (p18 sk1 sx2 sp6 fsd fsx2 fsp6.1 fsp6.2),xS (p18 sk1 sx2 sp1 fsd fsx2 fsp1.1 fsp1.2)]
noncomputable def tabS:List (XF prog):=[xF (c9.a),xF (c15.a),xF (c29.a),xF (c13.a),xF (c56.a),xF (c36.a),xF (c38.a),xF (c37.a),xF (c40.a),xF (c39.a),xF (c41.a),xF (c64.a),xF (c65.a),xF (c67.a),xF (c68.a),xF (c69.a),xF (c66.a),xF (c70.a),xF (c71.a),xF (c72.a),xF (c73.a),xF (c74.a),xF (c75.a),xF (c76.a),xF (c138.a),xF (c139.a),xF (c140.a),xF (c141.a),xF (c142.a),xF (c107.a),xF (c144.a),xF (c108.a),xF (c110.a),xF (c109.a),xF (c111.a),xF (c112.a),xF (c113.a),xF (c175.a),xF (c176.a),xF (c178.a),xF (c177.a),xF (c179.a),xF (c159.a),xF (c182.a),xF (c186.a),xF (c180.a),xF (c181.a),xF (c183.a),xF (c184.a),xF (c185.a),xF (c187.a),xF (c188.a),xF (c189.a),xF (c190.a),xF (c232.a),xF (c235.a),xF (c233.a),xF (c236.a),xF (c237.a),xF (c238.a),xF (c239.a),xF (c265.a),xF (c266.a),xF (c267.a),xF (c268.a),xF (c269.a),xF (c270.a),xF (c271.a),xF (c272.a),xF (c273.a),xF (c296.a),xF (c300.a),xF (c315.a),xD (@a137) (@a97),xD (@a143) (@a98)]
def Mj{ts:List (XS prog)}{f:FuncId}{a:List Fs}{r:Fs}(h:(uBs a&&match (xp tabS ts 400 40).1 f a with
  |some v=>wkB v r
  |none=>false)=true):Pur prog f a r:=by
 rw[W5]at h
 obtain⟨hu,h⟩:=h
 split at h
 ·rename_i v e
  obtain⟨a',w,p⟩:=(xp_ok tabS ts 400 40).1 _ _ _ e
  have k:=UG _ _ h
  exact⟨uBs_ok _ hu,k.2,(AP.args p.2.2 λg vs hv=>w.rel vs hv).mono λo H' n' ⟨v,e,q⟩=>⟨v,e,q.trans k.1⟩⟩
 ·cases h
def sr:Fs:=.str [107,105,110,100,32,107,32,118,101,114,115,105,111,110,32,49,32,123,32,103,114,105,100,32,115,113,117,97,114,101,32,50,32,98,121,32,49,59,32,115,121,109,98,111,108,115,32,97,32,61,32,49,44,32,98,32,61,32,50,44,32,99,32,61,32,51,59,32,125]
def tk1(l:List UInt8)(a:Int):Fs:=.agg [.int .i64 1,.str l,.int .i64 0,.int .i64 a]
def tk2(n a:Int):Fs:=.agg [.int .i64 2,.str [],.int .i64 n,.int .i64 a]
def tk3(c:UInt8)(a:Int):Fs:=.agg [.int .i64 3,.str [c],.int .i64 0,.int .i64 a]
def lexV:Fs:=.sl (.none 4) [tk1 [107,105,110,100] 0,tk1 [107] 5,tk1 [118,101,114,115,105,111,110] 7,tk2 1 15,tk3 123 17,tk1 [103,114,105,100] 19,tk1 [115,113,117,97,114,101] 24,
 tk2 2 31,tk1 [98,121] 33,tk2 1 36,tk3 59 37,tk1 [115,121,109,98,111,108,115] 39,tk1 [97] 47,tk3 61 49,tk2 1 51,tk3 44 52,tk1 [98] 54,tk3 61 56,tk2 2 58,tk3 44 59,tk1 [99] 61,tk3 61 63,tk2 3 65,tk3 59 66,tk3 125 68]
def rn0:Pur prog 97 [sr] (.tup [lexV,.int .i64 0,.int .i64 0]):=Mj (ts:=tsO) (by kernel_rfl)
def rn1:Pur prog 56 [sr] (.tup [encD sd1,.int .i64 0,.int .i64 0]):=Mj (ts:=xS rn0::tsO) (by kernel_rfl)
def rn2:Pur prog 29 [sr] (.tup [Bh sk1,.int .i64 0,.int .i64 0]):=Mj (ts:=xS rn1::tsO) (by kernel_rfl)
def p9:Pur prog 9 [] (.bool true):=Mj (ts:=xS rn2::tsO) (by kernel_rfl)
end Go.AM
namespace Go.AM
open Go.Proofs Go.Proofs.Tryz
end Go.AM
namespace Go.AM
open Go.Lib Go.Proofs Go.Proofs.Tryz
def decC:Fs->Cas
 | .agg [.int _ k,.int _ a]=>⟨k,a⟩
 |_=>⟨0,0⟩
def s0v(r:Fs):List Fs->AC->Prop×Fs:=λa _=>match a with
 |[]=>(True,r)
 |_=>(False,.tup [])
def q0v{i4:FuncId}{r:Fs}(h:Pur prog i4 [] r):∀args H n,(s0v r args H).1->Am prog i4 args H n (s0v r args H).2:=by
 intro args H n hh;unfold s0v at hh⊢;split at hh
 ·exact h.quiet H n
 ·exact hh.elim
end Go.AM
