/-
  Parts of the proof. Conditions: none.
-/
import Derived.OrdersIn
import Derived.Laws.CopyRow
import Derived.Laws.OwnMore
import Derived.Laws.MakeOwn
import Derived.Laws.Entries
import Derived.Laws.IdiomStrings
import Derived.Laws.Strings
import Derived.Laws.StructEq
import Derived.ChangeKeysEq
import Derived.Laws.Concat
import Derived.Laws.Slices
set_option maxRecDepth 20000
set_option linter.all false
namespace Go.AM
theorem zo{p:Prop}(h:p:=by omega):p:=h
theorem zd{p:Prop}(h:p:=by decide):p:=h
theorem zw{p:Prop}(h:p:=by simp):p:=h
theorem zp{p:Prop}(h:p:=by simp only[];omega):p:=h
theorem zt:True:=trivial
def r9:=@eq_true
def ry:=@List.length_map
def rz:=@List.getElem?_eq_getElem
def sa:=@Bool.not_true
def sb:=@eq_false
def se:=@Bool.not_false
def sf:=@Bool.and_eq_true
def sg:=@if_neg
def si:=@decide_eq_true_eq
def sj:=@Nat.le_refl
def sk:=@Nat.zero_le
def sm:=@Int.toNat_natCast
def sn:=@if_pos
def sr:=@Int.natCast_nonneg
def su:=@List.map_append
def sw:=@Option.getD_some
def sA:=@decide_eq_false
def sC:=@List.getElem_mem
def sD:=@List.take_length
def sE:=@List.all_eq_true
def sF:=@List.getElem?_map
def sG:=@List.take_add_one
def sH:=@List.length_append
def sI:=@List.nil_append
def sJ:=@List.cons_append
def sK:=@decide_eq_true
def sM:=@List.length_cons
def sN:=@Bool.false_eq_true
def sO:=@List.drop_eq_getElem_cons
def sP:=@Bool.eq_iff_iff
def sQ:=@Bool.or_eq_true
def sR:=@List.append_nil
def sS:=@List.map_cons
def sU:=@List.length_take
def sV:=@List.mem_iff_getElem
def sW:=@Array.getElem?_eq_some_iff
def sX:=@Nat.le_trans
def sY:=@if_false
def sZ:=@List.mem_of_getElem?
def t5:=@List.drop_length
def t6:=@List.map_nil
def t7:=@List.findIdx?_eq_some_iff_getElem
def t8:=@List.getElem?_eq_some_iff
def t9:=@List.contains_iff_mem
def td:=@Option.map_some
def te:=@List.append_assoc
def tg:=@List.mem_cons
def th:=@of_decide_eq_true
def ti:=@decide_eq_false_iff_not
def tn:=@List.mem_map
def tq:=@Array.length_toList
def tt:=@Option.map_eq_some_iff
def tu:=@List.mem_cons_self
def tv:=@List.eq_nil_of_length_eq_zero
def tx:=@Nat.zero_add
def tz:=@List.length_set
def tA:=@Nat.add_mul
def tB:=@List.mem_singleton
def tC:=@List.getElem?_set
def tD:=@if_true
def tE:=@List.filter_cons
def tF:=@List.mem_range
def tG:=@List.map_congr_left
def tH:=@Nat.not_lt_zero
def tI:=@List.length_nil
def tJ:=@Bool.not_eq_true'
def tK:=@List.length_replicate
def tL:=@List.take_of_length_le
def tM:=@List.mem_cons_of_mem
def tN:=@List.length_filter_le
def tO:=@Nat.le_add_right
def tP:=@List.mem_append
def tQ:=@List.getElem?_append_left
def tR:=@List.getElem?_append_right
def tS:=@Bool.true_and
def tT:=@Nat.mul_le_mul_right
def tU:=@Option.map_none
def tV:=@List.mem_filter
def tW:=@Array.getElem?_toList
def tX:=@forall_const
def tY:=@Bool.or_eq_false_iff
def tZ:=@List.length_eq_zero_iff
def u9:=@List.getElem?_cons_zero
def ua:=@List.mem_or_eq_of_mem_set
def ub:=@Bool.false_or
def uc:=@List.range_succ
def ud:=@List.map_replicate
def ue:=@List.length_drop
def uf:=@true_and
def ug:=@List.foldl_cons
def uh:=@List.filter_append
def ui:=@List.findIdx?_eq_none_iff
def uj:=@Array.getElem?_setIfInBounds_ne
def uk:=@Bool.false_and
def ul:=@List.pairwise_iff_getElem
def um:=@Nat.add_zero
def uo:=@List.take_zero
def uq:=@false_implies
def ur:=@Int.eq_ofNat_of_zero_le
def ut:=@List.getElem?_cons_succ
def uu:=@Array.getElem?_eq_getElem
def uv:=@Array.ext'
def uw:=@Nat.lt_of_lt_of_le
def ux:=@and_assoc
def uy:=@List.drop_eq_nil_of_le
def uz:=@Array.getElem?_eq_none
def uA:=@eq_self
def uC:=@List.take_append_of_le_length
def uD:=@List.nodup_append
def uE:=@List.length_range
def uF:=@Bool.eq_false_iff
def uG:=@List.getElem?_eq_none
def uH:=@List.nodup_cons
def uI:=@List.zip_cons_cons
def uJ:=@and_true
def uK:=@List.getD_eq_getElem?_getD
def uL:=@Option.map_eq_none_iff
def uM:=@List.ext_getElem?
def uN:=@not_true_eq_false
def uO:=@List.mergeSort_perm
def uP:=@List.map_map
def uQ:=@List.pairwise_cons
def uR:=@List.all_cons
def uS:=@Nat.pow_le_pow_right
def uT:=@List.zip_nil_left
def uU:=@List.flatMap_cons
def uV:=@List.filter_nil
def uW:=@Nat.pow_le_pow_left
def uX:=@List.filter_eq_self
def uY:=@List.findSome?_cons
def uZ:=@implies_true
def ve:=@List.not_mem_nil
def vf:=@List.any_eq_true
def vg:=@Bool.not_eq_false'
def vh:=@Bool.and_false
def vi:=@Nat.zero_mul
def vj:=@List.filter_cons_of_neg
def vk:=@List.filter_cons_of_pos
def vm:=@List.flatMap_append
def vn:=@List.foldl_nil
def vo:=@List.pairwise_lt_range
def vp:=@Bool.and_eq_false_iff
def vq:=@List.all_eq_false
def vt:=@List.pairwise_map
def vu:=@not_false_eq_true
def vv:=@Array.toArray_toList
def vz:=@beq_iff_eq
def vA:=@Int.le_refl
def vC:=@List.filter_sublist
def vD:=@List.findIdx?_cons
def vE:=@of_decide_eq_false
def vF:=@List.filter_eq_nil_iff
def vG:=@Bool.not_eq_false
def vH:=@List.any_eq_false
def vI:=@List.drop_zero
def vJ:=@List.take_left
def vK:=@Bool.true_or
def vL:=@List.mem_of_mem_take
def vM:=@List.mem_of_mem_drop
def vN:=@List.getElem_map
def vO:=@Option.bind_some
def vP:=@List.contains_eq_mem
def vQ:=@Array.mem_toList_iff
def vR:=@forall_eq_or_imp
def vS:=@List.any_cons
def vT:=@List.perm_ext_iff_of_nodup
def vU:=@List.getElem?_range
def vV:=@List.take_left'
def vW:=@Bool.true_eq_false
def vX:=@List.mem_replicate
def vY:=@List.getElem?_drop
def vZ:=@or_false
def wc:=@decide_false
def wd:=@List.nodup_nil
end Go.AM
namespace Go.AM
inductive v8 where
 |nil|none (esz:Nat)|exact(esz:Nat)|own (id esz:Nat)
def v8.esz:v8->Nat
 | .nil=>0
 | .none e=>e
 | .exact e=>e
 | .own _ e=>e
inductive Fs where
 |bool (b:Bool)
 |int (k:IntKind) (n:Int)
 |str (s:List UInt8)
 |nilp
 |ptr (id off:Nat)
 |ep (cells:List Fs)
 |gp (g:Nat)
 |sl (tok:v8) (l:List Fs)
 |ref (id esz off len cap:Nat)
 |ap (id esz i off:Nat)
 |agg (cs:List Fs)
 |wJ (vs:List Fs)
 |fn (f:Fn) (first cap:List Fs)
 |yF
 |ifc (t:TypeId) (v:Fs)
 |xA
 |mp (id:Nat)
 |nilmp
 |up
def Fs.cells:Fs->List Fs
 | .agg cs=>cs
 |v=>[v]
def GB(esz:Nat)(v:Value):Prop:=v.cells.size=esz/\∀x∈v.cells.toList,x.oneCell'=true
structure Loc where
 wR:Nat
 lo:Nat
 hi:Nat
structure q8 where
 β:Nat->Option Loc
 σ:Nat->Nat->Option Value
structure q8.le(g g':q8):Prop where
 β:∀id L,g.β id=some L->g'.β id=some L
 σ:∀b o v,g.σ b o=some v->g'.σ b o=some v
def q8.le.refl(g:q8):g.le g:=⟨λ_ _ h=>h,λ_ _ _ h=>h⟩
def q8.le.trans{a b c:q8}(h:a.le b)(k:b.le c):a.le c:=
 ⟨λid L x=>k.β id L (h.β id L x),λx o v y=>k.σ x o v (h.σ x o v y)⟩
mutual
def AR(g:q8):Fs->Value->Prop
 | .bool b,v=>v= .bool b
 | .int k n,v=>v= .int k n
 | .str s,v=>v= .string ⟨s.toArray⟩
 | .nilp,v=>v= .pointer none
 | .ptr id off,v=>∃L,g.β id=some L/\L.lo=0/\v= .pointer (some ⟨L.wR,off,none⟩)
 | .ep cells,v=>∃b o,v= .pointer (some ⟨b,o,none⟩)/\wM g (g.σ b) o cells
 | .gp i,v=>v= .pointer (some ⟨i,0,none⟩)
 | .sl tok l,v=>
  (l=[]/\v= .slice none 0 0/\(match tok with| .own id _=>∃L,g.β id=some L|_=>True))\/
  ((match tok with| .nil=>False|_=>True)/\∃b o cap,(∃sp,v= .slice (some ⟨b,o,sp⟩) l.length cap/\(sp=none\/l=[]/\(cap=0\/∃e,tok= .none e)))/\l.length<=cap/\wL g tok.esz (g.σ b) o l/\
   (match tok with| .exact _=>cap=l.length| .own id e=>g.β id=some ⟨b,o+l.length*e,o+cap*e⟩|_=>True))
 | .ref id esz off len cap,v=>∃L,g.β id=some L/\L.lo=0/\v= .slice (some ⟨L.wR,off*esz,none⟩) len cap
 | .ap id esz i off,v=>∃L,g.β id=some L/\L.lo=0/\v= .pointer (some ⟨L.wR,i*esz+off,none⟩)
 | .agg cs,v=>∃vs:Array Value,v= .agg vs/\wI g cs vs.toList/\∀x∈vs.toList,x.oneCell'=true
 | .wJ cs,v=>∃vs:Array Value,v= .tuple vs/\wI g cs vs.toList
 | .fn f x c,v=>∃x' c':Array Value,v= .func f x' c'/\wI g x x'.toList/\wI g c c'.toList
 | .yF,v=>v= .nilFunc
 | .ifc t a,v=>∃x,v= .iface t x/\AR g a x
 | .xA,v=>v= .nilIface
 | .mp id,v=>∃L,g.β id=some L/\v= .map (some L.wR)
 | .nilmp,v=>v= .map none
 | .up,v=>∃a,v= .pointer (some a)
def wI(g:q8):List Fs->List Value->Prop
 |[],vs=>vs=[]
 |a::as,vs=>∃v rest,vs=v::rest/\AR g a v/\wI g as rest
def wM(g:q8)(f:Nat->Option Value):Nat->List Fs->Prop
 |_,[]=>True
 |o,c::cs=>(∃x,f o=some x/\AR g c x/\x.oneCell'=true)/\wM g f (o+1) cs
def wL(g:q8)(esz:Nat)(f:Nat->Option Value):Nat->List Fs->Prop
 |_,[]=>True
 |o,e::l=>(∃v,AR g e v/\GB esz v/\∀(j:Nat) x,v.cells[j]?=some x->f (o+j)=some x)/\wL g esz f (o+esz) l
end
mutual
theorem AR.mono{g g':q8}(h:g.le g'):∀(a:Fs) (v:Value),AR g a v->AR g' a v
 | .bool _,_=>id
 | .int _ _,_=>id
 | .str _,_=>id
 | .nilp,_=>id
 | .ptr _ _,_=>by
  simp only[AR];rintro⟨L,h1,h2,rfl⟩;exact⟨L,h.β _ _ h1,h2,rfl⟩
 | .ep cells,_=>by
  simp only[AR];rintro⟨b,o,rfl,h1⟩;exact⟨b,o,rfl,wM.mono h (h.σ b) cells o h1⟩
 | .gp _,_=>id
 | .sl tok l,_=>by
  simp only[AR];rintro(⟨rfl,rfl,h0⟩|⟨ht,b,o,cap,hv,hc,hs,hk⟩)
  ·refine .inl ⟨rfl,rfl,?_⟩;cases tok<;>first|exact h0|exact h0.imp λL hL=>h.β _ _ hL
  ·refine .inr ⟨ht,b,o,cap,hv,hc,wL.mono h (h.σ b) _ l o hs,?_⟩;cases tok<;>first|exact hk|exact h.β _ _ hk
 | .ref _ _ _ _ _,_=>by
  simp only[AR];rintro⟨L,h1,h2,rfl⟩;exact⟨L,h.β _ _ h1,h2,rfl⟩
 | .ap _ _ _ _,_=>by
  simp only[AR];rintro⟨L,h1,h2,rfl⟩;exact⟨L,h.β _ _ h1,h2,rfl⟩
 | .agg cs,_=>by
  simp only[AR];rintro⟨vs,rfl,h1,h2⟩;exact⟨vs,rfl,wI.mono h cs _ h1,h2⟩
 | .wJ cs,_=>by
  simp only[AR];rintro⟨vs,rfl,h1⟩;exact⟨vs,rfl,wI.mono h cs _ h1⟩
 | .fn _ x c,_=>by
  simp only[AR];rintro⟨x',c',rfl,h1,h2⟩;exact⟨x',c',rfl,wI.mono h x _ h1,wI.mono h c _ h2⟩
 | .yF,_=>id
 | .ifc _ a,_=>by
  simp only[AR];rintro⟨x,rfl,h1⟩;exact⟨x,rfl,AR.mono h a x h1⟩
 | .xA,_=>id
 | .mp _,_=>by
  simp only[AR];rintro⟨L,h1,rfl⟩;exact⟨L,h.β _ _ h1,rfl⟩
 | .nilmp,_=>id
 | .up,_=>id
theorem wI.mono{g g':q8}(h:g.le g'):∀(as:List Fs) (vs:List Value),wI g as vs->wI g' as vs
 |[],_=>id
 |a::as,_=>by
  simp only[wI];rintro⟨v,rest,rfl,h1,h2⟩;exact⟨v,rest,rfl,AR.mono h a v h1,wI.mono h as rest h2⟩
theorem wM.mono{g g':q8}(h:g.le g'){f f':Nat->Option Value}(hf:∀o x,f o=some x->f' o=some x):∀(cs:List Fs) (o:Nat),wM g f o cs->wM g' f' o cs
 |[],_=>λ_=>zt
 |c::cs,o=>by
  simp only[wM];rintro⟨⟨x,h1,h2,h4⟩,h3⟩;exact⟨⟨x,hf _ _ h1,AR.mono h c x h2,h4⟩,wM.mono h hf cs (o+1) h3⟩
theorem wL.mono{g g':q8}(h:g.le g'){f f':Nat->Option Value}(hf:∀o x,f o=some x->f' o=some x)(esz:Nat):∀(l:List Fs) (o:Nat),wL g esz f o l->wL g' esz f' o l
 |[],_=>λ_=>zt
 |e::l,o=>by
  simp only[wL];rintro⟨⟨v,h1,h2,h3⟩,h4⟩;exact⟨⟨v,AR.mono h e v h1,h2,λj x hx=>hf _ _ (h3 j x hx)⟩,wL.mono h hf esz l (o+esz) h4⟩
end
def UK(i:Nat):Option (List Fs):=match i with
 |_=>none
def Et(g:q8):Prop:=∀i cs,UK i=some cs->wM g (g.σ i) 0 cs
def Et.mono{g g':q8}(h:g.le g')(k:Et g):Et g':=λi cs e=>wM.mono h (h.σ i) cs 0 (k i cs e)
section
def BI:List (Nat×Bool×Fs)->Nat->Option (Bool×Fs)
 |[],_=>none
 |(t,gv)::r,i=>if t=i then some gv else BI r i
def B1(g:q8)(env:List (Nat×Bool×Fs))(tmps:Array Value):Prop:=
 ∀t gd v,BI env t=some (gd,v)->∃x,tmps[t]?=some x/\(gd=true->AR g v x)/\(gd=false->x=undef)
variable {tm:Array Value} {g g' g1:q8} {ds:List Deferred} {m n B:Nat} {w w' w1:World}
theorem B1.mono(h:g.le g'){env:List (Nat×Bool×Fs)}{tmps:Array Value}(e:B1 g env tmps):B1 g' env tmps:=
 λt gd v k=>let ⟨x,h1,h2,h3⟩:=e t gd v k;⟨x,h1,λq=>(h2 q).mono h,h3⟩
structure LoopA where
 l:Nat
 st:LoopState
 xQ:Option Code
 nt:Nat
 env:List (Nat×Bool×Fs)
 ps:Array Tmp
 asg:Code
 body:Code
def LRel(g:q8)(w:World)(b:Nat)(x:LoopA):Prop:=
 b=x.l/\∃r:Loop,w.heap[b]?=some (.loop r)/\r.state=x.st/\r.pending=x.xQ/\r.params=x.ps/\r.assign=x.asg/\r.body=x.body/\B1 g x.env r.tmps/\x.nt<=r.tmps.size
inductive x9 where
 |box (cs:List Fs)
 |tok
 |arr (esz:Nat) (l:List Fs)
 |frz (esz:Nat) (l:List Fs)
 |map (es:List (Fs×Fs×Nat)) (clock:Nat)
 |sit (s:List UInt8) (pos:Nat)
 |mit (m c:Nat) (seen:List Nat) (last:Nat)
 |lp (x:LoopA)
 |dead
def x9.owns:x9->Bool
 | .frz .. =>false
 | .dead=>false
 |_=>true
abbrev AB:=Nat->Option x9
def Ak:AB:=λ_=>none
def AD(H:AB)(i:Nat):Option x9:=H i
def wB(H:AB)(i:Nat)(o:x9):AB:=λj=>if i=j then some o else H j
theorem az(i:Nat):AD Ak i=none:=rfl
theorem AT(H:AB)(i j:Nat)(o:x9):AD (wB H i o) j=if i=j then some o else AD H j:=rfl
theorem AC(H:AB)(i:Nat)(o:x9):AD (wB H i o) i=some o:=by simp [AT]
theorem AA(H:AB)(i j:Nat)(o:x9)(h:i≠j):AD (wB H i o) j=AD H j:=by simp [AT,h]
theorem AW(H:AB)(i:Nat)(a b:x9):wB (wB H i a) i b=wB H i b:=by
 funext j;simp only[wB];split<;>rfl
theorem Xk(H:AB)(i j:Nat)(a b:x9)(h:i≠j):wB (wB H i a) j b=wB (wB H j b) i a:=by
 funext k;simp only[wB];by_cases h1:j=k
 ·subst h1;rw[sn rfl,sg h,sn rfl]
 ·simp [h1]
def D0(g:q8):List (Fs×Fs×Nat)->List MapEntry->Prop
 |[],es=>es=[]
 |(k,v,b)::r,es=>∃e xD,es=e::xD/\AR g k e.key/\AR g v e.val/\e.born=b/\D0 g r xD
theorem D0.mono(h:g.le g'):∀(es:List (Fs×Fs×Nat)) (xD:List MapEntry),D0 g es xD->D0 g' es xD
 |[],_=>id
 |(k,v,b)::r,_=>by
  simp only[D0];rintro⟨e,xD,rfl,h1,h2,h3,h4⟩;exact⟨e,xD,rfl,h1.mono h,h2.mono h,h3,D0.mono h r xD h4⟩
def FT(g:q8)(w:World)(id:Nat):x9->Prop
 | .box cs=>∃L c e,g.β id=some L/\L.lo=0/\L.hi=cs.length/\w.heap[L.wR]?=some (.cells c e (0,0))/\c.size=cs.length/\wM g (λo=>c[o]?) 0 cs
 | .tok=>∃L,g.β id=some L/\(L.lo<L.hi->∃c e,w.heap[L.wR]?=some (.cells c e (0,0))/\L.hi<=c.size)
 | .arr esz l=>∃L c e,g.β id=some L/\L.lo=0/\L.hi=c.size/\w.heap[L.wR]?=some (.cells c e (0,0))/\l.length*esz=c.size/\wL g esz (λo=>c[o]?) 0 l
 | .frz esz l=>∃L,g.β id=some L/\L.lo=0/\wL g esz (g.σ L.wR) 0 l
 | .map es clock=>∃L xD,g.β id=some L/\L.lo=0/\L.hi=1/\w.heap[L.wR]?=some (.map xD clock)/\D0 g es xD.toList
 | .sit s pos=>∃L,g.β id=some L/\L.lo=0/\L.hi=1/\w.heap[L.wR]?=some (.stringIter ⟨s.toArray⟩ pos)
 | .mit m c seen last=>∃L Lm,g.β id=some L/\L.lo=0/\L.hi=1/\w.heap[L.wR]?=some (.mapIter (some Lm.wR) c seen.toArray last)/\g.β m=some Lm/\c<=last
 | .lp x=>∃L,g.β id=some L/\L.lo=0/\L.hi=1/\LRel g w L.wR x
 | .dead=>True
def JQ(own:Nat->Prop):Obj->Option Obj->Prop
 | .cells c e fz,r=>∃c',r=some (.cells c' e fz)/\c'.size=c.size/\∀o,¬own o->c'[o]?=c[o]?
 |ob,r=>own 0\/r=some ob
theorem JQ.same(own:Nat->Prop)(ob:Obj):JQ own ob (some ob):=by
 cases ob<;>first|exact⟨_,rfl,rfl,λ_ _=>rfl⟩|exact .inr rfl
def G5(w:World):Prop:=∀i cs,UK i=some cs->∃c e fz,w.heap[i]?=some (.cells c e fz)/\c.size=cs.length
theorem G5.kept{own:Nat->Nat->Prop}(k:G5 w)(h:∀(b:Nat) ob,w.heap[b]?=some ob->JQ (own b) ob w'.heap[b]?):G5 w':=by
 intro i cs e;obtain⟨c,t,fz,h1,h2⟩:=k i cs e;obtain⟨c',h3,h4,_⟩:=h i _ h1;exact⟨c',t,fz,h3,zo⟩
theorem G5.ext(k:G5 w)(h:∀(b:Nat) c e fz,w.heap[b]?=some (.cells c e fz)->w'.heap[b]?=some (.cells c e fz)):G5 w':=by
 intro i cs e;obtain⟨c,t,fz,h1,h2⟩:=k i cs e;exact⟨c,t,fz,h _ _ _ _ h1,h2⟩
structure x7(g:q8)(H:AB)(n:Nat)(w:World):Prop where
 σw:∀b o v,g.σ b o=some v->w.cell? ⟨b,o,none⟩=some v
 obj:∀id ob,AD H id=some ob->FT g w id ob
 yJ:∀id L,g.β id=some L->AD H id≠none/\(L.lo<L.hi->L.wR<w.heap.size)
 hd:∀id ob,AD H id=some ob->id<n
 ap:∀id yU ob ob' L L',id≠yU->AD H id=some ob->AD H yU=some ob'->ob.owns=true->ob'.owns=true->g.β id=some L->g.β yU=some L'->
  L.wR=L'.wR->L.hi<=L'.lo\/L'.hi<=L.lo\/L.hi<=L.lo\/L'.hi<=L'.lo
 un:∀id ob L o,AD H id=some ob->ob.owns=true->g.β id=some L->L.lo<=o->o<L.hi->g.σ L.wR o=none
 gl:Et g
 gz:G5 w
def EF(g:q8)(H:AB)(b o:Nat):Prop:=
 ∃id ob L,AD H id=some ob/\ob.owns=true/\g.β id=some L/\L.wR=b/\L.lo<=o/\o<L.hi
structure q9(m:Nat)(g:q8)(H:AB)(w:World)(g':q8)(H':AB)(w':World):Prop where
 le:g.le g'
 βn:∀id L,g'.β id=some L->g.β id=some L\/m<=id
 os:w'.os=w.os
 tape:w'.tape=w.tape
 output:w'.output=w.output
 size:w.heap.size<=w'.heap.size
 kept:∀(b:Nat) ob,w.heap[b]?=some ob->JQ (EF g H b) ob w'.heap[b]?
 now:∀b o,b<w.heap.size->EF g' H' b o->EF g H b o
 nσ:∀b o v,b<w.heap.size->g'.σ b o=some v->g.σ b o=some v\/EF g H b o
theorem q9.refl(m:Nat)(g:q8)(H:AB)(w:World):q9 m g H w g H w where
 le:=.refl g
 βn:=λ_ _ h=>.inl h
 os:=rfl
 tape:=rfl
 output:=rfl
 size:=sj _
 kept:=λb ob h=>by rw[h];exact JQ.same _ _
 now:=λ_ _ _ h=>h
 nσ:=λ_ _ _ _ h=>.inl h
theorem q9.floor{m':Nat}{H H':AB}(h:q9 m g H w g' H' w')(hm:m'<=m):q9 m' g H w g' H' w':=
 {h with βn:=λid L x=>(h.βn id L x).imp (λa=>a) (λa=>sX hm a)}
theorem q9.trans{g2:q8}{H H1 H2:AB}{w2:World}(h:q9 m g H w g1 H1 w1)(k:q9 m g1 H1 w1 g2 H2 w2):q9 m g H w g2 H2 w2 where
 le:=h.le.trans k.le
 βn:=λid L x=>by
  rcases k.βn id L x with y|y
  ·exact h.βn id L y
  ·exact .inr y
 os:=k.os.trans h.os
 tape:=k.tape.trans h.tape
 output:=k.output.trans h.output
 size:=sX h.size k.size
 kept:=λb ob hb=>by
  have e9:b<w.heap.size:=(sW.1 hb).1;have h1:=h.kept b ob hb;have stay:∀o,¬EF g H b o->¬EF g1 H1 b o:=λo ho hh=>ho (h.now b o e9 hh)
  have other:∀ob',(∀c e fz,ob'≠ .cells c e fz)->(EF g H b 0\/w1.heap[b]?=some ob')->EF g H b 0\/w2.heap[b]?=some ob':=by
   intro ob' s8 h1;rcases h1 with h1|h1
   ·exact .inl h1
   ·have h2:=k.kept b ob' h1;by_cases ho:EF g H b 0
    ·exact .inl ho
    ·refine .inr ?_;cases ob'<;>first|exact(h2.resolve_left (stay 0 ho))|exact absurd rfl (s8 _ _ _)
  cases ob<;>first|exact other _ (by intros;simp) h1|skip
  obtain⟨c1,e1,s1,k1⟩:=h1;have h2:=k.kept b _ e1;obtain⟨c2,e2,s2,k2⟩:=h2;exact⟨c2,e2,s2.trans s1,λo ho=>(k2 o (stay o ho)).trans (k1 o ho)⟩
 now:=λb o hb hh=>h.now b o hb (k.now b o (uw hb h.size) hh)
 nσ:=λb o v hb hh=>by
  rcases k.nσ b o v (uw hb h.size) hh with x|x
  ·exact h.nσ b o v hb x
  ·exact .inr (h.now b o hb x)
def v8.under(n:Nat):v8->Prop
 | .own id _=>id<n
 |_=>True
mutual
def Fs.under(n:Nat):Fs->Prop
 | .ptr id _=>id<n
 | .ep cells=>wN n cells
 | .sl t l=>t.under n/\wN n l
 | .ap id _ _ _=>id<n
 | .ref id _ _ _ _=>id<n
 | .agg cs=>wN n cs
 | .wJ cs=>wN n cs
 | .fn _ x c=>wN n x/\wN n c
 | .ifc _ a=>a.under n
 | .mp id=>id<n
 |_=>True
def wN(n:Nat):List Fs->Prop
 |[]=>True
 |a::as=>a.under n/\wN n as
end
def Kx(n:Nat):List (Fs×Fs×Nat)->Prop
 |[]=>True
 |(k,v,_)::r=>k.under n/\v.under n/\Kx n r
def x9.under(n:Nat):x9->Prop
 | .box cs=>wN n cs
 | .arr _ l=>wN n l
 | .frz _ l=>wN n l
 | .map es _=>Kx n es
 | .mit m _ _ _=>m<n
 | .lp x=>∀t v,BI x.env t=some (true,v)->v.under n
 |_=>True
theorem NW:∀i cs,UK i=some cs->wN 0 cs:=by
 intro i cs h;unfold UK at h;repeat' split at h;all_goals first|(cases h;simp [wN,Fs.under];done)|cases h
def J2(n:Nat)(g' g:q8):Prop:=(∀id L,id<n->g'.β id=some L->g.β id=some L)/\∀b o v,g'.σ b o=some v->g.σ b o=some v
mutual
variable {g g':q8} {n:Nat}
theorem AR.agree(h:J2 n g' g):∀(a:Fs) (v:Value),a.under n->AR g' a v->AR g a v
 | .bool _,_=>λ_=>id
 | .int _ _,_=>λ_=>id
 | .str _,_=>λ_=>id
 | .nilp,_=>λ_=>id
 | .ptr _ _,_=>by
  simp only[AR,Fs.under];rintro hb ⟨L,h1,h2,rfl⟩;exact⟨L,h.1 _ _ hb h1,h2,rfl⟩
 | .ep cells,_=>by
  simp only[AR,Fs.under];rintro hb ⟨b,o,rfl,h1⟩;exact⟨b,o,rfl,wM.agree h (h.2 b) cells o hb h1⟩
 | .gp _,_=>λ_=>id
 | .sl tok l,_=>by
  simp only[AR,Fs.under];rintro⟨zl,my⟩ (⟨rfl,rfl,h0⟩|⟨ht,b,o,cap,hv,hc,hs,hk⟩)
  ·refine .inl ⟨rfl,rfl,?_⟩;cases tok<;>first|exact h0|exact h0.imp λL hL=>h.1 _ _ zl hL
  ·refine .inr ⟨ht,b,o,cap,hv,hc,wL.agree h (h.2 b) _ l o my hs,?_⟩;cases tok<;>first|exact hk|exact h.1 _ _ zl hk
 | .ref _ _ _ _ _,_=>by
  simp only[AR,Fs.under];rintro hb ⟨L,h1,h2,rfl⟩;exact⟨L,h.1 _ _ hb h1,h2,rfl⟩
 | .ap _ _ _ _,_=>by
  simp only[AR,Fs.under];rintro hb ⟨L,h1,h2,rfl⟩;exact⟨L,h.1 _ _ hb h1,h2,rfl⟩
 | .agg cs,_=>by
  simp only[AR,Fs.under];rintro hb ⟨vs,rfl,h1,h2⟩;exact⟨vs,rfl,wI.agree h cs _ hb h1,h2⟩
 | .wJ cs,_=>by
  simp only[AR,Fs.under];rintro hb ⟨vs,rfl,h1⟩;exact⟨vs,rfl,wI.agree h cs _ hb h1⟩
 | .fn _ x c,_=>by
  simp only[AR,Fs.under];rintro⟨zl,my⟩ ⟨x',c',rfl,h1,h2⟩;exact⟨x',c',rfl,wI.agree h x _ zl h1,wI.agree h c _ my h2⟩
 | .yF,_=>λ_=>id
 | .ifc _ a,_=>by
  simp only[AR,Fs.under];rintro hb ⟨x,rfl,h1⟩;exact⟨x,rfl,AR.agree h a x hb h1⟩
 | .xA,_=>λ_=>id
 | .mp _,_=>by
  simp only[AR,Fs.under];rintro hb ⟨L,h1,rfl⟩;exact⟨L,h.1 _ _ hb h1,rfl⟩
 | .nilmp,_=>λ_=>id
 | .up,_=>λ_=>id
theorem wI.agree(h:J2 n g' g):∀(as:List Fs) (vs:List Value),wN n as->wI g' as vs->wI g as vs
 |[],_=>λ_=>id
 |a::as,_=>by
  simp only[wI,wN];rintro⟨zl,my⟩ ⟨v,rest,rfl,h1,h2⟩;exact⟨v,rest,rfl,AR.agree h a v zl h1,wI.agree h as rest my h2⟩
theorem wM.agree(h:J2 n g' g){f f':Nat->Option Value}(hf:∀o x,f o=some x->f' o=some x):∀(cs:List Fs) (o:Nat),wN n cs->wM g' f o cs->wM g f' o cs
 |[],_=>λ_ _=>zt
 |c::cs,o=>by
  simp only[wM,wN];rintro⟨zl,my⟩ ⟨⟨x,h1,h2,h4⟩,h3⟩;exact⟨⟨x,hf _ _ h1,AR.agree h c x zl h2,h4⟩,wM.agree h hf cs (o+1) my h3⟩
theorem wL.agree(h:J2 n g' g){f f':Nat->Option Value}(hf:∀o x,f o=some x->f' o=some x)(esz:Nat):∀(l:List Fs) (o:Nat),wN n l->wL g' esz f o l->wL g esz f' o l
 |[],_=>λ_ _=>zt
 |e::l,o=>by
  simp only[wL,wN];rintro⟨zl,my⟩ ⟨⟨v,h1,h2,h3⟩,h4⟩;exact⟨⟨v,AR.agree h e v zl h1,h2,λj x hx=>hf _ _ (h3 j x hx)⟩,wL.agree h hf esz l (o+esz) my h4⟩
end
theorem D0.agree(h:J2 n g' g):∀(es:List (Fs×Fs×Nat)) (xD:List MapEntry),Kx n es->D0 g' es xD->D0 g es xD
 |[],_=>λ_=>id
 |(k,v,b)::r,_=>by
  simp only[D0,Kx];rintro⟨b1,b2,b3⟩ ⟨e,xD,rfl,h1,h2,h3,h4⟩;exact⟨e,xD,rfl,AR.agree h _ _ b1 h1,AR.agree h _ _ b2 h2,h3,D0.agree h r xD b3 h4⟩
mutual
variable {g:q8} {n:Nat}
theorem AR.under(h:∀id L,g.β id=some L->id<n):∀(a:Fs) (v:Value),AR g a v->a.under n
 | .bool _,_=>λ_=>zt
 | .int _ _,_=>λ_=>zt
 | .str _,_=>λ_=>zt
 | .nilp,_=>λ_=>zt
 | .ptr _ _,_=>by
  simp only[AR,Fs.under];rintro⟨L,h1,h2,rfl⟩;exact h _ _ h1
 | .ep cells,_=>by
  simp only[AR,Fs.under];rintro⟨b,o,rfl,h1⟩;exact wM.under h cells o h1
 | .gp _,_=>λ_=>zt
 | .sl tok l,_=>by
  simp only[AR,Fs.under];rintro(⟨rfl,rfl,h0⟩|⟨ht,b,o,cap,hv,hc,hs,hk⟩)
  ·refine⟨?_,zt⟩;cases tok<;>first|exact trivial|exact h0.elim λL hL=>h _ _ hL
  ·refine⟨?_,wL.under h l o hs⟩;cases tok<;>first|exact trivial|exact h _ _ hk
 | .ref _ _ _ _ _,_=>by
  simp only[AR,Fs.under];rintro⟨L,h1,h2,rfl⟩;exact h _ _ h1
 | .ap _ _ _ _,_=>by
  simp only[AR,Fs.under];rintro⟨L,h1,h2,rfl⟩;exact h _ _ h1
 | .agg cs,_=>by
  simp only[AR,Fs.under];rintro⟨vs,rfl,h1,-⟩;exact wI.under h cs _ h1
 | .wJ cs,_=>by
  simp only[AR,Fs.under];rintro⟨vs,rfl,h1⟩;exact wI.under h cs _ h1
 | .fn _ x c,_=>by
  simp only[AR,Fs.under];rintro⟨x',c',rfl,h1,h2⟩;exact⟨wI.under h x _ h1,wI.under h c _ h2⟩
 | .yF,_=>λ_=>zt
 | .ifc _ a,_=>by
  simp only[AR,Fs.under];rintro⟨x,rfl,h1⟩;exact AR.under h a x h1
 | .xA,_=>λ_=>zt
 | .mp _,_=>by
  simp only[AR,Fs.under];rintro⟨L,h1,rfl⟩;exact h _ _ h1
 | .nilmp,_=>λ_=>zt
 | .up,_=>λ_=>zt
theorem wI.under(h:∀id L,g.β id=some L->id<n):∀(as:List Fs) (vs:List Value),wI g as vs->wN n as
 |[],_=>λ_=>zt
 |a::as,_=>by
  simp only[wI,wN];rintro⟨v,rest,rfl,h1,h2⟩;exact⟨AR.under h a v h1,wI.under h as rest h2⟩
theorem wM.under(h:∀id L,g.β id=some L->id<n){f:Nat->Option Value}:∀(cs:List Fs) (o:Nat),wM g f o cs->wN n cs
 |[],_=>λ_=>zt
 |c::cs,o=>by
  simp only[wM,wN];rintro⟨⟨x,h1,h2,-⟩,h3⟩;exact⟨AR.under h c x h2,wM.under h cs (o+1) h3⟩
theorem wL.under(h:∀id L,g.β id=some L->id<n){f:Nat->Option Value}{esz:Nat}:∀(l:List Fs) (o:Nat),wL g esz f o l->wN n l
 |[],_=>λ_=>zt
 |e::l,o=>by
  simp only[wL,wN];rintro⟨⟨v,h1,h2,h3⟩,h4⟩;exact⟨AR.under h e v h1,wL.under h l (o+esz) h4⟩
end
theorem D0.under(h:∀id L,g.β id=some L->id<n):∀(es:List (Fs×Fs×Nat)) (xD:List MapEntry),D0 g es xD->Kx n es
 |[],_=>λ_=>zt
 |(k,v,b)::r,_=>by
  simp only[D0,Kx];rintro⟨e,xD,rfl,h1,h2,h3,h4⟩;exact⟨AR.under h _ _ h1,AR.under h _ _ h2,D0.under h r xD h4⟩
theorem FT.under{id:Nat}(h:∀id L,g.β id=some L->id<n):∀(ob:x9),FT g w id ob->ob.under n
 | .box cs=>λ⟨_,_,_,_,_,_,_,_,h6⟩=>wM.under h cs 0 h6
 | .tok=>λ_=>zt
 | .arr esz l=>λ⟨_,_,_,_,_,_,_,_,h6⟩=>wL.under h l 0 h6
 | .frz esz l=>λ⟨_,_,_,h6⟩=>wL.under h l 0 h6
 | .map es c=>λ⟨_,_,_,_,_,_,h6⟩=>D0.under h es _ h6
 | .sit _ _=>λ_=>zt
 | .mit m _ _ _=>λ⟨_,_,_,_,_,_,h5,_⟩=>h _ _ h5
 | .lp x=>λ⟨_,_,_,_,_,_,_,_,_,_,_,_,h8,_⟩ t v e=>let ⟨y,_,h2,_⟩:=h8 t true v e;AR.under h v y (h2 rfl)
 | .dead=>λ_=>zt
theorem FT.agree{id:Nat}(h:J2 n g' g)(s5:id<n):∀(ob:x9),ob.under n->FT g' w id ob->FT g w id ob
 | .box cs=>λhb ⟨L,c,e,h1,h2,h3,h4,h5,h6⟩=>⟨L,c,e,h.1 _ _ s5 h1,h2,h3,h4,h5,wM.agree h (λ_ _ x=>x) cs 0 hb h6⟩
 | .tok=>λ_ ⟨L,h1,h2⟩=>⟨L,h.1 _ _ s5 h1,h2⟩
 | .arr esz l=>λhb ⟨L,c,e,h1,h2,h3,h4,h5,h6⟩=>⟨L,c,e,h.1 _ _ s5 h1,h2,h3,h4,h5,wL.agree h (λ_ _ x=>x) esz l 0 hb h6⟩
 | .frz esz l=>λhb ⟨L,h1,h2,h3⟩=>⟨L,h.1 _ _ s5 h1,h2,wL.agree h (h.2 L.wR) esz l 0 hb h3⟩
 | .map es c=>λhb ⟨L,xD,h1,h2,h3,h4,h5⟩=>⟨L,xD,h.1 _ _ s5 h1,h2,h3,h4,D0.agree h es _ hb h5⟩
 | .sit _ _=>λ_ ⟨L,h1,h2⟩=>⟨L,h.1 _ _ s5 h1,h2⟩
 | .mit m _ _ _=>λhb ⟨L,Lm,h1,h2,h3,h4,h5,h6⟩=>⟨L,Lm,h.1 _ _ s5 h1,h2,h3,h4,h.1 _ _ hb h5,h6⟩
 | .lp x=>λhb ⟨L,h1,h2,h3,h4,r,k1,k2,k3,k4,k5,k6,k7,k8⟩=>⟨L,h.1 _ _ s5 h1,h2,h3,h4,r,k1,k2,k3,k4,k5,k6,
   λt gd v e=>let ⟨y,q1,q2,q3⟩:=k7 t gd v e;⟨y,q1,λhg=>AR.agree h v y (hb t v (by rw[e,hg])) (q2 hg),q3⟩,k8⟩
 | .dead=>λ_ _=>zt
theorem x7.lt{H:AB}(r:x7 g H n w):∀id L,g.β id=some L->id<n:=λid L h=>by
 have h1:=(r.yJ id L h).1;cases h2:AD H id with
 |none=>exact absurd h2 h1
 |some ob=>exact r.hd id ob h2
def fk(a b:x9):Prop:=(∀g w id,FT g w id a->FT g w id b)/\(b.owns=true->a.owns=true)
theorem fk.refl(a:x9):fk a a:=⟨λ_ _ _ h=>h,λh=>h⟩
def IP(n:Nat)(H H1 H2:AB):Prop:=
 (∀id ob,AD H2 id=some ob->id<n/\(∃ob1,AD H1 id=some ob1/\fk ob1 ob)/\(ob.under n\/AD H id=some ob))/\∀id,AD H id≠none->AD H2 id≠none
theorem forget{n1:Nat}{H H1 H2:AB}(r0:x7 g H n w)(r1:x7 g1 H1 n1 w1)(t:q9 n g H w g1 H1 w1)(h2:IP n H H1 H2):
  x7 ⟨g.β,g1.σ⟩ H2 n w1/\q9 n g H w ⟨g.β,g1.σ⟩ H2 w1/\J2 n g1 ⟨g.β,g1.σ⟩:=by
 have ag:J2 n g1 ⟨g.β,g1.σ⟩:=⟨λid L s5 hL=>(t.βn id L hL).resolve_right zo,λ_ _ _ h=>h⟩;have up:∀id L,g.β id=some L->g1.β id=some L:=t.le.β;have own:∀b o,EF ⟨g.β,g1.σ⟩ H2 b o->EF g1 H1 b o:=by
  rintro b o ⟨id,ob,L,q1,q2,q3,q4,q5,q6⟩;obtain⟨-,⟨ob1,p1,p2⟩,-⟩:=h2.1 id ob q1;exact⟨id,ob1,L,p1,p2.2 q2,up _ _ q3,q4,q5,q6⟩
 refine⟨⟨r1.σw,?_,?_,?_,?_,?_,Et.mono (g:=g) (g':=⟨g.β,g1.σ⟩) ⟨λ_ _ h=>h,t.le.σ⟩ r0.gl,r1.gz⟩,⟨⟨λ_ _ h=>h,t.le.σ⟩,λ_ _ h=>.inl h,t.os,t.tape,t.output,t.size,t.kept,?_,t.nσ⟩,ag⟩
 ·intro id ob hob;obtain⟨q1,⟨ob1,q2,q4⟩,q3⟩:=h2.1 id ob hob;have hu:ob.under n:=q3.elim (λh=>h) (λh=>FT.under r0.lt ob (r0.obj id ob h));exact FT.agree ag q1 ob hu (q4.1 _ _ _ (r1.obj id ob1 q2))
 ·intro id L hL;refine⟨h2.2 id (r0.yJ id L hL).1,λe9=>uw ((r0.yJ id L hL).2 e9) t.size⟩
 ·intro id ob hob;exact(h2.1 id ob hob).1
 ·intro id yU ob ob' L L' s8 q1 q2 q3 q4 q5 q6;obtain⟨-,⟨ob1,p1,p2⟩,-⟩:=h2.1 id ob q1;obtain⟨-,⟨ob2,p3,p4⟩,-⟩:=h2.1 yU ob' q2;exact r1.ap id yU ob1 ob2 L L' s8 p1 p3 (p2.2 q3) (p4.2 q4) (up _ _ q5) (up _ _ q6)
 ·intro id ob L o q1 q2 q3 q4 q5;obtain⟨-,⟨ob1,p1,p2⟩,-⟩:=h2.1 id ob q1;exact r1.un id ob1 L o p1 (p2.2 q2) (up _ _ q3) q4 q5
 ·intro b o hb hh;exact t.now b o hb (own b o hh)
theorem UL{H H1 H2:AB}(t:q9 n g H w g1 H1 w1)(h2:IP n H H1 H2){b o:Nat}:EF ⟨g.β,g1.σ⟩ H2 b o->EF g1 H1 b o:=by
 rintro⟨id,ob,L,q1,q2,q3,q4,q5,q6⟩;obtain⟨-,⟨ob1,p1,p2⟩,-⟩:=h2.1 id ob q1;exact⟨id,ob1,L,p1,p2.2 q2,t.le.β _ _ q3,q4,q5,q6⟩
def OW(B:Nat)(g:q8)(H:AB):List Deferred->World->Prop
 |[],_=>True
 |d::ds,w=>(∃b,d.target= .collected b/\B<=b/\w.heap[b]?=some (.deferred (some []))/\¬EF g H b 0/\∀d'∈ds,d'.target≠ .collected b)/\OW B g H ds w
theorem OW.step{H H':AB}(t:q9 m g H w g' H' w'):∀{ds:List Deferred},OW B g H ds w->OW B g' H' ds w'
 |[],_=>trivial
 |d::ds,⟨⟨b,h1,h2,h3,h4,h5⟩,h⟩=>by
  refine⟨⟨b,h1,h2,?_,λho=>h4 (t.now b 0 (sW.1 h3).1 ho),h5⟩,OW.step t h⟩;have:=t.kept b _ h3;exact this.resolve_left h4
theorem OW.own{H H':AB}(t:∀b,EF g' H' b 0->EF g H b 0):∀{ds:List Deferred},OW B g H ds w->OW B g' H' ds w
 |[],_=>trivial
 |d::ds,⟨⟨b,h1,h2,h3,h4,h5⟩,h⟩=>⟨⟨b,h1,h2,h3,λho=>h4 (t b ho),h5⟩,OW.own t h⟩
theorem OW.heap{H:AB}(h:w'.heap=w.heap):∀{ds:List Deferred},OW B g H ds w->OW B g H ds w'
 |[],_=>trivial
 |d::ds,⟨⟨b,h1,h2,h3,h4,h5⟩,k⟩=>⟨⟨b,h1,h2,by rw[h];exact h3,h4,h5⟩,OW.heap h k⟩
theorem OW.wR{H:AB}:∀{ds:List Deferred},OW B g H ds w->∀d∈ds,∃b,d.target= .collected b/\b<w.heap.size
 |[],_,d,hd=>by cases hd
 |d::ds,⟨⟨b,h1,h2,h3,h4,h5⟩,k⟩,d',hd=>by
  rcases tg.1 hd with rfl|hd
  ·grind
  ·exact OW.wR k d' hd
structure DP where
 fl:Nat
 base:List Deferred
 no:Bool
 lo:Nat
 tm:Array Value
def Ki(D:DP)(g:q8)(H:AB)(ds:List Deferred)(tm:Array Value)(w:World):Prop:=∃ms,ds=ms++D.base/\OW D.fl g H ms w/\(D.no=true->ms=[]/\∀t,t<D.lo->tm[t]?=D.tm[t]?)
theorem Ki.step{D:DP}{H H':AB}(t:q9 m g H w g' H' w'):Ki D g H ds tm w->Ki D g' H' ds tm w'
 |⟨ms,h1,h2,h3⟩=>⟨ms,h1,h2.step t,h3⟩
theorem Ki.own{D:DP}{H H':AB}(t:∀b,EF g' H' b 0->EF g H b 0):Ki D g H ds tm w->Ki D g' H' ds tm w
 |⟨ms,h1,h2,h3⟩=>⟨ms,h1,h2.own t,h3⟩
theorem Ki.heap{D:DP}{H:AB}(h:w'.heap=w.heap):Ki D g H ds tm w->Ki D g H ds tm w'
 |⟨ms,h1,h2,h3⟩=>⟨ms,h1,h2.heap h,h3⟩
theorem Ki.nil{D:DP}{H:AB}(h:D.no=true->∀t,t<D.lo->tm[t]?=D.tm[t]?):Ki D g H D.base tm w:=⟨[],rfl,zt,λq=>⟨rfl,h q⟩⟩
theorem Ki.put{D:DP}{H:AB}{d:Nat}{x:Value}(hd:D.lo<=d):Ki D g H ds tm w->Ki D g H ds (tm.setIfInBounds d x) w
 |⟨ms,h1,h2,h3⟩=>⟨ms,h1,h2,λq=>⟨(h3 q).1,λt ht=>by rw[uj zo];exact(h3 q).2 t ht⟩⟩
theorem x7.dblk{H:AB}(r:x7 g H n w){b:Nat}{x y:Option (List Deferred)}(hb:w.heap[b]?=some (.deferred x)):
  x7 g H n {w with heap:=w.heap.setIfInBounds b (.deferred y)}:=by
 have wU:∀(k:Nat) ob,(∀z,ob≠ .deferred z)->w.heap[k]?=some ob->(w.heap.setIfInBounds b (.deferred y))[k]?=some ob:=by grind
 refine⟨λk o v h=>?_,λid ob ho=>?_,λid L h=>⟨(r.yJ id L h).1,λe9=>by simpa using(r.yJ id L h).2 e9⟩,r.hd,r.ap,r.un,r.gl,r.gz.ext (λk c e fz h=>wU k _ (λz=>zw) h)⟩
 ·have h2:=r.σw k o v h;by_cases e:b=k
  ·subst e;simp [World.cell?,hb]at h2
  ·simp_all [World.cell?,uj]
 ·have:=r.obj id ob ho;cases ob with
  |box cs=>obtain⟨L,c,e,h1,h2,h3,h4,h5⟩:=this;exact⟨L,c,e,h1,h2,h3,wU _ _ zw h4,h5⟩
  |tok=>obtain⟨L,h1,h2⟩:=this;exact⟨L,h1,λe9=>let ⟨c,e,h3,h4⟩:=h2 e9;⟨c,e,wU _ _ zw h3,h4⟩⟩
  |arr esz l=>obtain⟨L,c,e,h1,h2,h3,h4,h5⟩:=this;exact⟨L,c,e,h1,h2,h3,wU _ _ zw h4,h5⟩
  |frz esz l=>exact this
  |map es c=>obtain⟨L,xD,h1,h2,h3,h4,h5⟩:=this;exact⟨L,xD,h1,h2,h3,wU _ _ zw h4,h5⟩
  |sit s pos=>obtain⟨L,h1,h2,h3,h4⟩:=this;exact⟨L,h1,h2,h3,wU _ _ zw h4⟩
  |mit m c seen last=>obtain⟨L,Lm,h1,h2,h3,h4,h5⟩:=this;exact⟨L,Lm,h1,h2,h3,wU _ _ zw h4,h5⟩
  |lp x=>obtain⟨L,h1,h2,h3,h4,r,k1,k2⟩:=this;exact⟨L,h1,h2,h3,h4,r,wU _ _ zw k1,k2⟩
  |dead=>trivial
end
section
inductive xw where
 |ret (v:Fs)
 |xM (v:Fs)
def Xl(g:q8):xw->Ending->Prop
 | .ret a,.returned v=>AR g a v
 | .xM a,.panicked chain=>∃v,chain=[{v,recovered:=false}]/\AR g a v
 |_,_=>False
def C3(P:Program)(f:FuncId):Prop:=∃fn,P.funcs[f]?=some fn/\fn.body.isNone=false/\(fn.name== "runtime.NumGoroutine")=false
def AX(P:Program)(f:FuncId)(args:List Fs)(H:AB)(n:Nat)(R:xw->AB->Nat->Prop):Prop:=
 C3 P f/\∀g w vs,x7 g H n w->wI g args vs->
  Calls P f vs.toArray w λe w'=>∃g' out H' n',R out H' n'/\Xl g' out e/\x7 g' H' n' w'/\n<=n'/\q9 n g H w g' H' w'
variable {H:AB} {args:List Fs} {n:Nat} {P:Program}
theorem AX.mono{f:FuncId}{R R':xw->AB->Nat->Prop}(h:AX P f args H n R)(hr:∀o H' n',R o H' n'->R' o H' n'):AX P f args H n R':=
 ⟨h.1,λg w vs r v=>(h.2 g w vs r v).mono λe w' ⟨g',out,H',n',q,rest⟩=>⟨g',out,H',n',hr _ _ _ q,rest⟩⟩
def FR(r:Option Nat):Fence:={Fence.wide with round:=r}
def CY(P:Program)(l:Nat)(args:List Fs)(H:AB)(n:Nat)(R:Bool->AB->Nat->Prop):Prop:=
 ∀r g w vs,x7 g H n w->wI g args vs->∃f tmps assign body,(Instr.yield l vs.toArray).run P w= .ok (.round l f tmps assign body) w/\
  RoundIn (FR r) 0 P l f tmps assign body w λe w'=>∃b g' H' n',e= .returned (.bool b)/\R b H' n'/\x7 g' H' n' w'/\n<=n'/\q9 n g H w g' H' w'
theorem CY.mono{l:Nat}{R R':Bool->AB->Nat->Prop}(h:CY P l args H n R)(hr:∀b H' n',R b H' n'->R' b H' n'):CY P l args H n R':=
 λr g w vs a b=>let ⟨f,tmps,as,bd,h1,h2⟩:=h r g w vs a b;⟨f,tmps,as,bd,h1,h2.mono λe w' ⟨b,g',H',n',k1,k2,k3⟩=>⟨b,g',H',n',k1,hr _ _ _ k2,k3⟩⟩
def Ao(P:Program)(f:FuncId)(args:List Fs)(H:AB)(n:Nat)(r:Fs):Prop:=
 AX P f args H n λout H' n'=>out= .ret r/\H'=H/\n'=n
def Wk(a b:Fs):Prop:=∀g v,AR g a v->AR g b v
theorem Wk.refl(a:Fs):Wk a a:=λ_ _ h=>h
def Av(P:Program)(f:FuncId)(args:List Fs)(r:Fs):Prop:=
 wN 0 args/\r.under 0/\AX P f args Ak 0 λout _ _=>∃v,out= .ret v/\Wk v r
theorem x7.sub{g:q8}{w:World}(r:x7 g H n w):x7 ⟨λ_=>none,g.σ⟩ Ak 0 w where
 σw:=r.σw
 obj:=λ_ _ h=>by simp [AD,Ak]at h
 yJ:=λ_ _ h=>by simp at h
 hd:=λ_ _ h=>by simp [AD,Ak]at h
 ap:=λ_ _ _ _ _ _ _ h=>by simp [AD,Ak]at h
 un:=λ_ _ _ _ h=>by simp [AD,Ak]at h
 gl:=λi cs h=>wM.agree (n:=0) (g:=⟨λ_=>none,g.σ⟩) (g':=g) ⟨λ_ _ h=>absurd h (tH _),λ_ _ _ h=>h⟩ (λ_ _ x=>x) cs 0 (NW i cs h) (r.gl i cs h)
 gz:=r.gz
theorem Eu{g:q8}{b o:Nat}:¬EF g Ak b o:=by
 rintro⟨id,ob,L,h,_⟩;simp [AD,Ak]at h
theorem Av.quiet{f:FuncId}{r:Fs}(h:Av P f args r)(H:AB)(n:Nat):Ao P f args H n r:=by
 obtain⟨ha,hr,wo,hc⟩:=h;refine⟨wo,λg w vs hR hvs=>?_⟩;have hvs0:wI ⟨λ_=>none,g.σ⟩ args vs:=wI.agree (n:=0) (g:=⟨λ_=>none,g.σ⟩) (g':=g) ⟨λ_ _ h=>absurd h (tH _),λ_ _ _ h=>h⟩ args vs ha hvs;refine(hc ⟨λ_=>none,g.σ⟩ w vs hR.sub hvs0).mono ?_;rintro e w' ⟨g',out,H',n',⟨v,rfl,hw⟩,he,hR',-,ht⟩;cases e with
 |panicked c=>exact he.elim
 |outgrown=>exact he.elim
 |returned x=>
  have hx:AR g' r x:=hw _ _ he
  have hσ:∀b o v,g.σ b o=some v->g'.σ b o=some v:=ht.le.σ;have old:∀b o v,b<w.heap.size->g'.σ b o=some v->g.σ b o=some v:=λb o v hb h=>(ht.nσ b o v hb h).resolve_right Eu
  have keep:∀(b:Nat) ob,w.heap[b]?=some ob->w'.heap[b]?=some ob:=by
   intro b ob hb;have hk:=ht.kept b ob hb;cases ob<;>first|exact hk.resolve_left Eu|skip
   obtain⟨c',h1,h2,h3⟩:=hk;rw[h1];congr 2;exact Array.ext_getElem? λi=>h3 i Eu
  have gle:g.le ⟨g.β,g'.σ⟩:=⟨λ_ _ h=>h,hσ⟩;refine⟨⟨g.β,g'.σ⟩,.ret r,H,n,⟨rfl,rfl,rfl⟩,?_,?_,sj _,?_⟩
  ·exact AR.agree (n:=0) (g:=⟨g.β,g'.σ⟩) (g':=g') ⟨λ_ _ h=>absurd h (tH _),λ_ _ _ h=>h⟩ r x hr hx
  ·refine⟨hR'.σw,?_,?_,hR.hd,hR.ap,?_,hR.gl.mono gle,hR'.gz⟩
   ·intro id ob hob;have ho:=hR.obj id ob hob;cases ob with
    |box cs=>obtain⟨L,c,e,h1,h2,h3,h4,h5,h6⟩:=ho;exact⟨L,c,e,h1,h2,h3,keep _ _ h4,h5,wM.mono gle (λ_ _ h=>h) cs 0 h6⟩
    |tok=>obtain⟨L,h1,h2⟩:=ho;exact⟨L,h1,λe9=>let ⟨c,e,h3,h4⟩:=h2 e9;⟨c,e,keep _ _ h3,h4⟩⟩
    |arr esz l=>obtain⟨L,c,e,h1,h2,h3,h4,h5,h6⟩:=ho;exact⟨L,c,e,h1,h2,h3,keep _ _ h4,h5,wL.mono gle (λ_ _ h=>h) esz l 0 h6⟩
    |frz esz l=>obtain⟨L,h1,h2,h3⟩:=ho;exact⟨L,h1,h2,wL.mono gle (hσ L.wR) esz l 0 h3⟩
    |map es c=>obtain⟨L,xD,h1,h2,h3,h4,h5⟩:=ho;exact⟨L,xD,h1,h2,h3,keep _ _ h4,D0.mono gle _ _ h5⟩
    |sit s pos=>obtain⟨L,h1,h2,h3,h4⟩:=ho;exact⟨L,h1,h2,h3,keep _ _ h4⟩
    |mit m c seen last=>obtain⟨L,Lm,h1,h2,h3,h4,h5⟩:=ho;exact⟨L,Lm,h1,h2,h3,keep _ _ h4,h5⟩
    |lp x=>obtain⟨L,h1,h2,h3,h4,r,k1,k2,k3,k4,k5,k6,k7,k8⟩:=ho;exact⟨L,h1,h2,h3,h4,r,keep _ _ k1,k2,k3,k4,k5,k6,B1.mono gle k7,k8⟩
    |dead=>trivial
   ·intro id L hL;exact⟨(hR.yJ id L hL).1,λe9=>uw ((hR.yJ id L hL).2 e9) ht.size⟩
   ·intro id ob L o q1 q2 q3 q4 q5;cases hs:g'.σ L.wR o with
    |none=>rfl
    |some v=>
     have hb:=(hR.yJ id L q3).2 zo;have:=old _ _ _ hb hs;rw[hR.un id ob L o q1 q2 q3 q4 q5]at this;cases this
  ·exact⟨gle,λ_ _ h=>.inl h,ht.os,ht.tape,ht.output,ht.size,λb ob hb=>by rw[keep b ob hb];exact JQ.same _ _,λ_ _ _ h=>h,λb o v hb h=>.inl (old b o v hb h)⟩
end
section
inductive zz where
 |t (i:Nat)
 |c (v:Fs)
def J3(k:IntKind):Fs->Prop
 | .int k' _=>k'=k
 |_=>False
def C4:Fs->Prop
 | .int _ _=>True
 |_=>False
def A9:Fs->Int
 | .int _ n=>n
 |_=>0
def J4:Fs->Prop
 | .bool _=>True
 |_=>False
def Fm:Fs->Bool
 | .bool b=>b
 |_=>false
def JR:Fs->Prop
 | .str _=>True
 |_=>False
def GR:Fs->List UInt8
 | .str s=>s
 |_=>[]
def Xm:Fs->Prop
 | .ifc _ _=>True
 |_=>False
def Lu:BinOp->Bool
 | .quo| .rem=>true
 |_=>false
def bD(op:BinOp)(k:IntKind)(x y:Int):Int:=
 let a:=BitVec.ofInt k.bits x
 let b:=BitVec.ofInt k.bits y
 match op with
 | .and=>k.wrap (a&&&b).toNat
 | .or=>k.wrap (a|||b).toNat
 | .xor=>k.wrap (a^^^b).toNat
 |_=>k.wrap (a&&& ~~~b).toNat
def GC(op:BinOp)(k:IntKind)(x y:Int):Int:=
 match op with
 | .add=>k.wrap (x+y)
 | .sub=>k.wrap (x-y)
 | .mul=>k.wrap (x*y)
 | .quo=>k.wrap (x.tdiv y)
 | .rem=>x.tmod y
 |op=>bD op k x y
def Kz(op:BinOp)(k:IntKind)(x y:Int):Int:=
 match op with
 | .shl=>k.wrap (x*2^(min y.toNat k.bits))
 |_=>x.fdiv (2^(min y.toNat k.bits))
def icmp(op:BinOp)(x y:Int):Bool:=
 match op with
 | .eql=>decide (x=y)
 | .neq=>!decide (x=y)
 | .lss=>decide (x<y)
 | .leq=>decide (x<=y)
 | .gtr=>decide (y<x)
 |_=>decide (y<=x)
def scmp(op:BinOp)(x y:List UInt8):Bool:=
 match op with
 | .eql=>decide (x=y)
 | .neq=>!decide (x=y)
 | .lss=>Op.bytesLess x y
 | .leq=>Op.bytesLess x y||decide (x=y)
 | .gtr=>!(Op.bytesLess x y||decide (x=y))
 |_=>!Op.bytesLess x y
mutual
def ID:Fs->Fs->Bool
 | .int _ a,.int _ b=>decide (a=b)
 | .bool a,.bool b=>a==b
 | .str a,.str b=>decide (a=b)
 | .agg xs,.agg ys=>xT xs ys
 |_,_=>false
def xT:List Fs->List Fs->Bool
 |[],[]=>true
 |x::xs,y::ys=>ID x y&&xT xs ys
 |_,_=>false
end
def D2:List Nat->List Fs->List Fs->Prop
 |[],[],[]=>True
 |0::fs,.int k _::xs,.int k' _::ys=>k=k'/\D2 fs xs ys
 |1::fs,.bool _::xs,.bool _::ys=>D2 fs xs ys
 |2::fs,.str _::xs,.str _::ys=>D2 fs xs ys
 |_,_,_=>False
def nT:Fs->Prop
 | .wJ _=>False
 |_=>True
def mk(ag:Bool)(cs:List Fs):Fs:=if ag then .agg cs else cs.headD (.wJ [])
def wZ(cs:List Fs)(off:Nat)(xs:List Fs):List Fs:=cs.take off++xs++cs.drop (off+xs.length)
inductive xx where
 |mv (x:zz)
 |arith (op:BinOp) (k:IntKind) (x y:zz)
 |shift (op:BinOp) (k ky:IntKind) (x y:zz)
 |icmp (op:BinOp) (k:IntKind) (x y:zz)
 |beq (neq:Bool) (x y:zz)
 |sadd (x y:zz)
 |scmp (op:BinOp) (x y:zz)
 |not (x:zz)
 |neg (k:IntKind) (x:zz)
 |conv (k:IntKind) (x:zz)
 |sid (x:zz)
 |fa (off:Nat) (x:zz)
 |fld (off sz:Nat) (ag:Bool) (x:zz)
 |ld (sz:Nat) (ag:Bool) (x:zz)
 |ia (esz:Nat) (x i:zz)
 |iaA (n esz:Nat) (x i:zz)
 |ixS (x i:zz)
 |ixA (n esz:Nat) (ag:Bool) (x i:zz)
 |slS (x:zz) (lo hi:Option zz)
 |sl (esz:Nat) (x:zz) (lo hi mx:Option zz)
 |lenS (x:zz)
 |len (x:zz)
 |mnmx (mx:Bool) (k:IntKind) (xs:List zz)
 |build (zero:List Fs) (parts:List (Nat×Nat×zz))
 |bs (esz n:Nat) (zero:Fs) (parts:List (Nat×zz))
 |mkz (esz bytes:Nat) (zero:Fs) (n:zz)
 |b2s (x:zz)
 |s2b (x:zz)
 |fn (f:Fn) (first cap:List zz)
 |ext (i:Nat) (x:zz)
 |ifc (t:TypeId) (x:zz)
 |nilc (x:zz)
 |aeq (neq:Bool) (fs:List Nat) (x y:zz)
def xx.wH:xx->List zz
 | .mv x| .sid x| .not x| .neg _ x| .conv _ x| .fa _ x| .fld _ _ _ x| .ld _ _ x| .lenS x| .len x| .mkz _ _ _ x| .b2s x| .s2b x| .ext _ x| .ifc _ x| .nilc x=>[x]
 | .arith _ _ x y| .shift _ _ _ x y| .icmp _ _ x y| .beq _ x y| .sadd x y| .scmp _ x y| .ia _ x y| .iaA _ _ x y| .ixS x y| .ixA _ _ _ x y| .aeq _ _ x y=>[x,y]
 | .slS x lo hi=>x::(lo.toList++hi.toList)
 | .sl _ x lo hi mx=>x::(lo.toList++hi.toList++mx.toList)
 | .mnmx _ _ xs=>xs
 | .build _ ps=>ps.map (·.2.2)
 | .bs _ _ _ ps=>ps.map (·.2)
 | .fn _ a b=>a++b
def A7(H:AB)(sz:Nat)(ag:Bool):Fs->Prop×Fs
 | .ptr id off=>match AD H id with
  |some (.box cs)=>(off+sz<=cs.length,mk ag ((cs.drop off).take sz))
  |_=>(False,.wJ [])
 | .ep cs=>(sz<=cs.length,mk ag (cs.take sz))
 | .ap id esz i off=>match AD H id with
  |some (.arr e l)|some (.frz e l)=>(e=esz/\i<l.length/\off+sz<=esz,mk ag (((l[i]?.getD (.wJ [])).cells.drop off).take sz))
  |_=>(False,.wJ [])
 |_=>(False,.wJ [])
def wT(ρ:zz->Fs)(d:Int):Option zz->Int
 |none=>d
 |some x=>A9 (ρ x)
def Co(ρ:zz->Fs):Option zz->Prop
 |none=>True
 |some x=>C4 (ρ x)
def Al(n bytes:Nat):Prop:=n*bytes<=35184372088832
def El(tok:v8)(len lo hi:Int)(mx:Option Int):v8:=
 match tok with
 | .nil=>.nil
 | .own _ e=>(match mx with|none=>.none e|some m=>if m=hi then .exact e else .none e)
 | .none e=>(match mx with|none=>.none e|some m=>if m=hi then .exact e else .none e)
 | .exact e=>(match mx with|none=>if hi=len then .exact e else .none e|some m=>if m=hi then .exact e else .none e)
def Gr(esz:Nat)(ρ:zz->Fs)(lo hi:Option zz)(id e off len cap:Nat):Option zz->Prop×Fs
 |none=>(e=esz/\len<=cap/\Co ρ lo/\Co ρ hi/\0<=wT ρ 0 lo/\wT ρ 0 lo<=wT ρ len hi/\wT ρ len hi<=len/\wT ρ 0 lo<cap,
    .ref id e (off+(wT ρ 0 lo).toNat) ((wT ρ len hi).toNat-(wT ρ 0 lo).toNat) (cap-(wT ρ 0 lo).toNat))
 |some m=>(e=esz/\hi≠none/\Co ρ lo/\Co ρ hi/\C4 (ρ m)/\wT ρ 0 lo=0/\wT ρ len hi=0/\A9 (ρ m)=0,.sl (.exact e) [])
def bE(ρ:zz->Fs)(mx:Bool)(k:IntKind)(xs:List zz):Prop×Fs:=((∀x∈xs,J3 k (ρ x))/\xs≠[],.int k (match xs with
  |[]=>0
  |x::r=>r.foldl (λm y=>if mx then max m (A9 (ρ y))else min m (A9 (ρ y))) (A9 (ρ x))))
def evB(ρ:zz->Fs)(zero:List Fs)(parts:List (Nat×Nat×zz)):Prop×Fs:=
 ((∀p∈parts,nT (ρ p.2.2)/\(ρ p.2.2).cells.length=p.2.1/\p.1+p.2.1<=zero.length),.agg (parts.foldl (λcs p=>wZ cs p.1 (ρ p.2.2).cells) zero))
def evS(ρ:zz->Fs)(esz n:Nat)(zero:Fs)(parts:List (Nat×zz)):Prop×Fs:=
 ((∀p∈parts,nT (ρ p.2)/\(ρ p.2).cells.length=esz/\p.1<n)/\zero.cells.length=esz/\n*esz<=16777216,.sl (.exact esz) (parts.foldl (λl p=>l.set p.1 (ρ p.2)) (List.replicate n zero)))
def Bd(H:AB)(ρ:zz->Fs):xx->Prop×Fs
 | .mv x=>(True,ρ x)
 | .arith op k x y=>(J3 k (ρ x)/\J3 k (ρ y)/\(Lu op=true->A9 (ρ y)≠0),.int k (GC op k (A9 (ρ x)) (A9 (ρ y))))
 | .shift op k ky x y=>(J3 k (ρ x)/\J3 ky (ρ y)/\0<=A9 (ρ y),.int k (Kz op k (A9 (ρ x)) (A9 (ρ y))))
 | .icmp op k x y=>(J3 k (ρ x)/\J3 k (ρ y),.bool (icmp op (A9 (ρ x)) (A9 (ρ y))))
 | .beq neq x y=>(J4 (ρ x)/\J4 (ρ y),.bool (if neq then Fm (ρ x) !=Fm (ρ y)else Fm (ρ x)==Fm (ρ y)))
 | .sadd x y=>(JR (ρ x)/\JR (ρ y)/\Al ((GR (ρ x)).length+(GR (ρ y)).length) 1,.str (GR (ρ x)++GR (ρ y)))
 | .scmp op x y=>(JR (ρ x)/\JR (ρ y),.bool (scmp op (GR (ρ x)) (GR (ρ y))))
 | .not x=>(J4 (ρ x),.bool (!Fm (ρ x)))
 | .neg k x=>(J3 k (ρ x),.int k (k.wrap (0-A9 (ρ x))))
 | .sid x=>(JR (ρ x),.str (GR (ρ x)))
 | .conv k x=>(C4 (ρ x),.int k (k.wrap (A9 (ρ x))))
 | .fa off x=>match ρ x with
  | .ptr id o=>(True,.ptr id (o+off))
  | .ep cs=>(True,.ep (cs.drop off))
  | .ap id e i o=>(True,.ap id e i (o+off))
  |_=>(False,.wJ [])
 | .fld off sz ag x=>match ρ x with
  | .agg cs=>(off+sz<=cs.length,mk ag ((cs.drop off).take sz))
  |_=>(False,.wJ [])
 | .ld sz ag x=>A7 H sz ag (ρ x)
 | .ia esz x i=>match ρ x with
  | .sl tok l=>(tok.esz=esz/\C4 (ρ i)/\0<=A9 (ρ i)/\A9 (ρ i)<l.length,.ep (l[(A9 (ρ i)).toNat]?.getD (.wJ [])).cells)
  | .ref id e off len _=>(e=esz/\C4 (ρ i)/\0<=A9 (ρ i)/\A9 (ρ i)<len,.ap id e (off+(A9 (ρ i)).toNat) 0)
  |_=>(False,.wJ [])
 | .iaA n esz x i=>match ρ x with
  | .ptr id o=>(C4 (ρ i)/\0<=A9 (ρ i)/\A9 (ρ i)<n,.ptr id (o+(A9 (ρ i)).toNat*esz))
  | .ep cs=>(C4 (ρ i)/\0<=A9 (ρ i)/\A9 (ρ i)<n,.ep (cs.drop ((A9 (ρ i)).toNat*esz)))
  |_=>(False,.wJ [])
 | .ixS x i=>(JR (ρ x)/\C4 (ρ i)/\0<=A9 (ρ i)/\A9 (ρ i)<(GR (ρ x)).length,.int .u8 ((GR (ρ x))[(A9 (ρ i)).toNat]?.getD 0).toNat)
 | .ixA n esz ag x i=>match ρ x with
  | .agg cs=>(C4 (ρ i)/\0<=A9 (ρ i)/\A9 (ρ i)<n/\(A9 (ρ i)).toNat*esz+esz<=cs.length,mk ag ((cs.drop ((A9 (ρ i)).toNat*esz)).take esz))
  |_=>(False,.wJ [])
 | .slS x lo hi=>(JR (ρ x)/\Co ρ lo/\Co ρ hi/\0<=wT ρ 0 lo/\wT ρ 0 lo<=wT ρ (GR (ρ x)).length hi/\wT ρ (GR (ρ x)).length hi<=(GR (ρ x)).length,
   .str (((GR (ρ x)).take (wT ρ (GR (ρ x)).length hi).toNat).drop (wT ρ 0 lo).toNat))
 | .sl esz x lo hi mx=>match ρ x with
  | .sl tok l=>((tok= .nil\/tok.esz=esz)/\Co ρ lo/\Co ρ hi/\Co ρ mx/\(mx≠none->hi≠none)/\0<=wT ρ 0 lo/\wT ρ 0 lo<=wT ρ l.length hi/\wT ρ l.length hi<=l.length/\
     (∀m,mx=some m->wT ρ l.length hi<=A9 (ρ m)/\A9 (ρ m)<=l.length),
    .sl (El tok l.length (wT ρ 0 lo) (wT ρ l.length hi) (mx.map λm=>A9 (ρ m))) ((l.take (wT ρ l.length hi).toNat).drop (wT ρ 0 lo).toNat))
  | .ref id e off len cap=>Gr esz ρ lo hi id e off len cap mx
  |_=>(False,.wJ [])
 | .lenS x=>(JR (ρ x),.int .i64 (GR (ρ x)).length)
 | .len x=>match ρ x with
  | .sl _ l=>(True,.int .i64 l.length)
  | .ref _ _ _ len _=>(True,.int .i64 len)
  |_=>(False,.wJ [])
 | .mnmx mx k xs=>bE ρ mx k xs
 | .build zero parts=>evB ρ zero parts
 | .bs esz n zero parts=>evS ρ esz n zero parts
 | .mkz esz bytes zero n=>(C4 (ρ n)/\0<=A9 (ρ n)/\Al (A9 (ρ n)).toNat bytes/\A9 (ρ n)<=35184372088832/\zero.cells.length=esz,.sl (.exact esz) (List.replicate (A9 (ρ n)).toNat zero))
 | .b2s x=>match ρ x with
  | .sl tok l=>((tok= .nil\/tok.esz=1)/\∃bs:List UInt8,l=bs.map λb=>.int .u8 b.toNat,.str (l.map λv=>UInt8.ofNat (A9 v).toNat))
  |_=>(False,.wJ [])
 | .s2b x=>(JR (ρ x),.sl (.none 1) ((GR (ρ x)).map λb=>.int .u8 b.toNat))
 | .fn f a b=>(True,.fn f (a.map ρ) (b.map ρ))
 | .ext i x=>match ρ x with
  | .wJ vs=>(i<vs.length,vs[i]?.getD (.wJ []))
  |_=>(False,.wJ [])
 | .ifc t x=>(True,.ifc t (ρ x))
 | .nilc x=>match ρ x with
  | .ptr id o=>(True,.ptr id o)
  | .ep cs=>(True,.ep cs)
  | .ap id e i o=>(True,.ap id e i o)
  | .ifc t v=>(True,.ifc t v)
  | .fn (.func f) a b=>(True,.fn (.func f) a b)
  |_=>(False,.wJ [])
 | .aeq neq fs x y=>match ρ x,ρ y with
  | .agg xs,.agg ys=>(D2 fs xs ys,.bool (if neq then !xT xs ys else xT xs ys))
  |_,_=>(False,.wJ [])
inductive KT where
 |int (k:IntKind)
 |bool
 |str
 |arr (n:Nat) (k:IntKind)
def Oi(k:IntKind):Nat->List Fs->Prop
 |0,[]=>True
 |n+1,.int k' _::r=>k'=k/\Oi k n r
 |_,_=>False
def KT.is:KT->Fs->Prop
 | .arr n k,.agg xs=>Oi k n xs
 | .int k,.int k' _=>k'=k
 | .bool,.bool _=>True
 | .str,.str _=>True
 |_,_=>False
def Bm(k:Fs):List (Fs×Fs×Nat)->Option Fs
 |[]=>none
 |(k',v,_)::r=>if ID k k'=true then some v else Bm k r
def EQ(k v:Fs)(c:Nat):List (Fs×Fs×Nat)->List (Fs×Fs×Nat)
 |[]=>[(k,v,c)]
 |(k',v',b)::r=>if ID k k'=true then(k',v,b)::r else(k',v',b)::EQ k v c r
def EG(kt:KT):List (Fs×Fs×Nat)->Prop
 |[]=>True
 |(k',_,_)::r=>kt.is k'/\EG kt r
def C5(zero:Fs)(ok:Bool)(o:Option Fs):Fs:=if ok=true then .wJ [o.getD zero,.bool o.isSome]else o.getD zero
def Pe(s:Nat):List (Fs×Fs×Nat)->Option (Fs×Fs)
 |[]=>none
 |(k,v,b)::r=>if b=s then some (k,v)else Pe s r
def NX(H:AB)(m:Nat)(seen:List Nat):Option (Fs×Fs):=match AD H m,seen.getLast? with
 |some (.map es _),some s=>Pe s es
 |_,_=>none
inductive XOp where
 |mkm (rel:Nat)
 |look (kt:KT) (zero:Fs) (ok:Bool)
 |mput (kt:KT)
 |mlen
 |srng (rel:Nat)
 |mrng (rel:Nat)
 |ment
 |snext
 |i2s
 |xP (kd:Nat) (neq:Bool)
 |tas (t:TypeId) (ok:Bool) (zero:Fs)
 |cpy (esz:Nat) (str:Bool)
 |yY (n esz:Nat) (lo hi:Bool)
 |bsm (rel esz n:Nat) (zero:Fs) (is:List Nat)
def grp(esz:Nat):Nat->List Fs->List Fs
 |0,_=>[]
 |n+1,cs=>.agg (cs.take esz)::grp esz n (cs.drop esz)
def JS(H:AB)(n esz:Nat)(lo hi:Int):Fs->Prop×AB×Fs
 | .ptr id 0=>match AD H id with
  |some (.box cs)=>(cs.length=n*esz/\0<=lo/\lo<=hi/\hi<=n/\lo<n,wB H id (.arr esz (grp esz n cs)),.ref id esz lo.toNat (hi.toNat-lo.toNat) (n-lo.toNat))
  |some (.arr e l)=>(e=esz/\l.length=n/\0<=lo/\lo<=hi/\hi<=n/\lo<n,H,.ref id esz lo.toNat (hi.toNat-lo.toNat) (n-lo.toNat))
  |_=>(False,H,.wJ [])
 |_=>(False,H,.wJ [])
def Oj(H:AB)(esz:Nat)(v:Fs):Bool->Option (List Fs)
 |true=>match v with
  | .str s=>some (s.map λb=>.int .u8 b.toNat)
  |_=>none
 |false=>match v with
  | .sl tok l=>if tok.esz=esz\/l.length=0 then some l else none
  | .ref id e off len cap=>match AD H id with
   |some (.arr e' l)=>if e=esz/\e'=esz/\off+len<=l.length then some ((l.drop off).take len)else none
   |_=>none
  |_=>none
def Xn(esz n:Nat):List Nat->List Fs->Prop
 |[],[]=>True
 |i::is,v::vs=>nT v/\v.cells.length=esz/\i<n/\Xn esz n is vs
 |_,_=>False
def Xo:List Nat->List Fs->List Fs->List Fs
 |i::is,v::vs,l=>Xo is vs (l.set i v)
 |_,_,l=>l
def xE(base:Nat):XOp->AB->List Fs->Prop×AB×Fs
 | .mkm rel,H,[]=>(AD H (base+rel)=none,wB H (base+rel) (.map [] 0),.mp (base+rel))
 | .look kt zero ok,H,[.mp id,k]=>match AD H id with
  |some (.map es _)=>(kt.is k/\EG kt es,H,C5 zero ok (Bm k es))
  |_=>(False,H,.wJ [])
 | .look kt zero ok,H,[.nilmp,k]=>(kt.is k,H,C5 zero ok none)
 | .mput kt,H,[.mp id,k,v]=>match AD H id with
  |some (.map es c)=>(kt.is k/\EG kt es/\nT v,wB H id (.map (EQ k v c es) (if(Bm k es).isSome=true then c else c+1)),.wJ [])
  |_=>(False,H,.wJ [])
 | .mlen,H,[.mp id]=>match AD H id with
  |some (.map es _)=>(True,H,.int .i64 es.length)
  |_=>(False,H,.wJ [])
 | .mlen,H,[.nilmp]=>(True,H,.int .i64 0)
 | .mrng rel,H,[.mp m]=>match AD H m with
  |some (.map es c)=>(AD H (base+rel)=none,wB H (base+rel) (.mit m c [] c),.ptr (base+rel) 0)
  |_=>(False,H,.wJ [])
 | .ment,H,[.ptr id 0]=>match AD H id with
  |some (.mit m _ seen last)=>(match AD H m,NX H m seen with
   |some (.map _ yu),some (k,v)=>(yu=last,H,.wJ [k,v])
   |_,_=>(False,H,.wJ []))
  |_=>(False,H,.wJ [])
 | .srng rel,H,[.str s]=>(AD H (base+rel)=none,wB H (base+rel) (.sit s 0),.ptr (base+rel) 0)
 | .snext,H,[.ptr id 0]=>match AD H id with
  |some (.sit s pos)=>(True,if pos<s.length then wB H id (.sit s (pos+(Utf8.decode ⟨s.toArray⟩ pos).2))else H,
    if pos<s.length then .wJ [.bool true,.int .i64 pos,.int .i32 (Utf8.decode ⟨s.toArray⟩ pos).1]else .wJ [.bool false])
  |_=>(False,H,.wJ [])
 | .i2s,H,[.int _ n]=>(True,H,.str (Utf8.encode n).data.toList)
 | .xP 0 neq,H,[.ifc _ _]=>(True,H,.bool neq)
 | .xP 1 neq,H,[.ptr _ _]=>(True,H,.bool neq)
 | .xP 1 neq,H,[.ep _]=>(True,H,.bool neq)
 | .xP 1 neq,H,[.gp _]=>(True,H,.bool neq)
 | .xP 1 neq,H,[.ap _ _ _ _]=>(True,H,.bool neq)
 | .xP 1 neq,H,[.up]=>(True,H,.bool neq)
 | .xP 2 neq,H,[.fn _ _ _]=>(True,H,.bool neq)
 | .xP 0 neq,H,[.xA]=>(True,H,.bool (!neq))
 | .xP 1 neq,H,[.nilp]=>(True,H,.bool (!neq))
 | .xP 2 neq,H,[.yF]=>(True,H,.bool (!neq))
 | .tas t false _,H,[.ifc t' v]=>(t'=t,H,v)
 | .tas t true zero,H,[.ifc t' v]=>(True,H,if t'=t then .wJ [v,.bool true]else .wJ [zero,.bool false])
 | .tas _ true zero,H,[.xA]=>(True,H,.wJ [zero,.bool false])
 | .yY n esz false false,H,[v]=>JS H n esz 0 n v
 | .yY n esz true false,H,[v,.int _ a]=>JS H n esz a n v
 | .yY n esz false true,H,[v,.int _ b]=>JS H n esz 0 b v
 | .yY n esz true true,H,[v,.int _ a,.int _ b]=>JS H n esz a b v
 | .cpy esz str,H,[.ref id e off len cap,y]=>match AD H id,Oj H esz y str with
  |some (.arr e' l),some l'=>(e=esz/\e'=esz/\off+len<=l.length,wB H id (.arr esz (l.take off++l'.take (min l'.length len)++l.drop (off+min l'.length len))),.int .i64 (min l'.length len:Nat))
  |_,_=>(False,H,.wJ [])
 | .bsm rel esz n zero is,H,vs=>(AD H (base+rel)=none/\Xn esz n is vs/\zero.cells.length=esz/\n*esz<=16777216,wB H (base+rel) (.arr esz (Xo is vs (List.replicate n zero))),.ref (base+rel) esz 0 n n)
 |_,H,_=>(False,H,.wJ [])
inductive Io where
 |v (k:xx)
 |pick (c a b:zz)
 |alloc (rel:Nat) (cs:List Fs)
 |box (rel sz:Nat) (x:zz)
 |st (sz:Nat) (a x:zz)
 |app (rel esz bytes:Nat) (s x:zz) (str:Bool)
 |mks (rel esz bytes:Nat) (zero:Fs) (n:zz)
 |call (quiet:Bool) (f:zz) (args:List zz)
 |xM (x:zz)
 |slA (n:Nat) (x:zz) (lo hi:Option zz)
 |ext (x:XOp) (xs:List zz)
 |yM (rel esz bytes:Nat) (zero:Fs) (s x:zz) (str:Bool)
 |nils (neq:Bool) (x:zz)
 |cpu (f:zz) (args:List zz)
 |mnx (x:zz)
def Io.news:Io->Bool
 | .alloc .. | .box .. | .mks .. | .app .. | .yM .. | .ext (.mkm _) _| .ext (.bsm ..) _| .ext (.srng _) _| .ext (.mrng _) _=>true
 |_=>false
def Io.wH:Io->List zz
 | .v k=>k.wH
 | .pick c a b=>[c,a,b]
 | .alloc _ _=>[]
 | .box _ _ x=>[x]
 | .st _ a x=>[a,x]
 | .app _ _ _ a x _=>[a,x]
 | .mks _ _ _ _ x=>[x]
 | .call _ f xs=>f::xs
 | .xM x=>[x]
 | .slA _ x lo hi=>x::(lo.toList++hi.toList)
 | .ext _ xs=>xs
 | .yM _ _ _ _ a x _=>[a,x]
 | .nils _ x=>[x]
 | .cpu f xs=>f::xs
 | .mnx x=>[x]
structure xq where
 dst:Option Nat
 guard:Option (Nat×Bool)
 k:Io
structure AS where
 env:List (Nat×Bool×Fs)
 H:AB
 n:Nat
def lk(env:List (Nat×Bool×Fs)):zz->Bool×Fs
 | .t i=>match BI env i with
  |some x=>x
  |none=>(false,.wJ [])
 | .c v=>(true,v)
def AY(env:List (Nat×Bool×Fs))(x:zz):Fs:=(lk env x).2
def C2(env:List (Nat×Bool×Fs)):List zz->Prop
 |[]=>True
 |x::r=>(lk env x).1=true/\C2 env r
def AS.put(s:AS)(dst:Option Nat)(g:Bool)(v:Fs):AS:=
 match dst with
 |none=>s
 |some d=>{s with env:=(d,g,v)::s.env}
def AS.keep(s:AS)(l:List Nat):AS:={s with env:=l.filterMap λt=>(BI s.env t).map λx=>(t,x)}
def GS(env:List (Nat×Bool×Fs)):Option (Nat×Bool)->Prop
 |none=>True
 |some (t,_)=>match BI env t with
  |none=>False
  |some (g,v)=>g=true->J4 v
def Bl(env:List (Nat×Bool×Fs)):Option (Nat×Bool)->Bool
 |none=>true
 |some (t,w)=>(lk env (.t t)).1&&(Fm (AY env (.t t))==w)
def Lv(b:Bool):Fs->Fs->Fs
 | .bool x,.bool y=>.bool (bif b then x else y)
 |x,y=>bif b then x else y
def CF(H:AB)(ρ:zz->Fs)(esz:Nat)(x:zz):Bool->Option (List Fs)
 |true=>match ρ x with
  | .str s=>some (s.map λb=>.int .u8 b.toNat)
  |_=>none
 |false=>match ρ x with
  | .sl tok l=>if tok.esz=esz\/l.length=0 then some l else none
  | .ref id e off len cap=>match AD H id with
   |some (.arr e' l)=>if e=esz/\e'=esz/\off+len<=l.length then some ((l.drop off).take len)else none
   |_=>none
  |_=>none
def IQ(H:AB)(n:Nat)(lo hi:Int)(K:AB->Fs->Prop):Fs->Prop
 | .ptr id 0=>match AD H id with
  |some (.box cs)=>cs.length=n/\0<=lo/\lo<=hi/\hi<=n/\lo<n/\K (wB H id (.arr 1 cs)) (.ref id 1 lo.toNat (hi.toNat-lo.toNat) (n-lo.toNat))
  |some (.arr e cs)=>e=1/\cs.length=n/\0<=lo/\lo<=hi/\hi<=n/\lo<n/\K H (.ref id 1 lo.toNat (hi.toNat-lo.toNat) (n-lo.toNat))
  |_=>False
 |_=>False
variable {H H':AB} {K K':AB->Fs->Prop} {v v':Fs} {n esz sz:Nat} {cx:Nat->Fs}
theorem UM{lo hi:Int}(h:∀H v,K H v->K' H v):∀{v:Fs},IQ H n lo hi K v->IQ H n lo hi K' v:=by
 intro v;unfold IQ;split
 ·grind
 ·exact id
def BB(H:AB)(esz:Nat):v8->Prop
 | .nil=>True
 | .none _=>False
 | .exact e=>e=esz
 | .own id e=>e=esz/\AD H id=some .tok
def AU(H:AB):v8->AB
 | .own id _=>wB H id .dead
 |_=>H
def Fe(H:AB)(id esz bytes:Nat)(zero:Fs)(K:AB->Fs->Prop):Fs->Option (List Fs)->Prop
 | .sl tok l,some l'=>AD H id=none/\0<esz/\zero.cells.length=esz/\(tok= .nil\/tok= .exact esz)/\Al (l.length+l'.length) bytes/\l.length+l'.length<=35184372088832/\
   (l'=[]->K H (.sl tok l))/\
   (l'≠[]->∀cap,l.length+l'.length<=cap->K (wB H id (.arr esz (l++l'++List.replicate (cap-(l.length+l'.length)) zero))) (.ref id esz 0 (l.length+l'.length) cap))
 | .ref i0 e off len cap,some l'=>AD H id=none/\0<esz/\zero.cells.length=esz/\e=esz/\off=0/\Al (len+l'.length) bytes/\len+l'.length<=35184372088832/\
   (match AD H i0 with
   |some (.arr e' l)=>e'=esz/\l.length=cap/\len<=cap/\
     (len+l'.length<=cap->K (wB H i0 (.arr esz (l.take len++l'++l.drop (len+l'.length)))) (.ref i0 esz 0 (len+l'.length) cap))/\
     (cap<len+l'.length->∀yK,len+l'.length<=yK->K (wB H id (.arr esz (l.take len++l'++List.replicate (yK-(len+l'.length)) zero))) (.ref id esz 0 (len+l'.length) yK))
   |_=>False)
 |_,_=>False
theorem Lw{id bytes:Nat}{zero:Fs}(h:∀H v,K H v->K' H v){x:Option (List Fs)}:Fe H id esz bytes zero K v x->Fe H id esz bytes zero K' v x:=by
 intro q;unfold Fe at q⊢;split at q
 ·simp_all
 ·grind
 ·exact q
def Di(old:Fs)(off sz esz:Nat)(v:Fs):Prop×Fs:=if off=0/\sz=esz then(True,v)else match old with
 | .agg cs=>(cs.length=esz/\off+sz<=esz,.agg (wZ cs off v.cells))
 |_=>(False,v)
theorem Pf{old v:Fs}{n:Nat}:Di old 0 n n v=(True,v):=by simp [Di]
theorem G6{cs:List Fs}{off:Nat}(h:(off=0/\sz=esz)=False):Di (.agg cs) off sz esz v=(cs.length=esz/\off+sz<=esz,.agg (wZ cs off v.cells)):=by simp [Di,h]
def HP(K:Bool->Prop)(neq:Bool):Fs->Prop
 | .sl .nil []=>K (!neq)
 | .sl _ []=>K neq/\K (!neq)
 | .sl _ (_::_)=>K neq
 | .ref _ _ _ _ _=>K neq
 |_=>False
theorem SQ{K K':Bool->Prop}(h:∀b,K b->K' b){neq:Bool}:HP K neq v->HP K' neq v:=by
 intro q;unfold HP at q⊢;split at q
 ·exact h _ q
 ·exact⟨h _ q.1,h _ q.2⟩
 ·exact h _ q
 ·exact h _ q
 ·exact q.elim
def G7(es:List (Fs×Fs×Nat))(seen:List Nat):List (Fs×Fs×Nat):=es.filter λe=>!seen.contains e.2.2
def JF(H:AB)(K:AB->Fs->Prop):Fs->Prop
 | .ptr id 0=>match AD H id with
  |some (.mit m c seen last)=>(match AD H m with
   |some (.map es yu)=>c<=yu/\(∀e∈es,e.2.2<c)/\(G7 es seen=[]->K H (.wJ [.bool false]))/\∀e∈G7 es seen,K (wB H id (.mit m c (seen++[e.2.2]) yu)) (.wJ [.bool true,e.1,e.2.1])
   |_=>False)
  |_=>False
 |_=>False
theorem UN(h:∀H v,K H v->K' H v):JF H K v->JF H K' v:=by
 intro q;unfold JF at q⊢;split at q
 ·split at q
  ·grind
  ·exact q.elim
 ·exact q.elim
section
variable (P:Program) (Qp:Fs->AB->Nat->Prop) (base:Nat)
def BS(o:xq)(K:AS->Prop)(s:AS):Prop:=
 let ρ:=AY s.env
 match o.k with
 | .alloc rel cs=>AD s.H (base+rel)=none/\K ({s with H:=wB s.H (base+rel) (.box cs)}.put o.dst true (.ptr (base+rel) 0))
 | .box rel sz x=>AD s.H (base+rel)=none/\nT (ρ x)/\(ρ x).cells.length=sz/\K ({s with H:=wB s.H (base+rel) (.box (ρ x).cells)}.put o.dst true (.ptr (base+rel) 0))
 | .st sz a x=>nT (ρ x)/\(ρ x).cells.length=sz/\match ρ a with
  | .ptr id off=>(match AD s.H id with
   |some (.box cs)=>off+sz<=cs.length/\K ({s with H:=wB s.H id (.box (wZ cs off (ρ x).cells))}.put o.dst true (.wJ []))
   |_=>False)
  | .ap id esz i off=>(match AD s.H id with
   |some (.arr e l)=>e=esz/\i<l.length/\(Di (l[i]?.getD (.wJ [])) off sz esz (ρ x)).1/\K ({s with H:=wB s.H id (.arr e (l.set i (Di (l[i]?.getD (.wJ [])) off sz esz (ρ x)).2))}.put o.dst true (.wJ []))
   |_=>False)
  |_=>False
 | .app rel esz bytes x y str=>(match ρ x,CF s.H ρ esz y str with
  | .sl tok l,some l'=>AD s.H (base+rel)=none/\BB s.H esz tok/\Al (l.length+l'.length) bytes/\l.length+l'.length<=35184372088832/\0<esz/\
    K ({s with H:=wB (AU s.H tok) (base+rel) .tok}.put o.dst true (.sl (.own (base+rel) esz) (l++l')))
  |_,_=>False)
 | .mks rel esz bytes zero n=>AD s.H (base+rel)=none/\C4 (ρ n)/\0<=A9 (ρ n)/\Al (A9 (ρ n)).toNat bytes/\A9 (ρ n)<=35184372088832/\zero.cells.length=esz/\
   K ({s with H:=wB s.H (base+rel) (.arr esz (List.replicate (A9 (ρ n)).toNat zero))}.put o.dst true (.ref (base+rel) esz 0 (A9 (ρ n)).toNat (A9 (ρ n)).toNat))
 | .call _ f args=>(match ρ f with
  | .fn (.func f) first cap=>AX P f (first++args.map ρ++cap) s.H s.n λout H' n'=>match out with
   | .ret v=>K ({s with H:=H',n:=n'}.put o.dst true v)
   | .xM v=>Qp v H' n'
  | .fn (.yield l) [] []=>CY P l (args.map ρ) s.H s.n λb H' n'=>K ({s with H:=H',n:=n'}.put o.dst true (.bool b))
  |_=>False)
 | .xM x=>Xm (ρ x)/\Qp (ρ x) s.H s.n
 | .slA n x lo hi=>Co ρ lo/\Co ρ hi/\IQ s.H n (wT ρ 0 lo) (wT ρ n hi) (λH' v=>K ({s with H:=H'}.put o.dst true v)) (ρ x)
 | .ext x xs=>(xE base x s.H (xs.map ρ)).1/\K ({s with H:=(xE base x s.H (xs.map ρ)).2.1}.put o.dst true (xE base x s.H (xs.map ρ)).2.2)
 | .yM rel esz bytes zero x y str=>Fe s.H (base+rel) esz bytes zero (λH' v=>K ({s with H:=H'}.put o.dst true v)) (ρ x) (CF s.H ρ esz y str)
 | .nils neq x=>HP (λb=>K (s.put o.dst true (.bool b))) neq (ρ x)
 | .mnx x=>JF s.H (λH' v=>K ({s with H:=H'}.put o.dst true v)) (ρ x)
 | .cpu f args=>(match ρ f with
  | .fn (.func f) first cap=>∃r,Av P f (first++args.map ρ++cap) r/\K (s.put o.dst true r)
  |_=>False)
 |_=>False
def Af(o:xq)(K:AS->Prop)(s:AS):Prop:=
 GS s.env o.guard/\
  match o.k with
  | .v k=>(Bl s.env o.guard=true->C2 s.env k.wH/\(Bd s.H (AY s.env) k).1)/\K (s.put o.dst (Bl s.env o.guard) (Bd s.H (AY s.env) k).2)
  | .pick c a b=>(Bl s.env o.guard=true->(lk s.env c).1=true/\J4 (AY s.env c)/\(Fm (AY s.env c)=true->(lk s.env a).1=true)/\(Fm (AY s.env c)=false->(lk s.env b).1=true))/\
    K (s.put o.dst (Bl s.env o.guard) (Lv (Fm (AY s.env c)) (AY s.env a) (AY s.env b)))
  | .call true f args=>∃r,(Bl s.env o.guard=true->(lk s.env f).1=true/\C2 s.env args/\match AY s.env f with
    | .fn (.func f) first cap=>Ao P f (first++args.map (AY s.env)++cap) s.H s.n r
    |_=>False)/\K (s.put o.dst (Bl s.env o.guard) r)
  |k=>(Bl s.env o.guard=true->C2 s.env (k.wH)/\BS P Qp base o K s)/\(Bl s.env o.guard=false->K (s.put o.dst false (.wJ [])))
def D4:List xq->(AS->Prop)->AS->Prop
 |[],K,s=>K s
 |o::r,K,s=>Af P Qp base o (D4 r K) s
end
def G8(base:Nat):Fs->Prop
 | .ptr id _| .ap id _ _ _=>id<base
 |_=>True
def JG(base:Nat):Fs->Prop
 | .ptr id _| .ap id _ _ _=>base<=id
 |_=>False
def ER(id:Nat):Fs->Prop
 | .ptr i _| .ap i _ _ _=>i=id
 |_=>False
def UO(env:List (Nat×Bool×Fs))(n:Nat)(t:Nat):Fs:=if 100000<=t then .ptr (n+(t-100000)) 0 else AY env (.t t)
def Rj(base:Nat)(cx:Nat->Fs)(k id:Nat):Prop:=if k<1000 then base=id+k else if k<300000 then(if k % 2=0 then 1000+2*id=k else 1001+2*id≠k)else if k % 2=0 then ER id (cx ((k-300000)/2))else ¬ER id (cx ((k-300000)/2))
def Pg(base:Nat)(cx:Nat->Fs)(k:Nat):Fs->Prop
 | .ptr id _=>Rj base cx k id
 | .ap id _ _ _=>1000<=k/\Rj base cx k id
 | .ep _=>1000<=k/\k % 2=1
 |_=>False
def fo:Fs->Prop
 | .ptr _ _=>True
 |_=>False
def Qn(H H':AB):Prop:=∀id cs,AD H id=some (.box cs)->AD H' id=some (.box cs)
def Bp(base:Nat)(cx:Nat->Fs)(ρ:zz->Fs):Nat->Io->Prop
 |0,_=>True
 |1,.v (.ld _ _ a)=>G8 base (ρ a)
 |2,.st _ a _=>JG base (ρ a)
 |k+3,.v (.ld _ _ a)=>Pg base cx k (ρ a)
 |k+3,.st _ a _=>Pg base cx k (ρ a)
 |k+3,.call false _ _=>300000<=k/\k % 2=0
 |2,.v (.ld _ _ a)=>fo (ρ a)
 |2,.yM _ _ _ _ _ _ _=>True
 |_,_=>False
def IR(a:Fs)(H H':AB):Prop:=∀id,¬ER id a->AD H id≠none->AD H' id=AD H id
def Fo(cx:Nat->Fs):Nat->Io->AB->AB->Prop
 |k+3,.call false _ _,H,H'=>IR (cx ((k-300000)/2)) H H'
 |2,.yM _ _ _ _ _ _ _,H,H'=>Qn H H'
 |_,_,_,_=>True
def G9(base:Nat)(cx:Nat->Fs)(f:Nat)(o:xq)(s:AS):Prop:=Bl s.env o.guard=true->Bp base cx (AY s.env) f o.k
def Lx(P:Program)(Qp:Fs->AB->Nat->Prop)(base:Nat)(cx:Nat->Fs)(x:Nat×xq)(K:AS->Prop)(s:AS):Prop:=G9 base cx x.1 x.2 s/\Af P Qp base x.2 (λs'=>Fo cx x.1 x.2.k s.H s'.H/\K s') s
def JT(P:Program)(Qp:Fs->AB->Nat->Prop)(base:Nat)(cx:Nat->Fs):List (Nat×xq)->(AS->Prop)->AS->Prop
 |[],K,s=>K s
 |o::r,K,s=>Lx P Qp base cx o (JT P Qp base cx r K) s
theorem FH{k:Io}:Fo cx 0 k H H'=True:=by unfold Fo;split<;>first|rfl|(rename_i h;cases h)
theorem WM{f:Nat}{o:xx}:Fo cx f (.v o) H H'=True:=by cases f<;>(unfold Fo;split<;>first|rfl|(rename_i h;cases h))
theorem SR{f:Nat}{a x:zz}:Fo cx f (.st sz a x) H H'=True:=by cases f<;>(unfold Fo;split<;>first|rfl|(rename_i h;cases h))
inductive z8 where
 |skip
 |reg (yL:Nat) (ops:List xq) (keep:List Nat)
 |seq (a b:z8)
 |cond (c:zz) (a b:z8)
 |block (id:Nat) (c:z8)
 |loop (c:z8)
 |exit (id:Nat)
 |ret
 |rfun (g:zz) (ps:Array Tmp) (nt:Nat) (asg body:Code)
 |regx (yL:Nat) (ops:List (Nat×xq)) (keep:List Nat)
 |frz (t:Nat)
 |frzo (t:Nat)
def z8.plain:z8->Bool
 | .seq a b| .cond _ a b=>a.plain&&b.plain
 | .block _ c| .loop c=>c.plain
 | .rfun .. =>false
 |_=>true
inductive x6 where
 |normal
 |exit (id:Nat)
 |ret
 |xM (v:Fs)
def SS(env:List (Nat×Bool×Fs)):List (Nat×Bool×Fs)->Prop
 |[]=>True
 |(t,g,v)::r=>(∃v',BI env t=some (g,v')/\Wk v' v)/\SS env r
def J5(n:Nat):List (Nat×Bool×Fs)->Prop
 |[]=>True
 |(_,_,v)::r=>v.under n/\J5 n r
def K0(s s' s2:AS):Prop:=
 s2=s'\/(SS s'.env s2.env/\((s2.H=s'.H/\s2.n=s'.n)\/(s2.n=s.n/\IP s.n s.H s'.H s2.H/\J5 s.n s2.env)))
def GD(Q:x6->AS->Prop)(s:AS)(id:Nat)(out:xw)(H':AB)(n':Nat):Prop:=
 match out with
 | .xM v=>Q (.xM v) ⟨[],H',n'⟩
 | .ret _=>match AD H' id with
  |some (.lp x)=>x.st≠ .busy/\(match x.xQ with
   |none=>Q .normal {s with H:=wB H' id .dead,n:=n'}
   |some .ret=>Q .ret {s with H:=wB H' id .dead,n:=n'}
   |some (.exit i)=>Q (.exit i) {s with H:=wB H' id .dead,n:=n'}
   |_=>False)
  |_=>False
def GE(P:Program)(s:AS)(Q:x6->AS->Prop)(ps:Array Tmp)(nt:Nat)(asg body:Code):Fs->Prop
 | .fn (.func f) first cap=>∀l,AX P f (first++[.fn (.yield l) [] []]++cap) (wB s.H s.n (.lp ⟨l,.ready,none,nt,s.env,ps,asg,body⟩)) (s.n+1) (GD Q s s.n)
 |_=>False
def I7(Q:x6->AS->Prop)(s:AS)(t:Nat):Option (Bool×Fs)->Prop
 |some (true,.ref id e off len cap)=>match AD s.H id with
  |some (.arr e' l)=>e'=e/\off+len<=l.length/\len<=cap/\
    Q .normal {s with env:=(t,true,.sl (if len=cap then .exact e else .none e) ((l.drop off).take len))::s.env,H:=wB s.H id (.frz e l)}
  |some (.frz e' l)=>e'=e/\off+len<=l.length/\len<=cap/\
    Q .normal {s with env:=(t,true,.sl (if len=cap then .exact e else .none e) ((l.drop off).take len))::s.env}
  |_=>False
 |_=>False
def Ga(Q:x6->AS->Prop)(s:AS)(t:Nat):Option (Bool×Fs)->Prop
 |some (true,.ref id e off len cap)=>match AD s.H id with
  |some (.arr e' l)=>e'=e/\off=0/\l.length=cap/\len<=cap/\
    Q .normal {env:=(t,true,.sl (.own s.n e) (l.take len))::s.env,H:=wB (wB s.H id .dead) s.n .tok,n:=s.n+1}
  |_=>False
 |some (true,.sl tok l)=>Q .normal {s with env:=(t,true,.sl tok l)::s.env}
 |_=>False
def IE(P:Program):z8->(x6->AS->Prop)->AS->Prop
 | .skip,Q,s=>Q .normal s
 | .reg yL ops keep,Q,s=>D4 P (λv H n=>Q (.xM v) ⟨[],H,n⟩) s.n ops (λs'=>Q .normal (s'.keep keep)) {s with n:=s.n+yL}
 | .seq a b,Q,s=>IE P a (λe s'=>match e with
  | .normal=>IE P b Q s'
  |e=>Q e s') s
 | .cond c a b,Q,s=>(lk s.env c).1=true/\J4 (AY s.env c)/\(Fm (AY s.env c)=true->IE P a Q s)/\(Fm (AY s.env c)=false->IE P b Q s)
 | .block id c,Q,s=>IE P c (λe s'=>match e with
  | .exit i=>if i=id then Q .normal s' else Q (.exit i) s'
  |e=>Q e s') s
 | .loop c,Q,s=>∃(I:AS->Prop) (μ:AS->Nat),I s/\∀s1,I s1->IE P c (λe s'=>match e with
  | .normal=>∃s2,K0 s1 s' s2/\I s2/\μ s2<μ s1
  |e=>Q e s') s1
 | .exit id,Q,s=>Q (.exit id) s
 | .ret,Q,s=>Q .ret s
 | .rfun g ps nt asg body,Q,s=>(lk s.env g).1=true/\GE P s Q ps nt asg body (AY s.env g)
 | .frz t,Q,s=>I7 Q s t (BI s.env t)
 | .frzo t,Q,s=>Ga Q s t (BI s.env t)
 | .regx yL ops keep,Q,s=>JT P (λv H n=>Q (.xM v) ⟨[],H,n⟩) s.n (UO s.env s.n) ops (λs'=>Q .normal (s'.keep keep)) {s with n:=s.n+yL}
def ST(ρ:zz->Fs)(k:IntKind):List zz->Prop
 |[]=>True
 |x::r=>J3 k (ρ x)/\ST ρ k r
def K1(ρ:zz->Fs)(mx:Bool):Int->List zz->Int
 |m,[]=>m
 |m,y::r=>K1 ρ mx (if mx then max m (A9 (ρ y))else min m (A9 (ρ y))) r
theorem WN{ρ:zz->Fs}{k:IntKind}:∀(xs:List zz),(∀x∈xs,J3 k (ρ x))=ST ρ k xs
 |[]=>by simp [ST]
 |x::r=>by simp [ST,<-WN r]
theorem Ph{ρ:zz->Fs}{mx:Bool}:∀(r:List zz) (m:Int),r.foldl (λm y=>if mx then max m (A9 (ρ y))else min m (A9 (ρ y))) m=K1 ρ mx m r
 |[],m=>rfl
 |y::r,m=>by simp only[ug,K1];exact Ph r _
theorem Xp{ρ:zz->Fs}{mx:Bool}{k:IntKind}{x:zz}{r:List zz}:bE ρ mx k (x::r)=(J3 k (ρ x)/\ST ρ k r,.int k (K1 ρ mx (A9 (ρ x)) r)):=by simp_all [bE,WN,Ph,ST,ne_eq,vu,uJ]
def UP(ρ:zz->Fs)(n:Nat):List (Nat×Nat×zz)->Prop
 |[]=>True
 |(o,z,x)::r=>(nT (ρ x)/\(ρ x).cells.length=z/\o+z<=n)/\UP ρ n r
def Pi(ρ:zz->Fs):List Fs->List (Nat×Nat×zz)->List Fs
 |cs,[]=>cs
 |cs,(o,_,x)::r=>Pi ρ (wZ cs o (ρ x).cells) r
theorem WO{ρ:zz->Fs}:∀(l:List (Nat×Nat×zz)),(∀p∈l,nT (ρ p.2.2)/\(ρ p.2.2).cells.length=p.2.1/\p.1+p.2.1<=n)=UP ρ n l
 |[]=>by simp [UP]
 |(o,z,x)::r=>by simp [UP,<-WO r]
theorem SU{ρ:zz->Fs}:∀(r:List (Nat×Nat×zz)) (cs:List Fs),r.foldl (λcs p=>wZ cs p.1 (ρ p.2.2).cells) cs=Pi ρ cs r
 |[],cs=>rfl
 |(o,z,x)::r,cs=>by simp only[ug,Pi];exact SU r _
theorem oO{ρ:zz->Fs}{zero:List Fs}{parts:List (Nat×Nat×zz)}:evB ρ zero parts=(UP ρ zero.length parts,.agg (Pi ρ zero parts)):=by
 simp only[evB,WO,SU]
def UQ(ρ:zz->Fs)(esz n:Nat):List (Nat×zz)->Prop
 |[]=>True
 |(o,x)::r=>(nT (ρ x)/\(ρ x).cells.length=esz/\o<n)/\UQ ρ esz n r
def Pj(ρ:zz->Fs):List Fs->List (Nat×zz)->List Fs
 |cs,[]=>cs
 |cs,(o,x)::r=>Pj ρ (cs.set o (ρ x)) r
theorem WP{ρ:zz->Fs}:∀(l:List (Nat×zz)),(∀p∈l,nT (ρ p.2)/\(ρ p.2).cells.length=esz/\p.1<n)=UQ ρ esz n l
 |[]=>by simp [UQ]
 |(o,x)::r=>by simp [UQ,<-WP r]
theorem SV{ρ:zz->Fs}:∀(r:List (Nat×zz)) (cs:List Fs),r.foldl (λl p=>l.set p.1 (ρ p.2)) cs=Pj ρ cs r
 |[],cs=>rfl
 |(o,x)::r,cs=>by simp only[ug,Pj];exact SV r _
theorem oP{ρ:zz->Fs}{esz n:Nat}{zero:Fs}{parts:List (Nat×zz)}:evS ρ esz n zero parts=(UQ ρ esz n parts/\zero.cells.length=esz/\n*esz<=16777216,.sl (.exact esz) (Pj ρ (List.replicate n zero) parts)):=by
 simp only[evS,WP,SV]
section
variable {P:Program} {Qp:Fs->AB->Nat->Prop} {b:Nat}
theorem Qo{l:List xq}{K:AS->Prop}{s s':AS}(h:s=s'):D4 P Qp b l K s=D4 P Qp b l K s':=by rw[h]
theorem Qq{o:xq}{K:AS->Prop}{s s':AS}(h:s=s'):Af P Qp b o K s=Af P Qp b o K s':=by rw[h]
theorem Xq{c:z8}{Q:x6->AS->Prop}{s s':AS}(h:s=s'):IE P c Q s=IE P c Q s':=by rw[h]
variable {rel:Nat} {d:Option Nat}
theorem NY{k:xx}{K:AS->Prop}{s:AS}:
  Af P Qp b ⟨d,none,.v k⟩ K s=(C2 s.env k.wH/\(Bd s.H (AY s.env) k).1/\K (s.put d true (Bd s.H (AY s.env) k).2)):=by
 simp [Af,GS,Bl,ux]
theorem Mh{t:Nat}{w:Bool}{k:xx}{K:AS->Prop}{s:AS}:
  Af P Qp b ⟨d,some (t,w),.v k⟩ K s=(GS s.env (some (t,w))/\(Bl s.env (some (t,w))=true->C2 s.env k.wH/\(Bd s.H (AY s.env) k).1)/\K (s.put d (Bl s.env (some (t,w))) (Bd s.H (AY s.env) k).2)):=by
 simp [Af]
theorem Pk{x y z:zz}{K:AS->Prop}{s:AS}:
  Af P Qp b ⟨d,none,.pick x y z⟩ K s=((lk s.env x).1=true/\J4 (AY s.env x)/\(Fm (AY s.env x)=true->(lk s.env y).1=true)/\(Fm (AY s.env x)=false->(lk s.env z).1=true)/\
    K (s.put d true (Lv (Fm (AY s.env x)) (AY s.env y) (AY s.env z)))):=by
 simp [Af,GS,Bl,ux]
theorem UR{t:Nat}{w:Bool}{x y z:zz}{K:AS->Prop}{s:AS}:
  Af P Qp b ⟨d,some (t,w),.pick x y z⟩ K s=(GS s.env (some (t,w))/\(Bl s.env (some (t,w))=true->(lk s.env x).1=true/\J4 (AY s.env x)/\(Fm (AY s.env x)=true->(lk s.env y).1=true)/\(Fm (AY s.env x)=false->(lk s.env z).1=true))/\
    K (s.put d (Bl s.env (some (t,w))) (Lv (Fm (AY s.env x)) (AY s.env y) (AY s.env z)))):=by
 simp [Af]
theorem NZ{cs:List Fs}{K:AS->Prop}{s:AS}:
  Af P Qp b ⟨d,none,.alloc rel cs⟩ K s=(AD s.H (b+rel)=none/\K ({s with H:=wB s.H (b+rel) (.box cs)}.put d true (.ptr (b+rel) 0))):=by
 simp [Af,GS,Bl,BS,C2,Io.wH]
theorem bF{sz:Nat}{x:zz}{K:AS->Prop}{s:AS}:
  Af P Qp b ⟨d,none,.box rel sz x⟩ K s=((lk s.env x).1=true/\AD s.H (b+rel)=none/\nT (AY s.env x)/\(AY s.env x).cells.length=sz/\K ({s with H:=wB s.H (b+rel) (.box (AY s.env x).cells)}.put d true (.ptr (b+rel) 0))):=by
 simp [Af,GS,Bl,BS,C2,Io.wH]
def Ok(H:AB)(sz:Nat)(v:Fs)(K:AB->Prop):Fs->Prop
 | .ptr id off=>match AD H id with
  |some (.box cs)=>off+sz<=cs.length/\K (wB H id (.box (wZ cs off v.cells)))
  |_=>False
 | .ap id esz i off=>match AD H id with
  |some (.arr e l)=>e=esz/\i<l.length/\(Di (l[i]?.getD (.wJ [])) off sz esz v).1/\K (wB H id (.arr e (l.set i (Di (l[i]?.getD (.wJ [])) off sz esz v).2)))
  |_=>False
 |_=>False
theorem Mi{sz:Nat}{a x:zz}{K:AS->Prop}{s:AS}:
  Af P Qp b ⟨d,none,.st sz a x⟩ K s=((lk s.env a).1=true/\(lk s.env x).1=true/\nT (AY s.env x)/\(AY s.env x).cells.length=sz/\Ok s.H sz (AY s.env x) (λH'=>K ({s with H:=H'}.put d true (.wJ []))) (AY s.env a)):=by
 simp only[Af,GS,Bl,BS,Ok,C2,Io.wH,uf,tX,seval,uq,uJ,ux]
theorem bG{x:zz}{K:AS->Prop}{s:AS}:Af P Qp b ⟨d,none,.xM x⟩ K s=((lk s.env x).1=true/\Xm (AY s.env x)/\Qp (AY s.env x) s.H s.n):=by
 simp [Af,GS,Bl,BS,C2,Io.wH]
def Na(H:AB)(id esz bytes:Nat)(K:AB->Fs->Prop):Fs->Option (List Fs)->Prop
 | .sl tok l,some l'=>AD H id=none/\BB H esz tok/\Al (l.length+l'.length) bytes/\l.length+l'.length<=35184372088832/\0<esz/\
   K (wB (AU H tok) id .tok) (.sl (.own id esz) (l++l'))
 |_,_=>False
theorem SW{esz bytes:Nat}{x y:zz}{str:Bool}{K:AS->Prop}{s:AS}:
  Af P Qp b ⟨d,none,.app rel esz bytes x y str⟩ K s=((lk s.env x).1=true/\(lk s.env y).1=true/\
   Na s.H (b+rel) esz bytes (λH' v=>K ({s with H:=H'}.put d true v)) (AY s.env x) (CF s.H (AY s.env) esz y str)):=by
 simp only[Af,GS,Bl,BS,Na,C2,Io.wH,uf,tX,seval,uq,uJ,ux]
theorem bH{n:Nat}{x:zz}{lo hi:Option zz}{K:AS->Prop}{s:AS}:
  Af P Qp b ⟨d,none,.slA n x lo hi⟩ K s=(C2 s.env (x::(lo.toList++hi.toList))/\Co (AY s.env) lo/\Co (AY s.env) hi/\
   IQ s.H n (wT (AY s.env) 0 lo) (wT (AY s.env) n hi) (λH' v=>K ({s with H:=H'}.put d true v)) (AY s.env x)):=by
 simp only[Af,GS,Bl,BS,C2,Io.wH,uf,tX,seval,uq,uJ]
theorem US{cx:Nat->Fs}{l:List (Nat×xq)}{K:AS->Prop}{s s':AS}(h:s=s'):JT P Qp b cx l K s=JT P Qp b cx l K s':=by rw[h]
theorem fp{x y:z8}{Q:x6->AS->Prop}{s:AS}:IE P (.seq x y) Q s=IE P x (λe s'=>match e with
  | .normal=>IE P y Q s'
  |e=>Q e s') s:=rfl
theorem SX{x:XOp}{xs:List zz}{K:AS->Prop}{s:AS}:
  Af P Qp b ⟨d,none,.ext x xs⟩ K s=(C2 s.env xs/\(xE b x s.H (xs.map (AY s.env))).1/\K ({s with H:=(xE b x s.H (xs.map (AY s.env))).2.1}.put d true (xE b x s.H (xs.map (AY s.env))).2.2)):=by
 simp only[Af,GS,Bl,BS,C2,Io.wH,uf,tX,seval,uq,uJ]
theorem Pm{esz bytes:Nat}{z:Fs}{x y:zz}{str:Bool}{K:AS->Prop}{s:AS}:
  Af P Qp b ⟨d,none,.yM rel esz bytes z x y str⟩ K s=((lk s.env x).1=true/\(lk s.env y).1=true/\
   Fe s.H (b+rel) esz bytes z (λH' v=>K ({s with H:=H'}.put d true v)) (AY s.env x) (CF s.H (AY s.env) esz y str)):=by
 simp only[Af,GS,Bl,BS,C2,Io.wH,uf,tX,seval,uq,uJ,ux]
theorem Xr{neq:Bool}{x:zz}{K:AS->Prop}{s:AS}:
  Af P Qp b ⟨d,none,.nils neq x⟩ K s=((lk s.env x).1=true/\HP (λb=>K (s.put d true (.bool b))) neq (AY s.env x)):=by
 simp only[Af,GS,Bl,BS,C2,Io.wH,uf,tX,seval,uq,uJ]
theorem bI{x:zz}{K:AS->Prop}{s:AS}:
  Af P Qp b ⟨d,none,.mnx x⟩ K s=((lk s.env x).1=true/\JF s.H (λH' v=>K ({s with H:=H'}.put d true v)) (AY s.env x)):=by
 simp only[Af,GS,Bl,BS,C2,Io.wH,uf,tX,seval,uq,uJ]
end
theorem UT{a a':Fs}{K:AB->Prop}(h:H=H')(h2:v=v')(h3:a=a'):Ok H sz v K a=Ok H' sz v' K a':=by rw[h,h2,h3]
theorem SY{lo lo' hi z9:Int}(h:H=H')(h1:lo=lo')(h2:hi=z9)(h3:v=v'):IQ H n lo hi K v=IQ H' n lo' z9 K v':=by rw[h,h1,h2,h3]
theorem UU{Q:x6->AS->Prop}{s s':AS}{t:Nat}{x x':Option (Bool×Fs)}(h:s=s')(h2:x=x'):I7 Q s t x=I7 Q s' t x':=by rw[h,h2]
theorem SZ{id bytes:Nat}{x x':Option (List Fs)}(h:H=H')(h2:v=v')(h3:x=x'):Na H id esz bytes K v x=Na H' id esz bytes K v' x':=by rw[h,h2,h3]
attribute [congr] SY UU US Qo Qq Xq UT SZ
end
def Nb:Value->Option Fs
 | .bool b=>some (.bool b)
 | .int k n=>some (.int k n)
 | .string s=>some (.str s.data.toList)
 | .pointer none=>some .nilp
 | .slice none 0 0=>some (.sl .nil [])
 | .nilFunc=>some .yF
 | .nilIface=>some .xA
 | .map none=>some .nilmp
 |_=>none
def JU:List Value->Option (List Fs)
 |[]=>some []
 |v::r=>match Nb v,JU r with
  |some a,some as=>some (a::as)
  |_,_=>none
def Sa:Value->Option Fs
 | .agg cs=>(JU cs.toList).map .agg
 |v=>Nb v
def Az:Operand->Option zz
 | .tmp t=>some (.t t)
 | .const v=>(Sa v).map .c
 | .global g=>some (.c (match UK g with|some cs=>.ep cs|none=>.gp g))
 | .func f=>some (.c (.fn (.func f) [] []))
def JH:List Operand->Option (List zz)
 |[]=>some []
 |x::r=>match Az x,JH r with
  |some a,some as=>some (a::as)
  |_,_=>none
def Dm:Option Operand->Option (Option zz)
 |none=>some none
 |some x=>(Az x).map some
section
variable (P:Program)
def IA(t:TypeId):Bool:=match P.underlying t with
 |some (.struct _)|some (.array _ _)=>true
 |_=>false
def Fp(t:TypeId):Option Nat:=match P.info? t,P.underlying t with
 |some i,some _=>if i.size=0 then none else some i.size
 |_,_=>none
def Cf(t:TypeId):Option Fs:=match P.info? t with
 |some i=>match i.zero with
  |some z=>match Sa z with
   |some a=>if a.cells.length=i.size/\i.size≠0 then some a else none
   |none=>none
  |none=>none
 |none=>none
def HQ(f:Nat->Option (Nat×Nat)):List (Nat×Operand)->Option (List (Nat×Nat×zz))
 |[]=>some []
 |(i,x)::r=>match f i,Az x,HQ f r with
  |some (off,size),some a,some as=>some ((off,size,a)::as)
  |_,_,_=>none
def FI:List (Nat×Operand)->Option (List (Nat×zz))
 |[]=>some []
 |(i,x)::r=>match Az x,FI r with
  |some a,some as=>some ((i,a)::as)
  |_,_=>none
def ft(fs:Array Field):Option (List (Nat×Nat)):=fs.toList.mapM λf=>(P.info? f.type).map λi=>(f.offset,i.size)
def K3(fs:Array Field)(i:Nat):Option (Nat×Nat):=match fs[i]? with
 |some f=>(Fp P f.type).map λs=>(f.offset,s)
 |none=>none
def Pn:Nat->List Field->Option (List Nat)
 |_,[]=>some []
 |o,f::r=>if f.name= "_" \/f.offset≠o then none else match P.underlying f.type,Pn (o+1) r with
  |some (.int _),some l=>some (0::l)
  |some .bool,some l=>some (1::l)
  |some .string,some l=>some (2::l)
  |_,_=>none
def fu(op:BinOp)(t:TypeId)(x y:zz)(yt:TypeId):Option xx:=
 match P.underlying t with
 |some (.int k)=>match op with
  | .shl| .shr=>match P.underlying yt with
   |some (.int ky)=>some (.shift op k ky x y)
   |_=>none
  | .eql| .neq| .lss| .leq| .gtr| .geq=>some (.icmp op k x y)
  |_=>some (.arith op k x y)
 |some .string=>match op with
  | .add=>some (.sadd x y)
  | .eql| .neq| .lss| .leq| .gtr| .geq=>some (.scmp op x y)
  |_=>none
 |some .bool=>match op with
  | .eql=>some (.beq false x y)
  | .neq=>some (.beq true x y)
  |_=>none
 |some (.struct fs)=>if P.stoodInHeld t=true\/P.eqGuardType P.depth t=true then none else match op,Pn P 0 fs.toList with
  | .eql,some l=>some (.aeq false l x y)
  | .neq,some l=>some (.aeq true l x y)
  |_,_=>none
 |some (.array n e)=>if P.eqGuardType P.depth t=true then none else match P.underlying e,Fp P e,op with
  |some (.int _),some 1,.eql=>some (.aeq false (List.replicate n 0) x y)
  |some (.int _),some 1,.neq=>some (.aeq true (List.replicate n 0) x y)
  |_,_,_=>none
 |_=>none
def WQ(s d:TypeId)(x:zz):Option xx:=
 match P.underlying s,P.underlying d with
 |some (.int _),some (.int k)=>some (.conv k x)
 |some .string,some .string=>some (.sid x)
 |some (.slice e),some .string=>match P.underlying e with
  |some (.int .u8)=>some (.b2s x)
  |_=>none
 |some .string,some (.slice e)=>match P.underlying e,Fp P e with
  |some (.int .u8),some 1=>some (.s2b x)
  |_,_=>none
 |_,_=>none
def CW(mkv:Bool):Op->Option xx
 | .move x| .assign x=>(Az x).map .mv
 | .build t parts=>match Cf P t,P.underlying t with
  |some z,some (.struct fs)=>match ft P fs with
   |some pl=>(HQ (λi=>pl[i]?) parts.toList).map (.build z.cells)
   |none=>none
  |some z,some (.array n e)=>match Fp P e with
   |some s=>(HQ (λi=>some (i*s,s)) parts.toList).map (.build z.cells)
   |none=>none
  |_,_=>none
 | .buildSlice t len parts=>match P.underlying t with
  |some (.slice e)=>match Cf P e,Fp P e with
   |some z,some s=>(FI parts.toList).map (.bs s len z)
   |_,_=>none
  |_=>none
 | .load t a=>match Fp P t,Az a with
  |some s,some a=>some (.ld s (IA P t) a)
  |_,_=>none
 | .nilCheck x=>(Az x).map .nilc
 | .binOp op t x y yt=>match Az x,Az y with
  |some a,some b=>fu P op t a b yt
  |_,_=>none
 | .unOp .not _ x=>(Az x).map .not
 | .unOp .neg t x=>match P.underlying t with
  |some (.int k)=>(Az x).map (.neg k)
  |_=>none
 | .convert s d x=>match Az x with
  |some a=>WQ P s d a
  |none=>none
 | .makeInterface t x=>match P.underlying t with
  |some (.interface _)=>none
  |some _=>(Az x).map (.ifc t)
  |none=>none
 | .makeFunc fn first cap=>match JH first.toList,JH cap.toList with
  |some a,some b=>some (.fn fn a b)
  |_,_=>none
 | .makeSlice t (.tmp l) (.tmp c)=>if mkv=true/\l=c then match P.underlying t with
  |some (.slice e)=>match P.info? e,Cf P e,Fp P e with
   |some i,some z,some s=>some (.mkz s i.bytes z (.t l))
   |_,_,_=>none
  |_=>none else none
 | .makeSlice t (.const (.int .i64 l)) (.const (.int .i64 c))=>if mkv=true/\l=c then match P.underlying t with
  |some (.slice e)=>match P.info? e,Cf P e,Fp P e with
   |some i,some z,some s=>some (.mkz s i.bytes z (.c (.int .i64 l)))
   |_,_,_=>none
  |_=>none else none
 | .slice t x lo hi mx=>match P.underlying t,Az x,Dm lo,Dm hi,Dm mx with
  |some .string,some a,some l,some h,some none=>some (.slS a l h)
  |some (.slice e),some a,some l,some h,some m=>match Fp P e with
   |some s=>some (.sl s a l h m)
   |none=>none
  |_,_,_,_,_=>none
 | .fieldAddr t x f=>match P.underlying t with
  |some (.struct fs)=>match K3 P fs f,Az x with
   |some (off,_),some a=>some (.fa off a)
   |_,_=>none
  |_=>none
 | .field t x f=>match P.underlying t with
  |some (.struct fs)=>match fs[f]?,K3 P fs f,Az x with
   |some fd,some (off,s),some a=>some (.fld off s (IA P fd.type) a)
   |_,_,_=>none
  |_=>none
 | .indexAddr t x i=>match P.underlying t,Az x,Az i with
  |some (.slice e),some a,some b=>match Fp P e with
   |some s=>some (.ia s a b)
   |none=>none
  |some (.array n e),some a,some b=>match Fp P e with
   |some s=>some (.iaA n s a b)
   |none=>none
  |_,_,_=>none
 | .index t x i=>match P.underlying t,Az x,Az i with
  |some .string,some a,some b=>some (.ixS a b)
  |some (.array n e),some a,some b=>match Fp P e with
   |some s=>some (.ixA n s (IA P e) a b)
   |none=>none
  |_,_,_=>none
 | .extract x i=>(Az x).map (.ext i)
 | .call {callee:=.builtin .len,args,argTypes}=>match argTypes.toList,args.toList with
  |[t],[x]=>match P.underlying t,Az x with
   |some .string,some a=>some (.lenS a)
   |some (.slice _),some a=>some (.len a)
   |_,_=>none
  |_,_=>none
 | .call {callee:=.builtin .max,args,argTypes}=>match argTypes.toList with
  |t::_=>match P.underlying t,JH args.toList with
   |some (.int k),some xs=>some (.mnmx true k xs)
   |_,_=>none
  |_=>none
 | .call {callee:=.builtin .min,args,argTypes}=>match argTypes.toList with
  |t::_=>match P.underlying t,JH args.toList with
   |some (.int k),some xs=>some (.mnmx false k xs)
   |_,_=>none
  |_=>none
 |_=>none
def oQ(t:TypeId):Option KT:=match P.underlying t with
 |some (.int k)=>some (.int k)
 |some .bool=>some .bool
 |some .string=>some .str
 |some (.array n e)=>match P.underlying e,Fp P e with
  |some (.int k),some 1=>some (.arr n k)
  |_,_=>none
 |_=>none
def Qr(t:TypeId)(c:Value):Option Nat:=match P.underlying t,c with
 |some (.interface _),.nilIface=>some 0
 |some (.pointer _),.pointer none=>some 1
 |some (.func ..),.nilFunc=>some 2
 |_,_=>none
def Po(t:TypeId)(c:Value):Bool:=match P.underlying t,c with
 |some (.slice _),.slice none _ _=>true
 |_,_=>false
def UV(t:TypeId):Bool:=match P.underlying t with
 |some (.interface _)=>true
 |none=>true
 |_=>false
def Xs(t:TypeId)(m k x:Operand):Option Io:=match P.underlying t,Az m,Az k,Az x with
 |some (.map kt _),some m,some k,some x=>(oQ P kt).map λkk=>.ext (.mput kk) [m,k,x]
 |_,_,_,_=>none
def BJ(mkv imp:Bool)(i:Nat):Op->Option Io
 | .pick c a b=>match Az c,Az a,Az b with
  |some c,some a,some b=>some (.pick c a b)
  |_,_,_=>none
 | .alloc t=>(Cf P t).map λz=>.alloc i z.cells
 | .box t x=>match Fp P t,Az x with
  |some s,some a=>some (.box i s a)
  |_,_=>none
 | .store t a x=>match Fp P t,Az a,Az x with
  |some s,some a,some x=>some (.st s a x)
  |_,_,_=>none
 | .makeSlice t l c=>if mkv then(CW P mkv (.makeSlice t l c)).map .v else match l,c with
  | .tmp l,.tmp c=>if l=c then match P.underlying t with
   |some (.slice e)=>match P.info? e,Cf P e,Fp P e with
    |some inf,some z,some s=>some (.mks i s inf.bytes z (.t l))
    |_,_,_=>none
   |_=>none else none
  | .const (.int .i64 l),.const (.int .i64 c)=>if l=c then match P.underlying t with
   |some (.slice e)=>match P.info? e,Cf P e,Fp P e with
    |some inf,some z,some s=>some (.mks i s inf.bytes z (.c (.int .i64 l)))
    |_,_,_=>none
   |_=>none else none
  |_,_=>none
 | .buildSlice t len parts=>if mkv then(match P.underlying t with
  |some (.slice e)=>match Cf P e,Fp P e,FI parts.toList with
   |some z,some s,some ps=>some (.ext (.bsm i s len z (ps.map (·.1))) (ps.map (·.2)))
   |_,_,_=>none
  |_=>none)else(CW P mkv (.buildSlice t len parts)).map .v
 | .call {callee:=.builtin .append,args,argTypes}=>match argTypes.toList,args.toList with
  |[t,u],[x,y]=>match P.underlying t,Az x,Az y with
   |some (.slice e),some a,some b=>match P.info? e,Cf P e,P.underlying u with
    |some inf,some z,some .string=>if inf.size=1 then some (if mkv then .yM i inf.size inf.bytes z a b true else .app i inf.size inf.bytes a b true)else none
    |some inf,some z,some (.slice e')=>if t=u then some (if mkv then .yM i inf.size inf.bytes z a b false else .app i inf.size inf.bytes a b false)else none
    |_,_,_=>none
   |_,_,_=>none
  |_,_=>none
 | .call {callee:=.builtin .copy,args,argTypes}=>match argTypes.toList,args.toList with
  |[t,u],[x,y]=>match P.underlying t,Az x,Az y with
   |some (.slice e),some a,some b=>match P.info? e,P.underlying u with
    |some inf,some .string=>if inf.size=1 then some (.ext (.cpy inf.size true) [a,b])else none
    |some inf,some (.slice _)=>some (.ext (.cpy inf.size false) [a,b])
    |_,_=>none
   |_,_,_=>none
  |_,_=>none
 | .call {callee:=.value f,args,.. }=>match Az f,JH args.toList with
  |some f,some xs=>some (if mkv&&imp then .cpu f xs else .call (!imp) f xs)
  |_,_=>none
 | .panic x=>(Az x).map .xM
 | .slice t x lo hi mx=>match P.underlying t with
  |some (.array n e)=>match Az x,Dm lo,Dm hi,mx with
   |some x,some l,some h,none=>if Fp P e=some 1 then some (.slA n x l h)else match Fp P e with
    |some k=>if 2<=k then some (.ext (.yY n k l.isSome h.isSome) (x::(l.toList++h.toList)))else none
    |none=>none
   |_,_,_,_=>none
  |_=>(CW P mkv (.slice t x lo hi mx)).map .v
 | .makeMap t none=>match P.underlying t with
  |some (.map _ _)=>some (.ext (.mkm i) [])
  |_=>none
 | .lookup t x ix ok=>match P.underlying t,Az x,Az ix with
  |some (.map kt e),some a,some b=>match oQ P kt,Cf P e with
   |some kk,some z=>some (.ext (.look kk z ok) [a,b])
   |_,_=>none
  |_,_,_=>none
 | .mapUpdate t m k x=>Xs P t m k x
 | .insert t m k x=>Xs P t m k x
 | .range t x=>match P.underlying t,Az x with
  |some .string,some a=>some (.ext (.srng i) [a])
  |some (.map _ _),some a=>some (.ext (.mrng i) [a])
  |_,_=>none
 | .next x true=>(Az x).map λa=>.ext .snext [a]
 | .next x false=>(Az x).map .mnx
 | .entry x=>(Az x).map λa=>.ext .ment [a]
 | .convert s d x=>match P.underlying s,P.underlying d with
  |some (.int _),some .string=>(Az x).map λa=>.ext .i2s [a]
  |_,_=>(CW P mkv (.convert s d x)).map .v
 | .call {callee:=.builtin .len,args,argTypes}=>match argTypes.toList,args.toList with
  |[t],[x]=>match P.underlying t with
   |some (.map _ _)=>(Az x).map λa=>.ext .mlen [a]
   |_=>(CW P mkv (.call {callee:=.builtin .len,args,argTypes})).map .v
  |_,_=>none
 | .binOp .eql t x (.const c) yt=>match Qr P t c with
  |some kd=>(Az x).map λa=>.ext (.xP kd false) [a]
  |none=>if Po P t c=true then(Az x).map (.nils false)else(CW P mkv (.binOp .eql t x (.const c) yt)).map .v
 | .binOp .neq t x (.const c) yt=>match Qr P t c with
  |some kd=>(Az x).map λa=>.ext (.xP kd true) [a]
  |none=>if Po P t c=true then(Az x).map (.nils true)else(CW P mkv (.binOp .neq t x (.const c) yt)).map .v
 | .typeAssert x _ t ok=>if UV P t=true then none else match Az x,Cf P t with
  |some a,some z=>some (.ext (.tas t ok z) [a])
  |_,_=>none
 |op=>(CW P mkv op).map .v
end
def Io.cat:Io->Nat
 | .v (.ld ..)=>1
 | .v _=>0
 | .pick .. =>0
 | .ext (.xP ..) _| .ext (.tas ..) _| .cpu .. =>0
 | .ext (.mkm _) _| .ext (.bsm ..) _=>2
 | .alloc .. | .box .. | .mks .. =>2
 | .call true .. | .ext (.look ..) _=>3
 | .call false .. | .xM _| .slA .. | .ext .. | .yM .. | .nils .. | .mnx .. =>5
 | .app .. =>4
 | .st .. =>6
def FU:Nat->Nat->Bool
 |0,_=>true
 |5,_=>false
 |_,0=>true
 |1,1|1,2|1,3|1,4|2,1|2,2|3,1|3,3|4,1=>true
 |_,_=>false
def Nc(ops:Array Oper):Option (Nat×Bool)->Option (Option (Nat×Bool))
 |none=>some none
 |some (j,w)=>match (ops[j]?).bind (·.dst)with
  |some d=>some (some (d,w))
  |none=>none
def Nd(x y:xq):Bool:=
 let lk (o:xq) (d:Nat):Bool:=(o.k.wH.any fun| .t i=>i==d|_=>false)||(match o.guard with|some (g,_)=>g==d|none=>false)
 (match x.dst with|some d=>!lk y d&&y.dst !=some d|none=>true)&&(match y.dst with|some d=>!lk x d|none=>true)
def JV(acc:List Nat)(o:Oper):Nat:=(o.after.toList.filter (Region.binds .any)).foldl (λm e=>m|||(1<<<e.on)|||acc.getD e.on 0) 0
def IS:List Oper->List Nat->List Nat
 |[],acc=>acc
 |o::r,acc=>IS r (acc++[JV acc o])
def Ol(P:Program)(N lo:Nat)(ops:Array Oper)(mkv imp:List Nat):List Oper->Nat->Option (List xq)
 |[],_=>some []
 |o::r,i=>match Nc ops o.guard,BJ P (mkv.contains i) (imp.contains i) i o.op,Ol P N lo ops mkv imp r (i+1)with
  |some g,some k,some l=>if o.dst.all (λd=>decide (d<N)&&decide (lo<=d))then some ({dst:=o.dst,guard:=g,k}::l)else none
  |_,_,_=>none
def Mj(ops:Array Oper):Bool:=(List.range ops.size).all λj=>match ops[j]? with
 |some o=>o.after.toList.all λe=>!Region.binds .any e||decide (e.on<j)
 |none=>true
def Qs(o:xq):Bool:=match o.k with
 | .v (.ld _ _ (.c (.ptr ..)))=>false
 | .v (.ld _ _ (.c (.ap ..)))=>false
 |_=>true
def WR(ops:Array Oper)(l:List xq)(ms:List Nat):Bool:=
 Mj ops&&l.all Qs&&(List.range l.length).all λj=>(List.range j).all λi=>match l[i]?,l[j]? with
  |some x,some y=>(Nd x y&&FU x.k.cat y.k.cat)||(ms.getD j 0).testBit i
  |_,_=>false
def UW(ops:Array Oper)(l:List xq):Bool:=WR ops l (IS ops.toList [])
def WS(x:Nat×xq):Bool:=x.1==1&&(match x.2.k with
 | .v (.ld ..)=>true
 |_=>false)
def WT(x:Nat×xq):Bool:=x.1==2&&(match x.2.k with
 | .st .. =>true
 |_=>false)
def Sb(x:Nat×xq):Bool:=Nat.ble 3 x.1&&(match x.2.k with
 | .v (.ld ..)=>true
 |_=>false)
def WU(x:Nat×xq):Bool:=Nat.ble 3 x.1&&(match x.2.k with
 | .st .. =>true
 |_=>false)
def fw(x y:Nat):Bool:=(x !=y&&Nat.ble x 1002&&Nat.ble y 1002)||(Nat.ble 1003 x&&x % 2==1&&y==x+1)||(Nat.ble 1003 y&&y % 2==1&&x==y+1)||(x !=y&&Nat.ble 1003 x&&Nat.ble x 300002&&x % 2==1&&Nat.ble 1003 y&&Nat.ble y 300002&&y % 2==1)
def Qt(x:Nat×xq):Bool:=Nat.ble 300003 x.1&&x.1 % 2==1&&(match x.2.k with
 | .call false .. =>true
 |_=>false)
def bJ(x:Nat×xq):Bool:=x.1==2&&(match x.2.k with
 | .v (.ld ..)=>true
 |_=>false)
def bK(x:Nat×xq):Bool:=x.1==2&&(match x.2.k with
 | .yM .. =>true
 |_=>false)
def Sc(x y:Nat×xq):Bool:=FU x.2.k.cat y.2.k.cat||(WS x&&WT y)||(WT x&&WS y)||(fw x.1 y.1&&Sb x&&WU y)||(fw x.1 y.1&&WU x&&Sb y)||(Sb x&&Qt y&&x.1==y.1+1)||(bJ x&&bK y)
def CX(l:List xq)(i:Nat):xq:=l[i]?.getD ⟨none,none,.alloc 0 []⟩
def J6(l:List xq):List Nat:=l.filterMap λo=>match o.k,o.guard,o.dst with
 | .alloc ..,none,some d| .box ..,none,some d| .mks ..,none,some d=>some d
 |_,_,_=>none
def bM(fz:List (Nat×Nat))(i:Nat):Option Nat:=(fz.find? (·.1==700000+i)).map (·.2)
def J7(fz:List (Nat×Nat))(nt:List Nat)(o:xq):Nat:=match o.k with
 | .yM .. =>2
 | .v (.ld _ _ (.t i))=>(match bM fz i with
  |some k=>if k==600000 then 2 else k+3
  |none=>if nt.contains i then 0 else 1)
 | .v (.ld _ _ (.c _))=>1
 | .st _ (.t i) _=>(match bM fz i with
  |some k=>k+3
  |none=>if nt.contains i then 2 else 0)
 | .call false _ _=>(match o.dst with
  |some d=>(match bM fz (100000+d)with
   |some k=>k+3
   |none=>0)
  |none=>0)
 |_=>0
def Ly(fz:List (Nat×Nat))(l:List xq)(L:List Nat):List (Nat×xq):=L.map λi=>(J7 fz (J6 l) (CX l i),CX l i)
def Sd(fz:List (Nat×Nat))(ops:Array Oper)(l:List xq)(ms:List Nat):Bool:=
 Mj ops&&l.all Qs&&(List.range l.length).all λj=>(List.range j).all λi=>match l[i]?,l[j]? with
  |some x,some y=>(Nd x y&&Sc (J7 fz (J6 l) x,x) (J7 fz (J6 l) y,y))||(ms.getD j 0).testBit i
  |_,_=>false
def Qu(fz:List (Nat×Nat))(ops:Array Oper)(l:List xq):Bool:=Sd fz ops l (IS ops.toList [])
def WV(fz:List (Nat×Nat))(l:List xq)(ms:List Nat)(j i:Nat):Bool:=j !=i&&(match l[j]?,l[i]? with
 |some x,some y=>(Nd x y&&Sc (J7 fz (J6 l) x,x) (J7 fz (J6 l) y,y))||(ms.getD i 0).testBit j
 |_,_=>false)
def J8(p:Nat->Nat->Bool):List Nat->Bool
 |[]=>true
 |j::r=>r.all (λi=>p j i)&&J8 p r
def Nf(ops:Array Oper):List Nat->List Nat->Bool
 |_,[]=>true
 |seen,i::r=>(match ops[i]? with
  |some o=>o.after.toList.all λe=>!Region.binds .any e||seen.contains e.on
  |none=>false)&&Nf ops (i::seen) r
def Ng(fz:List (Nat×Nat))(ord:List Nat)(ops:Array Oper)(l:List xq):Bool:=
 decide (ord.length=ops.size)&&(ord.all λi=>decide (i<ops.size))&&((List.range ops.size).all λi=>ord.contains i)&&l.all Qs&&Nf ops [] ord&&J8 (WV fz l (IS ops.toList [])) ord
def Se(fz:List (Nat×Nat))(id:Nat):List Nat:=(fz.filter (·.1==990000+id)).map (·.2)
def K4(l:List xq)(kp:List Nat):Bool:=l.all λo=>o.guard.isNone||(match o.dst with|some d=>!kp.contains d|none=>true)
def Qv(fz:List (Nat×Nat))(id:Nat)(c:z8):z8:=((fz.filter λp=>p.1==id&&Nat.ble 1000 p.2).map (·.2)).foldl (λc t=>.seq c (if Nat.ble 5000 t then .frzo (t-5000)else .frz (t-1000))) c
def dv(fz:List (Nat×Nat)):Nat:=((fz.find? (·.1==999999)).map (·.2)).getD 0
def BQ(P:Program)(N:Nat)(fz im:List (Nat×Nat))(kp:Nat->List Nat):Code->Option z8
 | .skip=>some .skip
 | .region id ops draw=>match Ol P N (dv fz) ops ((fz.filter (·.1==id)).map (·.2)) ((im.filter (·.1==id)).map (·.2)) ops.toList 0 with
  |some l=>if draw=false\/(UW ops l=true/\K4 l (kp id)=true/\P.follows .mixedOrders=true)then some (Qv fz id (.reg (if l.any (λo=>o.k.news)then ops.size else 0) l (kp id)))else
    if Qu fz ops l=true/\K4 l (kp id)=true/\P.follows .mixedOrders=true then some (Qv fz id (.regx (if l.any (λo=>o.k.news)then ops.size else 0) (Ly fz l (List.range l.length)) (kp id)))else
    if Ng fz (Se fz id) ops l=true/\K4 l (kp id)=true/\P.follows .mixedOrders=true then some (Qv fz id (.regx (if l.any (λo=>o.k.news)then ops.size else 0) (Ly fz l (Se fz id)) (kp id)))else none
  |none=>none
 | .seq a b=>match BQ P N fz im kp a,BQ P N fz im kp b with
  |some a,some b=>some (.seq a b)
  |_,_=>none
 | .cond c a b=>match Az c,BQ P N fz im kp a,BQ P N fz im kp b with
  |some c,some a,some b=>some (.cond c a b)
  |_,_,_=>none
 | .block id c=>(BQ P N fz im kp c).map (.block id)
 | .loop c=>(BQ P N fz im kp c).map .loop
 | .exit id=>some (.exit id)
 | .label _=>some .skip
 | .ret=>some .ret
 | .scope c=>BQ P N fz im kp c
 | .rangeFunc g ps asg body=>(Az g).map λg=>.rfun g ps N asg body
 |_=>none
section
variable {H:AB} {ob:x9} {g:q8} {L:Loc} {id n m:Nat} {σ':Nat->Nat->Option Value} {w w':World}
theorem wM.eq{f f':Nat->Option Value}:∀(cs:List Fs) (o:Nat),(∀j,o<=j->j<o+cs.length->f' j=f j)->wM g f o cs->wM g f' o cs
 |[],_,_,_=>trivial
 |c::cs,o,h,⟨⟨x,h1,h2,h4⟩,h3⟩=>⟨⟨x,by rw[h o (sj _) zw];exact h1,h2,h4⟩,wM.eq cs (o+1) (λj a b=>h j zo (by simp only[sM];omega)) h3⟩
theorem wL.eq{esz:Nat}{f f':Nat->Option Value}:∀(l:List Fs) (o:Nat),(∀j,o<=j->j<o+l.length*esz->f' j=f j)->wL g esz f o l->wL g esz f' o l
 |[],_,_,_=>trivial
 |e::l,o,h,⟨⟨v,h1,h2,h3⟩,h4⟩=>by
  have hl:(e::l).length*esz=esz+l.length*esz:=by rw[sM,tA];omega
  refine⟨⟨v,h1,h2,λj x hx=>?_⟩,wL.eq l (o+esz) (λj a b=>h j zo (by rw[hl];omega)) h4⟩;have hj:j<esz:=by rw[<-h2.1];exact(sW.1 hx).1
  rw[h (o+j) zo (by rw[hl];omega)];exact h3 j x hx
theorem BK{b:Nat}{c:Array Value}{e:TypeId}{fz:Nat×Nat}(h:w.heap[b]?=some (.cells c e fz))(o:Nat):w.cell? ⟨b,o,none⟩=c[o]?:=by
 simp [World.cell?,h]
theorem Ev{b:Nat}(h:w'.heap[b]?=w.heap[b]?)(o:Nat):w'.cell? ⟨b,o,none⟩=w.cell? ⟨b,o,none⟩:=by
 simp [World.cell?,h]
def JW(w w':World):Prop:=∀(b:Nat) ob,w.heap[b]?=some ob->w'.heap[b]?=some ob
theorem JW.size(h:JW w w'):w.heap.size<=w'.heap.size:=by
 rcases Nat.eq_zero_or_pos w.heap.size with h0|h0
 ·omega
 ·have h1:=h (w.heap.size-1) _ (uu zo);have:=(sW.1 h1).1;omega
theorem JW.push{ob:Obj}(h:w'.heap=w.heap.push ob):JW w w':=by
 intro b x hb;have e9:=(sW.1 hb).1;rw[h,Array.getElem?_push,sg zo];exact hb
theorem FT.ext{g':q8}(h:JW w w')(hg:g.le g'):∀(ob:x9),FT g w id ob->FT g' w' id ob
 | .box cs=>λ⟨L,c,e,h1,h2,h3,h4,h5,h6⟩=>⟨L,c,e,hg.β _ _ h1,h2,h3,h _ _ h4,h5,wM.mono hg (λ_ _ x=>x) cs 0 h6⟩
 | .tok=>λ⟨L,h1,h2⟩=>⟨L,hg.β _ _ h1,λe9=>let ⟨c,e,h3,h4⟩:=h2 e9;⟨c,e,h _ _ h3,h4⟩⟩
 | .arr esz l=>λ⟨L,c,e,h1,h2,h3,h4,h5,h6⟩=>⟨L,c,e,hg.β _ _ h1,h2,h3,h _ _ h4,h5,wL.mono hg (λ_ _ x=>x) esz l 0 h6⟩
 | .frz esz l=>λ⟨L,h1,h2,h3⟩=>⟨L,hg.β _ _ h1,h2,wL.mono hg (hg.σ L.wR) esz l 0 h3⟩
 | .map es c=>λ⟨L,xD,h1,h2,h3,h4,h5⟩=>⟨L,xD,hg.β _ _ h1,h2,h3,h _ _ h4,D0.mono hg _ _ h5⟩
 | .sit s pos=>λ⟨L,h1,h2,h3,h4⟩=>⟨L,hg.β _ _ h1,h2,h3,h _ _ h4⟩
 | .mit m c seen last=>λ⟨L,Lm,h1,h2,h3,h4,h5,h6⟩=>⟨L,Lm,hg.β _ _ h1,h2,h3,h _ _ h4,hg.β _ _ h5,h6⟩
 | .lp x=>λ⟨L,h1,h2,h3,h4,r,k1,k2,k3,k4,k5,k6,k7,k8⟩=>⟨L,hg.β _ _ h1,h2,h3,h4,r,h _ _ k1,k2,k3,k4,k5,k6,B1.mono hg k7,k8⟩
 | .dead=>λ_=>zt
theorem x7.grow(r:x7 g H n w)(hx:JW w w')(hσ:∀b o v,g.σ b o=some v->σ' b o=some v)
  (yy:∀b o v,σ' b o=some v->g.σ b o=some v\/(w.heap.size<=b/\w'.cell? ⟨b,o,none⟩=some v)):x7 ⟨g.β,σ'⟩ H n w':=by
 have hle:g.le ⟨g.β,σ'⟩:=⟨λ_ _ h=>h,hσ⟩;refine⟨?_,λid ob h=>FT.ext hx hle ob (r.obj id ob h),λid L h=>⟨(r.yJ id L h).1,λe9=>uw ((r.yJ id L h).2 e9) hx.size⟩,r.hd,r.ap,?_,r.gl.mono hle,r.gz.ext (λb c e fz h=>hx b _ h)⟩
 ·intro b o v h;rcases yy b o v h with h1|h1
  ·have h2:=r.σw b o v h1;have:∃ob,w.heap[b]?=some ob:=by grind [World.cell?]
   obtain⟨ob,hb⟩:=this;rw[Ev ((hx b ob hb).trans hb.symm)];exact h2
  ·exact h1.2
 ·intro id ob L o q1 q2 q3 q4 q5;cases hs:σ' L.wR o with
  |none=>exact hs
  |some v=>
   rcases yy _ _ _ hs with h1|h1
   ·rw[r.un id ob L o q1 q2 q3 q4 q5]at h1;cases h1
   ·have:=(r.yJ id L q3).2 zo;omega
theorem q9.grow(hx:JW w w')(hos:w'.os=w.os)(htape:w'.tape=w.tape)(hout:w'.output=w.output)(hσ:∀b o v,g.σ b o=some v->σ' b o=some v)
  (yy:∀b o v,σ' b o=some v->g.σ b o=some v\/w.heap.size<=b):q9 m g H w ⟨g.β,σ'⟩ H w' where
 le:=⟨λ_ _ h=>h,hσ⟩
 βn:=λ_ _ h=>.inl h
 os:=hos
 tape:=htape
 output:=hout
 size:=hx.size
 kept:=λb ob hb=>by rw[hx b ob hb];exact JQ.same _ _
 now:=λ_ _ _ h=>h
 nσ:=λb o v hb h=>.inl ((yy b o v h).resolve_right zo)
theorem x7.new'(r:x7 g H n w){x:Obj}(hx:w'.heap=w.heap.push x)(hos:w'.os=w.os)(htape:w'.tape=w.tape)(hout:w'.output=w.output)
  (h0:AD H id=none) (s5:id<n) (hm:m<=id) (hL:L.wR=w.heap.size) (hσ:∀b o v,g.σ b o=some v->σ' b o=some v)
  (yy:∀b o v,σ' b o=some v->g.σ b o=some v\/(b=w.heap.size/\w'.cell? ⟨b,o,none⟩=some v/\(o<L.lo\/L.hi<=o))) (hob:FT ⟨λi=>if i=id then some L else g.β i,σ'⟩ w' id ob):
  x7 ⟨λi=>if i=id then some L else g.β i,σ'⟩ (wB H id ob) n w'/\q9 m g H w ⟨λi=>if i=id then some L else g.β i,σ'⟩ (wB H id ob) w'/\g.le ⟨λi=>if i=id then some L else g.β i,σ'⟩:=by
 have hb0:g.β id=none:=by
  cases hb:g.β id with
  |none=>rfl
  |some L'=>exact absurd h0 (r.yJ id L' hb).1
 have hle:g.le ⟨λi=>if i=id then some L else g.β i,σ'⟩:=⟨λi L' h=>by
  show(if i=id then some L else g.β i)=some L';rw[sg (by rintro rfl;rw[hb0]at h;cases h)];exact h,hσ⟩
 have hext:JW w w':=JW.push hx;have xG:w'.heap.size=w.heap.size+1:=by rw[hx];simp
 have low:∀yU L',yU≠id->g.β yU=some L'->L'.lo<L'.hi->L'.wR≠w.heap.size:=λyU L' _ h e9 e=>by
  have:=(r.yJ yU L' h).2 e9;omega
 refine⟨⟨?_,?_,?_,?_,?_,?_,r.gl.mono hle,r.gz.ext (λb c e fz h=>hext b _ h)⟩,⟨hle,?_,hos,htape,hout,hext.size,λb ob' hb=>by rw[hext b ob' hb];exact JQ.same _ _,?_,?_⟩,hle⟩
 ·intro b o v h;rcases yy b o v h with h|h
  ·have h2:=r.σw b o v h;have:∃ob,w.heap[b]?=some ob:=by grind [World.cell?]
   obtain⟨ob',hb⟩:=this;rw[Ev ((hext b ob' hb).trans hb.symm)];exact h2
  ·exact h.2.1
 ·intro yU ob' h;rw[AT]at h;by_cases he:id=yU
  ·subst he;rw[sn rfl]at h;cases h;exact hob
  ·rw[sg he]at h;exact FT.ext hext hle ob' (r.obj yU ob' h)
 ·intro yU L' h;rw[AT];by_cases he:id=yU
  ·simp_all
  ·rw[sg he];have h':g.β yU=some L':=by simpa [Ne.symm he]using h
   exact⟨(r.yJ yU L' h').1,λe9=>by have:=(r.yJ yU L' h').2 e9;omega⟩
 ·intro yU ob' h;rw[AT]at h;by_cases he:id=yU
  ·subst he;exact s5
  ·rw[sg he]at h;exact r.hd yU ob' h
 ·intro i j oi oj Li Lj s8 q1 q2 q3 q4 q5 q6 hblk;rw[AT]at q1 q2;by_cases e1:id=i
  ·grind
  ·by_cases e2:id=j
   ·grind
   ·rw[sg e1]at q1;rw[sg e2]at q2;exact r.ap i j oi oj Li Lj s8 q1 q2 q3 q4 (by simpa [Ne.symm e1]using q5) (by simpa [Ne.symm e2]using q6) hblk
 ·intro i oi Li o q1 q2 q3 q4 q5;rw[AT]at q1;show σ' Li.wR o=none;cases hs:σ' Li.wR o with
  |none=>rfl
  |some v=>
   exfalso;by_cases e1:id=i
   ·subst e1;have:Li=L:=by simpa using q3.symm
    subst this;rcases yy _ _ _ hs with h|h
    ·have:=r.σw _ _ _ h;rw[hL]at this;simp [World.cell?]at this
    ·omega
   ·rw[sg e1]at q1;have q3':g.β i=some Li:=by simpa [Ne.symm e1]using q3
    rcases yy _ _ _ hs with h|h
    ·rw[r.un i oi Li o q1 q2 q3' q4 q5]at h;cases h
    ·have:=(r.yJ i Li q3').2 zo;omega
 ·grind
 ·rintro b o hb ⟨i,oi,Li,q1,q2,q3,q4,q5,q6⟩;rw[AT]at q1;by_cases e1:id=i
  ·simp_all
  ·rw[sg e1]at q1;exact⟨i,oi,Li,q1,q2,by simpa [Ne.symm e1]using q3,q4,q5,q6⟩
 ·grind
theorem x7.new(r:x7 g H n w){x:Obj}(hx:w'.heap=w.heap.push x)(hos:w'.os=w.os)(htape:w'.tape=w.tape)(hout:w'.output=w.output)
  (h0:AD H id=none) (s5:id<n) (hm:m<=id) (hL:L.wR=w.heap.size) (hob:FT ⟨λi=>if i=id then some L else g.β i,g.σ⟩ w' id ob):
  x7 ⟨λi=>if i=id then some L else g.β i,g.σ⟩ (wB H id ob) n w'/\q9 m g H w ⟨λi=>if i=id then some L else g.β i,g.σ⟩ (wB H id ob) w'/\g.le ⟨λi=>if i=id then some L else g.β i,g.σ⟩:=
 r.new' hx hos htape hout h0 s5 hm hL (λ_ _ _ h=>h) (λ_ _ _ h=>.inl h) hob
theorem x7.kill(r:x7 g H n w)(h0:AD H id=some ob):
  x7 g (wB H id .dead) n w/\q9 m g H w g (wB H id .dead) w:=by
 have low:∀i oi,AD (wB H id .dead) i=some oi->oi.owns=true->AD H i=some oi:=by
  intro i oi q1 q2;rw[AT]at q1;by_cases e:id=i
  ·rw[sn e]at q1;cases q1;simp [x9.owns]at q2
  ·rw[sg e]at q1;exact q1
 refine⟨⟨r.σw,?_,?_,?_,?_,?_,r.gl,r.gz⟩,⟨.refl g,λ_ _ h=>.inl h,rfl,rfl,rfl,sj _,λb ob hb=>by rw[hb];exact JQ.same _ _,?_,λ_ _ _ _ h=>.inl h⟩⟩
 ·intro i oi h;rw[AT]at h;by_cases e:id=i
  ·rw[sn e]at h;cases h;trivial
  ·rw[sg e]at h;exact r.obj i oi h
 ·intro i L h;refine⟨?_,(r.yJ i L h).2⟩;rw[AT];by_cases e:id=i
  ·simp [e]
  ·rw[sg e];exact(r.yJ i L h).1
 ·intro i oi h;rw[AT]at h;by_cases e:id=i
  ·subst e;exact r.hd id ob h0
  ·rw[sg e]at h;exact r.hd i oi h
 ·intro i j oi oj Li Lj s8 q1 q2 q3 q4 q5 q6 hb;exact r.ap i j oi oj Li Lj s8 (low i oi q1 q3) (low j oj q2 q4) q3 q4 q5 q6 hb
 ·intro i oi L o q1 q2 q3 q4 q5;exact r.un i oi L o (low i oi q1 q2) q2 q3 q4 q5
 ·rintro b o hb ⟨i,oi,Li,q1,q2,q3,q4,q5,q6⟩;exact⟨i,oi,Li,low i oi q1 q2,q2,q3,q4,q5,q6⟩
theorem x7.split(r:x7 g H n w)(h0:AD H id=none)(s5:id<n)(hm:m<=id){H':AB}
  (hH:(H'=H/\L.hi<=L.lo)\/∃i0 zc,H'=wB H i0 .dead/\AD H i0=some .tok/\g.β i0=some ⟨L.wR,zc,L.hi⟩/\zc<=L.lo)
  (hσ:∀b o v,g.σ b o=some v->σ' b o=some v)
  (yy:∀b o v,σ' b o=some v->g.σ b o=some v\/(b=L.wR/\o<L.lo/\w.cell? ⟨b,o,none⟩=some v/\∃i0 zc,H'=wB H i0 .dead/\AD H i0=some .tok/\g.β i0=some ⟨L.wR,zc,L.hi⟩/\zc<=o/\o<L.hi)):
  x7 ⟨λi=>if i=id then some L else g.β i,σ'⟩ (wB H' id .tok) n w/\q9 m g H w ⟨λi=>if i=id then some L else g.β i,σ'⟩ (wB H' id .tok) w/\g.le ⟨λi=>if i=id then some L else g.β i,σ'⟩:=by
 have hb0:g.β id=none:=by
  cases hb:g.β id with
  |none=>rfl
  |some L'=>exact absurd h0 (r.yJ id L' hb).1
 have hle:g.le ⟨λi=>if i=id then some L else g.β i,σ'⟩:=⟨λi L' h=>by
  show(if i=id then some L else g.β i)=some L';rw[sg (by rintro rfl;rw[hb0]at h;cases h)];exact h,hσ⟩
 have low:∀i oi,AD H' i=some oi->oi.owns=true->AD H i=some oi:=by
  intro i oi q1 q2;rcases hH with⟨rfl,_⟩|⟨i0,zc,rfl,_⟩
  ·exact q1
  ·rw[AT]at q1;by_cases e:i0=i
   ·rw[sn e]at q1;cases q1;simp [x9.owns]at q2
   ·rw[sg e]at q1;exact q1
 have any:∀i oi,AD H' i=some oi->∃oi',AD H i=some oi'/\(oi=oi'\/oi= .dead):=by
  intro i oi q1;rcases hH with⟨rfl,_⟩|⟨i0,zc,rfl,h1,_⟩
  ·exact⟨oi,q1,.inl rfl⟩
  ·rw[AT]at q1;by_cases e:i0=i
   ·simp_all
   ·rw[sg e]at q1;exact⟨oi,q1,.inl rfl⟩
 have none':∀i,AD H i≠none->AD H' i≠none:=by grind [AT]
 have off:∀i oi Li o,AD H' i=some oi->oi.owns=true->g.β i=some Li->Li.wR=L.wR->Li.lo<=o->o<Li.hi->∀i0 zc,H'=wB H i0 .dead->AD H i0=some .tok->g.β i0=some ⟨L.wR,zc,L.hi⟩->¬(zc<=o/\o<L.hi):=by
  intro i oi Li o q1 q2 q3 q4 q5 q6 i0 zc e1 e2 e3 e4;have s8:i≠i0:=by
   rintro rfl;rw[e1,AT,sn rfl]at q1;cases q1;simp [x9.owns]at q2
  have:=r.ap i i0 oi .tok Li ⟨L.wR,zc,L.hi⟩ s8 (low i oi q1 q2) e2 q2 rfl q3 e3 q4;simp only[]at this;omega
 have wcell:∀b o v,σ' b o=some v->w.cell? ⟨b,o,none⟩=some v:=λb o v h=>(yy b o v h).elim (λh=>r.σw b o v h) (λh=>h.2.2.1)
 refine⟨⟨wcell,?_,?_,?_,?_,?_,r.gl.mono hle,r.gz⟩,⟨hle,?_,rfl,rfl,rfl,sj _,λb ob hb=>by rw[hb];exact JQ.same _ _,?_,?_⟩,hle⟩
 ·intro i oi h;rw[AT]at h;by_cases e:id=i
  ·subst e;rw[sn rfl]at h;cases h;refine⟨L,zw,λe9=>?_⟩;rcases hH with⟨_,h1⟩|⟨i0,zc,_,h1,h2,h3⟩
   ·omega
   ·obtain⟨L',k1,k2⟩:=r.obj i0 .tok h1;rw[h2]at k1;cases k1;exact k2 zp
  ·rw[sg e]at h;obtain⟨oi',q1,q2⟩:=any i oi h;rcases q2 with rfl|rfl
   ·exact FT.ext (λ_ _ h=>h) hle _ (r.obj i _ q1)
   ·trivial
 ·intro i L' h;rw[AT];by_cases e:id=i
  ·subst e;have:L'=L:=by simpa using h.symm
   subst this;refine⟨zw,λe9=>?_⟩;rcases hH with⟨_,h1⟩|⟨i0,zc,_,h1,h2,h3⟩
   ·omega
   ·exact(r.yJ i0 _ h2).2 zp
  ·rw[sg e];have h':g.β i=some L':=by simpa [Ne.symm e]using h
   exact⟨none' i (r.yJ i L' h').1,(r.yJ i L' h').2⟩
 ·intro i oi h;rw[AT]at h;by_cases e:id=i
  ·subst e;exact s5
  ·rw[sg e]at h;obtain⟨oi',q1,_⟩:=any i oi h;exact r.hd i oi' q1
 ·intro i j oi oj Li Lj s8 q1 q2 q3 q4 q5 q6 hblk;rw[AT]at q1 q2;have case1:∀j oj Lj,id≠j->AD H' j=some oj->oj.owns=true->g.β j=some Lj->L.wR=Lj.wR->L.hi<=Lj.lo\/Lj.hi<=L.lo\/L.hi<=L.lo\/Lj.hi<=Lj.lo:=by
   intro j oj Lj hj q2 q4 q6 hb;rcases hH with⟨_,h1⟩|⟨i0,zc,e1,h1,h2,h3⟩
   ·exact .inr (.inr (.inl h1))
   ·have s8:j≠i0:=by
     rintro rfl;rw[e1,AT,sn rfl]at q2;cases q2;simp [x9.owns]at q4
    have:=r.ap j i0 oj .tok Lj ⟨L.wR,zc,L.hi⟩ s8 (low j oj q2 q4) h1 q4 rfl q6 h2 hb.symm;simp only[]at this;omega
  by_cases e1:id=i
  ·grind
  ·by_cases e2:id=j
   ·subst e2;have:Lj=L:=by simpa using q6.symm
    subst this;rw[sg e1]at q1;have:=case1 i oi Li e1 q1 q3 (by simpa [Ne.symm e1]using q5) hblk.symm;omega
   ·rw[sg e1]at q1;rw[sg e2]at q2;exact r.ap i j oi oj Li Lj s8 (low i oi q1 q3) (low j oj q2 q4) q3 q4 (by simpa [Ne.symm e1]using q5) (by simpa [Ne.symm e2]using q6) hblk
 ·intro i oi Li o q1 q2 q3 q4 q5;rw[AT]at q1;show σ' Li.wR o=none;cases hs:σ' Li.wR o with
  |none=>rfl
  |some v=>
   exfalso;by_cases e1:id=i
   ·subst e1;have:Li=L:=by simpa using q3.symm
    subst this;rcases yy _ _ _ hs with h|h
    ·rcases hH with⟨_,h1⟩|⟨i0,zc,_,h1,h2,h3⟩
     ·omega
     ·rw[r.un i0 .tok _ o h1 rfl h2 zp q5]at h;cases h
    ·omega
   ·rw[sg e1]at q1;have q3':g.β i=some Li:=by simpa [Ne.symm e1]using q3
    rcases yy _ _ _ hs with h|⟨h1,h2,h3,i0,zc,k1,k2,k3,k4,k5⟩
    ·rw[r.un i oi Li o (low i oi q1 q2) q2 q3' q4 q5]at h;cases h
    ·exact off i oi Li o q1 q2 q3' h1 q4 q5 i0 zc k1 k2 k3 ⟨k4,k5⟩
 ·grind
 ·rintro b o hb ⟨i,oi,Li,q1,q2,q3,q4,q5,q6⟩;rw[AT]at q1;by_cases e1:id=i
  ·subst e1;have:Li=L:=by simpa using q3.symm
   subst this;rcases hH with⟨_,h1⟩|⟨i0,zc,_,h1,h2,h3⟩
   ·omega
   ·exact⟨i0,.tok,_,h1,rfl,h2,q4,zp,q6⟩
  ·rw[sg e1]at q1;exact⟨i,oi,Li,low i oi q1 q2,q2,by simpa [Ne.symm e1]using q3,q4,q5,q6⟩
 ·intro b o v hb h;rcases yy b o v h with h|⟨h1,h2,h3,i0,zc,k1,k2,k3,k4,k5⟩
  ·exact .inl h
  ·exact .inr ⟨i0,.tok,_,k2,rfl,k3,h1.symm,k4,k5⟩
theorem x7.upd(r:x7 g H n w){ob':x9}(h0:AD H id=some ob)(hown:ob.owns=true)(hL:g.β id=some L)
  (hos:w'.os=w.os) (htape:w'.tape=w.tape) (hout:w'.output=w.output) (xG:w'.heap.size=w.heap.size)
  (hoth:∀b:Nat,b≠L.wR->w'.heap[b]?=w.heap[b]?)
  (hblk:(∃c e fz c',w.heap[L.wR]?=some (.cells c e fz)/\w'.heap[L.wR]?=some (.cells c' e fz)/\c'.size=c.size/\∀o,(o<L.lo\/L.hi<=o)->c'[o]?=c[o]?)\/
   (L.lo=0/\L.hi=1/\∃x,w.heap[L.wR]?=some x/\∀c e fz,x≠ .cells c e fz))
  (hob:FT g w' id ob'):
  x7 g (wB H id ob') n w'/\q9 m g H w g (wB H id ob') w':=by
 have xZ:∀b o,g.σ b o≠none->w'.cell? ⟨b,o,none⟩=w.cell? ⟨b,o,none⟩:=by
  intro b o hs;by_cases hb:b=L.wR
  ·subst hb;rcases hblk with⟨c,e,fz,c',h1,h2,h3,h4⟩|⟨h1,h2,x,h3,h4⟩
   ·rw[BK h1,BK h2];refine h4 o ?_;rcases Nat.lt_or_ge o L.lo with h5|h5
    ·exact .inl h5
    ·rcases Nat.lt_or_ge o L.hi with h6|h6
     ·exact absurd (r.un id ob L o h0 hown hL h5 h6) hs
     ·exact .inr h6
   ·exfalso;cases hv:g.σ L.wR o with
    |none=>exact hs hv
    |some v=>
     have:=r.σw _ _ _ hv;cases x with
     |cells c e fz=>exact h4 c e fz rfl
     |_=>simp [World.cell?,h3]at this
  ·exact Ev (hoth b hb) o
 have hapart:∀yU oi Li,yU≠id->AD H yU=some oi->oi.owns=true->g.β yU=some Li->Li.wR=L.wR->∀o,Li.lo<=o->o<Li.hi->(o<L.lo\/L.hi<=o):=by
  intro yU oi Li s8 q1 q2 q3 hb o a b;rcases r.ap yU id oi ob Li L s8 q1 h0 q2 hown q3 hL hb with h1|h1|h1|h1<;>omega
 have hgz:G5 w':=by
  intro i cs e;obtain⟨c,t,fz,h1,h2⟩:=r.gz i cs e;by_cases hb:i=L.wR
  ·grind
  ·exact⟨c,t,fz,by rw[hoth _ hb];exact h1,h2⟩
 refine⟨⟨?_,?_,?_,?_,?_,?_,r.gl,hgz⟩,⟨.refl g,λ_ _ h=>.inl h,hos,htape,hout,zo,?_,?_,λ_ _ _ _ h=>.inl h⟩⟩
 ·intro b o v h;rw[xZ b o (by rw[h];simp)];exact r.σw b o v h
 ·intro yU oi h;rw[AT]at h;by_cases he:id=yU
  ·subst he;rw[sn rfl]at h;cases h;exact hob
  ·rw[sg he]at h;have ho:=r.obj yU oi h;have keepc:∀(Li:Loc) c e fz,oi.owns=true->g.β yU=some Li->w.heap[Li.wR]?=some (.cells c e fz)->∃c',w'.heap[Li.wR]?=some (.cells c' e fz)/\c'.size=c.size/\∀o,Li.lo<=o->o<Li.hi->c'[o]?=c[o]?:=by grind
   cases oi with
   |box cs=>
    obtain⟨Li,c,e,h1,h2,h3,h4,h5,h6⟩:=ho;obtain⟨c',k1,k2,k3⟩:=keepc Li c e _ rfl h1 h4;exact⟨Li,c',e,h1,h2,h3,k1,k2.trans h5,wM.eq cs 0 (λj a b=>k3 j zo zo) h6⟩
   |tok=>
    obtain⟨Li,h1,h2⟩:=ho;refine⟨Li,h1,λe9=>?_⟩;obtain⟨c,e,h3,h4⟩:=h2 e9;obtain⟨c',k1,k2,k3⟩:=keepc Li c e _ rfl h1 h3;exact⟨c',e,k1,zo⟩
   |arr esz l=>
    obtain⟨Li,c,e,h1,h2,h3,h4,h5,h6⟩:=ho;obtain⟨c',k1,k2,k3⟩:=keepc Li c e _ rfl h1 h4;exact⟨Li,c',e,h1,h2,zo,k1,zo,wL.eq l 0 (λj a b=>k3 j zo zo) h6⟩
   |frz esz l=>exact ho
   |map es cl=>
    obtain⟨Li,xD,h1,h2,h3,h4,h5⟩:=ho;have hb:Li.wR≠L.wR:=by
     intro hb;have hd:=hapart yU _ Li (Ne.symm he) h rfl h1 hb 0 zo zo;rcases hblk with⟨c1,e1,fz1,c',k1,_⟩|⟨k1,k2,_⟩
     ·rw[hb,k1]at h4;cases h4
     ·omega
    exact⟨Li,xD,h1,h2,h3,by rw[hoth _ hb];exact h4,h5⟩
   |sit s pos=>
    obtain⟨Li,h1,h2,h3,h4⟩:=ho;have hb:Li.wR≠L.wR:=by
     intro hb;have hd:=hapart yU _ Li (Ne.symm he) h rfl h1 hb 0 zo zo;rcases hblk with⟨c1,e1,fz1,c',k1,_⟩|⟨k1,k2,_⟩
     ·rw[hb,k1]at h4;cases h4
     ·omega
    exact⟨Li,h1,h2,h3,by rw[hoth _ hb];exact h4⟩
   |mit m c seen last=>
    obtain⟨Li,Lm,h1,h2,h3,h4,h5⟩:=ho;have hb:Li.wR≠L.wR:=by
     intro hb;have hd:=hapart yU _ Li (Ne.symm he) h rfl h1 hb 0 zo zo;rcases hblk with⟨c1,e1,fz1,c',k1,_⟩|⟨k1,k2,_⟩
     ·rw[hb,k1]at h4;cases h4
     ·omega
    exact⟨Li,Lm,h1,h2,h3,by rw[hoth _ hb];exact h4,h5⟩
   |lp x=>
    obtain⟨Li,h1,h2,h3,h4,r1,h5,h6⟩:=ho;have hb:Li.wR≠L.wR:=by
     intro hb;have hd:=hapart yU _ Li (Ne.symm he) h rfl h1 hb 0 zo zo;rcases hblk with⟨c1,e1,fz1,c',k1,_⟩|⟨k1,k2,_⟩
     ·rw[hb,k1]at h5;cases h5
     ·omega
    exact⟨Li,h1,h2,h3,h4,r1,by rw[hoth _ hb];exact h5,h6⟩
   |dead=>trivial
 ·intro yU Li h;refine⟨?_,λe9=>by have:=(r.yJ yU Li h).2 e9;omega⟩;rw[AT];by_cases he:id=yU
  ·simp [he]
  ·rw[sg he];exact(r.yJ yU Li h).1
 ·intro yU oi h;rw[AT]at h;by_cases he:id=yU
  ·subst he;exact r.hd id ob h0
  ·rw[sg he]at h;exact r.hd yU oi h
 ·intro i j oi oj Li Lj s8 q1 q2 q3 q4 q5 q6 hb;have low:∀i oi,AD (wB H id ob') i=some oi->oi.owns=true->∃oi',AD H i=some oi'/\oi'.owns=true:=by
   intro i oi q1 q3;rw[AT]at q1;by_cases he:id=i
   ·subst he;exact⟨ob,h0,hown⟩
   ·rw[sg he]at q1;exact⟨oi,q1,q3⟩
  obtain⟨oi',p1,p2⟩:=low i oi q1 q3;obtain⟨oj',p3,p4⟩:=low j oj q2 q4;exact r.ap i j oi' oj' Li Lj s8 p1 p3 p2 p4 q5 q6 hb
 ·intro i oi Li o q1 q2 q3 q4 q5;rw[AT]at q1;by_cases he:id=i
  ·subst he;exact r.un id ob Li o h0 hown q3 q4 q5
  ·rw[sg he]at q1;exact r.un i oi Li o q1 q2 q3 q4 q5
 ·intro b x hb;by_cases hbl:b=L.wR
  ·subst hbl;rcases hblk with⟨c,e,fz,c',h1,h2,h3,h4⟩|⟨h1,h2,y,h3,h4⟩
   ·rw[h1]at hb;cases hb;refine⟨c',h2,h3,λo ho=>h4 o ?_⟩;rcases Nat.lt_or_ge o L.lo with h5|h5
    ·exact .inl h5
    ·rcases Nat.lt_or_ge o L.hi with h6|h6
     ·exact absurd ⟨id,ob,L,h0,hown,hL,rfl,h5,h6⟩ ho
     ·exact .inr h6
   ·rw[h3]at hb;cases hb;have:EF g H L.wR 0:=⟨id,ob,L,h0,hown,hL,rfl,zo,zo⟩;cases x with
    |cells c e fz=>exact absurd rfl (h4 _ _ _)
    |_=>exact .inl this
  ·rw[hoth b hbl,hb];exact JQ.same _ _
 ·rintro b o hb ⟨i,oi,Li,q1,q2,q3,q4,q5,q6⟩;rw[AT]at q1;by_cases he:id=i
  ·subst he;exact⟨id,ob,Li,h0,hown,q3,q4,q5,q6⟩
  ·rw[sg he]at q1;exact⟨i,oi,Li,q1,q2,q3,q4,q5,q6⟩
end
section
variable {a:Fs} {g:q8} {esz:Nat} {f:Nat->Option Value} {v:Value}
theorem AR.notAgg(h:AR g a v)(ha:∀cs,a≠ .agg cs):∀cs,v≠ .agg cs:=by
 intro cs e;subst e;cases a<;>simp only[AR]at h;case agg cs=>exact ha _ rfl
 case sl tok l=>simp_all
 all_goals first
  |(cases h;done)
  |(obtain⟨_,h⟩:=h;cases h;done)
  |(obtain⟨_,_,_,h⟩:=h;cases h;done)
  |(obtain⟨_,_,h,_⟩:=h;cases h;done)
  |(obtain⟨_,h,_⟩:=h;cases h;done)
  |(obtain⟨_,_,h⟩:=h;cases h;done)
theorem Ht(h:∀cs,v≠ .agg cs):v.cells= #[v]:=by
 cases v<;>first|rfl|exact absurd rfl (h _)
theorem K5(h:∀cs,a≠ .agg cs):a.cells=[a]:=by
 cases a<;>first|rfl|exact absurd rfl (h _)
theorem AR.cells(h:AR g a v):wI g a.cells v.cells.toList:=by
 by_cases ha:∃cs,a= .agg cs
 ·obtain⟨cs,rfl⟩:=ha;obtain⟨vs,rfl,h1,_⟩:=h;exact h1
 ·have ha':∀cs,a≠ .agg cs:=λcs e=>ha ⟨cs,e⟩
  rw[K5 ha',Ht (h.notAgg ha')];exact⟨v,[],rfl,h,rfl⟩
theorem AR.one(h:AR g a v)(ht:nT a):∀x∈v.cells.toList,x.oneCell'=true:=by
 by_cases ha:∃cs,a= .agg cs
 ·obtain⟨cs,rfl⟩:=ha;obtain⟨vs,rfl,_,h2⟩:=h;exact h2
 ·have ha':∀cs,a≠ .agg cs:=λcs e=>ha ⟨cs,e⟩
  rw[Ht (h.notAgg ha')];intro x hx;have:x=v:=by simpa using hx
  subst this;cases x with
  |agg cs=>exact absurd rfl (h.notAgg ha' cs)
  |tuple vs=>
   exfalso;cases a<;>simp only[AR,nT]at h ht;case sl tok l=>rcases h with⟨_,h,_⟩|⟨_,_,_,_,⟨_,h,_⟩,_⟩<;>cases h
   all_goals first
    |(cases h;done)
    |(obtain⟨_,h⟩:=h;cases h;done)
    |(obtain⟨_,_,_,h⟩:=h;cases h;done)
    |(obtain⟨_,_,h,_⟩:=h;cases h;done)
    |(obtain⟨_,h,_⟩:=h;cases h;done)
    |(obtain⟨_,_,h⟩:=h;cases h;done)
  |_=>rfl
theorem wI.length:∀(as:List Fs) (vs:List Value),wI g as vs->vs.length=as.length
 |[],_,h=>by simp only[wI]at h;subst h;rfl
 |a::as,_,⟨v,rest,rfl,_,h⟩=>by simp [wI.length as rest h]
theorem wI.take:∀(k:Nat) (as:List Fs) (vs:List Value),wI g as vs->wI g (as.take k) (vs.take k)
 |0,_,_,_=>by simp [wI]
 |k+1,[],_,h=>by simp only[wI]at h;subst h;simp [wI]
 |k+1,a::as,_,⟨v,rest,rfl,h1,h2⟩=>⟨v,rest.take k,rfl,h1,wI.take k as rest h2⟩
theorem wI.drop:∀(k:Nat) (as:List Fs) (vs:List Value),wI g as vs->wI g (as.drop k) (vs.drop k)
 |0,_,_,h=>by simpa using h
 |k+1,[],_,h=>by simp only[wI]at h;subst h;simp [wI]
 |k+1,a::as,_,⟨v,rest,rfl,h1,h2⟩=>by simpa using wI.drop k as rest h2
theorem wI.append:∀(as:List Fs) (vs:List Value) (bs:List Fs) (us:List Value),wI g as vs->wI g bs us->wI g (as++bs) (vs++us)
 |[],_,_,_,h,k=>by simp only[wI]at h;subst h;simpa using k
 |a::as,_,bs,us,⟨v,rest,rfl,h1,h2⟩,k=>⟨v,rest++us,rfl,h1,wI.append as rest bs us h2 k⟩
theorem wI.getElem:∀(i:Nat) (as:List Fs) (vs:List Value),wI g as vs->∀v,vs[i]?=some v->AR g (as[i]?.getD (.wJ [])) v
 |_,[],_,h,v,hv=>by simp only[wI]at h;subst h;simp at hv
 |0,a::as,_,⟨u,rest,rfl,h1,h2⟩,v,hv=>by simp at hv;subst hv;simpa using h1
 |i+1,a::as,_,⟨u,rest,rfl,h1,h2⟩,v,hv=>by simpa using wI.getElem i as rest h2 v (by simpa using hv)
theorem wI.wZ{as bs:List Fs}{vs us:List Value}{off:Nat}(h:wI g as vs)(k:wI g bs us):wI g (wZ as off bs) (vs.take off++us++vs.drop (off+us.length)):=by
 unfold AM.wZ;rw[wI.length bs us k];exact wI.append _ _ _ _ (wI.append _ _ _ _ (wI.take off as vs h) k) (wI.drop _ as vs h)
theorem wM.of:∀(cs:List Fs) (vs:List Value) (o:Nat),wI g cs vs->(∀(j:Nat) x,vs[j]?=some x->f (o+j)=some x)->(∀x∈vs,x.oneCell'=true)->wM g f o cs
 |[],_,_,_,_,_=>trivial
 |c::cs,_,o,⟨v,rest,rfl,h1,h2⟩,hf,h3=>⟨⟨v,by simpa using hf 0 v rfl,h1,h3 v zw⟩,
   wM.of cs rest (o+1) h2 (λj x hx=>by have:=hf (j+1) x (by simpa using hx);rwa[show o+(j+1)=o+1+j from by omega]at this) (λx hx=>h3 x (by simp [hx]))⟩
theorem wM.list:∀(cs:List Fs) (o:Nat),wM g f o cs->∃vs,wI g cs vs/\(∀(j:Nat) x,vs[j]?=some x->f (o+j)=some x)/\∀x∈vs,x.oneCell'=true
 |[],_,_=>⟨[],rfl,zw,zw⟩
 |c::cs,o,⟨⟨x,h1,h2,h4⟩,h3⟩=>by
  obtain⟨vs,k1,k2,k3⟩:=wM.list cs (o+1) h3;refine⟨x::vs,⟨x,vs,rfl,h2,k1⟩,?_,?_⟩
  ·grind
  ·simp_all
theorem wM.drop:∀(k:Nat) (cs:List Fs) (o:Nat),wM g f o cs->wM g f (o+k) (cs.drop k)
 |0,_,_,h=>by simpa using h
 |k+1,[],_,_=>by simp [wM]
 |k+1,c::cs,o,h=>by have:=wM.drop k cs (o+1) h.2;rwa[show o+1+k=o+(k+1)from by omega]at this
theorem wM.take:∀(k:Nat) (cs:List Fs) (o:Nat),wM g f o cs->wM g f o (cs.take k)
 |0,_,_,_=>by simp [wM]
 |k+1,[],_,_=>by simp [wM]
 |k+1,c::cs,o,h=>⟨h.1,wM.take k cs (o+1) h.2⟩
theorem wL.elem:∀(i:Nat) (l:List Fs) (o:Nat),wL g esz f o l->i<l.length->
  ∃v,AR g (l[i]?.getD (.wJ [])) v/\GB esz v/\∀(j:Nat) x,v.cells[j]?=some x->f (o+i*esz+j)=some x
 |_,[],_,_,h=>by simp at h
 |0,e::l,o,⟨⟨v,h1,h2,h3⟩,h4⟩,_=>⟨v,by simpa using h1,h2,by simpa using h3⟩
 |i+1,e::l,o,⟨_,h4⟩,h=>by
  obtain⟨v,k1,k2,k3⟩:=wL.elem i l (o+esz) h4 (by simpa using h);refine⟨v,by simpa using k1,k2,λj x hx=>?_⟩;have:=k3 j x hx
  rwa[show o+esz+i*esz+j=o+(i+1)*esz+j from by rw[tA];omega]at this
theorem wL.take:∀(k:Nat) (l:List Fs) (o:Nat),wL g esz f o l->wL g esz f o (l.take k)
 |0,_,_,_=>by simp [wL]
 |k+1,[],_,_=>by simp [wL]
 |k+1,e::l,o,h=>⟨h.1,wL.take k l (o+esz) h.2⟩
theorem wL.drop:∀(k:Nat) (l:List Fs) (o:Nat),wL g esz f o l->wL g esz f (o+k*esz) (l.drop k)
 |0,_,_,h=>by simpa using h
 |k+1,[],_,_=>by simp [wL]
 |k+1,e::l,o,h=>by have:=wL.drop k l (o+esz) h.2;rwa[show o+esz+k*esz=o+(k+1)*esz from by rw[tA];omega]at this
theorem wL.append:∀(l l':List Fs) (o:Nat),wL g esz f o l->wL g esz f (o+l.length*esz) l'->wL g esz f o (l++l')
 |[],_,_,_,h=>by simpa using h
 |e::l,l',o,h,k=>⟨h.1,wL.append l l' (o+esz) h.2 (by rwa[show o+esz+l.length*esz=o+(e::l).length*esz from by rw[sM,tA];omega])⟩
theorem B4(b o k:Nat):(⟨b,o,none⟩:Addr).add k=⟨b,o+k,none⟩:=by
 unfold Addr.add;split<;>simp_all
def Dn(P:Program)(m:Nat)(g:q8)(H:AB)(n:Nat)(w:World)(s:Sem Value)(r:Fs):Prop:=
 ∃v w' g',s.run P w= .ok v w'/\AR g' r v/\x7 g' H n w'/\q9 m g H w g' H w'
section
variable {P:Program} {g:q8} {H:AB} {n m:Nat} {w:World}
theorem Dn.pure(R:x7 g H n w){s:Sem Value}{r:Fs}{v:Value}(h:s.run P w= .ok v w)(hv:AR g r v):Dn P m g H n w s r:=
 ⟨v,w,g,h,hv,R,q9.refl m g H w⟩
variable {a:Fs} {sz:Nat} {t:TypeId} {x:Value}
theorem EX(h:Fp P t=some sz):∃i d,P.info? t=some i/\P.underlying t=some d/\i.size=sz/\0<sz:=by
 unfold Fp at h;split at h
 ·grind
 ·cases h
theorem Bz(h:Fp P t=some sz):(sizeOf t).run P w= .ok sz w:=by
 obtain⟨i,d,hi,hd,rfl,_⟩:=EX h;simp [sizeOf,typeInfo,hi]
theorem Pp(h:Fp P t=some sz):(isAgg t).run P w= .ok (IA P t) w:=by
 obtain⟨i,d,hi,hd,_,_⟩:=EX h;simp only[isAgg,Sem.run_bind,run_underlying hd,Result.andThen_ok,IA,hd];cases d<;>simp
theorem Lz(h:Fp P t=some sz){b off:Nat}{cs:List Fs}(hp:wM g (λo=>w.cell? ⟨b,o,none⟩) off cs)(hl:cs.length=sz):
  ∃v,(loadVar t ⟨b,off,none⟩).run P w= .ok v w/\AR g (mk (IA P t) cs) v:=by
 obtain⟨vs,h1,h2,h3⟩:=hp.list;have hvl:=wI.length _ _ h1;obtain⟨_,_,_,_,_,hpos⟩:=EX h;simp only[loadVar,Sem.run_bind,Pp h,Result.andThen_ok];cases hag:IA P t with
 |true=>
  have hload:(loadCells ⟨b,off,none⟩ sz).run P w= .ok vs.toArray w:=by
   have:=run_loadCells_list (P:=P) w ⟨b,off,none⟩ vs (λj v hv=>by rw[B4];exact h2 j v hv)
   rwa[hvl,hl]at this
  refine⟨.agg vs.toArray,?_,⟨vs.toArray,rfl,by simpa using h1,by simpa using h3⟩⟩;simp only[tD,Sem.run_bind,Bz h,Result.andThen_ok,hload];simp
 |false=>
  cases vs with
  |nil=>simp at hvl;omega
  |cons v rest=>
   cases cs with
   |nil=>simp at hl;omega
   |cons c cs=>
    obtain⟨v',rest',e,k1,k2⟩:=h1;cases e;refine⟨v,?_,by simpa [mk]using k1⟩;have:=h2 0 v rfl;simp only[sN,sY,run_load];simp only[um]at this;rw[this]
theorem wM.cell{b:Nat}{c:Array Value}{e:TypeId}{fz:Nat×Nat}(h:w.heap[b]?=some (.cells c e fz)){cs:List Fs}{o:Nat}(hp:wM g (λo=>c[o]?) o cs):wM g (λo=>w.cell? ⟨b,o,none⟩) o cs:=
 wM.mono (.refl g) (λo x hx=>by rw[BK h];exact hx) cs o hp
theorem wM.ofElem{f:Nat->Option Value}{e:Fs}{v:Value}{o:Nat}(h:AR g e v)(h1:∀(j:Nat) x,v.cells[j]?=some x->f (o+j)=some x)(hone:∀x∈v.cells.toList,x.oneCell'=true):wM g f o e.cells:=
 wM.of e.cells v.cells.toList o h.cells (λj x hx=>h1 j x (by simpa using hx)) hone
theorem Sf(R:x7 g H n w)(h:Fp P t=some sz)(hx:AR g a x)(hs:(A7 H sz (IA P t) a).1):
  Dn P m g H n w (Instr.loadAt t x) (A7 H sz (IA P t) a).2:=by
 have fin:∀{b off:Nat} {cs:List Fs},x= .pointer (some ⟨b,off,none⟩)->wM g (λo=>w.cell? ⟨b,o,none⟩) off cs->sz<=cs.length->
   Dn P m g H n w (Instr.loadAt t x) (mk (IA P t) (cs.take sz)):=by
  intro b off cs e hp hl;subst e;obtain⟨v,h1,h2⟩:=Lz h (hp.take sz) (by rw[sU];omega);exact Dn.pure R (by simp [Instr.loadAt,Instr.sureAddr,h1]) h2
 cases a<;>simp only[A7]at hs⊢ <;>first|exact hs.elim|skip
 case ptr id off=>
  obtain⟨L,h1,h2,rfl⟩:=hx;cases ho:AD H id with
  |none=>simp [ho]at hs
  |some ob=>
   cases ob<;>simp only[ho]at hs⊢ <;>first|exact hs.elim|skip
   case box cs=>
    obtain⟨L',c,e,k1,k2,k3,k4,k5,k6⟩:=R.obj id _ ho;rw[h1]at k1;cases k1;have hp:wM g (λo=>w.cell? ⟨L.wR,o,none⟩) off (cs.drop off):=wM.cell k4 (by simpa using wM.drop off cs 0 k6);exact fin rfl hp (by rw[ue];omega)
 case ep cells=>
  obtain⟨b,o,rfl,h1⟩:=hx;exact fin rfl (wM.mono (.refl g) (R.σw b) cells o h1) hs
 case ap id esz i off=>
  obtain⟨L,h1,h2,rfl⟩:=hx;have go:∀{l:List Fs} {f:Nat->Option Value},wL g esz f 0 l->(∀o v,f o=some v->w.cell? ⟨L.wR,o,none⟩=some v)->i<l.length->off+sz<=esz->
    Dn P m g H n w (Instr.loadAt t (.pointer (some ⟨L.wR,i*esz+off,none⟩))) (mk (IA P t) (((l[i]?.getD (.wJ [])).cells.drop off).take sz)):=by
   intro l f wX hf hi xG;obtain⟨v,q1,q2,q3⟩:=wX.elem i l 0 hi;have hp:wM g (λo=>w.cell? ⟨L.wR,o,none⟩) (i*esz) (l[i]?.getD (.wJ [])).cells:=wM.ofElem q1 (λj x hx=>hf _ _ (by simpa using q3 j x hx)) q2.2;have hlen:(l[i]?.getD (.wJ [])).cells.length=esz:=by
    rw[<-wI.length _ _ q1.cells];simpa using q2.1
   exact fin rfl (hp.drop off) (by rw[ue,hlen];omega)
  cases ho:AD H id with
  |none=>simp [ho]at hs
  |some ob=>
   cases ob<;>simp only[ho]at hs⊢ <;>first|exact hs.elim|skip
   case arr e l=>
    obtain⟨rfl,hi,xG⟩:=hs;obtain⟨L',c,e',k1,k2,k3,k4,k5,k6⟩:=R.obj id _ ho;rw[h1]at k1;cases k1;exact go k6 (λo v hv=>by rw[BK k4];exact hv) hi xG
   case frz e l=>
    obtain⟨rfl,hi,xG⟩:=hs;obtain⟨L',k1,k2,k3⟩:=R.obj id _ ho;rw[h1]at k1;cases k1;exact go k3 (R.σw L.wR) hi xG
theorem FV{k:IntKind}(h:J3 k a)(hx:AR g a x):∃n,a= .int k n/\x= .int k n:=by
 cases a<;>simp only[J3]at h<;>first|exact h.elim|skip
 subst h;exact⟨_,rfl,hx⟩
theorem Cy(h:C4 a)(hx:AR g a x):∃k n,a= .int k n/\x= .int k n:=by
 cases a<;>simp only[C4]at h<;>first|exact h.elim|skip
 exact⟨_,_,rfl,hx⟩
theorem J9(h:J4 a)(hx:AR g a x):∃b,a= .bool b/\x= .bool b:=by
 cases a<;>simp only[J4]at h<;>first|exact h.elim|skip
 exact⟨_,rfl,hx⟩
theorem EY(h:JR a)(hx:AR g a x):∃s,a= .str s/\x= .string ⟨s.toArray⟩:=by
 cases a<;>simp only[JR]at h<;>first|exact h.elim|skip
 exact⟨_,rfl,hx⟩
theorem Ff(op:BinOp)(t:TypeId)(x y:Operand)(k k':IntKind)(a b:Int):(eqGuard op t x y (.int k a) (.int k' b)).run P w= .ok () w:=by
 cases op<;>simp [eqGuard]
theorem K6(op:BinOp)(t:TypeId)(x y:Operand)(a b:Bool):(eqGuard op t x y (.bool a) (.bool b)).run P w= .ok () w:=by
 cases op<;>simp [eqGuard]
theorem GF(op:BinOp)(t:TypeId)(x y:Operand)(a b:ByteArray):(eqGuard op t x y (.string a) (.string b)).run P w= .ok () w:=by
 cases op<;>simp [eqGuard]
theorem Xt(op:BinOp)(t:TypeId)(k:IntKind)(a b:Int)(xI:op≠ .shl/\op≠ .shr/\op≠ .eql/\op≠ .neq/\op≠ .lss/\op≠ .leq/\op≠ .gtr/\op≠ .geq)(hd:Lu op=true->b≠0):
  (binOp op t (.int k a) (.int k b)).run P w= .ok (.int k (GC op k a b)) w:=by
 obtain⟨h1,h2,h3,h4,h5,h6,h7,h8⟩:=xI;cases op<;>simp_all [binOp,Op.intArith,Op.intDiv,Op.intBits,GC,bD,Lu]
theorem bN(op:BinOp)(t:TypeId)(k:IntKind)(a b:Int)(xI:op= .eql\/op= .neq\/op= .lss\/op= .leq\/op= .gtr\/op= .geq):
  (binOp op t (.int k a) (.int k b)).run P w= .ok (.bool (icmp op a b)) w:=by
 rcases xI with rfl|rfl|rfl|rfl|rfl|rfl<;>simp [binOp,Op.intCmp,icmp]<;>first|rfl|skip
 all_goals (by_cases h:a=b<;>simp [h])
theorem Xu(op:BinOp)(t:TypeId)(k ky:IntKind)(a b:Int)(xI:op= .shl\/op= .shr)(hb:0<=b):
  (binOp op t (.int k a) (.int ky b)).run P w= .ok (.int k (Kz op k a b)) w:=by
 have:¬b<0:=zo
 rcases xI with rfl|rfl<;>simp [binOp,Op.shift,Kz,this]
theorem KA(s:List UInt8):(⟨s.toArray⟩:ByteArray).toList=s:=by
 rw[ByteArray.toList_eq]
end
end
section
variable {P:Program} {g:q8} {H:AB} {n m:Nat} {w:World}
variable {a:Fs} {x y:Operand} {t:TypeId} {v:Value}
theorem Sg(h:Sa v=some a):AR g a v:=by
 have sc:∀{v:Value} {a:Fs},Nb v=some a->AR g a v/\v.oneCell'=true:=by
  intro v a h;unfold Nb at h;split at h<;>cases h;case h_3 s=>exact⟨by simp [AR],rfl⟩
  case h_5=>exact⟨.inl ⟨rfl,rfl,zt⟩,rfl⟩
  all_goals exact⟨rfl,rfl⟩
 have scs:∀(vs:List Value) (as:List Fs),JU vs=some as->wI g as vs/\∀x∈vs,x.oneCell'=true:=by
  intro vs;induction vs with
  |nil=>intro as h;simp [JU]at h;subst h;exact⟨rfl,zw⟩
  |cons v r ih=>
   intro as h;simp only[JU]at h;split at h
   ·rename_i a as' h1 h2;cases h;obtain⟨k1,k2⟩:=sc h1;obtain⟨k3,k4⟩:=ih _ h2;exact⟨⟨v,r,rfl,k1,k3⟩,λx hx=>(tg.1 hx).elim (λe=>e▸k2) (k4 x)⟩
   ·cases h
 unfold Sa at h;split at h
 ·rename_i cs;cases hc:JU cs.toList with
  |none=>simp [hc]at h
  |some as=>simp [hc]at h;subst h;exact⟨cs,rfl,(scs _ _ hc).1,(scs _ _ hc).2⟩
 ·exact(sc h).1
def Qw(P:Program)(m:Nat)(g:q8)(H:AB)(n:Nat)(w:World)(s:Sem Next)(r:Fs):Prop:=
 ∃v w' g',s.run P w= .ok (.value v) w'/\AR g' r v/\x7 g' H n w'/\q9 m g H w g' H w'
def EH(s:Sem Value):Sem Next:=do return .value (<-s)
theorem Dn.val{s:Sem Value}{r:Fs}(h:Dn P m g H n w s r):Qw P m g H n w (EH s) r:=by
 obtain⟨v,w',g',h1,h2,h3,h4⟩:=h;refine⟨v,w',g',?_,h2,h3,h4⟩;simp [EH,h1]
theorem Qw.pure(R:x7 g H n w){s:Sem Next}{r:Fs}(h:s.run P w= .ok (.value v) w)(hv:AR g r v):Qw P m g H n w s r:=
 ⟨v,w,g,h,hv,R,q9.refl m g H w⟩
section
variable {t:TypeId} {x y:Operand} {a b:Fs} {u v:Value} (R:x7 g H n w) (hx:AR g a u) (hy:AR g b v)
include R hx hy
variable {op:BinOp} {k:IntKind}
theorem bO(xI:op= .eql\/op= .neq\/op= .lss\/op= .leq\/op= .gtr\/op= .geq)(s1:J3 k a)(s2:J3 k b):
  Dn P m g H n w (do eqGuard op t x y u v;binOp op t u v) (.bool (icmp op (A9 a) (A9 b))):=by
 obtain⟨i,rfl,rfl⟩:=FV s1 hx;obtain⟨j,rfl,rfl⟩:=FV s2 hy;have h:(do eqGuard op t x y (.int k i) (.int k j);binOp op t (.int k i) (.int k j):Sem Value).run P w= .ok (.bool (icmp op i j)) w:=by
  simp only[Sem.run_bind,Ff,Result.andThen_ok];exact bN _ _ _ _ _ xI
 exact Dn.pure R h rfl
theorem Xv(xI:op≠ .shl/\op≠ .shr/\op≠ .eql/\op≠ .neq/\op≠ .lss/\op≠ .leq/\op≠ .gtr/\op≠ .geq)(s1:J3 k a)(s2:J3 k b)(s3:Lu op=true->A9 b≠0):
  Dn P m g H n w (do eqGuard op t x y u v;binOp op t u v) (.int k (GC op k (A9 a) (A9 b))):=by
 obtain⟨i,rfl,rfl⟩:=FV s1 hx;obtain⟨j,rfl,rfl⟩:=FV s2 hy;have h:(do eqGuard op t x y (.int k i) (.int k j);binOp op t (.int k i) (.int k j):Sem Value).run P w= .ok (.int k (GC op k i j)) w:=by
  simp only[Sem.run_bind,Ff,Result.andThen_ok];exact Xt _ _ _ _ _ xI s3
 exact Dn.pure R h rfl
theorem Pq{ky:IntKind}(xI:op= .shl\/op= .shr)(s1:J3 k a)(s2:J3 ky b)(s3:0<=A9 b):
  Dn P m g H n w (do eqGuard op t x y u v;binOp op t u v) (.int k (Kz op k (A9 a) (A9 b))):=by
 obtain⟨i,rfl,rfl⟩:=FV s1 hx;obtain⟨j,rfl,rfl⟩:=FV s2 hy;have h:(do eqGuard op t x y (.int k i) (.int ky j);binOp op t (.int k i) (.int ky j):Sem Value).run P w= .ok (.int k (Kz op k i j)) w:=by
  simp only[Sem.run_bind,Ff,Result.andThen_ok];exact Xu _ _ _ _ _ _ xI s3
 exact Dn.pure R h rfl
theorem bP(xI:op= .eql\/op= .neq\/op= .lss\/op= .leq\/op= .gtr\/op= .geq)(s1:JR a)(s2:JR b):
  Dn P m g H n w (do eqGuard op t x y u v;binOp op t u v) (.bool (scmp op (GR a) (GR b))):=by
 obtain⟨i,rfl,rfl⟩:=EY s1 hx;obtain⟨j,rfl,rfl⟩:=EY s2 hy;have h:(do eqGuard op t x y (.string ⟨i.toArray⟩) (.string ⟨j.toArray⟩);binOp op t (.string ⟨i.toArray⟩) (.string ⟨j.toArray⟩):Sem Value).run P w= .ok (.bool (scmp op i j)) w:=by grind [Sem.run_bind,GF,Result.andThen_ok,binOp,Op.stringOp,KA,Sem.run_pure,scmp]
 exact Dn.pure R h rfl
theorem bQ(s1:JR a)(s2:JR b)(s3:Al ((GR a).length+(GR b).length) 1):
  Dn P m g H n w (do eqGuard .add t x y u v;binOp .add t u v) (.str (GR a++GR b)):=by
 obtain⟨i,rfl,rfl⟩:=EY s1 hx;obtain⟨j,rfl,rfl⟩:=EY s2 hy;have xG:i.length+j.length<=9223372036854775807:=by simp only[Al,GR]at s3;omega
 have h:(do eqGuard .add t x y (.string ⟨i.toArray⟩) (.string ⟨j.toArray⟩);binOp .add t (.string ⟨i.toArray⟩) (.string ⟨j.toArray⟩):Sem Value).run P w= .ok (.string (⟨i.toArray⟩++⟨j.toArray⟩)) w:=by
  simp only[Sem.run_bind,GF,Result.andThen_ok,binOp];exact run_string_add_sum (P:=P) (w:=w) ⟨i.toArray⟩ ⟨j.toArray⟩ (by show i.toArray.size+j.toArray.size<=_;simpa using xG)
 refine Dn.pure R h ?_;simp only[AR,GR];congr 1
theorem WW{neq:Bool}(hu:P.underlying t=some .bool)(s1:J4 a)(s2:J4 b):
  Dn P m g H n w (do eqGuard (if neq then .neq else .eql) t x y u v;binOp (if neq then .neq else .eql) t u v) (.bool (if neq then Fm a !=Fm b else Fm a==Fm b)):=by
 obtain⟨i,rfl,rfl⟩:=J9 s1 hx;obtain⟨j,rfl,rfl⟩:=J9 s2 hy;have h:(do eqGuard (if neq then .neq else .eql) t x y (.bool i) (.bool j);binOp (if neq then .neq else .eql) t (.bool i) (.bool j):Sem Value).run P w= .ok (.bool (if neq then i !=j else i==j)) w:=by
  simp only[Sem.run_bind,K6,Result.andThen_ok];cases neq with
  |false=>exact run_eql_bool (P:=P) (w:=w) t i j hu
  |true=>exact run_neq_bool (P:=P) (w:=w) t i j hu
 exact Dn.pure R h rfl
end
theorem Bu{cs:Array Value}{o:Nat}(ha:∀w,(isAgg t).run P w= .ok false w)(h:cs[o]?=some v):(part t cs o).run P w= .ok v w:=by
 simp [part,ha,h]
theorem Fv{d:Nat}{xs ys:Array Value}:∀(fs:List Field) (o:Nat) (tags:List Nat) (as bs:List Fs),Pn P o fs=some tags->wI g as (xs.toList.drop o)->wI g bs (ys.toList.drop o)->D2 tags as bs->
  (Op.eqFields (d+1) xs ys fs).run P w= .ok (xT as bs) w
 |[],o,tags,as,bs,hf,hx,hy,hc=>by
  simp [Pn]at hf;subst hf;cases as<;>cases bs<;>simp only[D2]at hc<;>first|exact hc.elim|skip
  simp [Op.eqFields,xT]
 |f::fs,o,tags,as,bs,hf,hx,hy,hc=>by
  simp only[Pn]at hf;split at hf
  ·cases hf
  rename_i hn;have hname:f.name≠ "_" :=λe=>hn (.inl e)
  have hoff:f.offset=o:=Decidable.byContradiction λe=>hn (.inr e)
  have next:∀{a b:Fs} {as' bs':List Fs},as=a::as'->bs=b::bs'->∃u v,xs[o]?=some u/\ys[o]?=some v/\AR g a u/\AR g b v/\wI g as' (xs.toList.drop (o+1))/\wI g bs' (ys.toList.drop (o+1)):=by
   intro a b as' bs' e1 e2;subst e1;subst e2;obtain⟨u,r1,q1,q2,q3⟩:=hx;obtain⟨v,r2,q4,q5,q6⟩:=hy;refine⟨u,v,?_,?_,q2,q5,?_,?_⟩
   ·have:=congrArg (λl:List Value=>l[0]?) q1;simpa using this
   ·have:=congrArg (λl:List Value=>l[0]?) q4;simpa using this
   ·have:=congrArg (λl:List Value=>l.drop 1) q1;simp at this;rw[this];exact q3
   ·have:=congrArg (λl:List Value=>l.drop 1) q4;simp at this;rw[this];exact q6
  split at hf
  ·rename_i k l hu hl;cases hf;cases as with
   |nil=>cases bs<;>exact hc.elim
   |cons a as=>
    cases bs with
    |nil=>cases a<;>exact hc.elim
    |cons b bs=>
     cases a<;>(try exact hc.elim);cases b<;>(try exact hc.elim);obtain⟨rfl,hc⟩:=hc;obtain⟨u,v,h1,h2,rfl,rfl,h5,h6⟩:=next rfl rfl
     have ha:∀w,(isAgg f.type).run P w= .ok false w:=λw=>by simp [isAgg,run_underlying hu]
     have ih:=Fv (d:=d) fs (o+1) l as bs hl h5 h6 hc;simp only[Op.eqFields,ne_eq,hname,vu,tD,Sem.run_bind,hoff,Bu ha h1,Bu ha h2,Result.andThen_ok,run_equalIn_int w d f.type _ k _ _ hu,xT,ID];rename_i k' x y;by_cases e:x=y<;>simp [e,ih]
  ·rename_i l hu hl;cases hf;cases as with
   |nil=>cases bs<;>exact hc.elim
   |cons a as=>
    cases bs with
    |nil=>cases a<;>exact hc.elim
    |cons b bs=>
     cases a<;>(try exact hc.elim);cases b<;>(try exact hc.elim);obtain⟨u,v,h1,h2,rfl,rfl,h5,h6⟩:=next rfl rfl
     have ha:∀w,(isAgg f.type).run P w= .ok false w:=λw=>by simp [isAgg,run_underlying hu]
     have ih:=Fv (d:=d) fs (o+1) l as bs hl h5 h6 hc;simp only[Op.eqFields,ne_eq,hname,vu,tD,Sem.run_bind,hoff,Bu ha h1,Bu ha h2,Result.andThen_ok,run_equalIn_bool w d f.type _ _ hu,xT,ID];rename_i x y;cases x<;>cases y<;>simp [ih]
  ·rename_i l hu hl;cases hf;cases as with
   |nil=>cases bs<;>exact hc.elim
   |cons a as=>
    cases bs with
    |nil=>cases a<;>exact hc.elim
    |cons b bs=>
     cases a<;>(try exact hc.elim);cases b<;>(try exact hc.elim);obtain⟨u,v,h1,h2,rfl,rfl,h5,h6⟩:=next rfl rfl
     have ha:∀w,(isAgg f.type).run P w= .ok false w:=λw=>by simp [isAgg,run_underlying hu]
     have ih:=Fv (d:=d) fs (o+1) l as bs hl h5 h6 hc;simp only[Op.eqFields,ne_eq,hname,vu,tD,Sem.run_bind,hoff,Bu ha h1,Bu ha h2,Result.andThen_ok,run_equalIn_string w d f.type _ _ hu,xT,ID,KA];rename_i x y;by_cases e:x=y<;>simp [e,ih]
  ·cases hf
theorem WX(R:x7 g H n w){b:Fs}{u:Value}(hx:AR g a u)(hy:AR g b v){neq:Bool}{fs:Array Field}{tags:List Nat}(hu:P.underlying t=some (.struct fs))(h1:P.stoodInHeld t=false)(h2:P.eqGuardType P.depth t=false)
  (ht:Pn P 0 fs.toList=some tags) {xs ys:List Fs} (ha:a= .agg xs) (hb:b= .agg ys) (hc:D2 tags xs ys):
  Dn P m g H n w (do eqGuard (if neq then .neq else .eql) t x y u v;binOp (if neq then .neq else .eql) t u v) (.bool (if neq then !xT xs ys else xT xs ys)):=by
 subst ha;subst hb;obtain⟨us,rfl,k1,-⟩:=hx;obtain⟨vs,rfl,k2,-⟩:=hy;have hfo:P.fieldsOf t=fs:=by simp [Program.fieldsOf,hu]
 have heq:=run_equalIn_struct (P:=P) w 9999 t us vs (by rw[hfo];exact hu) h1;rw[hfo,Fv (g:=g) (d:=9998) fs.toList 0 tags xs ys ht (by simpa using k1) (by simpa using k2) hc]at heq;have hg:∀op,(eqGuard op t x y (.agg us) (.agg vs)).run P w= .ok () w:=by
  intro op;cases op<;>simp [eqGuard,h2]
 have h:(do eqGuard (if neq then .neq else .eql) t x y (.agg us) (.agg vs);binOp (if neq then .neq else .eql) t (.agg us) (.agg vs):Sem Value).run P w= .ok (.bool (if neq then !xT xs ys else xT xs ys)) w:=by
  simp only[Sem.run_bind,hg,Result.andThen_ok];cases neq with
  |false=>simp only[sN,sY];rw[run_eql_struct,heq];rfl
  |true=>simp only[tD];rw[run_neq_struct,heq];rfl
 exact Dn.pure R h rfl
theorem JX{d:Nat}{e:TypeId}{kd:IntKind}(hu:P.underlying e=some (.int kd)){xs ys:Array Value}:∀(m o:Nat) (as bs:List Fs),wI g as (xs.toList.drop o)->wI g bs (ys.toList.drop o)->D2 (List.replicate m 0) as bs->
  (Op.eqItems (d+1) e 1 xs ys (List.range' o m)).run P w= .ok (xT as bs) w
 |0,o,as,bs,hx,hy,hc=>by
  cases as<;>cases bs<;>simp only[List.replicate_zero,D2]at hc<;>first|exact hc.elim|skip
  simp [Op.eqItems,xT]
 |m+1,o,as,bs,hx,hy,hc=>by
  rw[List.replicate_succ]at hc;cases as with
  |nil=>cases bs<;>exact hc.elim
  |cons a as=>
   cases bs with
   |nil=>cases a<;>exact hc.elim
   |cons b bs=>
    cases a<;>(try exact hc.elim);cases b<;>(try exact hc.elim);obtain⟨rfl,hc⟩:=hc;obtain⟨u,r1,q1,q2,q3⟩:=hx;obtain⟨v,r2,q4,q5,q6⟩:=hy;have h1:xs[o]?=some u:=by have:=congrArg (λl:List Value=>l[0]?) q1;simpa using this
    have h2:ys[o]?=some v:=by have:=congrArg (λl:List Value=>l[0]?) q4;simpa using this
    have h5:wI g as (xs.toList.drop (o+1)):=by have:=congrArg (λl:List Value=>l.drop 1) q1;simp at this;rw[this];exact q3
    have h6:wI g bs (ys.toList.drop (o+1)):=by have:=congrArg (λl:List Value=>l.drop 1) q4;simp at this;rw[this];exact q6
    have q2':u= .int _ _:=q2;have q5':v= .int _ _:=q5;subst q2';subst q5';have ha:∀w,(isAgg e).run P w= .ok false w:=λw=>by simp [isAgg,run_underlying hu]
    have ih:=JX (d:=d) hu m (o+1) as bs h5 h6 hc;rw[List.range'_succ];simp only[Op.eqItems,Sem.run_bind,Nat.mul_one,Bu ha h1,Bu ha h2,Result.andThen_ok,run_equalIn_int w d e _ _ _ _ hu,xT,ID];rename_i k' x y;by_cases q:x=y<;>simp [q,ih]
theorem Si(R:x7 g H n w){e:TypeId}{kd:IntKind}{m':Nat}{b:Fs}{u:Value}(hx:AR g a u)(hy:AR g b v){neq:Bool}(hu:P.underlying t=some (.array m' e))(h2:P.eqGuardType P.depth t=false)(he:P.underlying e=some (.int kd))(hs:Fp P e=some 1)
  {xs ys:List Fs} (ha:a= .agg xs) (hb:b= .agg ys) (hc:D2 (List.replicate m' 0) xs ys):
  Dn P m g H n w (do eqGuard (if neq then .neq else .eql) t x y u v;binOp (if neq then .neq else .eql) t u v) (.bool (if neq then !xT xs ys else xT xs ys)):=by
 subst ha;subst hb;obtain⟨us,rfl,k1,-⟩:=hx;obtain⟨vs,rfl,k2,-⟩:=hy;obtain⟨i,hi,hi1⟩:∃i,P.info? e=some i/\P.cellsOf e=1:=by
  unfold Fp at hs;rw[he]at hs;cases hq:P.info? e with
  |none=>rw[hq]at hs;cases hs
  |some i=>rw[hq]at hs;exact⟨i,rfl,by simp only[Program.cellsOf,hq];exact(show ¬i.size=0/\i.size=1 by simpa using hs).2⟩
 have heq:=run_equalIn_array (P:=P) w 9999 us vs hu hi;rw[hi1,List.range_eq_range',JX (g:=g) (w:=w) (d:=9998) he m' 0 xs ys (by simpa using k1) (by simpa using k2) hc]at heq;have hg:∀op,(eqGuard op t x y (.agg us) (.agg vs)).run P w= .ok () w:=by
  intro op;cases op<;>simp [eqGuard,h2]
 have h:(do eqGuard (if neq then .neq else .eql) t x y (.agg us) (.agg vs);binOp (if neq then .neq else .eql) t (.agg us) (.agg vs):Sem Value).run P w= .ok (.bool (if neq then !xT xs ys else xT xs ys)) w:=by
  simp only[Sem.run_bind,hg,Result.andThen_ok];cases neq with
  |false=>simp only[sN,sY];rw[run_eql_struct,heq];rfl
  |true=>simp only[tD];rw[run_neq_struct,heq];rfl
 exact Dn.pure R h rfl
theorem Xw(R:x7 g H n w){op:BinOp}{yt:TypeId}{x' y':zz}{k:xx}{ρ:Operand->Value}{ρ':zz->Fs}(hx:AR g (ρ' x') (ρ x))(hy:AR g (ρ' y') (ρ y))
  (hc:fu P op t x' y' yt=some k) (hs:(Bd H ρ' k).1):Dn P m g H n w (do eqGuard op t x y (ρ x) (ρ y);binOp op t (ρ x) (ρ y)) (Bd H ρ' k).2:=by
 unfold fu at hc;split at hc
 ·rename_i kd hu;split at hc
  ·split at hc<;>cases hc;exact Pq R hx hy (.inl rfl) hs.1 hs.2.1 hs.2.2
  ·split at hc<;>cases hc;exact Pq R hx hy (.inr rfl) hs.1 hs.2.1 hs.2.2
  all_goals cases hc
  case h_9 h1 h2 h3 h4 h5 h6 h7 h8=>exact Xv R hx hy ⟨h1,h2,h3,h4,h5,h6,h7,h8⟩ hs.1 hs.2.1 hs.2.2
  all_goals exact bO R hx hy zw hs.1 hs.2
 ·split at hc
  ·cases hc;exact bQ R hx hy hs.1 hs.2.1 hs.2.2
  all_goals first|(cases hc;done)|(cases hc;exact bP R hx hy zw hs.1 hs.2)
 ·rename_i hu;split at hc
  ·cases hc;exact WW (neq:=false) R hx hy hu hs.1 hs.2
  ·cases hc;exact WW (neq:=true) R hx hy hu hs.1 hs.2
  ·cases hc
 ·rename_i fs hu;split at hc
  ·cases hc
  rename_i hn;have h1:P.stoodInHeld t=false:=by cases h:P.stoodInHeld t<;>simp_all
  have h2:P.eqGuardType P.depth t=false:=by cases h:P.eqGuardType P.depth t<;>simp_all
  have agg:∀(neq:Bool) l,(Bd H ρ' (.aeq neq l x' y')).1->∃xs ys,ρ' x'= .agg xs/\ρ' y'= .agg ys/\D2 l xs ys/\(Bd H ρ' (.aeq neq l x' y')).2= .bool (if neq then !xT xs ys else xT xs ys):=by
   intro neq l hs;simp only[Bd]at hs⊢;split at hs
   ·rename_i xs ys e1 e2;exact⟨xs,ys,e1,e2,hs,rfl⟩
   ·exact hs.elim
  split at hc
  ·rename_i l hl;cases hc;obtain⟨xs,ys,e1,e2,e3,e4⟩:=agg false l hs;rw[e4];exact WX (neq:=false) R hx hy hu h1 h2 hl e1 e2 e3
  ·rename_i l hl;cases hc;obtain⟨xs,ys,e1,e2,e3,e4⟩:=agg true l hs;rw[e4];exact WX (neq:=true) R hx hy hu h1 h2 hl e1 e2 e3
  ·cases hc
 ·rename_i n e hu;split at hc
  ·cases hc
  rename_i hn;have h2:P.eqGuardType P.depth t=false:=by cases h:P.eqGuardType P.depth t<;>simp_all
  have agg:∀(neq:Bool) l,(Bd H ρ' (.aeq neq l x' y')).1->∃xs ys,ρ' x'= .agg xs/\ρ' y'= .agg ys/\D2 l xs ys/\(Bd H ρ' (.aeq neq l x' y')).2= .bool (if neq then !xT xs ys else xT xs ys):=by
   intro neq l hs;simp only[Bd]at hs⊢;split at hs
   ·rename_i xs ys e1 e2;exact⟨xs,ys,e1,e2,hs,rfl⟩
   ·exact hs.elim
  split at hc
  ·rename_i kd he hz;cases hc;obtain⟨xs,ys,e1,e2,e3,e4⟩:=agg false _ hs;rw[e4];exact Si (neq:=false) R hx hy hu h2 he hz e1 e2 e3
  ·rename_i kd he hz;cases hc;obtain⟨xs,ys,e1,e2,e3,e4⟩:=agg true _ hs;rw[e4];exact Si (neq:=true) R hx hy hu h2 he hz e1 e2 e3
  ·cases hc
 ·cases hc
end
section
variable {P:Program} {g:q8} {H:AB} {n m:Nat} {w:World}
theorem JY(R:x7 g H n w){w':World}{x:Obj}(hx:w'.heap=w.heap.push x)(hos:w'.os=w.os)(htape:w'.tape=w.tape)(hout:w'.output=w.output){c:Array Value}{e:TypeId}{fz:Nat×Nat}(hc:x= .cells c e fz):
  x7 ⟨g.β,λb o=>if b=w.heap.size then c[o]? else g.σ b o⟩ H n w'/\q9 m g H w ⟨g.β,λb o=>if b=w.heap.size then c[o]? else g.σ b o⟩ H w'/\g.le ⟨g.β,λb o=>if b=w.heap.size then c[o]? else g.σ b o⟩:=by
 subst hc;have hext:JW w w':=JW.push hx;have yy:w'.heap[w.heap.size]?=some (.cells c e fz):=by rw[hx];simp
 have old:∀b o v,g.σ b o=some v->b≠w.heap.size:=by
  intro b o v h e;have:=R.σw b o v h;subst e;simp [World.cell?]at this
 have hσ:∀b o v,g.σ b o=some v->(if b=w.heap.size then c[o]? else g.σ b o)=some v:=λb o v h=>by rw[sg (old b o v h)];exact h
 refine⟨R.grow hext hσ ?_,q9.grow hext hos htape hout hσ ?_,⟨λ_ _ h=>h,hσ⟩⟩
 ·intro b o v h;by_cases hb:b=w.heap.size
  ·subst hb;rw[sn rfl]at h;exact .inr ⟨sj _,by rw[BK yy];exact h⟩
  ·rw[sg hb]at h;exact .inl h
 ·grind
variable {u:Value}
theorem gA(R:x7 g H n w){a:Fs}(hx:AR g a u)(hs:J4 a):Dn P m g H n w (Op.unary .not u) (.bool (!Fm a)):=by
 obtain⟨b,rfl,rfl⟩:=J9 hs hx;exact Dn.pure R (v:=.bool (!b)) (by simp [Op.unary]) rfl
theorem gB(R:x7 g H n w){a:Fs}{k:IntKind}(hx:AR g a u)(hs:J3 k a):Dn P m g H n w (Op.unary .neg u) (.int k (k.wrap (0-A9 a))):=by
 obtain⟨b,rfl,rfl⟩:=FV hs hx;exact Dn.pure R (v:=.int k (k.wrap (0-b))) (by simp [Op.unary,Op.intArith]) rfl
theorem UX(R:x7 g H n w){s d:TypeId}{x':zz}{k:xx}{ρ':zz->Fs}(hx:AR g (ρ' x') u)(hc:WQ P s d x'=some k)(hs:(Bd H ρ' k).1):
  Dn P m g H n w (convert s d u) (Bd H ρ' k).2:=by
 unfold WQ at hc;split at hc
 ·rename_i k1 k2 h1 h2;cases hc;obtain⟨kk,i,e1,rfl⟩:=Cy hs hx;refine Dn.pure R (v:=.int k2 (k2.wrap i)) ?_ (by simp only[Bd,e1,A9,AR]);simp [convert,run_underlying h1,run_underlying h2,Conv.intToInt]
 ·rename_i h1 h2;cases hc;obtain⟨l,e1,rfl⟩:=EY hs hx;refine Dn.pure R (v:=.string ⟨l.toArray⟩) ?_ (by simp only[Bd,e1,GR,AR]);simp [convert,run_underlying h1,run_underlying h2]
 ·rename_i e h1 h2;split at hc
  ·rename_i he;cases hc;simp only[Bd]at hs⊢;generalize ha:ρ' x'=a at hs hx⊢;cases a<;>simp only[]at hs⊢ <;>first|exact hs.elim|skip
   case sl tok l=>
    obtain⟨ht,bs,rfl⟩:=hs;have hback:(bs.map λb:UInt8=>Fs.int .u8 b.toNat).map (λv=>UInt8.ofNat (A9 v).toNat)=bs:=by
     rw[uP];conv=>rhs;rw[<-List.map_id bs]
     apply tG;intro b _;simp [A9]
    rw[hback];rcases hx with⟨hl,rfl,_⟩|⟨htok,b,o,cap,⟨sp,rfl,yS⟩,xO,wX,_⟩
    ·have:bs=[]:=by simpa using hl
     subst this;refine Dn.pure R (v:=.string ⟨#[]⟩) ?_ rfl;rw[run_convert_bytes_string w s d e none 0 0 h1 he h2];rfl
    ·by_cases hb0:bs=[]
     ·subst hb0;refine Dn.pure R (v:=.string ⟨#[]⟩) ?_ rfl;exact(run_convert_bytes_string (P:=P) w s d e (some ⟨b,o,sp⟩) 0 cap h1 he h2).trans rfl
     have hsp':sp=none:=yS.resolve_right λq=>hb0 (by simpa using q.1)
     subst hsp';have h1':tok.esz=1:=by
      rcases ht with rfl|ht
      ·exact htok.elim
      ·exact ht
     rw[h1']at wX;refine Dn.pure R (v:=.string ⟨bs.toArray⟩) ?_ rfl;have:=run_convert_bytes_back (P:=P) w s d e ⟨b,o,none⟩ cap bs h1 he h2 (by
      intro j hj;obtain⟨v,q1,q2,q3⟩:=wX.elem j _ o (by simpa using hj);have:v= .int .u8 (bs[j].toNat:Int):=by grind [List.getElem?_eq_getElem,AR]
      subst this;rw[B4];have:=q3 0 (.int .u8 (bs[j].toNat:Int)) rfl;simp at this;exact R.σw _ _ _ this)
     simpa using this
  ·cases hc
 ·rename_i e h1 h2;split at hc
  ·rename_i he xG;cases hc;obtain⟨l,e1,rfl⟩:=EY hs hx;have wS:=run_bytes_of_string (P:=P) w s d e ⟨l.toArray⟩ h1 h2 he;obtain⟨r1,r2,r3⟩:=JY (m:=m) R (w':=(w.drew.alloc (.cells (bytesRow ⟨l.toArray⟩ (grownCap w (ByteArray.size ⟨l.toArray⟩) 0 e)) e ((bytesRow ⟨l.toArray⟩ (grownCap w (ByteArray.size ⟨l.toArray⟩) 0 e)).size,(bytesRow ⟨l.toArray⟩ (grownCap w (ByteArray.size ⟨l.toArray⟩) 0 e)).size+1)))) rfl rfl rfl rfl rfl;refine⟨_,_,_,wS,?_,r1,r2⟩;simp only[Bd,e1,GR];have hszl:ByteArray.size ⟨l.toArray⟩=l.length:=by show l.toArray.size=_;simp
   refine .inr ⟨zt,w.heap.size,0,grownCap w (ByteArray.size ⟨l.toArray⟩) 0 e,⟨none,by rw[hszl];simp,.inl rfl⟩,?_,?_,zt⟩
   ·rw[hszl];simpa using grownCap_ge w l.length 0 e
   ·simp only[v8.esz,tD];have:∀(l1 l2:List UInt8) (r:List Value) (o:Nat) (f:Nat->Option Value),(∀j (x:UInt8),l2[j]?=some x->f (o+j)=some (.int .u8 x.toNat))->wL ⟨g.β,λb o=>if b=w.heap.size then(bytesRow ⟨l.toArray⟩ (grownCap w (ByteArray.size ⟨l.toArray⟩) 0 e))[o]? else g.σ b o⟩ 1 f o (l2.map λb=>.int .u8 b.toNat):=by
     intro l1 l2;induction l2 with
     |nil=>intro r o f _;trivial
     |cons b l2 ih=>
      intro r o f hf;refine⟨⟨.int .u8 b.toNat,rfl,⟨rfl,by simp [Value.cells,Value.oneCell']⟩,?_⟩,ih r (o+1) f λj x hx=>?_⟩
      ·intro j x hx;cases j with
       |zero=>simp [Value.cells]at hx;subst hx;simpa using hf 0 b rfl
       |succ j=>simp [Value.cells]at hx
      ·have:=hf (j+1) x (by simpa using hx);rwa[show o+(j+1)=o+1+j from by omega]at this
    refine this l l [] 0 _ λj x hx=>?_
    have hj:j<l.length:=(t8.1 hx).1;simp only[tx,bytesRow];rw[Array.getElem?_append_left (by simpa using hj)];simp [hx]
  ·cases hc
 ·cases hc
end
theorem JI(off:Nat):∀(l:List Value) (k:Nat) (cells:Array Value),off+k+l.length<=cells.size->
  ((l.zipIdx k).foldl (λcs p=>cs.setIfInBounds (off+p.2) p.1) cells).toList=cells.toList.take (off+k)++l++cells.toList.drop (off+k+l.length)
 |[],k,cells,_=>zw
 |v::rest,k,cells,h=>by
  simp only[sM]at h;rw[List.zipIdx_cons,ug,JI off rest (k+1) _ (by simp;omega)];have e:=list_seg_step cells.toList (off+k) v rest (by simp;omega);simpa [Array.toList_setIfInBounds,Nat.add_assoc]using e
def putCells(off:Nat)(v:Value)(cells:Array Value):Array Value:=v.cells.zipIdx.foldl (λcs (c,j)=>cs.setIfInBounds (off+j) c) cells
def Pr(off:Nat)(v:Value)(cells:Array Value)(h:off+v.cells.size<=cells.size):
  (putCells off v cells).toList=cells.toList.take off++v.cells.toList++cells.toList.drop (off+v.cells.size):=by
 have:=JI off v.cells.toList 0 cells (by simpa using h);simp only[um,tq]at this;rw[<-this,putCells,<-Array.toList_zipIdx,Array.foldl_toList]
section
variable {P:Program} {g:q8} {H:AB} {n m:Nat} {w:World}
variable {z:Fs} {parts:Array (Nat×Operand)} {esz s:Nat} {ρ':zz->Fs} {ρ:Operand->Value} {t e:TypeId}
theorem Sj{place:Nat->Option (Nat×Nat)}:∀(parts:List (Nat×Operand)) (yD:List (Nat×Nat×zz)) (zs:List Fs) (cells:Array Value),
  HQ place parts=some yD->(∀x x',Az x=some x'->x'∈yD.map (·.2.2)->AR g (ρ' x') (ρ x))->
  (∀p∈yD,nT (ρ' p.2.2)/\(ρ' p.2.2).cells.length=p.2.1/\p.1+p.2.1<=zs.length)->wI g zs cells.toList->(∀x∈cells.toList,x.oneCell'=true)->
  ∃xB,Instr.fill place cells (parts.map λ(i,x)=>(i,ρ x))=some xB/\wI g (yD.foldl (λcs p=>wZ cs p.1 (ρ' p.2.2).cells) zs) xB.toList/\∀x∈xB.toList,x.oneCell'=true
 |[],yD,zs,cells,hc,_,_,h,h1=>by
  simp only[HQ]at hc;cases hc;exact⟨cells,rfl,h,h1⟩
 |(i,x)::parts,yD,zs,cells,hc,hv,hs,h,h1=>by
  simp only[HQ]at hc;split at hc
  ·rename_i off size a as e1 e2 e3;cases hc;obtain⟨s0,s1,s2⟩:=hs (off,size,a) zw;dsimp only at s0 s1 s2;have hva:=hv x a e2 zw;have xG:(ρ x).cells.size=size:=by
    have:=wI.length _ _ hva.cells;simp only[tq]at this;omega
   have hzl:=wI.length _ _ h;simp only[tq]at hzl;have yw:off+(ρ x).cells.size<=cells.size:=zo
   have step:=Pr off (ρ x) cells yw;have hr:wI g (wZ zs off (ρ' a).cells) (cells.toList.take off++(ρ x).cells.toList++cells.toList.drop (off+(ρ x).cells.size)):=by
    have:=wI.wZ (off:=off) h hva.cells;simpa using this
   obtain⟨xB,k1,k2,k3⟩:=Sj parts as (wZ zs off (ρ' a).cells) (putCells off (ρ x) cells) e3
    (λy y' hy hm=>hv y y' hy (by simp only[sS,tg];exact .inr hm))
    (λp hp=>by
     obtain⟨t0,t1,t2⟩:=hs p (by simp [hp]);refine⟨t0,t1,?_⟩;have:(wZ zs off (ρ' a).cells).length=zs.length:=by
      simp only[wZ,sH,sU,ue];omega
     omega)
    (by rw[step];exact hr)
    (by
     rw[step];intro y hy;rcases tP.1 hy with hy|hy
     ·rcases tP.1 hy with hy|hy
      ·exact h1 y (vL hy)
      ·exact hva.one s0 y hy
     ·exact h1 y (vM hy))
   refine⟨xB,?_,by simpa using k2,k3⟩;simp only[sS,Instr.fill,e1];rw[sg (by simp [xG];omega)];exact k1
  ·cases hc
theorem Cg(h:Cf P t=some z):∃i zv,P.info? t=some i/\i.zero=some zv/\(∀g,AR g z zv)/\zv.cells.size=i.size/\z.cells.length=i.size/\i.size≠0/\nT z:=by
 unfold Cf at h;split at h
 ·rename_i i hi;split at h
  ·rename_i zv hz;split at h
   ·rename_i a ha;split at h
    ·rename_i hl;cases h;have hr:∀g,AR g z zv:=λg=>Sg ha
     have xG:zv.cells.size=i.size:=by
      have:=wI.length _ _ (hr ⟨λ_=>none,λ_ _=>none⟩).cells;simp only[tq]at this;omega
     refine⟨i,zv,hi,hz,hr,xG,hl.1,hl.2,?_⟩;unfold Sa Nb at ha;split at ha
     ·rename_i cs;cases xl:JU cs.toList<;>simp [xl]at ha;subst ha;trivial
     ·split at ha<;>cases ha<;>trivial
    ·cases h
   ·cases h
  ·cases h
 ·cases h
theorem Sk(R:x7 g H n w){mkv:Bool}{k:xx}(hc:CW P mkv (.build t parts)=some k)
  (hv:∀x x',Az x=some x'->x'∈k.wH->AR g (ρ' x') (ρ x)) (hs:(Bd H ρ' k).1):Dn P m g H n w (Instr.build t (parts.map λ(i,x)=>(i,ρ x))) (Bd H ρ' k).2:=by
 have fin:∀(place:Nat->Option (Nat×Nat)) (z:Fs) (zv:Value) ps,Cf P t=some z->(∀g,AR g z zv)->nT z->HQ place parts.toList=some ps->k= .build z.cells ps->
   (∀cells,Instr.fill place zv.cells ((parts.map λ(i,x)=>(i,ρ x)).toList)=some cells->(Instr.build t (parts.map λ(i,x)=>(i,ρ x))).run P w= .ok (.agg cells) w)->
   Dn P m g H n w (Instr.build t (parts.map λ(i,x)=>(i,ρ x))) (Bd H ρ' k).2:=by
  intro place z zv ps h1 h2 h3 h4 h5 h6;subst h5;obtain⟨cells,q1,q2,q3⟩:=Sj (g:=g) (ρ:=ρ) (ρ':=ρ') parts.toList ps z.cells zv.cells h4 (λx x' a b=>hv x x' a b) hs (h2 g).cells ((h2 g).one h3);refine Dn.pure R (h6 cells (by simpa using q1)) ?_;simp only[Bd];exact⟨cells,rfl,q2,q3⟩
 simp only[CW]at hc;split at hc
 ·rename_i z fs hz hu;split at hc
  ·rename_i pl xg;cases hcp:HQ (λi=>pl[i]?) parts.toList with
   |none=>simp [hcp]at hc
   |some ps=>
    simp [hcp]at hc;obtain⟨i,zv,hi,hzz,hr,xG,hl,h0,hnt⟩:=Cg hz;refine fin (λi=>pl[i]?) z zv ps hz hr hnt hcp hc.symm λcells hf=>run_build w t _ cells ?_
    simp only[Program.built,hi,hu,hzz];have:fs.toList.mapM (λf=>(P.info? f.type).map λi=>(f.offset,i.size))=some pl:=xg;simp only[this];simpa using hf
  ·cases hc
 ·rename_i z nn e hz hu;split at hc
  ·rename_i s hsz';obtain⟨ie,de,hie,hde,rfl,hpos⟩:=EX hsz';cases hcp:HQ (λi=>some (i*ie.size,ie.size)) parts.toList with
   |none=>simp [hcp]at hc
   |some ps=>
    simp [hcp]at hc;obtain⟨i,zv,hi,hzz,hr,xG,hl,h0,hnt⟩:=Cg hz;refine fin (λi=>some (i*ie.size,ie.size)) z zv ps hz hr hnt hcp hc.symm λcells hf=>run_build w t _ cells ?_
    simp only[Program.built,hi,hu,hzz,hie];exact hf
  ·cases hc
 ·cases hc
theorem wL.set{f f':Nat->Option Value}{a:Fs}{v:Value}(hv:AR g a v)(xG:GB esz v):∀(i:Nat) (l:List Fs) (o:Nat),i<l.length->
  (∀(j:Nat) x,v.cells[j]?=some x->f' (o+i*esz+j)=some x)->(∀j,(j<o+i*esz\/o+i*esz+esz<=j)->f' j=f j)->wL g esz f o l->wL g esz f' o (l.set i a)
 |_,[],_,h,_,_,_=>by simp at h
 |0,e::l,o,_,h1,h2,⟨_,h4⟩=>⟨⟨v,hv,xG,by simpa using h1⟩,wL.eq l (o+esz) (λj a b=>h2 j (.inr zo)) h4⟩
 |i+1,e::l,o,h,h1,h2,⟨⟨u,k1,k2,k3⟩,h4⟩=>by
  have he:∀x,o+(i+1)*esz+x=o+esz+i*esz+x:=λx=>by rw[tA];omega
  refine⟨⟨u,k1,k2,λj x hx=>?_⟩,wL.set hv xG i l (o+esz) (by simpa using h) (λj x hx=>by rw[<-he];exact h1 j x hx) (λj hj=>h2 j ?_) h4⟩
  ·have hj:j<esz:=by rw[<-k2.1];exact(sW.1 hx).1
   rw[h2 (o+j) (.inl (by have:=he 0;omega))];exact k3 j x hx
  ·simp_all
theorem wL.replicate{f:Nat->Option Value}{a:Fs}{v:Value}(hv:AR g a v)(xG:GB esz v):∀(k o:Nat),(∀i<k,∀(j:Nat) x,v.cells[j]?=some x->f (o+i*esz+j)=some x)->wL g esz f o (List.replicate k a)
 |0,_,_=>trivial
 |k+1,o,h=>⟨⟨v,hv,xG,by simpa using h 0 zo⟩,wL.replicate hv xG k (o+esz) λi hi j x hx=>by
   have:=h (i+1) zo j x hx;rwa[show o+(i+1)*esz+j=o+esz+i*esz+j from by rw[tA];omega]at this⟩
theorem FJ{z:Array Value}{k i j:Nat}{x:Value}(hi:i<k)(hj:z[j]?=some x):(madeCells z (k*z.size))[i*z.size+j]?=some x:=by
 have e9:j<z.size:=(sW.1 hj).1;have wl:i*z.size+j<k*z.size:=by
  have:(i+1)*z.size<=k*z.size:=tT _ hi;rw[tA]at this;omega
 have hmod:(i*z.size+j) % z.size=j:=by rw[Nat.mul_comm,Nat.mul_add_mod,Nat.mod_eq_of_lt e9]
 unfold madeCells;rw[Array.getElem?_map,uu (by simpa using wl)];simp only[Array.getElem_range,td,hmod];rw[getElem!_pos z j e9,(sW.1 hj).2]
theorem Xx(R:x7 g H n w){i:TypeInfo}{x':zz}{u:Value}(hu:P.underlying t=some (.slice e))(hi:P.info? e=some i)(hz:Cf P e=some z)(xG:Fp P e=some s)
  (hx:AR g (ρ' x') u) (hs:(Bd H ρ' (.mkz s i.bytes z x')).1):Dn P m g H n w (Instr.makeSlice t u u) (Bd H ρ' (.mkz s i.bytes z x')).2:=by
 obtain⟨h1,h2,h3,h4,h5⟩:=hs;obtain⟨k,c,e1,rfl⟩:=Cy h1 hx;obtain⟨i',zv,z9,hzz,hr,hzs,hl,h0,hnt⟩:=Cg hz;rw[hi]at z9;cases z9;obtain⟨i'',d,hi'',hd,yg,hpos⟩:=EX xG;rw[hi]at hi'';cases hi'';rw[e1]at h2 h3 h4;simp only[A9]at h2 h3 h4;have hb:(i.bytes:Int)*c<=281474976710656:=by grind [Al,Int.toNat_natCast,Nat.mul_comm]
 have wS:=run_make (P:=P) w t e i zv hu hi hzz k k c c h2 (vA _) hb zo;obtain⟨r1,r2,r3⟩:=JY (m:=m) R (w':=w.alloc (.cells (madeCells zv.cells (c.toNat*i.size)) e)) rfl rfl rfl rfl rfl;refine⟨_,_,_,wS,?_,r1,r2⟩;simp only[Bd,e1,A9];refine .inr ⟨zt,w.heap.size,0,c.toNat,⟨none,zw,.inl rfl⟩,zw,?_,zw⟩;simp only[v8.esz,tD];have hzv:GB s zv:=⟨zo,(hr ⟨λ_=>none,λ_ _=>none⟩).one hnt⟩;refine wL.replicate (hr _) hzv _ _ λa ha j x hx=>?_
 simp only[tx];have:=FJ (z:=zv.cells) (k:=c.toNat) ha hx;rw[hzs]at this;rw[<-yg];exact this
theorem Ps:∀(parts:List (Nat×Operand)) (yD:List (Nat×zz)) (l:List Fs) (cells:Array Value),
  FI parts=some yD->(∀x x',Az x=some x'->x'∈yD.map (·.2)->AR g (ρ' x') (ρ x))->
  (∀p∈yD,nT (ρ' p.2)/\(ρ' p.2).cells.length=esz/\p.1<l.length)->cells.size=l.length*esz->wL g esz (λo=>cells[o]?) 0 l->
  ∃xB,Instr.fill (λi=>some (i*esz,esz)) cells (parts.map λ(i,x)=>(i,ρ x))=some xB/\xB.size=cells.size/\wL g esz (λo=>xB[o]?) 0 (yD.foldl (λl p=>l.set p.1 (ρ' p.2)) l)
 |[],yD,l,cells,hc,_,_,xG,h=>by
  simp only[FI]at hc;cases hc;exact⟨cells,rfl,rfl,h⟩
 |(i,x)::parts,yD,l,cells,hc,hv,hs,xG,h=>by
  simp only[FI]at hc;split at hc
  ·rename_i a as e2 e3;cases hc;obtain⟨s0,s1,s2⟩:=hs (i,a) zw;simp only[]at s1 s2;have hva:=hv x a e2 zw;have hsx:(ρ x).cells.size=esz:=by
    have:=wI.length _ _ hva.cells;simp only[tq]at this;omega
   have yw:i*esz+(ρ x).cells.size<=cells.size:=by
    rw[hsx,xG];have:(i+1)*esz<=l.length*esz:=tT _ s2;rw[tA]at this;omega
   have step:=Pr (i*esz) (ρ x) cells yw;have hsize:(putCells (i*esz) (ρ x) cells).size=cells.size:=by grind [Array.length_toList,List.length_append,List.length_take,List.length_drop]
   have AD:∀o,(putCells (i*esz) (ρ x) cells)[o]?=if i*esz<=o/\o<i*esz+esz then(ρ x).cells[o-i*esz]? else cells[o]?:=by
    intro o;rw[<-tW,step];by_cases h1:o<i*esz
    ·grind
    ·grind
   obtain⟨xB,k1,k2,k3⟩:=Ps parts as (l.set i (ρ' a)) (putCells (i*esz) (ρ x) cells) e3
    (λy y' hy hm=>hv y y' hy (by simp only[sS,tg];exact .inr hm))
    (λp hp=>by
     obtain⟨t0,t1,t2⟩:=hs p (by simp [hp]);exact⟨t0,t1,by simpa using t2⟩)
    (by rw[hsize,xG];simp)
    (wL.set hva ⟨hsx,hva.one s0⟩ i l 0 s2 (λj x' hx'=>by
      have hj:j<esz:=by rw[<-hsx];exact(sW.1 hx').1
      rw[AD,sn zo];rw[show 0+i*esz+j-i*esz=j from by omega];exact hx')
     (λj hj=>by rw[AD,sg zo]) h)
   refine⟨xB,?_,by rw[k2,hsize],by simpa using k3⟩;simp only[sS,Instr.fill];rw[sg (by simp [hsx];omega)];exact k1
  ·cases hc
theorem bR{w:World}{len:Nat}{ps:List (Nat×zz)}(hu:P.underlying t=some (.slice e))(hz:Cf P e=some z)(xG:Fp P e=some s)
  (hc:FI parts.toList=some ps) (hv:∀x x',Az x=some x'->x'∈ps.map (·.2)->AR g (ρ' x') (ρ x)) (h1:∀p∈ps,nT (ρ' p.2)/\(ρ' p.2).cells.length=s/\p.1<len) (h3:len*s<=16777216):
  ∃cells:Array Value,(Instr.buildSlice t len (parts.map λ(i,x)=>(i,ρ x))).run P w= .ok (.slice (some ⟨w.heap.size,0,none⟩) len len) (w.alloc (.cells cells e))/\cells.size=len*s/\
   wL g s (λo=>cells[o]?) 0 (ps.foldl (λl p=>l.set p.1 (ρ' p.2)) (List.replicate len z)):=by
 obtain⟨i,zv,hi,hzz,hr,hzs,hl,h0,hnt⟩:=Cg hz;obtain⟨i'',d,hi'',hd,rfl,hpos⟩:=EX xG;rw[hi]at hi'';cases hi'';have hmade:wL g i.size (λo=>(madeCells zv.cells (len*i.size))[o]?) 0 (List.replicate len z):=by
  refine wL.replicate (hr _) ⟨hzs,(hr ⟨λ_=>none,λ_ _=>none⟩).one hnt⟩ _ _ λa ha j x hx=>?_
  simp only[tx];have:=FJ (z:=zv.cells) (k:=len) ha hx
  rwa[hzs]at this
 obtain⟨cells,q1,q2,q3⟩:=Ps (g:=g) (ρ:=ρ) (ρ':=ρ') parts.toList ps (List.replicate len z) (madeCells zv.cells (len*i.size)) hc hv
  (λp hp=>by obtain⟨a,b,c⟩:=h1 p hp;exact⟨a,b,by simpa using c⟩) (by rw[size_madeCells];simp) hmade
 have hlen:∀(ps:List (Nat×zz)) (l:List Fs),(ps.foldl (λl p=>l.set p.1 (ρ' p.2)) l).length=l.length:=by
  intro ps;induction ps with
  |nil=>intro l;rfl
  |cons p ps ih=>intro l;simp [ih]
 have wS:(Instr.buildSlice t len (parts.map λ(i,x)=>(i,ρ x))).run P w= .ok (.slice (some ⟨w.heap.size,0,none⟩) len len) (w.alloc (.cells cells e)):=by
  have hn:¬(16777216<len*i.size):=zo
  have hq:Instr.fill (λi_1=>some (i_1*i.size,i.size)) ((Array.range (len*i.size)).map (zv.cells[· % zv.cells.size]!)) (parts.map λ(i,x)=>(i,ρ x)).toList=some cells:=by simpa [madeCells]using q1
  by_cases h00:len*i.size=0
  ·have hlen0:len=0:=(Nat.mul_eq_zero.1 h00).resolve_right h0;subst hlen0;have hr0:∀(f:Nat->Value),(Array.range 0).map f= #[]:=λf=>by apply uv;simp
   simp only[vi,hr0]at hq;simp at hq;simp [Instr.buildSlice,run_underlying hu,sizeOf,typeInfo,hi,newRow,hr0,hq]
  ·simp_all [Instr.buildSlice,run_underlying,sizeOf,typeInfo,zeroValue,newRow]
 exact⟨cells,wS,by rw[q2,size_madeCells],q3⟩
theorem IT:∀(ps:List (Nat×zz)) (l:List Fs),(ps.foldl (λl p=>l.set p.1 (ρ' p.2)) l).length=l.length
 |[],l=>rfl
 |p::ps,l=>by rw[ug,IT ps];simp
theorem bS(R:x7 g H n w){len:Nat}{ps:List (Nat×zz)}(hu:P.underlying t=some (.slice e))(hz:Cf P e=some z)(xG:Fp P e=some s)
  (hc:FI parts.toList=some ps) (hv:∀x x',Az x=some x'->x'∈ps.map (·.2)->AR g (ρ' x') (ρ x)) (hs:(Bd H ρ' (.bs s len z ps)).1):
  Dn P m g H n w (Instr.buildSlice t len (parts.map λ(i,x)=>(i,ρ x))) (Bd H ρ' (.bs s len z ps)).2:=by
 obtain⟨h1,h2,h3⟩:=hs;obtain⟨cells,wS,_,q3⟩:=bR (w:=w) hu hz xG hc hv h1 h3;obtain⟨r1,r2,r3⟩:=JY (m:=m) R (w':=w.alloc (.cells cells e)) rfl rfl rfl rfl rfl;refine⟨_,_,_,wS,?_,r1,r2⟩;simp only[Bd];have hL:(List.foldl (λl p=>l.set p.1 (ρ' p.2)) (List.replicate len z) ps).length=len:=by rw[IT];simp
 refine .inr ⟨zt,w.heap.size,0,len,⟨none,by rw[hL],.inl rfl⟩,by rw[hL];exact sj _,?_,hL.symm⟩;simp only[v8.esz,tD];exact wL.mono r3 (λ_ _ h=>h) _ _ _ q3
end
section
variable {P:Program} {g:q8} {H:AB} {n m:Nat} {w:World}
variable {fs:Array Field} {len lo hi:Int} {f off s:Nat} {x' i':zz} {ρ':zz->Fs} {x:Operand} {ρ:Operand->Value} {mx:Option Int} {lo' z9:Option zz} {tok:v8} {t e:TypeId} {u v:Value}
theorem L3(h:K3 P fs f=some (off,s)):∃fd,fs[f]?=some fd/\fd.offset=off/\Fp P fd.type=some s:=by
 unfold K3 at h;split at h
 ·simp_all
 ·cases h
theorem Sl{sz:Nat}(h:Fp P t=some sz){cs:List Fs}{vs:Array Value}(hr:wI g cs vs.toList)(h1:∀x∈vs.toList,x.oneCell'=true)(hl:off+sz<=cs.length):
  ∃v,(part t vs off).run P w= .ok v w/\AR g (mk (IA P t) ((cs.drop off).take sz)) v:=by
 have hlen:=wI.length _ _ hr;obtain⟨_,_,_,_,_,hpos⟩:=EX h;simp only[part,Sem.run_bind,Pp h,Result.andThen_ok];cases hag:IA P t with
 |true=>
  refine⟨.agg (vs.extract off (off+sz)),by simp [Bz h],⟨_,rfl,?_,?_⟩⟩
  ·have:=(hr.drop off).take sz;rw[Array.toList_extract];simpa [List.extract_eq_take_drop]using this
  ·grind [Array.toList_extract,List.extract_eq_take_drop]
 |false=>
  have e9:off<vs.size:=by simp only[tq]at hlen;omega
  refine⟨vs[off],by simp [e9],?_⟩;have:=wI.getElem off cs vs.toList hr vs[off] (by simp [e9]);simp only[mk,sN,sY];have e:((cs.drop off).take sz).headD (.wJ [])=cs[off]?.getD (.wJ []):=by
   cases sz with
   |zero=>omega
   |succ sz=>
    cases hd:cs.drop off with
    |nil=>have:=congrArg List.length hd;simp at this;omega
    |cons c r=>have:=congrArg (λl:List Fs=>l[0]?) hd;simp at this;simp [this]
  rw[e];exact this
theorem Xy(R:x7 g H n w){fd:Field}(hu:P.underlying t=some (.struct fs))(hfd:fs[f]?=some fd)(hp:K3 P fs f=some (off,s))
  (hx:AR g (ρ' x') u) (hs:(Bd H ρ' (.fld off s (IA P fd.type) x')).1):Dn P m g H n w (Instr.field t u f) (Bd H ρ' (.fld off s (IA P fd.type) x')).2:=by
 obtain⟨fd',h1,h2,h3⟩:=L3 hp;rw[hfd]at h1;cases h1;simp only[Bd]at hs⊢;generalize ρ' x'=a at hs hx⊢;cases a<;>simp only[]at hs⊢ <;>first|exact hs.elim|skip
 obtain⟨vs,rfl,k1,k2⟩:=hx;obtain⟨v,q1,q2⟩:=Sl (w:=w) h3 k1 k2 hs;exact Dn.pure R (by simp [Instr.field,run_underlying hu,hfd,asAgg,h2,q1]) q2
theorem Om(R:x7 g H n w)(hu:P.underlying t=some (.struct fs))(hp:K3 P fs f=some (off,s))
  (hx:AR g (ρ' x') u) (hs:(Bd H ρ' (.fa off x')).1):Dn P m g H n w (Instr.fieldAt t u f) (Bd H ρ' (.fa off x')).2:=by
 obtain⟨fd,h1,h2,h3⟩:=L3 hp;obtain⟨_,_,_,_,_,hpos⟩:=EX h3;have wS:∀b o,(Instr.fieldAt t (.pointer (some ⟨b,o,none⟩)) f).run P w= .ok (.pointer (some ⟨b,o+off,none⟩)) w:=by simp_all [Instr.fieldAt,run_underlying,Instr.sureAddr,fieldPlace,Bz,B4]<;>omega
 simp only[Bd]at hs⊢;generalize ρ' x'=a at hs hx⊢;cases a<;>simp only[]at hs⊢ <;>first|exact hs.elim|skip
 case ptr id o=>obtain⟨L,k1,k2,rfl⟩:=hx;exact Dn.pure R (wS _ _) ⟨L,k1,k2,rfl⟩
 case ep cs=>obtain⟨b,o,rfl,k1⟩:=hx;exact Dn.pure R (wS _ _) ⟨b,o+off,rfl,k1.drop off⟩
 case ap id e i o=>obtain⟨L,k1,k2,rfl⟩:=hx;exact Dn.pure R (wS _ _) ⟨L,k1,k2,by rw[Nat.add_assoc]⟩
theorem oR(R:x7 g H n w)(hu:P.underlying t=some (.slice e))(xG:Fp P e=some s)
  (hx:AR g (ρ' x') u) (hi:AR g (ρ' i') v) (hs:(Bd H ρ' (.ia s x' i')).1):Dn P m g H n w (Instr.indexAt t u v) (Bd H ρ' (.ia s x' i')).2:=by
 have wS:∀(b o len cap:Nat) k (i:Int),0<=i->i<len->(Instr.indexAt t (.slice (some ⟨b,o,none⟩) len cap) (.int k i)).run P w= .ok (.pointer (some ⟨b,o+i.toNat*s,none⟩)) w:=by simp_all [Instr.indexAt,run_underlying,asIntOf,Bz,B4]
 simp only[Bd]at hs⊢;generalize ρ' x'=a at hs hx⊢;cases a<;>simp only[]at hs⊢ <;>first|exact hs.elim|skip
 case sl tok l=>
  obtain⟨h1,h2,h3,h4⟩:=hs;obtain⟨k,i,e1,rfl⟩:=Cy h2 hi;simp only[e1,A9]at h3 h4⊢;rcases hx with⟨rfl,rfl,_⟩|⟨htok,b,o,cap,⟨sp,rfl,yS⟩,xO,wX,_⟩
  ·simp at h4;omega
  ·have hsp':sp=none:=yS.resolve_right λq=>by rw[q.1]at h4;simp at h4;omega
   subst hsp';rw[h1]at wX;obtain⟨v,q1,q2,q3⟩:=wX.elem i.toNat l o zo;exact Dn.pure R (wS _ _ _ _ _ _ h3 h4) ⟨b,o+i.toNat*s,rfl,wM.ofElem q1 q3 q2.2⟩
 case ref id e' off len cap=>
  obtain⟨h1,h2,h3,h4⟩:=hs;obtain⟨k,i,e1,rfl⟩:=Cy h2 hi;simp only[e1,A9]at h3 h4⊢;obtain⟨L,k1,k2,rfl⟩:=hx;exact Dn.pure R (wS _ _ _ _ _ _ h3 h4) ⟨L,k1,k2,by rw[h1,tA,um]⟩
theorem gC(R:x7 g H n w){len:Nat}(hu:P.underlying t=some (.array len e))(xG:Fp P e=some s)
  (hx:AR g (ρ' x') u) (hi:AR g (ρ' i') v) (hs:(Bd H ρ' (.iaA len s x' i')).1):Dn P m g H n w (Instr.indexAt t u v) (Bd H ρ' (.iaA len s x' i')).2:=by
 have wS:∀(b o:Nat) k (i:Int),0<=i->i<len->(Instr.indexAt t (.pointer (some ⟨b,o,none⟩)) (.int k i)).run P w= .ok (.pointer (some ⟨b,o+i.toNat*s,none⟩)) w:=by simp_all [Instr.indexAt,run_underlying,asIntOf,Instr.sureAddr,Bz,B4]
 simp only[Bd]at hs⊢;generalize ρ' x'=a at hs hx⊢;cases a<;>simp only[]at hs⊢ <;>first|exact hs.elim|skip
 case ptr id o=>
  obtain⟨h2,h3,h4⟩:=hs;obtain⟨k,i,e1,rfl⟩:=Cy h2 hi;simp only[e1,A9]at h3 h4⊢;obtain⟨L,k1,k2,rfl⟩:=hx;exact Dn.pure R (wS _ _ _ _ h3 h4) ⟨L,k1,k2,rfl⟩
 case ep cs=>
  obtain⟨h2,h3,h4⟩:=hs;obtain⟨k,i,e1,rfl⟩:=Cy h2 hi;simp only[e1,A9]at h3 h4⊢;obtain⟨b,o,rfl,k1⟩:=hx;exact Dn.pure R (wS _ _ _ _ h3 h4) ⟨b,_,rfl,k1.drop _⟩
theorem gD(R:x7 g H n w)(hu:P.underlying t=some .string)
  (hx:AR g (ρ' x') u) (hi:AR g (ρ' i') v) (hs:(Bd H ρ' (.ixS x' i')).1):Dn P m g H n w (Instr.index t u v) (Bd H ρ' (.ixS x' i')).2:=by
 obtain⟨h1,h2,h3,h4⟩:=hs;obtain⟨l,e1,rfl⟩:=EY h1 hx;obtain⟨k,i,e2,rfl⟩:=Cy h2 hi;simp only[Bd,e1,e2,A9,GR]at h3 h4⊢;obtain⟨j,rfl⟩:=ur h3;have hj:j<l.length:=zo
 simp only[sm];have hb:getElem? (ByteArray.mk l.toArray) j=some l[j]:=by
  have xG:j<(ByteArray.mk l.toArray).size:=by show j<l.toArray.size;simpa using hj
  rw[getElem?_pos (ByteArray.mk l.toArray) j xG];rfl
 refine Dn.pure R (v:=.int .u8 (l[j].toNat:Int)) ?_ (by simp [AR,rz hj]);simp [Instr.index,run_underlying hu,asIntOf,hb]
theorem gE(R:x7 g H n w){len:Nat}(hu:P.underlying t=some (.array len e))(xG:Fp P e=some s)
  (hx:AR g (ρ' x') u) (hi:AR g (ρ' i') v) (hs:(Bd H ρ' (.ixA len s (IA P e) x' i')).1):Dn P m g H n w (Instr.index t u v) (Bd H ρ' (.ixA len s (IA P e) x' i')).2:=by
 simp only[Bd]at hs⊢;generalize ρ' x'=a at hs hx⊢;cases a<;>simp only[]at hs⊢ <;>first|exact hs.elim|skip
 obtain⟨h2,h3,h4,h5⟩:=hs;obtain⟨k,i,e1,rfl⟩:=Cy h2 hi;simp only[e1,A9]at h3 h4 h5⊢;obtain⟨vs,rfl,k1,k2⟩:=hx;obtain⟨v,q1,q2⟩:=Sl (w:=w) xG k1 k2 h5;exact Dn.pure R (by simp [Instr.index,run_underlying hu,asIntOf,h3,h4,Bz xG,q1]) q2
theorem D5{isSlice:Bool}{len cap:Nat}{lo hi mx:Option Operand}{mx':Option zz}(hlo:Dm lo=some lo')(hhi:Dm hi=some z9)(hmx:Dm mx=some mx')
  (hv:∀x x',Az x=some x'->(lo'=some x'\/z9=some x'\/mx'=some x')->AR g (ρ' x') (ρ x))
  (b1:Co ρ' lo') (b2:Co ρ' z9) (b3:Co ρ' mx') (hmh:mx'≠none->z9≠none) (h0:0<=wT ρ' 0 lo') (h1:wT ρ' 0 lo'<=wT ρ' len z9) (h2:wT ρ' len z9<=wT ρ' cap mx') (h3:wT ρ' cap mx'<=cap):
  (Instr.sliceBounds isSlice len cap (lo.map ρ) (hi.map ρ) (mx.map ρ)).run P w= .ok ((wT ρ' 0 lo').toNat,(wT ρ' len z9).toNat,(wT ρ' cap mx').toNat) w:=by
 have bound:∀(x:Operand) (x':zz) (y:Nat) (c:BoundsCode),AR g (ρ' x') (ρ x)->C4 (ρ' x')->0<=A9 (ρ' x')->A9 (ρ' x')<=y->(Instr.sliceBound (ρ x) y c).run P w= .ok (A9 (ρ' x')).toNat w:=by
  intro x x' y c r s a b;obtain⟨k,i,e1,e2⟩:=Cy s r;rw[e1]at a b⊢;rw[e2];exact run_sliceBound w k i y c a b
 have cases3:∀(x:Option Operand) (x':Option zz),Dm x=some x'->(x=none/\x'=none)\/∃y y',x=some y/\x'=some y'/\Az y=some y':=by
  intro x x' h;cases x with
  |none=>simp [Dm]at h;exact .inl ⟨rfl,h.symm⟩
  |some y=>
   simp only[Dm]at h;cases hy:Az y with
   |none=>simp [hy]at h
   |some y'=>simp [hy]at h;exact .inr ⟨y,y',rfl,h.symm,hy⟩
 rcases cases3 _ _ hmx with⟨rfl,rfl⟩|⟨z,z',rfl,rfl,hz⟩<;>rcases cases3 _ _ hhi with⟨rfl,rfl⟩|⟨y,y',rfl,rfl,hy⟩<;>rcases cases3 _ _ hlo with⟨rfl,rfl⟩|⟨x,x',rfl,rfl,hx⟩<;>simp only[wT,Co,tU,td]at*
 ·simp [Instr.sliceBounds]
 ·have e:=bound x x' len .sliceB (hv x x' hx zw) b1 h0 h1;simp [Instr.sliceBounds,e]
 ·have e:=λc=>bound y y' cap c (hv y y' hy zw) b2 zo h2
  simp [Instr.sliceBounds,e]
 ·have e:=λc=>bound y y' cap c (hv y y' hy zw) b2 zo h2
  have e2:=λc=>bound x x' (A9 (ρ' y')).toNat c (hv x x' hx zw) b1 h0 zo
  simp [Instr.sliceBounds,e,e2]
 ·simp at hmh
 ·simp at hmh
 ·have e:=λc=>bound z z' cap c (hv z z' hz zw) b3 zo h3
  have e2:=λc=>bound y y' (A9 (ρ' z')).toNat c (hv y y' hy zw) b2 zo zo
  simp [Instr.sliceBounds,e,e2]
 ·have e:=λc=>bound z z' cap c (hv z z' hz zw) b3 zo h3
  have e2:=λc=>bound y y' (A9 (ρ' z')).toNat c (hv y y' hy zw) b2 zo zo
  have e3:=λc=>bound x x' (A9 (ρ' y')).toNat c (hv x x' hx zw) b1 h0 zo
  simp [Instr.sliceBounds,e,e2,e3]
theorem gF(R:x7 g H n w)(hu:P.underlying t=some .string){lo hi:Option Operand}(hlo:Dm lo=some lo')(hhi:Dm hi=some z9)
  (hx:AR g (ρ' x') (ρ x)) (hv:∀y y',Az y=some y'->(lo'=some y'\/z9=some y')->AR g (ρ' y') (ρ y)) (hs:(Bd H ρ' (.slS x' lo' z9)).1):
  Dn P m g H n w (Instr.sliceAt t (ρ x) (lo.map ρ) (hi.map ρ) none) (Bd H ρ' (.slS x' lo' z9)).2:=by
 obtain⟨h1,b1,b2,h2,h3,h4⟩:=hs;obtain⟨l,e1,e2⟩:=EY h1 hx;rw[e2];simp only[Bd,e1,GR]at h3 h4⊢;have xG:ByteArray.size ⟨l.toArray⟩=l.length:=by show l.toArray.size=_;simp
 have hb:=D5 (P:=P) (g:=g) (w:=w) (isSlice:=false) (len:=l.length) (cap:=l.length) (ρ:=ρ) (ρ':=ρ') (mx:=none) (mx':=none) hlo hhi rfl (λy y' a b=>hv y y' a (by simpa using b)) b1 b2 zt zw h2 h3 (by simpa [wT]using h4) (by simp [wT]);refine Dn.pure R (v:=.string (ByteArray.extract ⟨l.toArray⟩ (wT ρ' 0 lo').toNat (wT ρ' l.length z9).toNat)) ?_ ?_
 ·simp_all [tU,Instr.sliceAt,Instr.slice,run_underlying]
 ·simp only[AR];congr 1;apply ByteArray.ext;rw[ByteArray.data_extract];apply uv;simp [List.extract_eq_take_drop,List.drop_take]
theorem Pt{id e:Nat}:El tok len lo hi mx≠ .own id e:=by
 cases tok<;>cases mx<;>simp only[El]<;>(try split)<;>simp
theorem Xz:(El tok len lo hi mx).esz=tok.esz:=by
 cases tok<;>cases mx<;>simp only[El]<;>(try split)<;>rfl
theorem UY(h:match tok with| .nil=>False|_=>True):match El tok len lo hi mx with| .nil=>False|_=>True:=by
 cases tok<;>cases mx<;>simp only[El]at h⊢ <;>first|exact h.elim|(split<;>rename_i heq<;>first|trivial|(split at heq<;>cases heq))
theorem Sm{e:Nat}(h:El tok len lo hi mx= .exact e):(mx=none/\hi=len/\∃e',tok= .exact e')\/mx=some hi:=by
 cases tok<;>cases mx<;>simp only[El]at h<;>first
  |(cases h;done)
  |(split at h
    ·rename_i heq;subst heq;exact .inr rfl
    ·cases h)
  |(split at h
    ·rename_i heq;exact .inl ⟨rfl,heq,_,rfl⟩
    ·cases h)
theorem DT{ρ:zz->Fs}{d:Int}:wT ρ d none=d:=rfl
theorem KB{ρ:zz->Fs}{d:Int}{x:zz}:wT ρ d (some x)=A9 (ρ x):=rfl
theorem oS(R:x7 g H n w)(hu:P.underlying t=some (.slice e))(xG:Fp P e=some s){lo hi mx:Option Operand}{mx':Option zz}(hlo:Dm lo=some lo')(hhi:Dm hi=some z9)(hmx:Dm mx=some mx')
  (hx:AR g (ρ' x') (ρ x)) (hv:∀y y',Az y=some y'->(lo'=some y'\/z9=some y'\/mx'=some y')->AR g (ρ' y') (ρ y)) (hs:(Bd H ρ' (.sl s x' lo' z9 mx')).1):
  Dn P m g H n w (Instr.sliceAt t (ρ x) (lo.map ρ) (hi.map ρ) (mx.map ρ)) (Bd H ρ' (.sl s x' lo' z9 mx')).2:=by
 simp only[Bd]at hs⊢;generalize hA:ρ' x'=a at hs hx⊢;generalize ρ x=u at hx⊢;cases a<;>simp only[]at hs⊢ <;>first|exact hs.elim|skip
 case sl tok l=>
  obtain⟨ht,b1,b2,b3,hmh,h0,h1,h2,h3⟩:=hs;rcases hx with⟨rfl,rfl,l7⟩|⟨htok,b,o,cap,⟨sp,rfl,yS⟩,xO,wX,hk⟩
  ·
   simp only[tI,Int.natCast_zero]at h1 h2 h3;have hhi0:wT ρ' (0:Nat) z9=0:=by simp only[Int.natCast_zero];omega
   have hlo0:wT ρ' 0 lo'=0:=zo
   have hmx0:wT ρ' (0:Nat) mx'=0:=by
    cases mx' with
    |none=>rfl
    |some z=>have:=h3 z rfl;simp only[wT];omega
   have hb:=D5 (P:=P) (g:=g) (w:=w) (isSlice:=true) (len:=0) (cap:=0) (ρ:=ρ) (ρ':=ρ') hlo hhi hmx hv b1 b2 b3 hmh h0 zo zo zo;rw[hhi0,hlo0,hmx0]at hb;refine Dn.pure R (v:=.slice none 0 0) (by simp [Instr.sliceAt,Instr.slice,run_underlying hu,hb,Bz xG]) ?_;refine .inl ⟨zw,rfl,?_⟩;split
   ·rename_i heq;exact absurd heq Pt
   ·trivial
  ·have ht':tok.esz=s:=by
    rcases ht with rfl|ht
    ·exact htok.elim
    ·exact ht
   rw[ht']at wX;have hml:wT ρ' cap mx'<=cap/\wT ρ' l.length z9<=wT ρ' cap mx'/\(∀z,mx'=some z->wT ρ' cap mx'=A9 (ρ' z)):=by
    cases mx' with
    |none=>rw[DT];exact⟨vA _,zo,zw⟩
    |some z=>have:=h3 z rfl;rw[KB];exact⟨zo,zo,λ_ h=>by cases h;rfl⟩
   have hb:=D5 (P:=P) (g:=g) (w:=w) (isSlice:=true) (len:=l.length) (cap:=cap) (ρ:=ρ) (ρ':=ρ') hlo hhi hmx hv b1 b2 b3 hmh h0 h1 hml.2.1 hml.1;generalize hLo:(wT ρ' 0 lo').toNat=L0 at hb⊢;generalize hHi:(wT ρ' l.length z9).toNat=H0 at hb⊢;generalize hMx:(wT ρ' cap mx').toNat=M0 at hb⊢;have hLH:L0<=H0:=zo
   have hHM:H0<=M0:=zo
   have hHl:H0<=l.length:=zo
   have hadd:∀k:Nat,(l=[]->k=0)->(⟨b,o,sp⟩:Addr).add k=⟨b,o+k,sp⟩:=λk hk0=>by
    rcases yS with rfl|⟨q,_⟩
    ·exact B4 ..
    ·rw[hk0 q];rfl
   have hL0:l=[]->L0*s=0:=λq=>by
    rw[q]at hHl;simp at hHl;have:L0=0:=zo
    rw[this,vi]
   refine Dn.pure R (v:=.slice (if M0=L0 then some ⟨b,o,sp⟩else some ⟨b,o+L0*s,sp⟩) (H0-L0) (M0-L0)) ?_ ?_
   ·simp only[Instr.sliceAt,Sem.run_bind,run_underlying hu,Result.andThen_ok,Instr.slice,hb,Bz xG,Sem.run_pure,td,hadd _ hL0]
   ·have hlen:((l.take H0).drop L0).length=H0-L0:=by rw[ue,sU];omega
    have hesz:∀mxo,(El tok l.length (wT ρ' 0 lo') (wT ρ' l.length z9) mxo).esz=s:=by
     intro mxo;rw[Xz];exact ht'
    refine .inr ⟨?_,b,if M0=L0 then o else o+L0*s,M0-L0,⟨sp,?_,?_⟩,by rw[hlen];omega,?_,?_⟩
    ·exact UY htok
    ·rw[hlen];split<;>rfl
    ·refine yS.imp id λq=>⟨by rw[q.1];simp,?_⟩
     obtain⟨ql,q⟩:=q;have hH0:H0=0:=by rw[ql]at hHl;simpa using hHl
     rcases q with q|⟨e',rfl⟩
     ·exact .inl zo
     ·cases mx' with
      |none=>exact .inr ⟨e',rfl⟩
      |some z=>
       by_cases hz:A9 (ρ' z)=wT ρ' l.length z9
       ·have:=hml.2.2 z rfl;exact .inl zo
       ·exact .inr ⟨e',by simp only[El,td,sg hz]⟩
    ·rw[hesz];by_cases hML:M0=L0
     ·rw[sn hML];have:(l.take H0).drop L0=[]:=by
       apply tv;rw[hlen];omega
      rw[this];trivial
     ·rw[sg hML];exact(wX.take H0).drop L0
    ·rw[hlen];split
     ·rename_i e0 heq;rcases Sm heq with⟨hm,hh,e',rfl⟩|hm
      ·have hm':mx'=none:=by cases mx'<;>simp_all
       subst hm';rw[DT]at hMx;simp only[]at hk;omega
      ·cases mx' with
       |none=>simp at hm
       |some z=>
        have hz:=hml.2.2 z rfl;simp only[td,Option.some.injEq]at hm;omega
     ·rename_i heq;exact absurd heq Pt
     ·trivial
 case ref id e' off len cap=>
  cases mx' with
  |none=>
   simp only[Gr]at hs⊢;obtain⟨rfl,wi,b1,b2,h0,h1,h2,h3⟩:=hs;obtain⟨L,k1,k2,rfl⟩:=hx;have hb:=D5 (P:=P) (g:=g) (w:=w) (isSlice:=true) (len:=len) (cap:=cap) (ρ:=ρ) (ρ':=ρ') hlo hhi hmx hv b1 b2 zt zw h0 h1 (by rw[DT];omega) (by rw[DT];exact vA _);refine Dn.pure R (v:=.slice (some ⟨L.wR,off*e'+(wT ρ' 0 lo').toNat*e',none⟩) ((wT ρ' len z9).toNat-(wT ρ' 0 lo').toNat) (cap-(wT ρ' 0 lo').toNat)) ?_ ⟨L,k1,k2,by rw[tA]⟩;have s8:¬cap=(wT ρ' 0 lo').toNat:=zo
   simp only[Instr.sliceAt,Sem.run_bind,run_underlying hu,Result.andThen_ok,Instr.slice,hb,Bz xG,Sem.run_pure,td,B4];simp only[DT,sm,s8,sY]
  |some z=>
   simp only[Gr]at hs⊢;obtain⟨rfl,hh,b1,b2,b3,h0,h1,h2⟩:=hs;obtain⟨L,k1,k2,rfl⟩:=hx;have hb:=D5 (P:=P) (g:=g) (w:=w) (isSlice:=true) (len:=len) (cap:=cap) (ρ:=ρ) (ρ':=ρ') hlo hhi hmx hv b1 b2 b3 (λ_=>hh) zo zo (by rw[KB];omega) (by rw[KB];omega);refine Dn.pure R (v:=.slice (some ⟨L.wR,off*e',none⟩) 0 0) ?_ (.inr ⟨zt,L.wR,off*e',0,⟨none,rfl,.inl rfl⟩,sj _,zt,rfl⟩);have e1:(wT ρ' 0 lo').toNat=0:=zo
   have e2:(wT ρ' len z9).toNat=0:=zo
   have e3:(wT ρ' cap (some z)).toNat=0:=by rw[KB];omega
   rw[e1,e2,e3]at hb;simp [Instr.sliceAt,Instr.slice,run_underlying hu,hb,Bz xG]
theorem Ew:∀(xs:List Operand) (xs':List zz),JH xs=some xs'->(∀x x',Az x=some x'->x'∈xs'->AR g (ρ' x') (ρ x))->wI g (xs'.map ρ') (xs.map ρ)
 |[],xs',h,_=>by simp [JH]at h;subst h;rfl
 |x::xs,xs',h,hv=>by
  simp only[JH]at h;split at h
  ·rename_i a as h1 h2;cases h;exact⟨ρ x,xs.map ρ,rfl,hv x a h1 zw,Ew xs as h2 (λy y' e hm=>hv y y' e (by simp [hm]))⟩
  ·cases h
theorem bT(R:x7 g H n w){o:Oper}(ho:o.op= .nilCheck x)(hx:AR g (ρ' x') (ρ x))(hs:(Bd H ρ' (.nilc x')).1):Qw P m g H n w (execOp ρ o) (Bd H ρ' (.nilc x')).2:=by
 simp only[Bd]at hs⊢;generalize ρ' x'=a at hs hx⊢;have plain:∀v:Value,v≠ .pointer none->v≠ .nilIface->v≠ .nilFunc->(∀nm a b,v≠ .func (.method nm) a b)->ρ x=v->(execOp ρ o).run P w= .ok (.value v) w:=by
  intro v h1 h2 h3 h4 e;simp only[execOp,ho,e];simp
 cases a<;>(try simp only[]at hs⊢)<;>first|exact hs.elim|skip
 case ptr id o=>obtain⟨L,k1,k2,e⟩:=hx;exact Qw.pure R (plain _ zw zw zw zw e) ⟨L,k1,k2,rfl⟩
 case ep cs=>obtain⟨b,o,e,k1⟩:=hx;exact Qw.pure R (plain _ zw zw zw zw e) ⟨b,o,rfl,k1⟩
 case ap id e i o=>obtain⟨L,k1,k2,e⟩:=hx;exact Qw.pure R (plain _ zw zw zw zw e) ⟨L,k1,k2,rfl⟩
 case fn f a b=>
  cases f<;>(try simp only[]at hs⊢)<;>first|exact hs.elim|skip
  obtain⟨p,q,e,k1,k2⟩:=hx;exact Qw.pure R (plain _ zw zw zw zw e) ⟨p,q,rfl,k1,k2⟩
 case ifc t v=>obtain⟨y,e,k1⟩:=hx;exact Qw.pure R (plain _ zw zw zw zw e) ⟨y,rfl,k1⟩
theorem Nh{k:IntKind}{mx:Bool}{P:Program}{w:World}:∀(ns:List Int) (a:Int),
  ((ns.map (Value.int k)).foldlM (if mx then Builtin.max2 else Builtin.min2) (.int k a)).run P w= .ok (.int k (ns.foldl (λm y=>if mx then max m y else min m y) a)) w
 |[],a=>zw
 |y::ns,a=>by
  have h:((if mx then Builtin.max2 else Builtin.min2) (.int k a) (.int k y)).run P w= .ok (.int k (if mx then max a y else min a y)) w:=by
   cases mx with
   |true=>simp [Builtin.max2];omega
   |false=>simp [Builtin.min2];omega
  simp only[sS,List.foldlM_cons,Sem.run_bind,h,Result.andThen_ok,Nh ns,ug]
theorem Sn(R:x7 g H n w){ts:Array TypeId}{ty:TypeId}{mx:Bool}{k:IntKind}{xs':List zz}{vs:Array Value}(hx:wI g (xs'.map ρ') vs.toList)(hs:(Bd H ρ' (.mnmx mx k xs')).1):
  Dn P m g H n w (if mx then Builtin.max_ ts ty vs else Builtin.min_ ts ty vs) (Bd H ρ' (.mnmx mx k xs')).2:=by
 obtain⟨h1,h2⟩:=hs;have ints:∀(xs:List zz) (vs:List Value),(∀x∈xs,J3 k (ρ' x))->wI g (xs.map ρ') vs->vs=(xs.map λx=>A9 (ρ' x)).map (Value.int k):=by
  intro xs;induction xs with
  |nil=>intro vs _ h;simp only[t6,wI]at h;subst h;rfl
  |cons x xs ih=>
   intro vs hi h;obtain⟨v,r,rfl,q1,q2⟩:=h;obtain⟨i,e1,rfl⟩:=FV (hi x zw) q1;rw[ih r (λy hy=>hi y (by simp [hy])) q2];simp [e1,A9]
 have hv:=ints xs' _ h1 hx;cases xs' with
 |nil=>exact absurd rfl h2
 |cons x xs=>
  simp only[sS]at hv;have hf:=Nh (k:=k) (mx:=mx) (P:=P) (w:=w) (xs.map λx=>A9 (ρ' x)) (A9 (ρ' x));refine Dn.pure R (v:=.int k ((xs.map λx=>A9 (ρ' x)).foldl (λm y=>if mx then max m y else min m y) (A9 (ρ' x)))) ?_ ?_
  ·cases mx<;>simp only[Builtin.max_,Builtin.min_,hv,sN,tD,sY]at hf⊢ <;>exact hf
  ·simp only[Bd,bE,AR,List.foldl_map]
theorem UZ(R:x7 g H n w){o:Oper}{mkv:Bool}{k:xx}(hc:CW P mkv o.op=some k)
  (hv:∀x x',Az x=some x'->x'∈k.wH->AR g (ρ' x') (ρ x)) (hs:(Bd H ρ' k).1):Qw P m g H n w (execOp ρ o) (Bd H ρ' k).2:=by
 have one:∀{x:Operand} {f:zz->xx},(Az x).map f=some k->∃x',Az x=some x'/\k=f x':=by simp_all
 cases ho:o.op<;>simp only[ho]at hc;case move x=>
  obtain⟨x',e,rfl⟩:=one hc;exact Qw.pure R (by simp [execOp,ho]) (hv x x' e (by simp [xx.wH]))
 case assign x=>
  obtain⟨x',e,rfl⟩:=one hc;exact Qw.pure R (by simp [execOp,ho]) (hv x x' e (by simp [xx.wH]))
 case build t parts=>
  have:=(Sk (m:=m) R hc hv hs).val;simpa [execOp,ho,EH]using this
 case buildSlice t len parts=>
  simp only[CW]at hc;split at hc
  ·rename_i e hu;split at hc
   ·rename_i z s hz xG;cases hcp:FI parts.toList with
    |none=>simp [hcp]at hc
    |some ps=>
     simp [hcp]at hc;subst hc;have:=(bS (m:=m) R hu hz xG hcp hv hs).val;simpa [execOp,ho,EH]using this
   ·cases hc
  ·cases hc
 case load t a=>
  simp only[CW]at hc;split at hc
  ·rename_i s a' h1 h2;cases hc;have:=(Sf (m:=m) R h1 (hv a a' h2 (by simp [xx.wH])) hs).val;simpa [execOp,ho,EH,Bd]using this
  ·cases hc
 case nilCheck x=>
  obtain⟨x',e,rfl⟩:=one hc;exact bT R ho (hv x x' e (by simp [xx.wH])) hs
 case binOp op t x y yt=>
  simp only[CW]at hc;split at hc
  ·rename_i a b h1 h2;have xJ:a∈k.wH/\b∈k.wH:=by
    unfold fu at hc;split at hc
    ·grind [xx.wH]
    ·grind [xx.wH]
    ·grind [xx.wH]
    ·grind [xx.wH]
    ·grind [xx.wH]
    ·cases hc
   have:=(Xw (m:=m) R (x:=x) (y:=y) (hv x a h1 xJ.1) (hv y b h2 xJ.2) hc hs).val;simpa [execOp,ho,EH]using this
  ·cases hc
 case unOp op t x=>
  cases op<;>simp only[CW]at hc<;>first|(cases hc;done)|skip
  ·split at hc
   ·rename_i kd hu;obtain⟨x',e,rfl⟩:=one hc;have:=(gB (P:=P) (m:=m) R (hv x x' e (by simp [xx.wH])) hs).val;simpa [execOp,ho,EH,Bd]using this
   ·cases hc
  ·obtain⟨x',e,rfl⟩:=one hc;have:=(gA (P:=P) (m:=m) R (hv x x' e (by simp [xx.wH])) hs).val;simpa [execOp,ho,EH,Bd]using this
 case convert s d x=>
  simp only[CW]at hc;split at hc
  ·rename_i a h1;have xJ:a∈k.wH:=by grind [WQ,xx.wH]
   have:=(UX (m:=m) R (hv x a h1 xJ) hc hs).val;simpa [execOp,ho,EH]using this
  ·cases hc
 case makeInterface t x=>
  simp only[CW]at hc;split at hc
  ·cases hc
  ·rename_i d hni hu;obtain⟨x',e,rfl⟩:=one hc;have hr:(Instr.makeInterface t (ρ x)).run P w= .ok (.iface t (ρ x)) w:=by
    simp only[Instr.makeInterface,Sem.run_bind,run_underlying hu,Result.andThen_ok];simp
   exact Qw.pure R (v:=.iface t (ρ x)) (by simp [execOp,ho,hr]) ⟨_,rfl,hv x x' e (by simp [xx.wH])⟩
  ·cases hc
 case makeFunc fn first cap=>
  simp only[CW]at hc;split at hc
  ·rename_i a b h1 h2;cases hc;refine Qw.pure R (v:=.func fn (first.map ρ) (cap.map ρ)) (by simp [execOp,ho,Instr.makeFunc]) ⟨_,_,rfl,?_,?_⟩
   ·simpa using Ew first.toList a h1 (λx x' e hm=>hv x x' e (by simp [xx.wH,hm]))
   ·simpa using Ew cap.toList b h2 (λx x' e hm=>hv x x' e (by simp [xx.wH,hm]))
  ·cases hc
 case makeSlice t l c=>
  have fin:∀{e:TypeId} {inf:TypeInfo} {z:Fs} {s:Nat} {x:Operand} {x':zz},P.underlying t=some (.slice e)->P.info? e=some inf->Cf P e=some z->Fp P e=some s->Az x=some x'->k= .mkz s inf.bytes z x'->l=x->c=x->
    Qw P m g H n w (execOp ρ o) (Bd H ρ' k).2:=by
   intro e inf z s x x' h1 h2 h3 h4 h5 h6 h7 h8;subst h6;have:=(Xx (m:=m) R h1 h2 h3 h4 (hv x x' h5 (by simp [xx.wH])) hs).val;simpa [execOp,ho,EH,h7,h8]using this
  cases l<;>cases c<;>(try (simp only[CW]at hc;cases hc;done))
  ·rename_i l c;simp only[CW]at hc;split at hc
   ·rename_i xm;obtain⟨-,rfl⟩:=xm;split at hc
    ·rename_i e hu;split at hc
     ·rename_i inf z s h1 h2 h3;cases hc;exact fin hu h1 h2 h3 rfl rfl rfl rfl
     ·cases hc
    ·cases hc
   ·cases hc
  ·rename_i l c;cases l<;>(try (simp only[CW]at hc;cases hc;done));rename_i kl nl;cases kl<;>(try (simp only[CW]at hc;cases hc;done));cases c<;>(try (simp only[CW]at hc;cases hc;done));rename_i kc nc;cases kc<;>(try (simp only[CW]at hc;cases hc;done));simp only[CW]at hc;split at hc
   ·rename_i xm;obtain⟨-,rfl⟩:=xm;split at hc
    ·rename_i e hu;split at hc
     ·grind [Az,Sa,Nb]
     ·cases hc
    ·cases hc
   ·cases hc
 case slice t x lo hi mx=>
  simp only[CW]at hc;split at hc
  ·rename_i a l h hu h1 h2 h3 h4;cases hc;have hm0:mx=none:=by
    cases mx with
    |none=>rfl
    |some z=>simp only[Dm]at h4;cases hz:Az z<;>simp [hz]at h4
   subst hm0;have:=(gF (m:=m) R hu h2 h3 (hv x a h1 (by simp [xx.wH])) (λy y' e hm=>hv y y' e (by simp only[xx.wH,tg,tP];rcases hm with rfl|rfl<;>simp)) hs).val;simpa [execOp,ho,EH]using this
  ·rename_i e a l h mm hu h1 h2 h3 h4;split at hc
   ·rename_i s xG;cases hc;have:=(oS (m:=m) R hu xG h2 h3 h4 (hv x a h1 (by simp [xx.wH])) (λy y' e hm=>hv y y' e (by simp only[xx.wH,tg,tP];rcases hm with rfl|rfl|rfl<;>simp)) hs).val;simpa [execOp,ho,EH]using this
   ·cases hc
  ·cases hc
 case fieldAddr t x f=>
  simp only[CW]at hc;split at hc
  ·rename_i fs hu;split at hc
   ·rename_i off s a h1 h2;cases hc;have:=(Om (m:=m) R hu h1 (hv x a h2 (by simp [xx.wH])) hs).val;simpa [execOp,ho,EH]using this
   ·cases hc
  ·cases hc
 case field t x f=>
  simp only[CW]at hc;split at hc
  ·rename_i fs hu;split at hc
   ·rename_i fd off s a h1 h2 h3;cases hc;have:=(Xy (m:=m) R hu h1 h2 (hv x a h3 (by simp [xx.wH])) hs).val;simpa [execOp,ho,EH]using this
   ·cases hc
  ·cases hc
 case indexAddr t x i=>
  simp only[CW]at hc;split at hc
  ·rename_i e a b hu h1 h2;split at hc
   ·rename_i s xG;cases hc;have:=(oR (m:=m) R hu xG (hv x a h1 (by simp [xx.wH])) (hv i b h2 (by simp [xx.wH])) hs).val;simpa [execOp,ho,EH]using this
   ·cases hc
  ·rename_i nn e a b hu h1 h2;split at hc
   ·rename_i s xG;cases hc;have:=(gC (m:=m) R hu xG (hv x a h1 (by simp [xx.wH])) (hv i b h2 (by simp [xx.wH])) hs).val;simpa [execOp,ho,EH]using this
   ·cases hc
  ·cases hc
 case index t x i=>
  simp only[CW]at hc;split at hc
  ·rename_i a b hu h1 h2;cases hc;have:=(gD (m:=m) R hu (hv x a h1 (by simp [xx.wH])) (hv i b h2 (by simp [xx.wH])) hs).val;simpa [execOp,ho,EH]using this
  ·rename_i nn e a b hu h1 h2;split at hc
   ·rename_i s xG;cases hc;have:=(gE (m:=m) R hu xG (hv x a h1 (by simp [xx.wH])) (hv i b h2 (by simp [xx.wH])) hs).val;simpa [execOp,ho,EH]using this
   ·cases hc
  ·cases hc
 case extract x i=>
  obtain⟨x',e,rfl⟩:=one hc;have hx:=hv x x' e (by simp [xx.wH]);simp only[Bd]at hs⊢;generalize ρ' x'=a at hs hx⊢;cases a<;>simp only[]at hs⊢ <;>first|exact hs.elim|skip
  rename_i vs';obtain⟨vs,e1,k1⟩:=hx;have hl:=wI.length _ _ k1;simp only[tq]at hl;have e9:i<vs.size:=zo
  refine Qw.pure R (v:=vs[i]) (by simp [execOp,ho,Instr.extract,e1,e9]) (wI.getElem i vs' vs.toList k1 vs[i] (by simp [e9]))
 case call c=>
  obtain⟨callee,args,argTypes⟩:=c;cases callee<;>(try (simp only[CW]at hc;cases hc;done));rename_i b;cases b<;>(try (simp only[CW]at hc;cases hc;done))
  ·
   simp only[CW]at hc;split at hc
   ·rename_i t x h1 h2;have e1:argTypes= #[t]:=by apply uv;simpa using h1
    have e2:args= #[x]:=by apply uv;simpa using h2
    subst e1;subst e2;split at hc
    ·rename_i a hu ha;cases hc;obtain⟨l,e1,e2⟩:=EY hs (hv x a ha (by simp [xx.wH]));have xG:ByteArray.size ⟨l.toArray⟩=l.length:=by show l.toArray.size=_;simp
     refine Qw.pure R (v:=.int .i64 l.length) ?_ (by simp only[Bd,e1,GR,AR]);simp [execOp,ho,resolve,invoke,builtin,Builtin.len_,run_underlying hu,e2,xG,goInt]
    ·rename_i e a hu ha;cases hc;have hx:=hv x a ha (by simp [xx.wH]);simp only[Bd]at hs⊢;generalize ρ' a=b at hs hx⊢;cases b<;>simp only[]at hs⊢ <;>first|exact hs.elim|skip
     case sl tok l=>
      have:∃ad cap,ρ x= .slice ad l.length cap:=by
       rcases hx with⟨rfl,h,_⟩|⟨_,b,o,cap,⟨_,h,_⟩,_⟩
       ·exact⟨none,0,h⟩
       ·exact⟨_,cap,h⟩
      obtain⟨ad,cap,e2⟩:=this;refine Qw.pure R (v:=.int .i64 l.length) ?_ rfl;simp [execOp,ho,resolve,invoke,builtin,Builtin.len_,run_underlying hu,e2,goInt]
     case ref id esz off len cap=>
      obtain⟨L,_,_,e2⟩:=hx;refine Qw.pure R (v:=.int .i64 len) ?_ rfl;simp [execOp,ho,resolve,invoke,builtin,Builtin.len_,run_underlying hu,e2,goInt]
    ·cases hc
   ·cases hc
  ·
   simp only[CW]at hc;split at hc
   ·split at hc
    ·rename_i kd xs hu hxs;cases hc;have hr:wI g (xs.map ρ') (args.map ρ).toList:=by simpa using Ew args.toList xs hxs (λx x' e hm=>hv x x' e (by simpa [xx.wH]using hm))
     have:=(Sn (P:=P) (m:=m) (ts:=argTypes) (ty:=o.type) (mx:=true) R hr hs).val;simpa [execOp,ho,resolve,invoke,builtin,EH]using this
    ·cases hc
   ·cases hc
  ·
   simp only[CW]at hc;split at hc
   ·split at hc
    ·rename_i kd xs hu hxs;cases hc;have hr:wI g (xs.map ρ') (args.map ρ).toList:=by simpa using Ew args.toList xs hxs (λx x' e hm=>hv x x' e (by simpa [xx.wH]using hm))
     have:=(Sn (P:=P) (m:=m) (ts:=argTypes) (ty:=o.type) (mx:=false) R hr hs).val;simpa [execOp,ho,resolve,invoke,builtin,EH]using this
    ·cases hc
   ·cases hc
 all_goals (simp only[CW]at hc;cases hc)
end
end Go.AM
