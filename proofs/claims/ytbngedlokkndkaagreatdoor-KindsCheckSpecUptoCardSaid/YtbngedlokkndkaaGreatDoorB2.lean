/-
  The abstract machine, part A: values without addresses, what they stand for in a world, and that more memory changes non.
  Conditions: none beyond those of its parts.
-/
import Derived.OrdersIn
import Derived.Laws.CopyRow
import Derived.Laws.OwnMore
import Derived.Laws.MakeOwn
import Derived.Laws.Entries
import Derived.Laws.IdiomStrings
import Derived.Laws.Strings
import Derived.Laws.StructEq
import Derived.ChangeKeysEq
import Derived.Laws.Concat
import Derived.Laws.Slices

set_option maxRecDepth 20000
set_option linter.all false
namespace Go.AM
theorem zo{p:Prop}(h:p:=by omega):p:=h
theorem zd{p:Prop}(h:p:=by decide):p:=h
theorem zw{p:Prop}(h:p:=by simp):p:=h
theorem zp{p:Prop}(h:p:=by simp only[];omega):p:=h
theorem zt:True:=trivial
def o6:=@List.length_map
def o7:=@eq_true
def o8:=@List.getElem?_eq_getElem
def o9:=@Bool.not_true
def od:=@Nat.le_refl
def og:=@if_neg
def oh:=@Bool.not_false
def oo:=@Bool.and_eq_true
def oq:=@Nat.zero_le
def ou:=@List.length_append
def oA:=@eq_false
def oC:=@decide_eq_true_eq
def oD:=@List.map_append
def oE:=@if_pos
def oF:=@List.take_length
def oG:=@List.take_add_one
def oH:=@Int.toNat_natCast
def oI:=@List.length_cons
def oJ:=@List.length_take
def oK:=@List.getElem_mem
def oL:=@List.map_cons
def oM:=@List.all_eq_true
def oN:=@decide_eq_false
def oO:=@List.getElem?_map
def oP:=@Bool.false_eq_true
def oQ:=@Option.getD_some
def oR:=@List.append_nil
def oS:=@Int.natCast_nonneg
def oT:=@List.append_assoc
def oU:=@Array.getElem?_eq_some_iff
def oV:=@Bool.or_eq_true
def oW:=@List.nil_append
def oX:=@List.drop_eq_getElem_cons
def oY:=@List.take_of_length_le
def oZ:=@Bool.eq_iff_iff
def pb:=@if_false
def pc:=@List.map_nil
def pd:=@List.length_nil
def pf:=@List.length_replicate
def pg:=@of_decide_eq_true
def ph:=@List.mem_cons
def pi:=@List.length_drop
def pk:=@decide_eq_true
def pn:=@Nat.zero_add
def po:=@List.mem_cons_self
def pp:=@List.cons_append
def pq:=@Array.length_toList
def pr:=@Option.map_some
def pt:=@List.eq_nil_of_length_eq_zero
def pu:=@Nat.le_trans
def px:=@List.mem_range
def py:=@Nat.le_add_right
def pz:=@List.mem_map
def pA:=@List.drop_length
def pB:=@List.getElem?_append_right
def pC:=@List.map_congr_left
def pD:=@Nat.not_lt_zero
def pE:=@List.mem_cons_of_mem
def pF:=@List.contains_iff_mem
def pG:=@if_true
def pH:=@List.getElem?_append_left
def pI:=@List.mem_append
def pJ:=@Array.getElem?_toList
def pK:=@List.getElem?_eq_some_iff
def pL:=@List.take_append_of_le_length
def pM:=@List.getD_eq_getElem?_getD
def pN:=@Nat.add_mul
def pO:=@List.map_map
def pP:=@List.mem_iff_getElem
def pQ:=@List.getElem?_cons_zero
def pR:=@true_and
def pS:=@Int.toNat_of_nonneg
def pT:=@forall_const
def pU:=@List.range_succ
def pV:=@List.mem_singleton
def pW:=@List.pairwise_iff_getElem
def pX:=@Array.getElem?_setIfInBounds_ne
def pY:=@Option.map_eq_some_iff
def pZ:=@List.take_zero
def qa:=@List.length_filter_le
def qb:=@List.length_eq_zero_iff
def qc:=@List.foldl_cons
def qd:=@Option.map_none
def qe:=@Array.ext'
def qf:=@List.drop_of_length_le
def qg:=@Nat.lt_of_lt_of_le
def qh:=@List.filter_cons
def qi:=@List.length_range
def qj:=@Array.getElem?_eq_getElem
def qk:=@List.findIdx?_eq_some_iff_getElem
def qm:=@and_assoc
def qn:=@List.mem_filter
def qo:=@List.mem_iff_getElem?
def qp:=@List.getElem?_cons_succ
def qq:=@decide_eq_false_iff_not
def qr:=@false_implies
def qu:=@Nat.mul_le_mul_right
def qv:=@List.filter_append
def qw:=@Array.getElem?_eq_none
def qz:=@and_true
def qA:=@Bool.or_eq_false_iff
def qB:=@Bool.false_and
def qC:=@List.drop_zero
def qD:=@List.nodup_append
def qE:=@List.mergeSort_perm
def qF:=@beq_iff_eq
def qG:=@List.set_append_right
def qH:=@List.pairwise_cons
def qI:=@Nat.mul_one
def qJ:=@List.all_cons
def qK:=@Bool.true_and
def qL:=@Array.mem_toList_iff
def qM:=@Bool.not_eq_true'
def qN:=@List.length_set
def qO:=@List.nodup_cons
def qP:=@List.getElem?_range
def qQ:=@Nat.add_zero
def qR:=@Nat.zero_mul
def qS:=@List.drop_eq_nil_of_le
def qT:=@Bool.false_or
def qU:=@Nat.mod_eq_of_lt
def qV:=@List.not_mem_nil
def qW:=@BitVec.toNat_ofNat
def qX:=@List.take_append_drop
def qY:=@List.getElem?_eq_none
def qZ:=@List.mem_of_getElem?
def r9:=@List.flatten_cons
def ra:=@not_true_eq_false
def rc:=@List.map_take
def re:=@List.flatMap_append
def rf:=@List.drop_drop
def ri:=@eq_self
def rj:=@List.pairwise_lt_range
def rl:=@Bool.not_eq_false'
def rm:=@List.zip_cons_cons
def rn:=@List.map_replicate
def rp:=@List.getElem?_drop
def rq:=@implies_true
def rr:=@Nat.min_eq_left
def rt:=@Int.tdiv_eq_ediv_of_nonneg
def ry:=@List.perm_ext_iff_of_nodup
def rz:=@Int.tmod_eq_emod_of_nonneg
def rA:=@List.zip_nil_left
def rB:=@List.pairwise_map
def rC:=@not_false_eq_true
def rD:=@List.mem_of_mem_take
def rE:=@List.mem_of_mem_drop
def rF:=@Array.toArray_toList
def rG:=@List.findIdx?_eq_none_iff
def rH:=@Int.le_refl
def rI:=@Option.bind_some
def rJ:=@List.drop_append
def rK:=@List.getElem_map
def rL:=@List.filter_eq_self
def rM:=@List.filter_sublist
def rN:=@Option.toList_some
def rO:=@of_decide_eq_false
def rP:=@List.map_id
def rQ:=@List.getElem?_set_self
def rR:=@Bool.not_eq_false
def rS:=@List.filter_congr
def rT:=@List.foldl_nil
def rU:=@List.take_left
def rV:=@BitVec.ofInt_natCast
def rW:=@Int.fdiv_eq_ediv_of_nonneg
def rX:=@List.replicate_succ
def rY:=@List.filter_nil
def rZ:=@List.filter_filter
def sa:=@Nat.sub_self
def sb:=@and_self
def se:=@decide_false
end Go.AM
namespace Go.AM
inductive xv where
 |nil|none (esz:Nat)|exact(esz:Nat)|own (id esz:Nat)
def xv.esz:xv->Nat
 | .nil=>0
 | .none e=>e
 | .exact e=>e
 | .own _ e=>e
inductive Fs where
 |bool (b:Bool)
 |int (k:IntKind) (n:Int)
 |str (s:List UInt8)
 |nilp
 |ptr (id off:Nat)
 |ep (cells:List Fs)
 |gp (g:Nat)
 |sl (tok:xv) (l:List Fs)
 |ref (id esz off len cap:Nat)
 |ap (id esz i off:Nat)
 |agg (cs:List Fs)
 |sH (vs:List Fs)
 |fn (f:Fn) (first cap:List Fs)
 |tG
 |ifc (t:TypeId) (v:Fs)
 |tA
 |mp (id:Nat)
 |nilmp
 |up
def Fs.cells:Fs->List Fs
 | .agg cs=>cs
 |v=>[v]
def EM(esz:Nat)(v:Value):Prop:=v.cells.size=esz/\∀x∈v.cells.toList,x.oneCell'=true
structure Loc where
 sO:Nat
 lo:Nat
 hi:Nat
structure z8 where
 β:Nat->Option Loc
 σ:Nat->Nat->Option Value
structure z8.le(g g':z8):Prop where
 β:∀id L,g.β id=some L->g'.β id=some L
 σ:∀b o v,g.σ b o=some v->g'.σ b o=some v
def z8.le.refl(g:z8):g.le g:=⟨λ_ _ h=>h,λ_ _ _ h=>h⟩
def z8.le.trans{a b c:z8}(h:a.le b)(k:b.le c):a.le c:=
 ⟨λid L x=>k.β id L (h.β id L x),λx o v y=>k.σ x o v (h.σ x o v y)⟩
mutual
def AP(g:z8):Fs->Value->Prop
 | .bool b,v=>v= .bool b
 | .int k n,v=>v= .int k n
 | .str s,v=>v= .string ⟨s.toArray⟩
 | .nilp,v=>v= .pointer none
 | .ptr id off,v=>∃L,g.β id=some L/\L.lo=0/\v= .pointer (some ⟨L.sO,off,none⟩)
 | .ep cells,v=>∃b o,v= .pointer (some ⟨b,o,none⟩)/\sL g (g.σ b) o cells
 | .gp i,v=>v= .pointer (some ⟨i,0,none⟩)
 | .sl tok l,v=>
  (l=[]/\v= .slice none 0 0/\(match tok with| .own id _=>∃L,g.β id=some L|_=>True))\/
  ((match tok with| .nil=>False|_=>True)/\∃b o cap,(∃sp,v= .slice (some ⟨b,o,sp⟩) l.length cap/\(sp=none\/l=[]/\(cap=0\/∃e,tok= .none e)))/\l.length<=cap/\sK g tok.esz (g.σ b) o l/\
   (match tok with| .exact _=>cap=l.length| .own id e=>g.β id=some ⟨b,o+l.length*e,o+cap*e⟩|_=>True))
 | .ref id esz off len cap,v=>∃L,g.β id=some L/\L.lo=0/\v= .slice (some ⟨L.sO,off*esz,none⟩) len cap
 | .ap id esz i off,v=>∃L,g.β id=some L/\L.lo=0/\v= .pointer (some ⟨L.sO,i*esz+off,none⟩)
 | .agg cs,v=>∃vs:Array Value,v= .agg vs/\sG g cs vs.toList/\∀x∈vs.toList,x.oneCell'=true
 | .sH cs,v=>∃vs:Array Value,v= .tuple vs/\sG g cs vs.toList
 | .fn f x c,v=>∃x' c':Array Value,v= .func f x' c'/\sG g x x'.toList/\sG g c c'.toList
 | .tG,v=>v= .nilFunc
 | .ifc t a,v=>∃x,v= .iface t x/\AP g a x
 | .tA,v=>v= .nilIface
 | .mp id,v=>∃L,g.β id=some L/\v= .map (some L.sO)
 | .nilmp,v=>v= .map none
 | .up,v=>∃a,v= .pointer (some a)
def sG(g:z8):List Fs->List Value->Prop
 |[],vs=>vs=[]
 |a::as,vs=>∃v rest,vs=v::rest/\AP g a v/\sG g as rest
def sL(g:z8)(f:Nat->Option Value):Nat->List Fs->Prop
 |_,[]=>True
 |o,c::cs=>(∃x,f o=some x/\AP g c x/\x.oneCell'=true)/\sL g f (o+1) cs
def sK(g:z8)(esz:Nat)(f:Nat->Option Value):Nat->List Fs->Prop
 |_,[]=>True
 |o,e::l=>(∃v,AP g e v/\EM esz v/\∀(j:Nat) x,v.cells[j]?=some x->f (o+j)=some x)/\sK g esz f (o+esz) l
end
mutual
theorem AP.mono{g g':z8}(h:g.le g'):∀(a:Fs) (v:Value),AP g a v->AP g' a v
 | .bool _,_=>id
 | .int _ _,_=>id
 | .str _,_=>id
 | .nilp,_=>id
 | .ptr _ _,_=>by
  simp only[AP];rintro⟨L,h1,h2,rfl⟩;exact⟨L,h.β _ _ h1,h2,rfl⟩
 | .ep cells,_=>by
  simp only[AP];rintro⟨b,o,rfl,h1⟩;exact⟨b,o,rfl,sL.mono h (h.σ b) cells o h1⟩
 | .gp _,_=>id
 | .sl tok l,_=>by
  simp only[AP];rintro(⟨rfl,rfl,h0⟩|⟨ht,b,o,cap,hv,hc,hs,hk⟩)
  ·refine .inl ⟨rfl,rfl,?_⟩;cases tok<;>first|exact h0|exact h0.imp λL hL=>h.β _ _ hL
  ·refine .inr ⟨ht,b,o,cap,hv,hc,sK.mono h (h.σ b) _ l o hs,?_⟩;cases tok<;>first|exact hk|exact h.β _ _ hk
 | .ref _ _ _ _ _,_=>by
  simp only[AP];rintro⟨L,h1,h2,rfl⟩;exact⟨L,h.β _ _ h1,h2,rfl⟩
 | .ap _ _ _ _,_=>by
  simp only[AP];rintro⟨L,h1,h2,rfl⟩;exact⟨L,h.β _ _ h1,h2,rfl⟩
 | .agg cs,_=>by
  simp only[AP];rintro⟨vs,rfl,h1,h2⟩;exact⟨vs,rfl,sG.mono h cs _ h1,h2⟩
 | .sH cs,_=>by
  simp only[AP];rintro⟨vs,rfl,h1⟩;exact⟨vs,rfl,sG.mono h cs _ h1⟩
 | .fn _ x c,_=>by
  simp only[AP];rintro⟨x',c',rfl,h1,h2⟩;exact⟨x',c',rfl,sG.mono h x _ h1,sG.mono h c _ h2⟩
 | .tG,_=>id
 | .ifc _ a,_=>by
  simp only[AP];rintro⟨x,rfl,h1⟩;exact⟨x,rfl,AP.mono h a x h1⟩
 | .tA,_=>id
 | .mp _,_=>by
  simp only[AP];rintro⟨L,h1,rfl⟩;exact⟨L,h.β _ _ h1,rfl⟩
 | .nilmp,_=>id
 | .up,_=>id
theorem sG.mono{g g':z8}(h:g.le g'):∀(as:List Fs) (vs:List Value),sG g as vs->sG g' as vs
 |[],_=>id
 |a::as,_=>by
  simp only[sG];rintro⟨v,rest,rfl,h1,h2⟩;exact⟨v,rest,rfl,AP.mono h a v h1,sG.mono h as rest h2⟩
theorem sL.mono{g g':z8}(h:g.le g'){f f':Nat->Option Value}(hf:∀o x,f o=some x->f' o=some x):∀(cs:List Fs) (o:Nat),sL g f o cs->sL g' f' o cs
 |[],_=>λ_=>zt
 |c::cs,o=>by
  simp only[sL];rintro⟨⟨x,h1,h2,h4⟩,h3⟩;exact⟨⟨x,hf _ _ h1,AP.mono h c x h2,h4⟩,sL.mono h hf cs (o+1) h3⟩
theorem sK.mono{g g':z8}(h:g.le g'){f f':Nat->Option Value}(hf:∀o x,f o=some x->f' o=some x)(esz:Nat):∀(l:List Fs) (o:Nat),sK g esz f o l->sK g' esz f' o l
 |[],_=>λ_=>zt
 |e::l,o=>by
  simp only[sK];rintro⟨⟨v,h1,h2,h3⟩,h4⟩;exact⟨⟨v,AP.mono h e v h1,h2,λj x hx=>hf _ _ (h3 j x hx)⟩,sK.mono h hf esz l (o+esz) h4⟩
end
def Vu(i:Nat):Option (List Fs):=match i with
 |0=>some [.int .u32 1779033703,.int .u32 3144134277,.int .u32 1013904242,.int .u32 2773480762,.int .u32 1359893119,.int .u32 2600822924,.int .u32 528734635,.int .u32 1541459225]
 |1=>some [.int .u32 1116352408,.int .u32 1899447441,.int .u32 3049323471,.int .u32 3921009573,.int .u32 961987163,.int .u32 1508970993,.int .u32 2453635748,.int .u32 2870763221,.int .u32 3624381080,.int .u32 310598401,.int .u32 607225278,.int .u32 1426881987,.int .u32 1925078388,.int .u32 2162078206,.int .u32 2614888103,.int .u32 3248222580,.int .u32 3835390401,.int .u32 4022224774,.int .u32 264347078,.int .u32 604807628,.int .u32 770255983,.int .u32 1249150122,.int .u32 1555081692,.int .u32 1996064986,.int .u32 2554220882,.int .u32 2821834349,.int .u32 2952996808,.int .u32 3210313671,.int .u32 3336571891,.int .u32 3584528711,.int .u32 113926993,.int .u32 338241895,.int .u32 666307205,.int .u32 773529912,.int .u32 1294757372,.int .u32 1396182291,.int .u32 1695183700,.int .u32 1986661051,.int .u32 2177026350,.int .u32 2456956037,.int .u32 2730485921,.int .u32 2820302411,.int .u32 3259730800,.int .u32 3345764771,.int .u32 3516065817,.int .u32 3600352804,.int .u32 4094571909,.int .u32 275423344,.int .u32 430227734,.int .u32 506948616,.int .u32 659060556,.int .u32 883997877,.int .u32 958139571,.int .u32 1322822218,.int .u32 1537002063,.int .u32 1747873779,.int .u32 1955562222,.int .u32 2024104815,.int .u32 2227730452,.int .u32 2361852424,.int .u32 2428436474,.int .u32 2756734187,.int .u32 3204031479,.int .u32 3329325298]
 |_=>none
def EN(g:z8):Prop:=∀i cs,Vu i=some cs->sL g (g.σ i) 0 cs
def EN.mono{g g':z8}(h:g.le g')(k:EN g):EN g':=λi cs e=>sL.mono h (h.σ i) cs 0 (k i cs e)
section
def BC:List (Nat×Bool×Fs)->Nat->Option (Bool×Fs)
 |[],_=>none
 |(t,gv)::r,i=>if t=i then some gv else BC r i
def By(g:z8)(env:List (Nat×Bool×Fs))(tmps:Array Value):Prop:=
 ∀t gd v,BC env t=some (gd,v)->∃x,tmps[t]?=some x/\(gd=true->AP g v x)/\(gd=false->x=undef)
variable {tm:Array Value} {g g' g1:z8} {ds:List Deferred} {m n B:Nat} {w w' w1:World}
theorem By.mono(h:g.le g'){env:List (Nat×Bool×Fs)}{tmps:Array Value}(e:By g env tmps):By g' env tmps:=
 λt gd v k=>let ⟨x,h1,h2,h3⟩:=e t gd v k;⟨x,h1,λq=>(h2 q).mono h,h3⟩
structure LoopA where
 l:Nat
 st:LoopState
 tS:Option Code
 nt:Nat
 env:List (Nat×Bool×Fs)
 ps:Array Tmp
 asg:Code
 body:Code
def LRel(g:z8)(w:World)(b:Nat)(x:LoopA):Prop:=
 b=x.l/\∃r:Loop,w.heap[b]?=some (.loop r)/\r.state=x.st/\r.pending=x.tS/\r.params=x.ps/\r.assign=x.asg/\r.body=x.body/\By g x.env r.tmps/\x.nt<=r.tmps.size
inductive xq where
 |box (cs:List Fs)
 |tok
 |arr (esz:Nat) (l:List Fs)
 |frz (esz:Nat) (l:List Fs)
 |map (es:List (Fs×Fs×Nat)) (clock:Nat)
 |sit (s:List UInt8) (pos:Nat)
 |mit (m c:Nat) (seen:List Nat) (last:Nat)
 |lp (x:LoopA)
 |dead
def xq.owns:xq->Bool
 | .frz .. =>false
 | .dead=>false
 |_=>true
abbrev AB:=Nat->Option xq
def Ac:AB:=λ_=>none
def AD(H:AB)(i:Nat):Option xq:=H i
def sA(H:AB)(i:Nat)(o:xq):AB:=λj=>if i=j then some o else H j
theorem YQ(i:Nat):AD Ac i=none:=rfl
theorem AN(H:AB)(i j:Nat)(o:xq):AD (sA H i o) j=if i=j then some o else AD H j:=rfl
theorem AC(H:AB)(i:Nat)(o:xq):AD (sA H i o) i=some o:=by simp [AN]
theorem AA(H:AB)(i j:Nat)(o:xq)(h:i≠j):AD (sA H i o) j=AD H j:=by simp [AN,h]
theorem AH(H:AB)(i:Nat)(a b:xq):sA (sA H i a) i b=sA H i b:=by
 funext j;simp only[sA];split<;>rfl
theorem IL(H:AB)(i j:Nat)(a b:xq)(h:i≠j):sA (sA H i a) j b=sA (sA H j b) i a:=by
 funext k;simp only[sA];by_cases h1:j=k
 ·subst h1;rw[oE rfl,og h,oE rfl]
 ·simp [h1]
def Dt(g:z8):List (Fs×Fs×Nat)->List MapEntry->Prop
 |[],es=>es=[]
 |(k,v,b)::r,es=>∃e tD,es=e::tD/\AP g k e.key/\AP g v e.val/\e.born=b/\Dt g r tD
theorem Dt.mono(h:g.le g'):∀(es:List (Fs×Fs×Nat)) (tD:List MapEntry),Dt g es tD->Dt g' es tD
 |[],_=>id
 |(k,v,b)::r,_=>by
  simp only[Dt];rintro⟨e,tD,rfl,h1,h2,h3,h4⟩;exact⟨e,tD,rfl,h1.mono h,h2.mono h,h3,Dt.mono h r tD h4⟩
def FE(g:z8)(w:World)(id:Nat):xq->Prop
 | .box cs=>∃L c e,g.β id=some L/\L.lo=0/\L.hi=cs.length/\w.heap[L.sO]?=some (.cells c e (0,0))/\c.size=cs.length/\sL g (λo=>c[o]?) 0 cs
 | .tok=>∃L,g.β id=some L/\(L.lo<L.hi->∃c e,w.heap[L.sO]?=some (.cells c e (0,0))/\L.hi<=c.size)
 | .arr esz l=>∃L c e,g.β id=some L/\L.lo=0/\L.hi=c.size/\w.heap[L.sO]?=some (.cells c e (0,0))/\l.length*esz=c.size/\sK g esz (λo=>c[o]?) 0 l
 | .frz esz l=>∃L,g.β id=some L/\L.lo=0/\sK g esz (g.σ L.sO) 0 l
 | .map es clock=>∃L tD,g.β id=some L/\L.lo=0/\L.hi=1/\w.heap[L.sO]?=some (.map tD clock)/\Dt g es tD.toList
 | .sit s pos=>∃L,g.β id=some L/\L.lo=0/\L.hi=1/\w.heap[L.sO]?=some (.stringIter ⟨s.toArray⟩ pos)
 | .mit m c seen last=>∃L Lm,g.β id=some L/\L.lo=0/\L.hi=1/\w.heap[L.sO]?=some (.mapIter (some Lm.sO) c seen.toArray last)/\g.β m=some Lm/\c<=last
 | .lp x=>∃L,g.β id=some L/\L.lo=0/\L.hi=1/\LRel g w L.sO x
 | .dead=>True
def Iu(own:Nat->Prop):Obj->Option Obj->Prop
 | .cells c e fz,r=>∃c',r=some (.cells c' e fz)/\c'.size=c.size/\∀o,¬own o->c'[o]?=c[o]?
 |ob,r=>own 0\/r=some ob
theorem Iu.same(own:Nat->Prop)(ob:Obj):Iu own ob (some ob):=by
 cases ob<;>first|exact⟨_,rfl,rfl,λ_ _=>rfl⟩|exact .inr rfl
def F7(w:World):Prop:=∀i cs,Vu i=some cs->∃c e fz,w.heap[i]?=some (.cells c e fz)/\c.size=cs.length
theorem F7.kept{own:Nat->Nat->Prop}(k:F7 w)(h:∀(b:Nat) ob,w.heap[b]?=some ob->Iu (own b) ob w'.heap[b]?):F7 w':=by
 intro i cs e;obtain⟨c,t,fz,h1,h2⟩:=k i cs e;obtain⟨c',h3,h4,_⟩:=h i _ h1;exact⟨c',t,fz,h3,zo⟩
theorem F7.ext(k:F7 w)(h:∀(b:Nat) c e fz,w.heap[b]?=some (.cells c e fz)->w'.heap[b]?=some (.cells c e fz)):F7 w':=by
 intro i cs e;obtain⟨c,t,fz,h1,h2⟩:=k i cs e;exact⟨c,t,fz,h _ _ _ _ h1,h2⟩
structure x6(g:z8)(H:AB)(n:Nat)(w:World):Prop where
 σw:∀b o v,g.σ b o=some v->w.cell? ⟨b,o,none⟩=some v
 obj:∀id ob,AD H id=some ob->FE g w id ob
 uu:∀id L,g.β id=some L->AD H id≠none/\(L.lo<L.hi->L.sO<w.heap.size)
 hd:∀id ob,AD H id=some ob->id<n
 ap:∀id uP ob ob' L L',id≠uP->AD H id=some ob->AD H uP=some ob'->ob.owns=true->ob'.owns=true->g.β id=some L->g.β uP=some L'->
  L.sO=L'.sO->L.hi<=L'.lo\/L'.hi<=L.lo\/L.hi<=L.lo\/L'.hi<=L'.lo
 un:∀id ob L o,AD H id=some ob->ob.owns=true->g.β id=some L->L.lo<=o->o<L.hi->g.σ L.sO o=none
 gl:EN g
 gz:F7 w
def D5(g:z8)(H:AB)(b o:Nat):Prop:=
 ∃id ob L,AD H id=some ob/\ob.owns=true/\g.β id=some L/\L.sO=b/\L.lo<=o/\o<L.hi
structure q8(m:Nat)(g:z8)(H:AB)(w:World)(g':z8)(H':AB)(w':World):Prop where
 le:g.le g'
 βn:∀id L,g'.β id=some L->g.β id=some L\/m<=id
 os:w'.os=w.os
 tape:w'.tape=w.tape
 output:w'.output=w.output
 size:w.heap.size<=w'.heap.size
 kept:∀(b:Nat) ob,w.heap[b]?=some ob->Iu (D5 g H b) ob w'.heap[b]?
 now:∀b o,b<w.heap.size->D5 g' H' b o->D5 g H b o
 nσ:∀b o v,b<w.heap.size->g'.σ b o=some v->g.σ b o=some v\/D5 g H b o
theorem q8.refl(m:Nat)(g:z8)(H:AB)(w:World):q8 m g H w g H w where
 le:=.refl g
 βn:=λ_ _ h=>.inl h
 os:=rfl
 tape:=rfl
 output:=rfl
 size:=od _
 kept:=λb ob h=>by rw[h];exact Iu.same _ _
 now:=λ_ _ _ h=>h
 nσ:=λ_ _ _ _ h=>.inl h
theorem q8.floor{m':Nat}{H H':AB}(h:q8 m g H w g' H' w')(hm:m'<=m):q8 m' g H w g' H' w':=
 {h with βn:=λid L x=>(h.βn id L x).imp (λa=>a) (λa=>pu hm a)}
theorem q8.trans{g2:z8}{H H1 H2:AB}{w2:World}(h:q8 m g H w g1 H1 w1)(k:q8 m g1 H1 w1 g2 H2 w2):q8 m g H w g2 H2 w2 where
 le:=h.le.trans k.le
 βn:=λid L x=>by
  rcases k.βn id L x with y|y
  ·exact h.βn id L y
  ·exact .inr y
 os:=k.os.trans h.os
 tape:=k.tape.trans h.tape
 output:=k.output.trans h.output
 size:=pu h.size k.size
 kept:=λb ob hb=>by
  have e9:b<w.heap.size:=(oU.1 hb).1;have h1:=h.kept b ob hb;have stay:∀o,¬D5 g H b o->¬D5 g1 H1 b o:=λo ho hh=>ho (h.now b o e9 hh)
  have other:∀ob',(∀c e fz,ob'≠ .cells c e fz)->(D5 g H b 0\/w1.heap[b]?=some ob')->D5 g H b 0\/w2.heap[b]?=some ob':=by
   intro ob' sZ h1;rcases h1 with h1|h1
   ·exact .inl h1
   ·have h2:=k.kept b ob' h1;by_cases ho:D5 g H b 0
    ·exact .inl ho
    ·refine .inr ?_;cases ob'<;>first|exact(h2.resolve_left (stay 0 ho))|exact absurd rfl (sZ _ _ _)
  cases ob<;>first|exact other _ (by intros;simp) h1|skip
  obtain⟨c1,e1,s1,k1⟩:=h1;have h2:=k.kept b _ e1;obtain⟨c2,e2,s2,k2⟩:=h2;exact⟨c2,e2,s2.trans s1,λo ho=>(k2 o (stay o ho)).trans (k1 o ho)⟩
 now:=λb o hb hh=>h.now b o hb (k.now b o (qg hb h.size) hh)
 nσ:=λb o v hb hh=>by
  rcases k.nσ b o v (qg hb h.size) hh with x|x
  ·exact h.nσ b o v hb x
  ·exact .inr (h.now b o hb x)
def xv.under(n:Nat):xv->Prop
 | .own id _=>id<n
 |_=>True
mutual
def Fs.under(n:Nat):Fs->Prop
 | .ptr id _=>id<n
 | .ep cells=>sN n cells
 | .sl t l=>t.under n/\sN n l
 | .ap id _ _ _=>id<n
 | .ref id _ _ _ _=>id<n
 | .agg cs=>sN n cs
 | .sH cs=>sN n cs
 | .fn _ x c=>sN n x/\sN n c
 | .ifc _ a=>a.under n
 | .mp id=>id<n
 |_=>True
def sN(n:Nat):List Fs->Prop
 |[]=>True
 |a::as=>a.under n/\sN n as
end
def KJ(n:Nat):List (Fs×Fs×Nat)->Prop
 |[]=>True
 |(k,v,_)::r=>k.under n/\v.under n/\KJ n r
def xq.under(n:Nat):xq->Prop
 | .box cs=>sN n cs
 | .arr _ l=>sN n l
 | .frz _ l=>sN n l
 | .map es _=>KJ n es
 | .mit m _ _ _=>m<n
 | .lp x=>∀t v,BC x.env t=some (true,v)->v.under n
 |_=>True
theorem MT:∀i cs,Vu i=some cs->sN 0 cs:=by
 intro i cs h;unfold Vu at h;repeat' split at h;all_goals first|(cases h;simp [sN,Fs.under];done)|cases h
def JU(n:Nat)(g' g:z8):Prop:=(∀id L,id<n->g'.β id=some L->g.β id=some L)/\∀b o v,g'.σ b o=some v->g.σ b o=some v
mutual
variable {g g':z8} {n:Nat}
theorem AP.agree(h:JU n g' g):∀(a:Fs) (v:Value),a.under n->AP g' a v->AP g a v
 | .bool _,_=>λ_=>id
 | .int _ _,_=>λ_=>id
 | .str _,_=>λ_=>id
 | .nilp,_=>λ_=>id
 | .ptr _ _,_=>by
  simp only[AP,Fs.under];rintro hb ⟨L,h1,h2,rfl⟩;exact⟨L,h.1 _ _ hb h1,h2,rfl⟩
 | .ep cells,_=>by
  simp only[AP,Fs.under];rintro hb ⟨b,o,rfl,h1⟩;exact⟨b,o,rfl,sL.agree h (h.2 b) cells o hb h1⟩
 | .gp _,_=>λ_=>id
 | .sl tok l,_=>by
  simp only[AP,Fs.under];rintro⟨hb1,am⟩ (⟨rfl,rfl,h0⟩|⟨ht,b,o,cap,hv,hc,hs,hk⟩)
  ·refine .inl ⟨rfl,rfl,?_⟩;cases tok<;>first|exact h0|exact h0.imp λL hL=>h.1 _ _ hb1 hL
  ·refine .inr ⟨ht,b,o,cap,hv,hc,sK.agree h (h.2 b) _ l o am hs,?_⟩;cases tok<;>first|exact hk|exact h.1 _ _ hb1 hk
 | .ref _ _ _ _ _,_=>by
  simp only[AP,Fs.under];rintro hb ⟨L,h1,h2,rfl⟩;exact⟨L,h.1 _ _ hb h1,h2,rfl⟩
 | .ap _ _ _ _,_=>by
  simp only[AP,Fs.under];rintro hb ⟨L,h1,h2,rfl⟩;exact⟨L,h.1 _ _ hb h1,h2,rfl⟩
 | .agg cs,_=>by
  simp only[AP,Fs.under];rintro hb ⟨vs,rfl,h1,h2⟩;exact⟨vs,rfl,sG.agree h cs _ hb h1,h2⟩
 | .sH cs,_=>by
  simp only[AP,Fs.under];rintro hb ⟨vs,rfl,h1⟩;exact⟨vs,rfl,sG.agree h cs _ hb h1⟩
 | .fn _ x c,_=>by
  simp only[AP,Fs.under];rintro⟨hb1,am⟩ ⟨x',c',rfl,h1,h2⟩;exact⟨x',c',rfl,sG.agree h x _ hb1 h1,sG.agree h c _ am h2⟩
 | .tG,_=>λ_=>id
 | .ifc _ a,_=>by
  simp only[AP,Fs.under];rintro hb ⟨x,rfl,h1⟩;exact⟨x,rfl,AP.agree h a x hb h1⟩
 | .tA,_=>λ_=>id
 | .mp _,_=>by
  simp only[AP,Fs.under];rintro hb ⟨L,h1,rfl⟩;exact⟨L,h.1 _ _ hb h1,rfl⟩
 | .nilmp,_=>λ_=>id
 | .up,_=>λ_=>id
theorem sG.agree(h:JU n g' g):∀(as:List Fs) (vs:List Value),sN n as->sG g' as vs->sG g as vs
 |[],_=>λ_=>id
 |a::as,_=>by
  simp only[sG,sN];rintro⟨hb1,am⟩ ⟨v,rest,rfl,h1,h2⟩;exact⟨v,rest,rfl,AP.agree h a v hb1 h1,sG.agree h as rest am h2⟩
theorem sL.agree(h:JU n g' g){f f':Nat->Option Value}(hf:∀o x,f o=some x->f' o=some x):∀(cs:List Fs) (o:Nat),sN n cs->sL g' f o cs->sL g f' o cs
 |[],_=>λ_ _=>zt
 |c::cs,o=>by
  simp only[sL,sN];rintro⟨hb1,am⟩ ⟨⟨x,h1,h2,h4⟩,h3⟩;exact⟨⟨x,hf _ _ h1,AP.agree h c x hb1 h2,h4⟩,sL.agree h hf cs (o+1) am h3⟩
theorem sK.agree(h:JU n g' g){f f':Nat->Option Value}(hf:∀o x,f o=some x->f' o=some x)(esz:Nat):∀(l:List Fs) (o:Nat),sN n l->sK g' esz f o l->sK g esz f' o l
 |[],_=>λ_ _=>zt
 |e::l,o=>by
  simp only[sK,sN];rintro⟨hb1,am⟩ ⟨⟨v,h1,h2,h3⟩,h4⟩;exact⟨⟨v,AP.agree h e v hb1 h1,h2,λj x hx=>hf _ _ (h3 j x hx)⟩,sK.agree h hf esz l (o+esz) am h4⟩
end
theorem Dt.agree(h:JU n g' g):∀(es:List (Fs×Fs×Nat)) (tD:List MapEntry),KJ n es->Dt g' es tD->Dt g es tD
 |[],_=>λ_=>id
 |(k,v,b)::r,_=>by
  simp only[Dt,KJ];rintro⟨b1,b2,b3⟩ ⟨e,tD,rfl,h1,h2,h3,h4⟩;exact⟨e,tD,rfl,AP.agree h _ _ b1 h1,AP.agree h _ _ b2 h2,h3,Dt.agree h r tD b3 h4⟩
mutual
variable {g:z8} {n:Nat}
theorem AP.under(h:∀id L,g.β id=some L->id<n):∀(a:Fs) (v:Value),AP g a v->a.under n
 | .bool _,_=>λ_=>zt
 | .int _ _,_=>λ_=>zt
 | .str _,_=>λ_=>zt
 | .nilp,_=>λ_=>zt
 | .ptr _ _,_=>by
  simp only[AP,Fs.under];rintro⟨L,h1,h2,rfl⟩;exact h _ _ h1
 | .ep cells,_=>by
  simp only[AP,Fs.under];rintro⟨b,o,rfl,h1⟩;exact sL.under h cells o h1
 | .gp _,_=>λ_=>zt
 | .sl tok l,_=>by
  simp only[AP,Fs.under];rintro(⟨rfl,rfl,h0⟩|⟨ht,b,o,cap,hv,hc,hs,hk⟩)
  ·refine⟨?_,zt⟩;cases tok<;>first|exact trivial|exact h0.elim λL hL=>h _ _ hL
  ·refine⟨?_,sK.under h l o hs⟩;cases tok<;>first|exact trivial|exact h _ _ hk
 | .ref _ _ _ _ _,_=>by
  simp only[AP,Fs.under];rintro⟨L,h1,h2,rfl⟩;exact h _ _ h1
 | .ap _ _ _ _,_=>by
  simp only[AP,Fs.under];rintro⟨L,h1,h2,rfl⟩;exact h _ _ h1
 | .agg cs,_=>by
  simp only[AP,Fs.under];rintro⟨vs,rfl,h1,-⟩;exact sG.under h cs _ h1
 | .sH cs,_=>by
  simp only[AP,Fs.under];rintro⟨vs,rfl,h1⟩;exact sG.under h cs _ h1
 | .fn _ x c,_=>by
  simp only[AP,Fs.under];rintro⟨x',c',rfl,h1,h2⟩;exact⟨sG.under h x _ h1,sG.under h c _ h2⟩
 | .tG,_=>λ_=>zt
 | .ifc _ a,_=>by
  simp only[AP,Fs.under];rintro⟨x,rfl,h1⟩;exact AP.under h a x h1
 | .tA,_=>λ_=>zt
 | .mp _,_=>by
  simp only[AP,Fs.under];rintro⟨L,h1,rfl⟩;exact h _ _ h1
 | .nilmp,_=>λ_=>zt
 | .up,_=>λ_=>zt
theorem sG.under(h:∀id L,g.β id=some L->id<n):∀(as:List Fs) (vs:List Value),sG g as vs->sN n as
 |[],_=>λ_=>zt
 |a::as,_=>by
  simp only[sG,sN];rintro⟨v,rest,rfl,h1,h2⟩;exact⟨AP.under h a v h1,sG.under h as rest h2⟩
theorem sL.under(h:∀id L,g.β id=some L->id<n){f:Nat->Option Value}:∀(cs:List Fs) (o:Nat),sL g f o cs->sN n cs
 |[],_=>λ_=>zt
 |c::cs,o=>by
  simp only[sL,sN];rintro⟨⟨x,h1,h2,-⟩,h3⟩;exact⟨AP.under h c x h2,sL.under h cs (o+1) h3⟩
theorem sK.under(h:∀id L,g.β id=some L->id<n){f:Nat->Option Value}{esz:Nat}:∀(l:List Fs) (o:Nat),sK g esz f o l->sN n l
 |[],_=>λ_=>zt
 |e::l,o=>by
  simp only[sK,sN];rintro⟨⟨v,h1,h2,h3⟩,h4⟩;exact⟨AP.under h e v h1,sK.under h l (o+esz) h4⟩
end
theorem Dt.under(h:∀id L,g.β id=some L->id<n):∀(es:List (Fs×Fs×Nat)) (tD:List MapEntry),Dt g es tD->KJ n es
 |[],_=>λ_=>zt
 |(k,v,b)::r,_=>by
  simp only[Dt,KJ];rintro⟨e,tD,rfl,h1,h2,h3,h4⟩;exact⟨AP.under h _ _ h1,AP.under h _ _ h2,Dt.under h r tD h4⟩
theorem FE.under{id:Nat}(h:∀id L,g.β id=some L->id<n):∀(ob:xq),FE g w id ob->ob.under n
 | .box cs=>λ⟨_,_,_,_,_,_,_,_,h6⟩=>sL.under h cs 0 h6
 | .tok=>λ_=>zt
 | .arr esz l=>λ⟨_,_,_,_,_,_,_,_,h6⟩=>sK.under h l 0 h6
 | .frz esz l=>λ⟨_,_,_,h6⟩=>sK.under h l 0 h6
 | .map es c=>λ⟨_,_,_,_,_,_,h6⟩=>Dt.under h es _ h6
 | .sit _ _=>λ_=>zt
 | .mit m _ _ _=>λ⟨_,_,_,_,_,_,h5,_⟩=>h _ _ h5
 | .lp x=>λ⟨_,_,_,_,_,_,_,_,_,_,_,_,h8,_⟩ t v e=>let ⟨y,_,h2,_⟩:=h8 t true v e;AP.under h v y (h2 rfl)
 | .dead=>λ_=>zt
theorem FE.agree{id:Nat}(h:JU n g' g)(s5:id<n):∀(ob:xq),ob.under n->FE g' w id ob->FE g w id ob
 | .box cs=>λhb ⟨L,c,e,h1,h2,h3,h4,h5,h6⟩=>⟨L,c,e,h.1 _ _ s5 h1,h2,h3,h4,h5,sL.agree h (λ_ _ x=>x) cs 0 hb h6⟩
 | .tok=>λ_ ⟨L,h1,h2⟩=>⟨L,h.1 _ _ s5 h1,h2⟩
 | .arr esz l=>λhb ⟨L,c,e,h1,h2,h3,h4,h5,h6⟩=>⟨L,c,e,h.1 _ _ s5 h1,h2,h3,h4,h5,sK.agree h (λ_ _ x=>x) esz l 0 hb h6⟩
 | .frz esz l=>λhb ⟨L,h1,h2,h3⟩=>⟨L,h.1 _ _ s5 h1,h2,sK.agree h (h.2 L.sO) esz l 0 hb h3⟩
 | .map es c=>λhb ⟨L,tD,h1,h2,h3,h4,h5⟩=>⟨L,tD,h.1 _ _ s5 h1,h2,h3,h4,Dt.agree h es _ hb h5⟩
 | .sit _ _=>λ_ ⟨L,h1,h2⟩=>⟨L,h.1 _ _ s5 h1,h2⟩
 | .mit m _ _ _=>λhb ⟨L,Lm,h1,h2,h3,h4,h5,h6⟩=>⟨L,Lm,h.1 _ _ s5 h1,h2,h3,h4,h.1 _ _ hb h5,h6⟩
 | .lp x=>λhb ⟨L,h1,h2,h3,h4,r,k1,k2,k3,k4,k5,k6,k7,k8⟩=>⟨L,h.1 _ _ s5 h1,h2,h3,h4,r,k1,k2,k3,k4,k5,k6,
   λt gd v e=>let ⟨y,q1,q2,q3⟩:=k7 t gd v e;⟨y,q1,λhg=>AP.agree h v y (hb t v (by rw[e,hg])) (q2 hg),q3⟩,k8⟩
 | .dead=>λ_ _=>zt
theorem x6.lt{H:AB}(r:x6 g H n w):∀id L,g.β id=some L->id<n:=λid L h=>by
 have h1:=(r.uu id L h).1;cases h2:AD H id with
 |none=>exact absurd h2 h1
 |some ob=>exact r.hd id ob h2
def YR(a b:xq):Prop:=(∀g w id,FE g w id a->FE g w id b)/\(b.owns=true->a.owns=true)
theorem YR.refl(a:xq):YR a a:=⟨λ_ _ _ h=>h,λh=>h⟩
def Ha(n:Nat)(H H1 H2:AB):Prop:=
 (∀id ob,AD H2 id=some ob->id<n/\(∃ob1,AD H1 id=some ob1/\YR ob1 ob)/\(ob.under n\/AD H id=some ob))/\∀id,AD H id≠none->AD H2 id≠none
theorem forget{n1:Nat}{H H1 H2:AB}(r0:x6 g H n w)(r1:x6 g1 H1 n1 w1)(t:q8 n g H w g1 H1 w1)(h2:Ha n H H1 H2):
  x6 ⟨g.β,g1.σ⟩ H2 n w1/\q8 n g H w ⟨g.β,g1.σ⟩ H2 w1/\JU n g1 ⟨g.β,g1.σ⟩:=by
 have ag:JU n g1 ⟨g.β,g1.σ⟩:=⟨λid L s5 hL=>(t.βn id L hL).resolve_right zo,λ_ _ _ h=>h⟩;have up:∀id L,g.β id=some L->g1.β id=some L:=t.le.β;have own:∀b o,D5 ⟨g.β,g1.σ⟩ H2 b o->D5 g1 H1 b o:=by
  rintro b o ⟨id,ob,L,q1,q2,q3,q4,q5,q6⟩;obtain⟨-,⟨ob1,p1,p2⟩,-⟩:=h2.1 id ob q1;exact⟨id,ob1,L,p1,p2.2 q2,up _ _ q3,q4,q5,q6⟩
 refine⟨⟨r1.σw,?_,?_,?_,?_,?_,EN.mono (g:=g) (g':=⟨g.β,g1.σ⟩) ⟨λ_ _ h=>h,t.le.σ⟩ r0.gl,r1.gz⟩,⟨⟨λ_ _ h=>h,t.le.σ⟩,λ_ _ h=>.inl h,t.os,t.tape,t.output,t.size,t.kept,?_,t.nσ⟩,ag⟩
 ·intro id ob hob;obtain⟨q1,⟨ob1,q2,q4⟩,q3⟩:=h2.1 id ob hob;have hu:ob.under n:=q3.elim (λh=>h) (λh=>FE.under r0.lt ob (r0.obj id ob h));exact FE.agree ag q1 ob hu (q4.1 _ _ _ (r1.obj id ob1 q2))
 ·intro id L hL;refine⟨h2.2 id (r0.uu id L hL).1,λe9=>qg ((r0.uu id L hL).2 e9) t.size⟩
 ·intro id ob hob;exact(h2.1 id ob hob).1
 ·intro id uP ob ob' L L' sZ q1 q2 q3 q4 q5 q6;obtain⟨-,⟨ob1,p1,p2⟩,-⟩:=h2.1 id ob q1;obtain⟨-,⟨ob2,p3,p4⟩,-⟩:=h2.1 uP ob' q2;exact r1.ap id uP ob1 ob2 L L' sZ p1 p3 (p2.2 q3) (p4.2 q4) (up _ _ q5) (up _ _ q6)
 ·intro id ob L o q1 q2 q3 q4 q5;obtain⟨-,⟨ob1,p1,p2⟩,-⟩:=h2.1 id ob q1;exact r1.un id ob1 L o p1 (p2.2 q2) (up _ _ q3) q4 q5
 ·intro b o hb hh;exact t.now b o hb (own b o hh)
theorem Si{H H1 H2:AB}(t:q8 n g H w g1 H1 w1)(h2:Ha n H H1 H2){b o:Nat}:D5 ⟨g.β,g1.σ⟩ H2 b o->D5 g1 H1 b o:=by
 rintro⟨id,ob,L,q1,q2,q3,q4,q5,q6⟩;obtain⟨-,⟨ob1,p1,p2⟩,-⟩:=h2.1 id ob q1;exact⟨id,ob1,L,p1,p2.2 q2,t.le.β _ _ q3,q4,q5,q6⟩
def NW(B:Nat)(g:z8)(H:AB):List Deferred->World->Prop
 |[],_=>True
 |d::ds,w=>(∃b,d.target= .collected b/\B<=b/\w.heap[b]?=some (.deferred (some []))/\¬D5 g H b 0/\∀d'∈ds,d'.target≠ .collected b)/\NW B g H ds w
theorem NW.step{H H':AB}(t:q8 m g H w g' H' w'):∀{ds:List Deferred},NW B g H ds w->NW B g' H' ds w'
 |[],_=>trivial
 |d::ds,⟨⟨b,h1,h2,h3,h4,h5⟩,h⟩=>by
  refine⟨⟨b,h1,h2,?_,λho=>h4 (t.now b 0 (oU.1 h3).1 ho),h5⟩,NW.step t h⟩;have:=t.kept b _ h3;exact this.resolve_left h4
theorem NW.own{H H':AB}(t:∀b,D5 g' H' b 0->D5 g H b 0):∀{ds:List Deferred},NW B g H ds w->NW B g' H' ds w
 |[],_=>trivial
 |d::ds,⟨⟨b,h1,h2,h3,h4,h5⟩,h⟩=>⟨⟨b,h1,h2,h3,λho=>h4 (t b ho),h5⟩,NW.own t h⟩
theorem NW.heap{H:AB}(h:w'.heap=w.heap):∀{ds:List Deferred},NW B g H ds w->NW B g H ds w'
 |[],_=>trivial
 |d::ds,⟨⟨b,h1,h2,h3,h4,h5⟩,k⟩=>⟨⟨b,h1,h2,by rw[h];exact h3,h4,h5⟩,NW.heap h k⟩
theorem NW.sO{H:AB}:∀{ds:List Deferred},NW B g H ds w->∀d∈ds,∃b,d.target= .collected b/\b<w.heap.size
 |[],_,d,hd=>by cases hd
 |d::ds,⟨⟨b,h1,h2,h3,h4,h5⟩,k⟩,d',hd=>by
  rcases ph.1 hd with rfl|hd
  ·grind
  ·exact NW.sO k d' hd
structure DP where
 fl:Nat
 base:List Deferred
 no:Bool
 lo:Nat
 tm:Array Value
def J4(D:DP)(g:z8)(H:AB)(ds:List Deferred)(tm:Array Value)(w:World):Prop:=∃ms,ds=ms++D.base/\NW D.fl g H ms w/\(D.no=true->ms=[]/\∀t,t<D.lo->tm[t]?=D.tm[t]?)
theorem J4.step{D:DP}{H H':AB}(t:q8 m g H w g' H' w'):J4 D g H ds tm w->J4 D g' H' ds tm w'
 |⟨ms,h1,h2,h3⟩=>⟨ms,h1,h2.step t,h3⟩
theorem J4.own{D:DP}{H H':AB}(t:∀b,D5 g' H' b 0->D5 g H b 0):J4 D g H ds tm w->J4 D g' H' ds tm w
 |⟨ms,h1,h2,h3⟩=>⟨ms,h1,h2.own t,h3⟩
theorem J4.heap{D:DP}{H:AB}(h:w'.heap=w.heap):J4 D g H ds tm w->J4 D g H ds tm w'
 |⟨ms,h1,h2,h3⟩=>⟨ms,h1,h2.heap h,h3⟩
theorem J4.nil{D:DP}{H:AB}(h:D.no=true->∀t,t<D.lo->tm[t]?=D.tm[t]?):J4 D g H D.base tm w:=⟨[],rfl,zt,λq=>⟨rfl,h q⟩⟩
theorem J4.put{D:DP}{H:AB}{d:Nat}{x:Value}(hd:D.lo<=d):J4 D g H ds tm w->J4 D g H ds (tm.setIfInBounds d x) w
 |⟨ms,h1,h2,h3⟩=>⟨ms,h1,h2,λq=>⟨(h3 q).1,λt ht=>by rw[pX zo];exact(h3 q).2 t ht⟩⟩
theorem x6.dblk{H:AB}(r:x6 g H n w){b:Nat}{x y:Option (List Deferred)}(hb:w.heap[b]?=some (.deferred x)):
  x6 g H n {w with heap:=w.heap.setIfInBounds b (.deferred y)}:=by
 have sU:∀(k:Nat) ob,(∀z,ob≠ .deferred z)->w.heap[k]?=some ob->(w.heap.setIfInBounds b (.deferred y))[k]?=some ob:=by grind
 refine⟨λk o v h=>?_,λid ob ho=>?_,λid L h=>⟨(r.uu id L h).1,λe9=>by simpa using(r.uu id L h).2 e9⟩,r.hd,r.ap,r.un,r.gl,r.gz.ext (λk c e fz h=>sU k _ (λz=>zw) h)⟩
 ·have h2:=r.σw k o v h;by_cases e:b=k
  ·subst e;simp [World.cell?,hb]at h2
  ·simp_all [World.cell?,pX]
 ·have:=r.obj id ob ho;cases ob with
  |box cs=>obtain⟨L,c,e,h1,h2,h3,h4,h5⟩:=this;exact⟨L,c,e,h1,h2,h3,sU _ _ zw h4,h5⟩
  |tok=>obtain⟨L,h1,h2⟩:=this;exact⟨L,h1,λe9=>let ⟨c,e,h3,h4⟩:=h2 e9;⟨c,e,sU _ _ zw h3,h4⟩⟩
  |arr esz l=>obtain⟨L,c,e,h1,h2,h3,h4,h5⟩:=this;exact⟨L,c,e,h1,h2,h3,sU _ _ zw h4,h5⟩
  |frz esz l=>exact this
  |map es c=>obtain⟨L,tD,h1,h2,h3,h4,h5⟩:=this;exact⟨L,tD,h1,h2,h3,sU _ _ zw h4,h5⟩
  |sit s pos=>obtain⟨L,h1,h2,h3,h4⟩:=this;exact⟨L,h1,h2,h3,sU _ _ zw h4⟩
  |mit m c seen last=>obtain⟨L,Lm,h1,h2,h3,h4,h5⟩:=this;exact⟨L,Lm,h1,h2,h3,sU _ _ zw h4,h5⟩
  |lp x=>obtain⟨L,h1,h2,h3,h4,r,k1,k2⟩:=this;exact⟨L,h1,h2,h3,h4,r,sU _ _ zw k1,k2⟩
  |dead=>trivial
end
section
inductive xx where
 |ret (v:Fs)
 |tJ (v:Fs)
def Vv(g:z8):xx->Ending->Prop
 | .ret a,.returned v=>AP g a v
 | .tJ a,.panicked chain=>∃v,chain=[{v,recovered:=false}]/\AP g a v
 |_,_=>False
def CF(P:Program)(f:FuncId):Prop:=∃fn,P.funcs[f]?=some fn/\fn.body.isNone=false/\(fn.name== "runtime.NumGoroutine")=false
def AO(P:Program)(f:FuncId)(args:List Fs)(H:AB)(n:Nat)(R:xx->AB->Nat->Prop):Prop:=
 CF P f/\∀g w vs,x6 g H n w->sG g args vs->
  Calls P f vs.toArray w λe w'=>∃g' out H' n',R out H' n'/\Vv g' out e/\x6 g' H' n' w'/\n<=n'/\q8 n g H w g' H' w'
variable {H:AB} {args:List Fs} {n:Nat} {P:Program}
theorem AO.mono{f:FuncId}{R R':xx->AB->Nat->Prop}(h:AO P f args H n R)(hr:∀o H' n',R o H' n'->R' o H' n'):AO P f args H n R':=
 ⟨h.1,λg w vs r v=>(h.2 g w vs r v).mono λe w' ⟨g',out,H',n',q,rest⟩=>⟨g',out,H',n',hr _ _ _ q,rest⟩⟩
def FR(r:Option Nat):Fence:={Fence.wide with round:=r}
def Cf(P:Program)(l:Nat)(args:List Fs)(H:AB)(n:Nat)(R:Bool->AB->Nat->Prop):Prop:=
 ∀r g w vs,x6 g H n w->sG g args vs->∃f tmps assign body,(Instr.yield l vs.toArray).run P w= .ok (.round l f tmps assign body) w/\
  RoundIn (FR r) 0 P l f tmps assign body w λe w'=>∃b g' H' n',e= .returned (.bool b)/\R b H' n'/\x6 g' H' n' w'/\n<=n'/\q8 n g H w g' H' w'
theorem Cf.mono{l:Nat}{R R':Bool->AB->Nat->Prop}(h:Cf P l args H n R)(hr:∀b H' n',R b H' n'->R' b H' n'):Cf P l args H n R':=
 λr g w vs a b=>let ⟨f,tmps,as,bd,h1,h2⟩:=h r g w vs a b;⟨f,tmps,as,bd,h1,h2.mono λe w' ⟨b,g',H',n',k1,k2,k3⟩=>⟨b,g',H',n',k1,hr _ _ _ k2,k3⟩⟩
def Ad(P:Program)(f:FuncId)(args:List Fs)(H:AB)(n:Nat)(r:Fs):Prop:=
 AO P f args H n λout H' n'=>out= .ret r/\H'=H/\n'=n
def Wk(a b:Fs):Prop:=∀g v,AP g a v->AP g b v
theorem Wk.refl(a:Fs):Wk a a:=λ_ _ h=>h
def A6(P:Program)(f:FuncId)(args:List Fs)(r:Fs):Prop:=
 sN 0 args/\r.under 0/\AO P f args Ac 0 λout _ _=>∃v,out= .ret v/\Wk v r
theorem x6.sub{g:z8}{w:World}(r:x6 g H n w):x6 ⟨λ_=>none,g.σ⟩ Ac 0 w where
 σw:=r.σw
 obj:=λ_ _ h=>by simp [AD,Ac]at h
 uu:=λ_ _ h=>by simp at h
 hd:=λ_ _ h=>by simp [AD,Ac]at h
 ap:=λ_ _ _ _ _ _ _ h=>by simp [AD,Ac]at h
 un:=λ_ _ _ _ h=>by simp [AD,Ac]at h
 gl:=λi cs h=>sL.agree (n:=0) (g:=⟨λ_=>none,g.σ⟩) (g':=g) ⟨λ_ _ h=>absurd h (pD _),λ_ _ _ h=>h⟩ (λ_ _ x=>x) cs 0 (MT i cs h) (r.gl i cs h)
 gz:=r.gz
theorem Em{g:z8}{b o:Nat}:¬D5 g Ac b o:=by
 rintro⟨id,ob,L,h,_⟩;simp [AD,Ac]at h
theorem A6.quiet{f:FuncId}{r:Fs}(h:A6 P f args r)(H:AB)(n:Nat):Ad P f args H n r:=by
 obtain⟨ha,hr,hcb,hc⟩:=h;refine⟨hcb,λg w vs hR hvs=>?_⟩;have hvs0:sG ⟨λ_=>none,g.σ⟩ args vs:=sG.agree (n:=0) (g:=⟨λ_=>none,g.σ⟩) (g':=g) ⟨λ_ _ h=>absurd h (pD _),λ_ _ _ h=>h⟩ args vs ha hvs;refine(hc ⟨λ_=>none,g.σ⟩ w vs hR.sub hvs0).mono ?_;rintro e w' ⟨g',out,H',n',⟨v,rfl,hw⟩,he,hR',-,ht⟩;cases e with
 |panicked c=>exact he.elim
 |outgrown=>exact he.elim
 |returned x=>
  have hx:AP g' r x:=hw _ _ he
  have hσ:∀b o v,g.σ b o=some v->g'.σ b o=some v:=ht.le.σ;have old:∀b o v,b<w.heap.size->g'.σ b o=some v->g.σ b o=some v:=λb o v hb h=>(ht.nσ b o v hb h).resolve_right Em
  have keep:∀(b:Nat) ob,w.heap[b]?=some ob->w'.heap[b]?=some ob:=by
   intro b ob hb;have hk:=ht.kept b ob hb;cases ob<;>first|exact hk.resolve_left Em|skip
   obtain⟨c',h1,h2,h3⟩:=hk;rw[h1];congr 2;exact Array.ext_getElem? λi=>h3 i Em
  have gle:g.le ⟨g.β,g'.σ⟩:=⟨λ_ _ h=>h,hσ⟩;refine⟨⟨g.β,g'.σ⟩,.ret r,H,n,⟨rfl,rfl,rfl⟩,?_,?_,od _,?_⟩
  ·exact AP.agree (n:=0) (g:=⟨g.β,g'.σ⟩) (g':=g') ⟨λ_ _ h=>absurd h (pD _),λ_ _ _ h=>h⟩ r x hr hx
  ·refine⟨hR'.σw,?_,?_,hR.hd,hR.ap,?_,hR.gl.mono gle,hR'.gz⟩
   ·intro id ob hob;have ho:=hR.obj id ob hob;cases ob with
    |box cs=>obtain⟨L,c,e,h1,h2,h3,h4,h5,h6⟩:=ho;exact⟨L,c,e,h1,h2,h3,keep _ _ h4,h5,sL.mono gle (λ_ _ h=>h) cs 0 h6⟩
    |tok=>obtain⟨L,h1,h2⟩:=ho;exact⟨L,h1,λe9=>let ⟨c,e,h3,h4⟩:=h2 e9;⟨c,e,keep _ _ h3,h4⟩⟩
    |arr esz l=>obtain⟨L,c,e,h1,h2,h3,h4,h5,h6⟩:=ho;exact⟨L,c,e,h1,h2,h3,keep _ _ h4,h5,sK.mono gle (λ_ _ h=>h) esz l 0 h6⟩
    |frz esz l=>obtain⟨L,h1,h2,h3⟩:=ho;exact⟨L,h1,h2,sK.mono gle (hσ L.sO) esz l 0 h3⟩
    |map es c=>obtain⟨L,tD,h1,h2,h3,h4,h5⟩:=ho;exact⟨L,tD,h1,h2,h3,keep _ _ h4,Dt.mono gle _ _ h5⟩
    |sit s pos=>obtain⟨L,h1,h2,h3,h4⟩:=ho;exact⟨L,h1,h2,h3,keep _ _ h4⟩
    |mit m c seen last=>obtain⟨L,Lm,h1,h2,h3,h4,h5⟩:=ho;exact⟨L,Lm,h1,h2,h3,keep _ _ h4,h5⟩
    |lp x=>obtain⟨L,h1,h2,h3,h4,r,k1,k2,k3,k4,k5,k6,k7,k8⟩:=ho;exact⟨L,h1,h2,h3,h4,r,keep _ _ k1,k2,k3,k4,k5,k6,By.mono gle k7,k8⟩
    |dead=>trivial
   ·intro id L hL;exact⟨(hR.uu id L hL).1,λe9=>qg ((hR.uu id L hL).2 e9) ht.size⟩
   ·intro id ob L o q1 q2 q3 q4 q5;cases hs:g'.σ L.sO o with
    |none=>rfl
    |some v=>
     have hb:=(hR.uu id L q3).2 zo;have:=old _ _ _ hb hs;rw[hR.un id ob L o q1 q2 q3 q4 q5]at this;cases this
  ·exact⟨gle,λ_ _ h=>.inl h,ht.os,ht.tape,ht.output,ht.size,λb ob hb=>by rw[keep b ob hb];exact Iu.same _ _,λ_ _ _ h=>h,λb o v hb h=>.inl (old b o v hb h)⟩
end
section
inductive zx where
 |t (i:Nat)
 |c (v:Fs)
def Iv(k:IntKind):Fs->Prop
 | .int k' _=>k'=k
 |_=>False
def Cl:Fs->Prop
 | .int _ _=>True
 |_=>False
def BV:Fs->Int
 | .int _ n=>n
 |_=>0
def JV:Fs->Prop
 | .bool _=>True
 |_=>False
def FZ:Fs->Bool
 | .bool b=>b
 |_=>false
def MU:Fs->Prop
 | .str _=>True
 |_=>False
def HN:Fs->List UInt8
 | .str s=>s
 |_=>[]
def Vw:Fs->Prop
 | .ifc _ _=>True
 |_=>False
def K3:BinOp->Bool
 | .quo| .rem=>true
 |_=>false
def F8(op:BinOp)(k:IntKind)(x y:Int):Int:=
 let a:=BitVec.ofInt k.bits x
 let b:=BitVec.ofInt k.bits y
 match op with
 | .and=>k.wrap (a&&&b).toNat
 | .or=>k.wrap (a|||b).toNat
 | .xor=>k.wrap (a^^^b).toNat
 |_=>k.wrap (a&&& ~~~b).toNat
def Du(op:BinOp)(k:IntKind)(x y:Int):Int:=
 match op with
 | .add=>k.wrap (x+y)
 | .sub=>k.wrap (x-y)
 | .mul=>k.wrap (x*y)
 | .quo=>k.wrap (x.tdiv y)
 | .rem=>x.tmod y
 |op=>F8 op k x y
def C7(op:BinOp)(k:IntKind)(x y:Int):Int:=
 match op with
 | .shl=>k.wrap (x*2^(min y.toNat k.bits))
 |_=>x.fdiv (2^(min y.toNat k.bits))
def icmp(op:BinOp)(x y:Int):Bool:=
 match op with
 | .eql=>decide (x=y)
 | .neq=>!decide (x=y)
 | .lss=>decide (x<y)
 | .leq=>decide (x<=y)
 | .gtr=>decide (y<x)
 |_=>decide (y<=x)
def scmp(op:BinOp)(x y:List UInt8):Bool:=
 match op with
 | .eql=>decide (x=y)
 | .neq=>!decide (x=y)
 | .lss=>Op.bytesLess x y
 | .leq=>Op.bytesLess x y||decide (x=y)
 | .gtr=>!(Op.bytesLess x y||decide (x=y))
 |_=>!Op.bytesLess x y
mutual
def HQ:Fs->Fs->Bool
 | .int _ a,.int _ b=>decide (a=b)
 | .bool a,.bool b=>a==b
 | .str a,.str b=>decide (a=b)
 | .agg xs,.agg ys=>tN xs ys
 |_,_=>false
def tN:List Fs->List Fs->Bool
 |[],[]=>true
 |x::xs,y::ys=>HQ x y&&tN xs ys
 |_,_=>false
end
def ED:List Nat->List Fs->List Fs->Prop
 |[],[],[]=>True
 |0::fs,.int k _::xs,.int k' _::ys=>k=k'/\ED fs xs ys
 |1::fs,.bool _::xs,.bool _::ys=>ED fs xs ys
 |2::fs,.str _::xs,.str _::ys=>ED fs xs ys
 |_,_,_=>False
def nT:Fs->Prop
 | .sH _=>False
 |_=>True
def mk(ag:Bool)(cs:List Fs):Fs:=if ag then .agg cs else cs.headD (.sH [])
def sQ(cs:List Fs)(off:Nat)(xs:List Fs):List Fs:=cs.take off++xs++cs.drop (off+xs.length)
inductive x0 where
 |mv (x:zx)
 |arith (op:BinOp) (k:IntKind) (x y:zx)
 |shift (op:BinOp) (k ky:IntKind) (x y:zx)
 |icmp (op:BinOp) (k:IntKind) (x y:zx)
 |beq (neq:Bool) (x y:zx)
 |sadd (x y:zx)
 |scmp (op:BinOp) (x y:zx)
 |not (x:zx)
 |neg (k:IntKind) (x:zx)
 |conv (k:IntKind) (x:zx)
 |sid (x:zx)
 |fa (off:Nat) (x:zx)
 |fld (off sz:Nat) (ag:Bool) (x:zx)
 |ld (sz:Nat) (ag:Bool) (x:zx)
 |ia (esz:Nat) (x i:zx)
 |iaA (n esz:Nat) (x i:zx)
 |ixS (x i:zx)
 |ixA (n esz:Nat) (ag:Bool) (x i:zx)
 |slS (x:zx) (lo hi:Option zx)
 |sl (esz:Nat) (x:zx) (lo hi mx:Option zx)
 |lenS (x:zx)
 |len (x:zx)
 |mnmx (mx:Bool) (k:IntKind) (xs:List zx)
 |build (zero:List Fs) (parts:List (Nat×Nat×zx))
 |bs (esz n:Nat) (zero:Fs) (parts:List (Nat×zx))
 |mkz (esz bytes:Nat) (zero:Fs) (n:zx)
 |b2s (x:zx)
 |s2b (x:zx)
 |fn (f:Fn) (first cap:List zx)
 |ext (i:Nat) (x:zx)
 |ifc (t:TypeId) (x:zx)
 |nilc (x:zx)
 |aeq (neq:Bool) (fs:List Nat) (x y:zx)
 |capx (x:zx)
 |cmpl (k:IntKind) (x:zx)
 |slp (n:Nat) (x:zx) (lo hi:Option zx)
def x0.sF:x0->List zx
 | .mv x| .sid x| .not x| .neg _ x| .conv _ x| .fa _ x| .fld _ _ _ x| .ld _ _ x| .lenS x| .len x| .mkz _ _ _ x| .b2s x| .s2b x| .ext _ x| .ifc _ x| .nilc x| .capx x| .cmpl _ x=>[x]
 | .arith _ _ x y| .shift _ _ _ x y| .icmp _ _ x y| .beq _ x y| .sadd x y| .scmp _ x y| .ia _ x y| .iaA _ _ x y| .ixS x y| .ixA _ _ _ x y| .aeq _ _ x y=>[x,y]
 | .slS x lo hi| .slp _ x lo hi=>x::(lo.toList++hi.toList)
 | .sl _ x lo hi mx=>x::(lo.toList++hi.toList++mx.toList)
 | .mnmx _ _ xs=>xs
 | .build _ ps=>ps.map (·.2.2)
 | .bs _ _ _ ps=>ps.map (·.2)
 | .fn _ a b=>a++b
def A4(H:AB)(sz:Nat)(ag:Bool):Fs->Prop×Fs
 | .ptr id off=>match AD H id with
  |some (.box cs)=>(off+sz<=cs.length,mk ag ((cs.drop off).take sz))
  |_=>(False,.sH [])
 | .ep cs=>(sz<=cs.length,mk ag (cs.take sz))
 | .ap id esz i off=>match AD H id with
  |some (.arr e l)|some (.frz e l)=>(e=esz/\i<l.length/\off+sz<=esz,mk ag (((l[i]?.getD (.sH [])).cells.drop off).take sz))
  |_=>(False,.sH [])
 |_=>(False,.sH [])
def sS(ρ:zx->Fs)(d:Int):Option zx->Int
 |none=>d
 |some x=>BV (ρ x)
def CK(ρ:zx->Fs):Option zx->Prop
 |none=>True
 |some x=>Cl (ρ x)
def small(n bytes:Nat):Prop:=n*bytes<=35184372088832
def Ef(tok:xv)(len lo hi:Int)(mx:Option Int):xv:=
 match tok with
 | .nil=>.nil
 | .own _ e=>(match mx with|none=>.none e|some m=>if m=hi then .exact e else .none e)
 | .none e=>(match mx with|none=>.none e|some m=>if m=hi then .exact e else .none e)
 | .exact e=>(match mx with|none=>if hi=len then .exact e else .none e|some m=>if m=hi then .exact e else .none e)
def GP(esz:Nat)(ρ:zx->Fs)(lo hi:Option zx)(id e off len cap:Nat):Option zx->Prop×Fs
 |none=>(e=esz/\len<=cap/\CK ρ lo/\CK ρ hi/\0<=sS ρ 0 lo/\sS ρ 0 lo<=sS ρ len hi/\(sS ρ len hi<=len\/sS ρ len hi<=cap)/\sS ρ 0 lo<cap,
    .ref id e (off+(sS ρ 0 lo).toNat) ((sS ρ len hi).toNat-(sS ρ 0 lo).toNat) (cap-(sS ρ 0 lo).toNat))
 |some m=>(e=esz/\hi≠none/\CK ρ lo/\CK ρ hi/\Cl (ρ m)/\sS ρ 0 lo=0/\sS ρ len hi=0/\BV (ρ m)=0,.sl (.exact e) [])
def YS(ρ:zx->Fs)(mx:Bool)(k:IntKind)(xs:List zx):Prop×Fs:=((∀x∈xs,Iv k (ρ x))/\xs≠[],.int k (match xs with
  |[]=>0
  |x::r=>r.foldl (λm y=>if mx then max m (BV (ρ y))else min m (BV (ρ y))) (BV (ρ x))))
def evB(ρ:zx->Fs)(zero:List Fs)(parts:List (Nat×Nat×zx)):Prop×Fs:=
 ((∀p∈parts,nT (ρ p.2.2)/\(ρ p.2.2).cells.length=p.2.1/\p.1+p.2.1<=zero.length),.agg (parts.foldl (λcs p=>sQ cs p.1 (ρ p.2.2).cells) zero))
def evS(ρ:zx->Fs)(esz n:Nat)(zero:Fs)(parts:List (Nat×zx)):Prop×Fs:=
 ((∀p∈parts,nT (ρ p.2)/\(ρ p.2).cells.length=esz/\p.1<n)/\zero.cells.length=esz/\n*esz<=16777216,.sl (.exact esz) (parts.foldl (λl p=>l.set p.1 (ρ p.2)) (List.replicate n zero)))
def BN(H:AB)(ρ:zx->Fs):x0->Prop×Fs
 | .mv x=>(True,ρ x)
 | .arith op k x y=>(Iv k (ρ x)/\Iv k (ρ y)/\(K3 op=true->BV (ρ y)≠0),.int k (Du op k (BV (ρ x)) (BV (ρ y))))
 | .shift op k ky x y=>(Iv k (ρ x)/\Iv ky (ρ y)/\0<=BV (ρ y),.int k (C7 op k (BV (ρ x)) (BV (ρ y))))
 | .icmp op k x y=>(Iv k (ρ x)/\Iv k (ρ y),.bool (icmp op (BV (ρ x)) (BV (ρ y))))
 | .beq neq x y=>(JV (ρ x)/\JV (ρ y),.bool (if neq then FZ (ρ x) !=FZ (ρ y)else FZ (ρ x)==FZ (ρ y)))
 | .sadd x y=>(MU (ρ x)/\MU (ρ y)/\(HN (ρ x)).length+(HN (ρ y)).length<=9223372036854775807,.str (HN (ρ x)++HN (ρ y)))
 | .scmp op x y=>(MU (ρ x)/\MU (ρ y),.bool (scmp op (HN (ρ x)) (HN (ρ y))))
 | .not x=>(JV (ρ x),.bool (!FZ (ρ x)))
 | .neg k x=>(Iv k (ρ x),.int k (k.wrap (0-BV (ρ x))))
 | .sid x=>(MU (ρ x),.str (HN (ρ x)))
 | .conv k x=>(Cl (ρ x),.int k (k.wrap (BV (ρ x))))
 | .fa off x=>match ρ x with
  | .ptr id o=>(True,.ptr id (o+off))
  | .ep cs=>(True,.ep (cs.drop off))
  | .ap id e i o=>(True,.ap id e i (o+off))
  |_=>(False,.sH [])
 | .fld off sz ag x=>match ρ x with
  | .agg cs=>(off+sz<=cs.length,mk ag ((cs.drop off).take sz))
  |_=>(False,.sH [])
 | .ld sz ag x=>A4 H sz ag (ρ x)
 | .ia esz x i=>match ρ x with
  | .sl tok l=>(tok.esz=esz/\Cl (ρ i)/\0<=BV (ρ i)/\BV (ρ i)<l.length,.ep (l[(BV (ρ i)).toNat]?.getD (.sH [])).cells)
  | .ref id e off len _=>(e=esz/\Cl (ρ i)/\0<=BV (ρ i)/\BV (ρ i)<len,.ap id e (off+(BV (ρ i)).toNat) 0)
  |_=>(False,.sH [])
 | .iaA n esz x i=>match ρ x with
  | .ptr id o=>(Cl (ρ i)/\0<=BV (ρ i)/\BV (ρ i)<n,.ptr id (o+(BV (ρ i)).toNat*esz))
  | .ep cs=>(Cl (ρ i)/\0<=BV (ρ i)/\BV (ρ i)<n,.ep (cs.drop ((BV (ρ i)).toNat*esz)))
  |_=>(False,.sH [])
 | .ixS x i=>(MU (ρ x)/\Cl (ρ i)/\0<=BV (ρ i)/\BV (ρ i)<(HN (ρ x)).length,.int .u8 ((HN (ρ x))[(BV (ρ i)).toNat]?.getD 0).toNat)
 | .ixA n esz ag x i=>match ρ x with
  | .agg cs=>(Cl (ρ i)/\0<=BV (ρ i)/\BV (ρ i)<n/\(BV (ρ i)).toNat*esz+esz<=cs.length,mk ag ((cs.drop ((BV (ρ i)).toNat*esz)).take esz))
  |_=>(False,.sH [])
 | .slS x lo hi=>(MU (ρ x)/\CK ρ lo/\CK ρ hi/\0<=sS ρ 0 lo/\sS ρ 0 lo<=sS ρ (HN (ρ x)).length hi/\sS ρ (HN (ρ x)).length hi<=(HN (ρ x)).length,
   .str (((HN (ρ x)).take (sS ρ (HN (ρ x)).length hi).toNat).drop (sS ρ 0 lo).toNat))
 | .sl esz x lo hi mx=>match ρ x with
  | .sl tok l=>((tok= .nil\/tok.esz=esz)/\CK ρ lo/\CK ρ hi/\CK ρ mx/\(mx≠none->hi≠none)/\0<=sS ρ 0 lo/\sS ρ 0 lo<=sS ρ l.length hi/\sS ρ l.length hi<=l.length/\
     (∀m,mx=some m->sS ρ l.length hi<=BV (ρ m)/\BV (ρ m)<=l.length),
    .sl (Ef tok l.length (sS ρ 0 lo) (sS ρ l.length hi) (mx.map λm=>BV (ρ m))) ((l.take (sS ρ l.length hi).toNat).drop (sS ρ 0 lo).toNat))
  | .ref id e off len cap=>GP esz ρ lo hi id e off len cap mx
  |_=>(False,.sH [])
 | .lenS x=>(MU (ρ x),.int .i64 (HN (ρ x)).length)
 | .len x=>match ρ x with
  | .sl _ l=>(True,.int .i64 l.length)
  | .ref _ _ _ len _=>(True,.int .i64 len)
  |_=>(False,.sH [])
 | .mnmx mx k xs=>YS ρ mx k xs
 | .build zero parts=>evB ρ zero parts
 | .bs esz n zero parts=>evS ρ esz n zero parts
 | .mkz esz bytes zero n=>(Cl (ρ n)/\0<=BV (ρ n)/\small (BV (ρ n)).toNat bytes/\BV (ρ n)<=35184372088832/\zero.cells.length=esz,.sl (.exact esz) (List.replicate (BV (ρ n)).toNat zero))
 | .b2s x=>match ρ x with
  | .sl tok l=>((tok= .nil\/tok.esz=1)/\∃bs:List UInt8,l=bs.map λb=>.int .u8 b.toNat,.str (l.map λv=>UInt8.ofNat (BV v).toNat))
  |_=>(False,.sH [])
 | .s2b x=>(MU (ρ x),.sl (.none 1) ((HN (ρ x)).map λb=>.int .u8 b.toNat))
 | .fn f a b=>(True,.fn f (a.map ρ) (b.map ρ))
 | .ext i x=>match ρ x with
  | .sH vs=>(i<vs.length,vs[i]?.getD (.sH []))
  |_=>(False,.sH [])
 | .ifc t x=>(True,.ifc t (ρ x))
 | .nilc x=>match ρ x with
  | .ptr id o=>(True,.ptr id o)
  | .ep cs=>(True,.ep cs)
  | .ap id e i o=>(True,.ap id e i o)
  | .ifc t v=>(True,.ifc t v)
  | .fn (.func f) a b=>(True,.fn (.func f) a b)
  |_=>(False,.sH [])
 | .aeq neq fs x y=>match ρ x,ρ y with
  | .agg xs,.agg ys=>(ED fs xs ys,.bool (if neq then !tN xs ys else tN xs ys))
  |_,_=>(False,.sH [])
 | .capx x=>match ρ x with
  | .sl .nil []=>(True,.int .i64 0)
  | .ref _ _ _ _ cap=>(True,.int .i64 cap)
  |_=>(False,.sH [])
 | .cmpl k x=>(Iv k (ρ x),.int k (Du .xor k (if k.signed then -1 else k.max) (BV (ρ x))))
 | .slp n x lo hi=>match ρ x with
  | .ptr id 0=>(CK ρ lo/\CK ρ hi/\0<=sS ρ 0 lo/\sS ρ 0 lo<=sS ρ n hi/\sS ρ n hi<=n/\sS ρ 0 lo<n,.ref id 1 (sS ρ 0 lo).toNat ((sS ρ n hi).toNat-(sS ρ 0 lo).toNat) (n-(sS ρ 0 lo).toNat))
  |_=>(False,.sH [])
inductive KT where
 |int (k:IntKind)
 |bool
 |str
 |arr (n:Nat) (k:IntKind)
def Nf(k:IntKind):Nat->List Fs->Prop
 |0,[]=>True
 |n+1,.int k' _::r=>k'=k/\Nf k n r
 |_,_=>False
def KT.is:KT->Fs->Prop
 | .arr n k,.agg xs=>Nf k n xs
 | .int k,.int k' _=>k'=k
 | .bool,.bool _=>True
 | .str,.str _=>True
 |_,_=>False
def BZ(k:Fs):List (Fs×Fs×Nat)->Option Fs
 |[]=>none
 |(k',v,_)::r=>if HQ k k'=true then some v else BZ k r
def EE(k v:Fs)(c:Nat):List (Fs×Fs×Nat)->List (Fs×Fs×Nat)
 |[]=>[(k,v,c)]
 |(k',v',b)::r=>if HQ k k'=true then(k',v,b)::r else(k',v',b)::EE k v c r
def D6(kt:KT):List (Fs×Fs×Nat)->Prop
 |[]=>True
 |(k',_,_)::r=>kt.is k'/\D6 kt r
def Cm(zero:Fs)(ok:Bool)(o:Option Fs):Fs:=if ok=true then .sH [o.getD zero,.bool o.isSome]else o.getD zero
def MV(s:Nat):List (Fs×Fs×Nat)->Option (Fs×Fs)
 |[]=>none
 |(k,v,b)::r=>if b=s then some (k,v)else MV s r
def Iw(H:AB)(m:Nat)(seen:List Nat):Option (Fs×Fs):=match AD H m,seen.getLast? with
 |some (.map es _),some s=>MV s es
 |_,_=>none
inductive XOp where
 |mkm (rel:Nat)
 |look (kt:KT) (zero:Fs) (ok:Bool)
 |mput (kt:KT)
 |mlen
 |srng (rel:Nat)
 |mrng (rel:Nat)
 |ment
 |snext
 |i2s
 |tH (kd:Nat) (neq:Bool)
 |tas (t:TypeId) (ok:Bool) (zero:Fs)
 |cpy (esz:Nat) (str:Bool)
 |slx (n esz:Nat) (lo hi:Bool)
 |bsm (rel esz n:Nat) (zero:Fs) (is:List Nat)
 |mkc (rel esz bytes:Nat) (zero:Fs) (l c:Nat)
 |cpb
def Id:Fs->Bool
 | .int _ _=>true
 |_=>false
def grp(esz:Nat):Nat->List Fs->List Fs
 |0,_=>[]
 |n+1,cs=>.agg (cs.take esz)::grp esz n (cs.drop esz)
def Ix(H:AB)(n esz:Nat)(lo hi:Int):Fs->Prop×AB×Fs
 | .ptr id 0=>match AD H id with
  |some (.box cs)=>(cs.length=n*esz/\0<=lo/\lo<=hi/\hi<=n/\lo<n,sA H id (.arr esz (grp esz n cs)),.ref id esz lo.toNat (hi.toNat-lo.toNat) (n-lo.toNat))
  |some (.arr e l)=>(e=esz/\l.length=n/\0<=lo/\lo<=hi/\hi<=n/\lo<n,H,.ref id esz lo.toNat (hi.toNat-lo.toNat) (n-lo.toNat))
  |_=>(False,H,.sH [])
 |_=>(False,H,.sH [])
def PU(H:AB)(esz:Nat)(v:Fs):Bool->Option (List Fs)
 |true=>match v with
  | .str s=>some (s.map λb=>.int .u8 b.toNat)
  |_=>none
 |false=>match v with
  | .sl tok l=>if tok.esz=esz\/l.length=0 then some l else none
  | .ref id e off len cap=>match AD H id with
   |some (.arr e' l)=>if e=esz/\e'=esz/\off+len<=l.length then some ((l.drop off).take len)else none
   |_=>none
  |_=>none
def YT(esz n:Nat):List Nat->List Fs->Prop
 |[],[]=>True
 |i::is,v::vs=>nT v/\v.cells.length=esz/\i<n/\YT esz n is vs
 |_,_=>False
def YU:List Nat->List Fs->List Fs->List Fs
 |i::is,v::vs,l=>YU is vs (l.set i v)
 |_,_,l=>l
def Vx(H:AB):Fs->Fs->Prop×AB×Fs
 | .ref id e off len _,.ref id2 e2 off2 len2 _=>match AD H id with
  |some (.box cs)=>(e=1/\e2=1/\id2=id/\off+len<=cs.length/\off2+len2<=cs.length/\cs.all Id=true,sA H id (.box (cs.take off++((cs.drop off2).take len2).take (min len2 len)++cs.drop (off+min len2 len))),.int .i64 (min len2 len:Nat))
  |_=>(False,H,.sH [])
 |_,_=>(False,H,.sH [])
def xE(base:Nat):XOp->AB->List Fs->Prop×AB×Fs
 | .mkm rel,H,[]=>(AD H (base+rel)=none,sA H (base+rel) (.map [] 0),.mp (base+rel))
 | .look kt zero ok,H,[.mp id,k]=>match AD H id with
  |some (.map es _)=>(kt.is k/\D6 kt es,H,Cm zero ok (BZ k es))
  |_=>(False,H,.sH [])
 | .look kt zero ok,H,[.nilmp,k]=>(kt.is k,H,Cm zero ok none)
 | .mput kt,H,[.mp id,k,v]=>match AD H id with
  |some (.map es c)=>(kt.is k/\D6 kt es/\nT v,sA H id (.map (EE k v c es) (if(BZ k es).isSome=true then c else c+1)),.sH [])
  |_=>(False,H,.sH [])
 | .mlen,H,[.mp id]=>match AD H id with
  |some (.map es _)=>(True,H,.int .i64 es.length)
  |_=>(False,H,.sH [])
 | .mlen,H,[.nilmp]=>(True,H,.int .i64 0)
 | .mrng rel,H,[.mp m]=>match AD H m with
  |some (.map es c)=>(AD H (base+rel)=none,sA H (base+rel) (.mit m c [] c),.ptr (base+rel) 0)
  |_=>(False,H,.sH [])
 | .ment,H,[.ptr id 0]=>match AD H id with
  |some (.mit m _ seen last)=>(match AD H m,Iw H m seen with
   |some (.map _ tV),some (k,v)=>(tV=last,H,.sH [k,v])
   |_,_=>(False,H,.sH []))
  |_=>(False,H,.sH [])
 | .srng rel,H,[.str s]=>(AD H (base+rel)=none,sA H (base+rel) (.sit s 0),.ptr (base+rel) 0)
 | .snext,H,[.ptr id 0]=>match AD H id with
  |some (.sit s pos)=>(True,if pos<s.length then sA H id (.sit s (pos+(Utf8.decode ⟨s.toArray⟩ pos).2))else H,
    if pos<s.length then .sH [.bool true,.int .i64 pos,.int .i32 (Utf8.decode ⟨s.toArray⟩ pos).1]else .sH [.bool false])
  |_=>(False,H,.sH [])
 | .i2s,H,[.int _ n]=>(True,H,.str (Utf8.encode n).data.toList)
 | .tH 0 neq,H,[.ifc _ _]=>(True,H,.bool neq)
 | .tH 1 neq,H,[.ptr _ _]=>(True,H,.bool neq)
 | .tH 1 neq,H,[.ep _]=>(True,H,.bool neq)
 | .tH 1 neq,H,[.gp _]=>(True,H,.bool neq)
 | .tH 1 neq,H,[.ap _ _ _ _]=>(True,H,.bool neq)
 | .tH 1 neq,H,[.up]=>(True,H,.bool neq)
 | .tH 2 neq,H,[.fn _ _ _]=>(True,H,.bool neq)
 | .tH 0 neq,H,[.tA]=>(True,H,.bool (!neq))
 | .tH 1 neq,H,[.nilp]=>(True,H,.bool (!neq))
 | .tH 2 neq,H,[.tG]=>(True,H,.bool (!neq))
 | .tas t false _,H,[.ifc t' v]=>(t'=t,H,v)
 | .tas t true zero,H,[.ifc t' v]=>(True,H,if t'=t then .sH [v,.bool true]else .sH [zero,.bool false])
 | .tas _ true zero,H,[.tA]=>(True,H,.sH [zero,.bool false])
 | .slx n esz false false,H,[v]=>Ix H n esz 0 n v
 | .slx n esz true false,H,[v,.int _ a]=>Ix H n esz a n v
 | .slx n esz false true,H,[v,.int _ b]=>Ix H n esz 0 b v
 | .slx n esz true true,H,[v,.int _ a,.int _ b]=>Ix H n esz a b v
 | .cpy esz str,H,[.ref id e off len cap,y]=>match AD H id,PU H esz y str with
  |some (.arr e' l),some l'=>(e=esz/\e'=esz/\off+len<=l.length,sA H id (.arr esz (l.take off++l'.take (min l'.length len)++l.drop (off+min l'.length len))),.int .i64 (min l'.length len:Nat))
  |_,_=>(False,H,.sH [])
 | .bsm rel esz n zero is,H,vs=>(AD H (base+rel)=none/\YT esz n is vs/\zero.cells.length=esz/\n*esz<=16777216,sA H (base+rel) (.arr esz (YU is vs (List.replicate n zero))),.ref (base+rel) esz 0 n n)
 | .cpb,H,[x,y]=>Vx H x y
 | .mkc rel esz bytes zero l c,H,[]=>(AD H (base+rel)=none/\l<=c/\small c bytes/\c<=35184372088832,sA H (base+rel) (.arr esz (List.replicate c zero)),.ref (base+rel) esz 0 l c)
 |_,H,_=>(False,H,.sH [])
inductive Io where
 |v (k:x0)
 |pick (c a b:zx)
 |alloc (rel:Nat) (cs:List Fs)
 |box (rel sz:Nat) (x:zx)
 |st (sz:Nat) (a x:zx)
 |app (rel esz bytes:Nat) (s x:zx) (str:Bool)
 |mks (rel esz bytes:Nat) (zero:Fs) (n:zx)
 |call (quiet:Bool) (f:zx) (args:List zx)
 |tJ (x:zx)
 |slA (n:Nat) (x:zx) (lo hi:Option zx)
 |ext (x:XOp) (xs:List zx)
 |uF (rel esz bytes:Nat) (zero:Fs) (s x:zx) (str:Bool)
 |appZ (rel esz bytes:Nat) (zero:Fs) (s n:zx)
 |nils (neq:Bool) (x:zx)
 |cpu (f:zx) (args:List zx)
 |mnx (x:zx)
def Io.news:Io->Bool
 | .alloc .. | .box .. | .mks .. | .app .. | .uF .. | .appZ .. | .ext (.mkm _) _| .ext (.bsm ..) _| .ext (.mkc ..) _| .ext (.srng _) _| .ext (.mrng _) _=>true
 |_=>false
def Io.sF:Io->List zx
 | .v k=>k.sF
 | .pick c a b=>[c,a,b]
 | .alloc _ _=>[]
 | .box _ _ x=>[x]
 | .st _ a x=>[a,x]
 | .app _ _ _ a x _=>[a,x]
 | .mks _ _ _ _ x=>[x]
 | .call _ f xs=>f::xs
 | .tJ x=>[x]
 | .slA _ x lo hi=>x::(lo.toList++hi.toList)
 | .ext _ xs=>xs
 | .uF _ _ _ _ a x _=>[a,x]
 | .appZ _ _ _ _ a x=>[a,x]
 | .nils _ x=>[x]
 | .cpu f xs=>f::xs
 | .mnx x=>[x]
structure xj where
 dst:Option Nat
 guard:Option (Nat×Bool)
 k:Io
structure AS where
 env:List (Nat×Bool×Fs)
 H:AB
 n:Nat
def lk(env:List (Nat×Bool×Fs)):zx->Bool×Fs
 | .t i=>match BC env i with
  |some x=>x
  |none=>(false,.sH [])
 | .c v=>(true,v)
def AV(env:List (Nat×Bool×Fs))(x:zx):Fs:=(lk env x).2
def Bz(env:List (Nat×Bool×Fs)):List zx->Prop
 |[]=>True
 |x::r=>(lk env x).1=true/\Bz env r
def AS.put(s:AS)(dst:Option Nat)(g:Bool)(v:Fs):AS:=
 match dst with
 |none=>s
 |some d=>{s with env:=(d,g,v)::s.env}
def AS.keep(s:AS)(l:List Nat):AS:={s with env:=l.filterMap λt=>(BC s.env t).map λx=>(t,x)}
def GQ(env:List (Nat×Bool×Fs)):Option (Nat×Bool)->Prop
 |none=>True
 |some (t,_)=>match BC env t with
  |none=>False
  |some (g,v)=>g=true->JV v
def Be(env:List (Nat×Bool×Fs)):Option (Nat×Bool)->Bool
 |none=>true
 |some (t,w)=>(lk env (.t t)).1&&(FZ (AV env (.t t))==w)
def QF(b:Bool):Fs->Fs->Fs
 | .bool x,.bool y=>.bool (bif b then x else y)
 |x,y=>bif b then x else y
def CG(H:AB)(ρ:zx->Fs)(esz:Nat)(x:zx):Bool->Option (List Fs)
 |true=>match ρ x with
  | .str s=>some (s.map λb=>.int .u8 b.toNat)
  |_=>none
 |false=>match ρ x with
  | .sl tok l=>if tok.esz=esz\/l.length=0 then some l else none
  | .ref id e off len cap=>match AD H id with
   |some (.arr e' l)=>if e=esz/\e'=esz/\off+len<=l.length then some ((l.drop off).take len)else none
   |_=>none
  |_=>none
def Hc(H:AB)(n:Nat)(lo hi:Int)(K:AB->Fs->Prop):Fs->Prop
 | .ptr id 0=>match AD H id with
  |some (.box cs)=>cs.length=n/\0<=lo/\lo<=hi/\hi<=n/\lo<n/\K (sA H id (.arr 1 cs)) (.ref id 1 lo.toNat (hi.toNat-lo.toNat) (n-lo.toNat))
  |some (.arr e cs)=>e=1/\cs.length=n/\0<=lo/\lo<=hi/\hi<=n/\lo<n/\K H (.ref id 1 lo.toNat (hi.toNat-lo.toNat) (n-lo.toNat))
  |_=>False
 |_=>False
variable {H H':AB} {K K':AB->Fs->Prop} {zero v v':Fs} {n id esz bytes sz:Nat} {cx:Nat->Fs}
theorem Sj{lo hi:Int}(h:∀H v,K H v->K' H v):∀{v:Fs},Hc H n lo hi K v->Hc H n lo hi K' v:=by
 intro v;unfold Hc;split
 ·grind
 ·exact id
def At(H:AB)(esz:Nat):xv->Prop
 | .nil=>True
 | .none _=>False
 | .exact e=>e=esz
 | .own id e=>e=esz/\AD H id=some .tok
def AR(H:AB):xv->AB
 | .own id _=>sA H id .dead
 |_=>H
def EO(H:AB)(id esz bytes:Nat)(zero:Fs)(K:AB->Fs->Prop):Fs->Option (List Fs)->Prop
 | .sl tok l,some l'=>AD H id=none/\0<esz/\zero.cells.length=esz/\(tok= .nil\/tok= .exact esz)/\small (l.length+l'.length) bytes/\l.length+l'.length<=35184372088832/\
   (l'=[]->K H (.sl tok l))/\
   (l'≠[]->∀cap,l.length+l'.length<=cap->K (sA H id (.arr esz (l++l'++List.replicate (cap-(l.length+l'.length)) zero))) (.ref id esz 0 (l.length+l'.length) cap))
 | .ref i0 e off len cap,some l'=>AD H id=none/\0<esz/\zero.cells.length=esz/\e=esz/\off=0/\small (len+l'.length) bytes/\len+l'.length<=35184372088832/\
   (match AD H i0 with
   |some (.arr e' l)=>e'=esz/\l.length=cap/\len<=cap/\
     (len+l'.length<=cap->K (sA H i0 (.arr esz (l.take len++l'++l.drop (len+l'.length)))) (.ref i0 esz 0 (len+l'.length) cap))/\
     (cap<len+l'.length->∀uT,len+l'.length<=uT->K (sA H id (.arr esz (l.take len++l'++List.replicate (uT-(len+l'.length)) zero))) (.ref id esz 0 (len+l'.length) uT))
   |_=>False)
 |_,_=>False
theorem Hd(h:∀H v,K H v->K' H v){x:Option (List Fs)}:EO H id esz bytes zero K v x->EO H id esz bytes zero K' v x:=by
 intro q;unfold EO at q⊢;split at q
 ·simp_all
 ·grind
 ·exact q
def He(H:AB)(id esz bytes:Nat)(zero:Fs)(K:AB->Fs->Prop):Fs->Fs->Prop
 | .sl .nil [],.int _ k=>0<=k/\EO H id esz bytes zero K (.sl .nil []) (some (List.replicate k.toNat zero))
 |_,_=>False
theorem Ql(h:∀H v,K H v->K' H v){x:Fs}:He H id esz bytes zero K v x->He H id esz bytes zero K' v x:=by
 intro q;unfold He at q⊢;split at q
 ·exact⟨q.1,Hd h q.2⟩
 ·exact q.elim
def Bw(old:Fs)(off sz esz:Nat)(v:Fs):Prop×Fs:=if off=0/\sz=esz then(True,v)else match old with
 | .agg cs=>(cs.length=esz/\off+sz<=esz,.agg (sQ cs off v.cells))
 |_=>(False,v)
theorem OE{old v:Fs}{n:Nat}:Bw old 0 n n v=(True,v):=by simp [Bw]
theorem CO{cs:List Fs}{off:Nat}(h:(off=0/\sz=esz)=False):Bw (.agg cs) off sz esz v=(cs.length=esz/\off+sz<=esz,.agg (sQ cs off v.cells)):=by simp [Bw,h]
def Gs(K:Bool->Prop)(neq:Bool):Fs->Prop
 | .sl .nil []=>K (!neq)
 | .sl _ []=>K neq/\K (!neq)
 | .sl _ (_::_)=>K neq
 | .ref _ _ _ _ _=>K neq
 |_=>False
theorem Qm{K K':Bool->Prop}(h:∀b,K b->K' b){neq:Bool}:Gs K neq v->Gs K' neq v:=by
 intro q;unfold Gs at q⊢;split at q
 ·exact h _ q
 ·exact⟨h _ q.1,h _ q.2⟩
 ·exact h _ q
 ·exact h _ q
 ·exact q.elim
def C9(es:List (Fs×Fs×Nat))(seen:List Nat):List (Fs×Fs×Nat):=es.filter λe=>!seen.contains e.2.2
def Ik(H:AB)(K:AB->Fs->Prop):Fs->Prop
 | .ptr id 0=>match AD H id with
  |some (.mit m c seen last)=>(match AD H m with
   |some (.map es tV)=>c<=tV/\(∀e∈es,e.2.2<c)/\(C9 es seen=[]->K H (.sH [.bool false]))/\∀e∈C9 es seen,K (sA H id (.mit m c (seen++[e.2.2]) tV)) (.sH [.bool true,e.1,e.2.1])
   |_=>False)
  |_=>False
 |_=>False
theorem Sk(h:∀H v,K H v->K' H v):Ik H K v->Ik H K' v:=by
 intro q;unfold Ik at q⊢;split at q
 ·split at q
  ·grind
  ·exact q.elim
 ·exact q.elim
section
variable (P:Program) (Qp:Fs->AB->Nat->Prop) (base:Nat)
def BB(o:xj)(K:AS->Prop)(s:AS):Prop:=
 let ρ:=AV s.env
 match o.k with
 | .alloc rel cs=>AD s.H (base+rel)=none/\K ({s with H:=sA s.H (base+rel) (.box cs)}.put o.dst true (.ptr (base+rel) 0))
 | .box rel sz x=>AD s.H (base+rel)=none/\nT (ρ x)/\(ρ x).cells.length=sz/\K ({s with H:=sA s.H (base+rel) (.box (ρ x).cells)}.put o.dst true (.ptr (base+rel) 0))
 | .st sz a x=>nT (ρ x)/\(ρ x).cells.length=sz/\match ρ a with
  | .ptr id off=>(match AD s.H id with
   |some (.box cs)=>off+sz<=cs.length/\K ({s with H:=sA s.H id (.box (sQ cs off (ρ x).cells))}.put o.dst true (.sH []))
   |_=>False)
  | .ap id esz i off=>(match AD s.H id with
   |some (.arr e l)=>e=esz/\i<l.length/\(Bw (l[i]?.getD (.sH [])) off sz esz (ρ x)).1/\K ({s with H:=sA s.H id (.arr e (l.set i (Bw (l[i]?.getD (.sH [])) off sz esz (ρ x)).2))}.put o.dst true (.sH []))
   |_=>False)
  |_=>False
 | .app rel esz bytes x y str=>(match ρ x,CG s.H ρ esz y str with
  | .sl tok l,some l'=>AD s.H (base+rel)=none/\At s.H esz tok/\small (l.length+l'.length) bytes/\l.length+l'.length<=35184372088832/\0<esz/\
    K ({s with H:=sA (AR s.H tok) (base+rel) .tok}.put o.dst true (.sl (.own (base+rel) esz) (l++l')))
  |_,_=>False)
 | .mks rel esz bytes zero n=>AD s.H (base+rel)=none/\Cl (ρ n)/\0<=BV (ρ n)/\small (BV (ρ n)).toNat bytes/\BV (ρ n)<=35184372088832/\zero.cells.length=esz/\
   K ({s with H:=sA s.H (base+rel) (.arr esz (List.replicate (BV (ρ n)).toNat zero))}.put o.dst true (.ref (base+rel) esz 0 (BV (ρ n)).toNat (BV (ρ n)).toNat))
 | .call _ f args=>(match ρ f with
  | .fn (.func f) first cap=>AO P f (first++args.map ρ++cap) s.H s.n λout H' n'=>match out with
   | .ret v=>K ({s with H:=H',n:=n'}.put o.dst true v)
   | .tJ v=>Qp v H' n'
  | .fn (.yield l) [] []=>Cf P l (args.map ρ) s.H s.n λb H' n'=>K ({s with H:=H',n:=n'}.put o.dst true (.bool b))
  |_=>False)
 | .tJ x=>Vw (ρ x)/\Qp (ρ x) s.H s.n
 | .slA n x lo hi=>CK ρ lo/\CK ρ hi/\Hc s.H n (sS ρ 0 lo) (sS ρ n hi) (λH' v=>K ({s with H:=H'}.put o.dst true v)) (ρ x)
 | .ext x xs=>(xE base x s.H (xs.map ρ)).1/\K ({s with H:=(xE base x s.H (xs.map ρ)).2.1}.put o.dst true (xE base x s.H (xs.map ρ)).2.2)
 | .uF rel esz bytes zero x y str=>EO s.H (base+rel) esz bytes zero (λH' v=>K ({s with H:=H'}.put o.dst true v)) (ρ x) (CG s.H ρ esz y str)
 | .appZ rel esz bytes zero x y=>He s.H (base+rel) esz bytes zero (λH' v=>K ({s with H:=H'}.put o.dst true v)) (ρ x) (ρ y)
 | .nils neq x=>Gs (λb=>K (s.put o.dst true (.bool b))) neq (ρ x)
 | .mnx x=>Ik s.H (λH' v=>K ({s with H:=H'}.put o.dst true v)) (ρ x)
 | .cpu f args=>(match ρ f with
  | .fn (.func f) first cap=>∃r,A6 P f (first++args.map ρ++cap) r/\K (s.put o.dst true r)
  |_=>False)
 |_=>False
def AX(o:xj)(K:AS->Prop)(s:AS):Prop:=
 GQ s.env o.guard/\
  match o.k with
  | .v k=>(Be s.env o.guard=true->Bz s.env k.sF/\(BN s.H (AV s.env) k).1)/\K (s.put o.dst (Be s.env o.guard) (BN s.H (AV s.env) k).2)
  | .pick c a b=>(Be s.env o.guard=true->(lk s.env c).1=true/\JV (AV s.env c)/\(FZ (AV s.env c)=true->(lk s.env a).1=true)/\(FZ (AV s.env c)=false->(lk s.env b).1=true))/\
    K (s.put o.dst (Be s.env o.guard) (QF (FZ (AV s.env c)) (AV s.env a) (AV s.env b)))
  | .call true f args=>∃r,(Be s.env o.guard=true->(lk s.env f).1=true/\Bz s.env args/\match AV s.env f with
    | .fn (.func f) first cap=>Ad P f (first++args.map (AV s.env)++cap) s.H s.n r
    |_=>False)/\K (s.put o.dst (Be s.env o.guard) r)
  |k=>(Be s.env o.guard=true->Bz s.env (k.sF)/\BB P Qp base o K s)/\(Be s.env o.guard=false->K (s.put o.dst false (.sH [])))
def Dv:List xj->(AS->Prop)->AS->Prop
 |[],K,s=>K s
 |o::r,K,s=>AX P Qp base o (Dv r K) s
end
def Ga(base:Nat):Fs->Prop
 | .ptr id _| .ap id _ _ _=>id<base
 |_=>True
def Il(base:Nat):Fs->Prop
 | .ptr id _| .ap id _ _ _=>base<=id
 |_=>False
def EF(id:Nat):Fs->Prop
 | .ptr i _| .ap i _ _ _=>i=id
 |_=>False
def Sl(env:List (Nat×Bool×Fs))(n:Nat)(t:Nat):Fs:=if 100000<=t then .ptr (n+(t-100000)) 0 else AV env (.t t)
def QG(base:Nat)(cx:Nat->Fs)(k id:Nat):Prop:=if k<1000 then base=id+k else if k<300000 then(if k % 2=0 then 1000+2*id=k else 1001+2*id≠k)else if k % 2=0 then EF id (cx ((k-300000)/2))else ¬EF id (cx ((k-300000)/2))
def OF(base:Nat)(cx:Nat->Fs)(k:Nat):Fs->Prop
 | .ptr id _=>QG base cx k id
 | .ap id _ _ _=>1000<=k/\QG base cx k id
 | .ep _=>1000<=k/\k % 2=1
 |_=>False
def fZ:Fs->Prop
 | .ptr _ _=>True
 |_=>False
def PV(H H':AB):Prop:=∀id cs,AD H id=some (.box cs)->AD H' id=some (.box cs)
def Bg(base:Nat)(cx:Nat->Fs)(ρ:zx->Fs):Nat->Io->Prop
 |0,_=>True
 |1,.v (.ld _ _ a)=>Ga base (ρ a)
 |2,.st _ a _=>Il base (ρ a)
 |k+3,.v (.ld _ _ a)=>OF base cx k (ρ a)
 |k+3,.st _ a _=>OF base cx k (ρ a)
 |k+3,.call false _ _=>300000<=k/\k % 2=0
 |2,.v (.ld _ _ a)=>fZ (ρ a)
 |2,.uF _ _ _ _ _ _ _=>True
 |_,_=>False
def Gt(a:Fs)(H H':AB):Prop:=∀id,¬EF id a->AD H id≠none->AD H' id=AD H id
def FF(cx:Nat->Fs):Nat->Io->AB->AB->Prop
 |k+3,.call false _ _,H,H'=>Gt (cx ((k-300000)/2)) H H'
 |2,.uF _ _ _ _ _ _ _,H,H'=>PV H H'
 |_,_,_,_=>True
def Gb(base:Nat)(cx:Nat->Fs)(f:Nat)(o:xj)(s:AS):Prop:=Be s.env o.guard=true->Bg base cx (AV s.env) f o.k
def K4(P:Program)(Qp:Fs->AB->Nat->Prop)(base:Nat)(cx:Nat->Fs)(x:Nat×xj)(K:AS->Prop)(s:AS):Prop:=Gb base cx x.1 x.2 s/\AX P Qp base x.2 (λs'=>FF cx x.1 x.2.k s.H s'.H/\K s') s
def Iy(P:Program)(Qp:Fs->AB->Nat->Prop)(base:Nat)(cx:Nat->Fs):List (Nat×xj)->(AS->Prop)->AS->Prop
 |[],K,s=>K s
 |o::r,K,s=>K4 P Qp base cx o (Iy P Qp base cx r K) s
theorem Fe{k:Io}:FF cx 0 k H H'=True:=by unfold FF;split<;>first|rfl|(rename_i h;cases h)
theorem UN{f:Nat}{o:x0}:FF cx f (.v o) H H'=True:=by cases f<;>(unfold FF;split<;>first|rfl|(rename_i h;cases h))
theorem Qn{f:Nat}{a x:zx}:FF cx f (.st sz a x) H H'=True:=by cases f<;>(unfold FF;split<;>first|rfl|(rename_i h;cases h))
inductive q9 where
 |skip
 |reg (bump:Nat) (ops:List xj) (keep:List Nat)
 |seq (a b:q9)
 |cond (c:zx) (a b:q9)
 |block (id:Nat) (c:q9)
 |loop (c:q9)
 |exit (id:Nat)
 |ret
 |rfun (g:zx) (ps:Array Tmp) (nt:Nat) (asg body:Code)
 |regx (bump:Nat) (ops:List (Nat×xj)) (keep:List Nat)
 |frz (t:Nat)
 |frzo (t:Nat)
def q9.plain:q9->Bool
 | .seq a b| .cond _ a b=>a.plain&&b.plain
 | .block _ c| .loop c=>c.plain
 | .rfun .. =>false
 |_=>true
inductive x5 where
 |normal
 |exit (id:Nat)
 |ret
 |tJ (v:Fs)
def Qo(env:List (Nat×Bool×Fs)):List (Nat×Bool×Fs)->Prop
 |[]=>True
 |(t,g,v)::r=>(∃v',BC env t=some (g,v')/\Wk v' v)/\Qo env r
def JW(n:Nat):List (Nat×Bool×Fs)->Prop
 |[]=>True
 |(_,_,v)::r=>v.under n/\JW n r
def KK(s s' s2:AS):Prop:=
 s2=s'\/(Qo s'.env s2.env/\((s2.H=s'.H/\s2.n=s'.n)\/(s2.n=s.n/\Ha s.n s.H s'.H s2.H/\JW s.n s2.env)))
def Hf(Q:x5->AS->Prop)(s:AS)(id:Nat)(out:xx)(H':AB)(n':Nat):Prop:=
 match out with
 | .tJ v=>Q (.tJ v) ⟨[],H',n'⟩
 | .ret _=>match AD H' id with
  |some (.lp x)=>x.st≠ .busy/\(match x.tS with
   |none=>Q .normal {s with H:=sA H' id .dead,n:=n'}
   |some .ret=>Q .ret {s with H:=sA H' id .dead,n:=n'}
   |some (.exit i)=>Q (.exit i) {s with H:=sA H' id .dead,n:=n'}
   |_=>False)
  |_=>False
def Gc(P:Program)(s:AS)(Q:x5->AS->Prop)(ps:Array Tmp)(nt:Nat)(asg body:Code):Fs->Prop
 | .fn (.func f) first cap=>∀l,AO P f (first++[.fn (.yield l) [] []]++cap) (sA s.H s.n (.lp ⟨l,.ready,none,nt,s.env,ps,asg,body⟩)) (s.n+1) (Hf Q s s.n)
 |_=>False
def Ie(Q:x5->AS->Prop)(s:AS)(t:Nat):Option (Bool×Fs)->Prop
 |some (true,.ref id e off len cap)=>match AD s.H id with
  |some (.arr e' l)=>e'=e/\off+len<=l.length/\len<=cap/\
    Q .normal {s with env:=(t,true,.sl (if len=cap then .exact e else .none e) ((l.drop off).take len))::s.env,H:=sA s.H id (.frz e l)}
  |some (.frz e' l)=>e'=e/\off+len<=l.length/\len<=cap/\
    Q .normal {s with env:=(t,true,.sl (if len=cap then .exact e else .none e) ((l.drop off).take len))::s.env}
  |_=>False
 |some (true,.ptr id 0)=>match AD s.H id with
  |some (.arr e l)=>e=1/\l.all Id=true/\Q .normal {s with H:=sA s.H id (.box l)}
  |some (.box _)=>Q .normal s
  |_=>False
 |_=>False
def F9(Q:x5->AS->Prop)(s:AS)(t:Nat):Option (Bool×Fs)->Prop
 |some (true,.ref id e off len cap)=>match AD s.H id with
  |some (.arr e' l)=>e'=e/\off=0/\l.length=cap/\len<=cap/\
    Q .normal {env:=(t,true,.sl (.own s.n e) (l.take len))::s.env,H:=sA (sA s.H id .dead) s.n .tok,n:=s.n+1}
  |_=>False
 |some (true,.sl tok l)=>Q .normal {s with env:=(t,true,.sl tok l)::s.env}
 |_=>False
def Gl(P:Program):q9->(x5->AS->Prop)->AS->Prop
 | .skip,Q,s=>Q .normal s
 | .reg bump ops keep,Q,s=>Dv P (λv H n=>Q (.tJ v) ⟨[],H,n⟩) s.n ops (λs'=>Q .normal (s'.keep keep)) {s with n:=s.n+bump}
 | .seq a b,Q,s=>Gl P a (λe s'=>match e with
  | .normal=>Gl P b Q s'
  |e=>Q e s') s
 | .cond c a b,Q,s=>(lk s.env c).1=true/\JV (AV s.env c)/\(FZ (AV s.env c)=true->Gl P a Q s)/\(FZ (AV s.env c)=false->Gl P b Q s)
 | .block id c,Q,s=>Gl P c (λe s'=>match e with
  | .exit i=>if i=id then Q .normal s' else Q (.exit i) s'
  |e=>Q e s') s
 | .loop c,Q,s=>∃(I:AS->Prop) (μ:AS->Nat),I s/\∀s1,I s1->Gl P c (λe s'=>match e with
  | .normal=>∃s2,KK s1 s' s2/\I s2/\μ s2<μ s1
  |e=>Q e s') s1
 | .exit id,Q,s=>Q (.exit id) s
 | .ret,Q,s=>Q .ret s
 | .rfun g ps nt asg body,Q,s=>(lk s.env g).1=true/\Gc P s Q ps nt asg body (AV s.env g)
 | .frz t,Q,s=>Ie Q s t (BC s.env t)
 | .frzo t,Q,s=>F9 Q s t (BC s.env t)
 | .regx bump ops keep,Q,s=>Iy P (λv H n=>Q (.tJ v) ⟨[],H,n⟩) s.n (Sl s.env s.n) ops (λs'=>Q .normal (s'.keep keep)) {s with n:=s.n+bump}
def Qq(ρ:zx->Fs)(k:IntKind):List zx->Prop
 |[]=>True
 |x::r=>Iv k (ρ x)/\Qq ρ k r
def KL(ρ:zx->Fs)(mx:Bool):Int->List zx->Int
 |m,[]=>m
 |m,y::r=>KL ρ mx (if mx then max m (BV (ρ y))else min m (BV (ρ y))) r
theorem UO{ρ:zx->Fs}{k:IntKind}:∀(xs:List zx),(∀x∈xs,Iv k (ρ x))=Qq ρ k xs
 |[]=>by simp [Qq]
 |x::r=>by simp [Qq,<-UO r]
theorem OG{ρ:zx->Fs}{mx:Bool}:∀(r:List zx) (m:Int),r.foldl (λm y=>if mx then max m (BV (ρ y))else min m (BV (ρ y))) m=KL ρ mx m r
 |[],m=>rfl
 |y::r,m=>by simp only[qc,KL];exact OG r _
theorem Vy{ρ:zx->Fs}{mx:Bool}{k:IntKind}{x:zx}{r:List zx}:YS ρ mx k (x::r)=(Iv k (ρ x)/\Qq ρ k r,.int k (KL ρ mx (BV (ρ x)) r)):=by simp_all [YS,UO,OG,Qq,ne_eq,rC,qz]
def Sm(ρ:zx->Fs)(n:Nat):List (Nat×Nat×zx)->Prop
 |[]=>True
 |(o,z,x)::r=>(nT (ρ x)/\(ρ x).cells.length=z/\o+z<=n)/\Sm ρ n r
def OH(ρ:zx->Fs):List Fs->List (Nat×Nat×zx)->List Fs
 |cs,[]=>cs
 |cs,(o,_,x)::r=>OH ρ (sQ cs o (ρ x).cells) r
theorem UP{ρ:zx->Fs}:∀(l:List (Nat×Nat×zx)),(∀p∈l,nT (ρ p.2.2)/\(ρ p.2.2).cells.length=p.2.1/\p.1+p.2.1<=n)=Sm ρ n l
 |[]=>by simp [Sm]
 |(o,z,x)::r=>by simp [Sm,<-UP r]
theorem Qr{ρ:zx->Fs}:∀(r:List (Nat×Nat×zx)) (cs:List Fs),r.foldl (λcs p=>sQ cs p.1 (ρ p.2.2).cells) cs=OH ρ cs r
 |[],cs=>rfl
 |(o,z,x)::r,cs=>by simp only[qc,OH];exact Qr r _
theorem kB{ρ:zx->Fs}{zero:List Fs}{parts:List (Nat×Nat×zx)}:evB ρ zero parts=(Sm ρ zero.length parts,.agg (OH ρ zero parts)):=by
 simp only[evB,UP,Qr]
def Sn(ρ:zx->Fs)(esz n:Nat):List (Nat×zx)->Prop
 |[]=>True
 |(o,x)::r=>(nT (ρ x)/\(ρ x).cells.length=esz/\o<n)/\Sn ρ esz n r
def OI(ρ:zx->Fs):List Fs->List (Nat×zx)->List Fs
 |cs,[]=>cs
 |cs,(o,x)::r=>OI ρ (cs.set o (ρ x)) r
theorem UQ{ρ:zx->Fs}:∀(l:List (Nat×zx)),(∀p∈l,nT (ρ p.2)/\(ρ p.2).cells.length=esz/\p.1<n)=Sn ρ esz n l
 |[]=>by simp [Sn]
 |(o,x)::r=>by simp [Sn,<-UQ r]
theorem Qs{ρ:zx->Fs}:∀(r:List (Nat×zx)) (cs:List Fs),r.foldl (λl p=>l.set p.1 (ρ p.2)) cs=OI ρ cs r
 |[],cs=>rfl
 |(o,x)::r,cs=>by simp only[qc,OI];exact Qs r _
theorem kC{ρ:zx->Fs}{esz n:Nat}{zero:Fs}{parts:List (Nat×zx)}:evS ρ esz n zero parts=(Sn ρ esz n parts/\zero.cells.length=esz/\n*esz<=16777216,.sl (.exact esz) (OI ρ (List.replicate n zero) parts)):=by
 simp only[evS,UQ,Qs]
section
variable {P:Program} {Qp:Fs->AB->Nat->Prop} {b:Nat}
theorem PW{l:List xj}{K:AS->Prop}{s s':AS}(h:s=s'):Dv P Qp b l K s=Dv P Qp b l K s':=by rw[h]
theorem PX{o:xj}{K:AS->Prop}{s s':AS}(h:s=s'):AX P Qp b o K s=AX P Qp b o K s':=by rw[h]
theorem Vz{c:q9}{Q:x5->AS->Prop}{s s':AS}(h:s=s'):Gl P c Q s=Gl P c Q s':=by rw[h]
variable {rel esz bytes:Nat} {d:Option Nat}
theorem MW{k:x0}{K:AS->Prop}{s:AS}:
  AX P Qp b ⟨d,none,.v k⟩ K s=(Bz s.env k.sF/\(BN s.H (AV s.env) k).1/\K (s.put d true (BN s.H (AV s.env) k).2)):=by
 simp [AX,GQ,Be,qm]
theorem PY{t:Nat}{w:Bool}{k:x0}{K:AS->Prop}{s:AS}:
  AX P Qp b ⟨d,some (t,w),.v k⟩ K s=(GQ s.env (some (t,w))/\(Be s.env (some (t,w))=true->Bz s.env k.sF/\(BN s.H (AV s.env) k).1)/\K (s.put d (Be s.env (some (t,w))) (BN s.H (AV s.env) k).2)):=by
 simp [AX]
theorem OJ{x y z:zx}{K:AS->Prop}{s:AS}:
  AX P Qp b ⟨d,none,.pick x y z⟩ K s=((lk s.env x).1=true/\JV (AV s.env x)/\(FZ (AV s.env x)=true->(lk s.env y).1=true)/\(FZ (AV s.env x)=false->(lk s.env z).1=true)/\
    K (s.put d true (QF (FZ (AV s.env x)) (AV s.env y) (AV s.env z)))):=by
 simp [AX,GQ,Be,qm]
theorem So{t:Nat}{w:Bool}{x y z:zx}{K:AS->Prop}{s:AS}:
  AX P Qp b ⟨d,some (t,w),.pick x y z⟩ K s=(GQ s.env (some (t,w))/\(Be s.env (some (t,w))=true->(lk s.env x).1=true/\JV (AV s.env x)/\(FZ (AV s.env x)=true->(lk s.env y).1=true)/\(FZ (AV s.env x)=false->(lk s.env z).1=true))/\
    K (s.put d (Be s.env (some (t,w))) (QF (FZ (AV s.env x)) (AV s.env y) (AV s.env z)))):=by
 simp [AX]
theorem MX{cs:List Fs}{K:AS->Prop}{s:AS}:
  AX P Qp b ⟨d,none,.alloc rel cs⟩ K s=(AD s.H (b+rel)=none/\K ({s with H:=sA s.H (b+rel) (.box cs)}.put d true (.ptr (b+rel) 0))):=by
 simp [AX,GQ,Be,BB,Bz,Io.sF]
theorem YV{sz:Nat}{x:zx}{K:AS->Prop}{s:AS}:
  AX P Qp b ⟨d,none,.box rel sz x⟩ K s=((lk s.env x).1=true/\AD s.H (b+rel)=none/\nT (AV s.env x)/\(AV s.env x).cells.length=sz/\K ({s with H:=sA s.H (b+rel) (.box (AV s.env x).cells)}.put d true (.ptr (b+rel) 0))):=by
 simp [AX,GQ,Be,BB,Bz,Io.sF]
def Ng(H:AB)(sz:Nat)(v:Fs)(K:AB->Prop):Fs->Prop
 | .ptr id off=>match AD H id with
  |some (.box cs)=>off+sz<=cs.length/\K (sA H id (.box (sQ cs off v.cells)))
  |_=>False
 | .ap id esz i off=>match AD H id with
  |some (.arr e l)=>e=esz/\i<l.length/\(Bw (l[i]?.getD (.sH [])) off sz esz v).1/\K (sA H id (.arr e (l.set i (Bw (l[i]?.getD (.sH [])) off sz esz v).2)))
  |_=>False
 |_=>False
theorem Lr{sz:Nat}{a x:zx}{K:AS->Prop}{s:AS}:
  AX P Qp b ⟨d,none,.st sz a x⟩ K s=((lk s.env a).1=true/\(lk s.env x).1=true/\nT (AV s.env x)/\(AV s.env x).cells.length=sz/\Ng s.H sz (AV s.env x) (λH'=>K ({s with H:=H'}.put d true (.sH []))) (AV s.env a)):=by
 simp only[AX,GQ,Be,BB,Ng,Bz,Io.sF,pR,pT,seval,qr,qz,qm]
theorem YW{x:zx}{K:AS->Prop}{s:AS}:AX P Qp b ⟨d,none,.tJ x⟩ K s=((lk s.env x).1=true/\Vw (AV s.env x)/\Qp (AV s.env x) s.H s.n):=by
 simp [AX,GQ,Be,BB,Bz,Io.sF]
def MY(H:AB)(id esz bytes:Nat)(K:AB->Fs->Prop):Fs->Option (List Fs)->Prop
 | .sl tok l,some l'=>AD H id=none/\At H esz tok/\small (l.length+l'.length) bytes/\l.length+l'.length<=35184372088832/\0<esz/\
   K (sA (AR H tok) id .tok) (.sl (.own id esz) (l++l'))
 |_,_=>False
theorem Qt{x y:zx}{str:Bool}{K:AS->Prop}{s:AS}:
  AX P Qp b ⟨d,none,.app rel esz bytes x y str⟩ K s=((lk s.env x).1=true/\(lk s.env y).1=true/\
   MY s.H (b+rel) esz bytes (λH' v=>K ({s with H:=H'}.put d true v)) (AV s.env x) (CG s.H (AV s.env) esz y str)):=by
 simp only[AX,GQ,Be,BB,MY,Bz,Io.sF,pR,pT,seval,qr,qz,qm]
theorem YX{n:Nat}{x:zx}{lo hi:Option zx}{K:AS->Prop}{s:AS}:
  AX P Qp b ⟨d,none,.slA n x lo hi⟩ K s=(Bz s.env (x::(lo.toList++hi.toList))/\CK (AV s.env) lo/\CK (AV s.env) hi/\
   Hc s.H n (sS (AV s.env) 0 lo) (sS (AV s.env) n hi) (λH' v=>K ({s with H:=H'}.put d true v)) (AV s.env x)):=by
 simp only[AX,GQ,Be,BB,Bz,Io.sF,pR,pT,seval,qr,qz]
theorem Sp{cx:Nat->Fs}{l:List (Nat×xj)}{K:AS->Prop}{s s':AS}(h:s=s'):Iy P Qp b cx l K s=Iy P Qp b cx l K s':=by rw[h]
theorem cD{x y:q9}{Q:x5->AS->Prop}{s:AS}:Gl P (.seq x y) Q s=Gl P x (λe s'=>match e with
  | .normal=>Gl P y Q s'
  |e=>Q e s') s:=rfl
theorem Qu{x:XOp}{xs:List zx}{K:AS->Prop}{s:AS}:
  AX P Qp b ⟨d,none,.ext x xs⟩ K s=(Bz s.env xs/\(xE b x s.H (xs.map (AV s.env))).1/\K ({s with H:=(xE b x s.H (xs.map (AV s.env))).2.1}.put d true (xE b x s.H (xs.map (AV s.env))).2.2)):=by
 simp only[AX,GQ,Be,BB,Bz,Io.sF,pR,pT,seval,qr,qz]
theorem OK{z:Fs}{x y:zx}{str:Bool}{K:AS->Prop}{s:AS}:
  AX P Qp b ⟨d,none,.uF rel esz bytes z x y str⟩ K s=((lk s.env x).1=true/\(lk s.env y).1=true/\
   EO s.H (b+rel) esz bytes z (λH' v=>K ({s with H:=H'}.put d true v)) (AV s.env x) (CG s.H (AV s.env) esz y str)):=by
 simp only[AX,GQ,Be,BB,Bz,Io.sF,pR,pT,seval,qr,qz,qm]
theorem V0{z:Fs}{x y:zx}{K:AS->Prop}{s:AS}:
  AX P Qp b ⟨d,none,.appZ rel esz bytes z x y⟩ K s=((lk s.env x).1=true/\(lk s.env y).1=true/\
   He s.H (b+rel) esz bytes z (λH' v=>K ({s with H:=H'}.put d true v)) (AV s.env x) (AV s.env y)):=by
 simp only[AX,GQ,Be,BB,Bz,Io.sF,pR,pT,seval,qr,qz,qm]
theorem V1{neq:Bool}{x:zx}{K:AS->Prop}{s:AS}:
  AX P Qp b ⟨d,none,.nils neq x⟩ K s=((lk s.env x).1=true/\Gs (λb=>K (s.put d true (.bool b))) neq (AV s.env x)):=by
 simp only[AX,GQ,Be,BB,Bz,Io.sF,pR,pT,seval,qr,qz]
theorem YY{x:zx}{K:AS->Prop}{s:AS}:
  AX P Qp b ⟨d,none,.mnx x⟩ K s=((lk s.env x).1=true/\Ik s.H (λH' v=>K ({s with H:=H'}.put d true v)) (AV s.env x)):=by
 simp only[AX,GQ,Be,BB,Bz,Io.sF,pR,pT,seval,qr,qz]
end
theorem Sq{a a':Fs}{K:AB->Prop}(h:H=H')(h2:v=v')(h3:a=a'):Ng H sz v K a=Ng H' sz v' K a':=by rw[h,h2,h3]
theorem Qv{lo lo' hi v7:Int}(h:H=H')(h1:lo=lo')(h2:hi=v7)(h3:v=v'):Hc H n lo hi K v=Hc H' n lo' v7 K v':=by rw[h,h1,h2,h3]
theorem Sr{Q:x5->AS->Prop}{s s':AS}{t:Nat}{x x':Option (Bool×Fs)}(h:s=s')(h2:x=x'):Ie Q s t x=Ie Q s' t x':=by rw[h,h2]
theorem Qw{x x':Option (List Fs)}(h:H=H')(h2:v=v')(h3:x=x'):MY H id esz bytes K v x=MY H' id esz bytes K v' x':=by rw[h,h2,h3]
attribute [congr] Qv Sr Sp PW PX Vz Sq Qw
end
def MZ:Value->Option Fs
 | .bool b=>some (.bool b)
 | .int k n=>some (.int k n)
 | .string s=>some (.str s.data.toList)
 | .pointer none=>some .nilp
 | .slice none 0 0=>some (.sl .nil [])
 | .nilFunc=>some .tG
 | .nilIface=>some .tA
 | .map none=>some .nilmp
 |_=>none
def Iz:List Value->Option (List Fs)
 |[]=>some []
 |v::r=>match MZ v,Iz r with
  |some a,some as=>some (a::as)
  |_,_=>none
def Qx:Value->Option Fs
 | .agg cs=>(Iz cs.toList).map .agg
 |v=>MZ v
def Aw:Operand->Option zx
 | .tmp t=>some (.t t)
 | .const v=>(Qx v).map .c
 | .global g=>some (.c (match Vu g with|some cs=>.ep cs|none=>.gp g))
 | .func f=>some (.c (.fn (.func f) [] []))
def Im:List Operand->Option (List zx)
 |[]=>some []
 |x::r=>match Aw x,Im r with
  |some a,some as=>some (a::as)
  |_,_=>none
def DG:Option Operand->Option (Option zx)
 |none=>some none
 |some x=>(Aw x).map some
section
variable (P:Program)
def HO(t:TypeId):Bool:=match P.underlying t with
 |some (.struct _)|some (.array _ _)=>true
 |_=>false
def FG(t:TypeId):Option Nat:=match P.info? t,P.underlying t with
 |some i,some _=>if i.size=0 then none else some i.size
 |_,_=>none
def B6(t:TypeId):Option Fs:=match P.info? t with
 |some i=>match i.zero with
  |some z=>match Qx z with
   |some a=>if a.cells.length=i.size/\i.size≠0 then some a else none
   |none=>none
  |none=>none
 |none=>none
def Gu(f:Nat->Option (Nat×Nat)):List (Nat×Operand)->Option (List (Nat×Nat×zx))
 |[]=>some []
 |(i,x)::r=>match f i,Aw x,Gu f r with
  |some (off,size),some a,some as=>some ((off,size,a)::as)
  |_,_,_=>none
def E8:List (Nat×Operand)->Option (List (Nat×zx))
 |[]=>some []
 |(i,x)::r=>match Aw x,E8 r with
  |some a,some as=>some ((i,a)::as)
  |_,_=>none
def cE(fs:Array Field):Option (List (Nat×Nat)):=fs.toList.mapM λf=>(P.info? f.type).map λi=>(f.offset,i.size)
def KM(fs:Array Field)(i:Nat):Option (Nat×Nat):=match fs[i]? with
 |some f=>(FG P f.type).map λs=>(f.offset,s)
 |none=>none
def OL:Nat->List Field->Option (List Nat)
 |_,[]=>some []
 |o,f::r=>if f.name= "_" \/f.offset≠o then none else match P.underlying f.type,OL (o+1) r with
  |some (.int _),some l=>some (0::l)
  |some .bool,some l=>some (1::l)
  |some .string,some l=>some (2::l)
  |_,_=>none
def cG(op:BinOp)(t:TypeId)(x y:zx)(yt:TypeId):Option x0:=
 match P.underlying t with
 |some (.int k)=>match op with
  | .shl| .shr=>match P.underlying yt with
   |some (.int ky)=>some (.shift op k ky x y)
   |_=>none
  | .eql| .neq| .lss| .leq| .gtr| .geq=>some (.icmp op k x y)
  |_=>some (.arith op k x y)
 |some .string=>match op with
  | .add=>some (.sadd x y)
  | .eql| .neq| .lss| .leq| .gtr| .geq=>some (.scmp op x y)
  |_=>none
 |some .bool=>match op with
  | .eql=>some (.beq false x y)
  | .neq=>some (.beq true x y)
  |_=>none
 |some (.struct fs)=>if P.stoodInHeld t=true\/P.eqGuardType P.depth t=true then none else match op,OL P 0 fs.toList with
  | .eql,some l=>some (.aeq false l x y)
  | .neq,some l=>some (.aeq true l x y)
  |_,_=>none
 |some (.array n e)=>if P.eqGuardType P.depth t=true then none else match P.underlying e,FG P e,op with
  |some (.int _),some 1,.eql=>some (.aeq false (List.replicate n 0) x y)
  |some (.int _),some 1,.neq=>some (.aeq true (List.replicate n 0) x y)
  |_,_,_=>none
 |_=>none
def UR(s d:TypeId)(x:zx):Option x0:=
 match P.underlying s,P.underlying d with
 |some (.int _),some (.int k)=>some (.conv k x)
 |some .string,some .string=>some (.sid x)
 |some (.slice e),some .string=>match P.underlying e with
  |some (.int .u8)=>some (.b2s x)
  |_=>none
 |some .string,some (.slice e)=>match P.underlying e,FG P e with
  |some (.int .u8),some 1=>some (.s2b x)
  |_,_=>none
 |_,_=>none
def CD(mkv:Bool):Op->Option x0
 | .move x| .assign x=>(Aw x).map .mv
 | .build t parts=>match B6 P t,P.underlying t with
  |some z,some (.struct fs)=>match cE P fs with
   |some pl=>(Gu (λi=>pl[i]?) parts.toList).map (.build z.cells)
   |none=>none
  |some z,some (.array n e)=>match FG P e with
   |some s=>(Gu (λi=>some (i*s,s)) parts.toList).map (.build z.cells)
   |none=>none
  |_,_=>none
 | .buildSlice t len parts=>match P.underlying t with
  |some (.slice e)=>match B6 P e,FG P e with
   |some z,some s=>(E8 parts.toList).map (.bs s len z)
   |_,_=>none
  |_=>none
 | .load t a=>match FG P t,Aw a with
  |some s,some a=>some (.ld s (HO P t) a)
  |_,_=>none
 | .nilCheck x=>(Aw x).map .nilc
 | .binOp op t x y yt=>match Aw x,Aw y with
  |some a,some b=>cG P op t a b yt
  |_,_=>none
 | .unOp .not _ x=>(Aw x).map .not
 | .unOp .xor t x=>match P.underlying t with
  |some (.int k)=>(Aw x).map (.cmpl k)
  |_=>none
 | .unOp .neg t x=>match P.underlying t with
  |some (.int k)=>(Aw x).map (.neg k)
  |_=>none
 | .convert s d x=>match Aw x with
  |some a=>UR P s d a
  |none=>none
 | .makeInterface t x=>match P.underlying t with
  |some (.interface _)=>none
  |some _=>(Aw x).map (.ifc t)
  |none=>none
 | .makeFunc fn first cap=>match Im first.toList,Im cap.toList with
  |some a,some b=>some (.fn fn a b)
  |_,_=>none
 | .makeSlice t (.tmp l) (.tmp c)=>if mkv=true/\l=c then match P.underlying t with
  |some (.slice e)=>match P.info? e,B6 P e,FG P e with
   |some i,some z,some s=>some (.mkz s i.bytes z (.t l))
   |_,_,_=>none
  |_=>none else none
 | .makeSlice t (.const (.int .i64 l)) (.const (.int .i64 c))=>if mkv=true/\l=c then match P.underlying t with
  |some (.slice e)=>match P.info? e,B6 P e,FG P e with
   |some i,some z,some s=>some (.mkz s i.bytes z (.c (.int .i64 l)))
   |_,_,_=>none
  |_=>none else none
 | .slice t x lo hi mx=>match P.underlying t,Aw x,DG lo,DG hi,DG mx with
  |some .string,some a,some l,some h,some none=>some (.slS a l h)
  |some (.slice e),some a,some l,some h,some m=>match FG P e with
   |some s=>some (.sl s a l h m)
   |none=>none
  |_,_,_,_,_=>none
 | .fieldAddr t x f=>match P.underlying t with
  |some (.struct fs)=>match KM P fs f,Aw x with
   |some (off,_),some a=>some (.fa off a)
   |_,_=>none
  |_=>none
 | .field t x f=>match P.underlying t with
  |some (.struct fs)=>match fs[f]?,KM P fs f,Aw x with
   |some fd,some (off,s),some a=>some (.fld off s (HO P fd.type) a)
   |_,_,_=>none
  |_=>none
 | .indexAddr t x i=>match P.underlying t,Aw x,Aw i with
  |some (.slice e),some a,some b=>match FG P e with
   |some s=>some (.ia s a b)
   |none=>none
  |some (.array n e),some a,some b=>match FG P e with
   |some s=>some (.iaA n s a b)
   |none=>none
  |_,_,_=>none
 | .index t x i=>match P.underlying t,Aw x,Aw i with
  |some .string,some a,some b=>some (.ixS a b)
  |some (.array n e),some a,some b=>match FG P e with
   |some s=>some (.ixA n s (HO P e) a b)
   |none=>none
  |_,_,_=>none
 | .extract x i=>(Aw x).map (.ext i)
 | .call {callee:=.builtin .len,args,argTypes}=>match argTypes.toList,args.toList with
  |[t],[x]=>match P.underlying t,Aw x with
   |some .string,some a=>some (.lenS a)
   |some (.slice _),some a=>some (.len a)
   |_,_=>none
  |_,_=>none
 | .call {callee:=.builtin .cap,args,argTypes}=>match argTypes.toList,args.toList with
  |[t],[x]=>match P.underlying t,Aw x with
   |some (.slice _),some a=>some (.capx a)
   |_,_=>none
  |_,_=>none
 | .call {callee:=.builtin .max,args,argTypes}=>match argTypes.toList with
  |t::_=>match P.underlying t,Im args.toList with
   |some (.int k),some xs=>some (.mnmx true k xs)
   |_,_=>none
  |_=>none
 | .call {callee:=.builtin .min,args,argTypes}=>match argTypes.toList with
  |t::_=>match P.underlying t,Im args.toList with
   |some (.int k),some xs=>some (.mnmx false k xs)
   |_,_=>none
  |_=>none
 |_=>none
def kD(t:TypeId):Option KT:=match P.underlying t with
 |some (.int k)=>some (.int k)
 |some .bool=>some .bool
 |some .string=>some .str
 |some (.array n e)=>match P.underlying e,FG P e with
  |some (.int k),some 1=>some (.arr n k)
  |_,_=>none
 |_=>none
def PZ(t:TypeId)(c:Value):Option Nat:=match P.underlying t,c with
 |some (.interface _),.nilIface=>some 0
 |some (.pointer _),.pointer none=>some 1
 |some (.func ..),.nilFunc=>some 2
 |_,_=>none
def OM(t:TypeId)(c:Value):Bool:=match P.underlying t,c with
 |some (.slice _),.slice none _ _=>true
 |_,_=>false
def Ss(t:TypeId):Bool:=match P.underlying t with
 |some (.interface _)=>true
 |none=>true
 |_=>false
def V2(t:TypeId)(m k x:Operand):Option Io:=match P.underlying t,Aw m,Aw k,Aw x with
 |some (.map kt _),some m,some k,some x=>(kD P kt).map λkk=>.ext (.mput kk) [m,k,x]
 |_,_,_,_=>none
def BD(mkv imp:Bool)(i:Nat):Op->Option Io
 | .pick c a b=>match Aw c,Aw a,Aw b with
  |some c,some a,some b=>some (.pick c a b)
  |_,_,_=>none
 | .alloc t=>(B6 P t).map λz=>.alloc i z.cells
 | .box t x=>match FG P t,Aw x with
  |some s,some a=>some (.box i s a)
  |_,_=>none
 | .store t a x=>match FG P t,Aw a,Aw x with
  |some s,some a,some x=>some (.st s a x)
  |_,_,_=>none
 | .makeSlice t l c=>if mkv then(CD P mkv (.makeSlice t l c)).map .v else match l,c with
  | .tmp l,.tmp c=>if l=c then match P.underlying t with
   |some (.slice e)=>match P.info? e,B6 P e,FG P e with
    |some inf,some z,some s=>some (.mks i s inf.bytes z (.t l))
    |_,_,_=>none
   |_=>none else none
  | .const (.int .i64 l),.const (.int .i64 c)=>if l=c then match P.underlying t with
   |some (.slice e)=>match P.info? e,B6 P e,FG P e with
    |some inf,some z,some s=>some (.mks i s inf.bytes z (.c (.int .i64 l)))
    |_,_,_=>none
   |_=>none else if 0<=l/\0<=c then match P.underlying t with
   |some (.slice e)=>match P.info? e,B6 P e,FG P e with
    |some inf,some z,some s=>some (.ext (.mkc i s inf.bytes z l.toNat c.toNat) [])
    |_,_,_=>none
   |_=>none else none
  |_,_=>none
 | .buildSlice t len parts=>if mkv then(match P.underlying t with
  |some (.slice e)=>match B6 P e,FG P e,E8 parts.toList with
   |some z,some s,some ps=>some (.ext (.bsm i s len z (ps.map (·.1))) (ps.map (·.2)))
   |_,_,_=>none
  |_=>none)else(CD P mkv (.buildSlice t len parts)).map .v
 | .call {callee:=.builtin .append,args,argTypes}=>match argTypes.toList,args.toList with
  |[t,u],[x,y]=>match P.underlying t,Aw x,Aw y with
   |some (.slice e),some a,some b=>match P.info? e,B6 P e,P.underlying u with
    |some inf,some z,some .string=>if inf.size=1 then some (if mkv then .uF i inf.size inf.bytes z a b true else .app i inf.size inf.bytes a b true)else none
    |some inf,some z,some (.slice e')=>if t=u then some (if mkv then .uF i inf.size inf.bytes z a b false else .app i inf.size inf.bytes a b false)else none
    |some inf,some z,some (.int _)=>some (.appZ i inf.size inf.bytes z a b)
    |_,_,_=>none
   |_,_,_=>none
  |_,_=>none
 | .call {callee:=.builtin .copy,args,argTypes}=>match argTypes.toList,args.toList with
  |[t,u],[x,y]=>match P.underlying t,Aw x,Aw y with
   |some (.slice e),some a,some b=>match P.info? e,P.underlying u with
    |some inf,some .string=>if inf.size=1 then some (.ext (.cpy inf.size true) [a,b])else none
    |some inf,some (.slice _)=>some (.ext (if mkv=true/\inf.size=1 then .cpb else .cpy inf.size false) [a,b])
    |_,_=>none
   |_,_,_=>none
  |_,_=>none
 | .call {callee:=.value f,args,.. }=>match Aw f,Im args.toList with
  |some f,some xs=>some (if mkv&&imp then .cpu f xs else .call (!imp) f xs)
  |_,_=>none
 | .panic x=>(Aw x).map .tJ
 | .slice t x lo hi mx=>match P.underlying t with
  |some (.array n e)=>match Aw x,DG lo,DG hi,mx with
   |some x,some l,some h,none=>if FG P e=some 1 then some (if mkv then .v (.slp n x l h)else .slA n x l h)else match FG P e with
    |some k=>if 2<=k then some (.ext (.slx n k l.isSome h.isSome) (x::(l.toList++h.toList)))else none
    |none=>none
   |_,_,_,_=>none
  |_=>(CD P mkv (.slice t x lo hi mx)).map .v
 | .makeMap t none=>match P.underlying t with
  |some (.map _ _)=>some (.ext (.mkm i) [])
  |_=>none
 | .lookup t x ix ok=>match P.underlying t,Aw x,Aw ix with
  |some (.map kt e),some a,some b=>match kD P kt,B6 P e with
   |some kk,some z=>some (.ext (.look kk z ok) [a,b])
   |_,_=>none
  |_,_,_=>none
 | .mapUpdate t m k x=>V2 P t m k x
 | .insert t m k x=>V2 P t m k x
 | .range t x=>match P.underlying t,Aw x with
  |some .string,some a=>some (.ext (.srng i) [a])
  |some (.map _ _),some a=>some (.ext (.mrng i) [a])
  |_,_=>none
 | .next x true=>(Aw x).map λa=>.ext .snext [a]
 | .next x false=>(Aw x).map .mnx
 | .entry x=>(Aw x).map λa=>.ext .ment [a]
 | .convert s d x=>match P.underlying s,P.underlying d with
  |some (.int _),some .string=>(Aw x).map λa=>.ext .i2s [a]
  |_,_=>(CD P mkv (.convert s d x)).map .v
 | .call {callee:=.builtin .len,args,argTypes}=>match argTypes.toList,args.toList with
  |[t],[x]=>match P.underlying t with
   |some (.map _ _)=>(Aw x).map λa=>.ext .mlen [a]
   |_=>(CD P mkv (.call {callee:=.builtin .len,args,argTypes})).map .v
  |_,_=>none
 | .binOp .eql t x (.const c) yt=>match PZ P t c with
  |some kd=>(Aw x).map λa=>.ext (.tH kd false) [a]
  |none=>if OM P t c=true then(Aw x).map (.nils false)else(CD P mkv (.binOp .eql t x (.const c) yt)).map .v
 | .binOp .neq t x (.const c) yt=>match PZ P t c with
  |some kd=>(Aw x).map λa=>.ext (.tH kd true) [a]
  |none=>if OM P t c=true then(Aw x).map (.nils true)else(CD P mkv (.binOp .neq t x (.const c) yt)).map .v
 | .typeAssert x _ t ok=>if Ss P t=true then none else match Aw x,B6 P t with
  |some a,some z=>some (.ext (.tas t ok z) [a])
  |_,_=>none
 |op=>(CD P mkv op).map .v
end
def Io.cat:Io->Nat
 | .v (.ld ..)=>1
 | .v _=>0
 | .pick .. =>0
 | .ext (.tH ..) _| .ext (.tas ..) _| .cpu .. =>0
 | .ext (.mkm _) _| .ext (.bsm ..) _| .ext (.mkc ..) _=>2
 | .alloc .. | .box .. | .mks .. =>2
 | .call true .. | .ext (.look ..) _=>3
 | .call false .. | .tJ _| .slA .. | .ext .. | .uF .. | .appZ .. | .nils .. | .mnx .. =>5
 | .app .. =>4
 | .st .. =>6
def FH:Nat->Nat->Bool
 |0,_=>true
 |5,_=>false
 |_,0=>true
 |1,1|1,2|1,3|1,4|2,1|2,2|3,1|3,3|4,1=>true
 |_,_=>false
def Ma(ops:Array Oper):Option (Nat×Bool)->Option (Option (Nat×Bool))
 |none=>some none
 |some (j,w)=>match (ops[j]?).bind (·.dst)with
  |some d=>some (some (d,w))
  |none=>none
def Mb(x y:xj):Bool:=
 let lk (o:xj) (d:Nat):Bool:=(o.k.sF.any fun| .t i=>i==d|_=>false)||(match o.guard with|some (g,_)=>g==d|none=>false)
 (match x.dst with|some d=>!lk y d&&y.dst !=some d|none=>true)&&(match y.dst with|some d=>!lk x d|none=>true)
def I0(acc:List Nat)(o:Oper):Nat:=(o.after.toList.filter (Region.binds .any)).foldl (λm e=>m|||(1<<<e.on)|||acc.getD e.on 0) 0
def Hg:List Oper->List Nat->List Nat
 |[],acc=>acc
 |o::r,acc=>Hg r (acc++[I0 acc o])
def Nh(P:Program)(N lo:Nat)(ops:Array Oper)(mkv imp:List Nat):List Oper->Nat->Option (List xj)
 |[],_=>some []
 |o::r,i=>match Ma ops o.guard,BD P (mkv.contains i) (imp.contains i) i o.op,Nh P N lo ops mkv imp r (i+1)with
  |some g,some k,some l=>if o.dst.all (λd=>decide (d<N)&&decide (lo<=d))then some ({dst:=o.dst,guard:=g,k}::l)else none
  |_,_,_=>none
def Ls(ops:Array Oper):Bool:=(List.range ops.size).all λj=>match ops[j]? with
 |some o=>o.after.toList.all λe=>!Region.binds .any e||decide (e.on<j)
 |none=>true
def Pa(o:xj):Bool:=match o.k with
 | .v (.ld _ _ (.c (.ptr ..)))=>false
 | .v (.ld _ _ (.c (.ap ..)))=>false
 |_=>true
def US(ops:Array Oper)(l:List xj)(ms:List Nat):Bool:=
 Ls ops&&l.all Pa&&(List.range l.length).all λj=>(List.range j).all λi=>match l[i]?,l[j]? with
  |some x,some y=>(Mb x y&&FH x.k.cat y.k.cat)||(ms.getD j 0).testBit i
  |_,_=>false
def St(ops:Array Oper)(l:List xj):Bool:=US ops l (Hg ops.toList [])
def UT(x:Nat×xj):Bool:=x.1==1&&(match x.2.k with
 | .v (.ld ..)=>true
 |_=>false)
def UU(x:Nat×xj):Bool:=x.1==2&&(match x.2.k with
 | .st .. =>true
 |_=>false)
def Qy(x:Nat×xj):Bool:=Nat.ble 3 x.1&&(match x.2.k with
 | .v (.ld ..)=>true
 |_=>false)
def UV(x:Nat×xj):Bool:=Nat.ble 3 x.1&&(match x.2.k with
 | .st .. =>true
 |_=>false)
def cH(x y:Nat):Bool:=(x !=y&&Nat.ble x 1002&&Nat.ble y 1002)||(Nat.ble 1003 x&&x % 2==1&&y==x+1)||(Nat.ble 1003 y&&y % 2==1&&x==y+1)||(x !=y&&Nat.ble 1003 x&&Nat.ble x 300002&&x % 2==1&&Nat.ble 1003 y&&Nat.ble y 300002&&y % 2==1)
def Pb(x:Nat×xj):Bool:=Nat.ble 300003 x.1&&x.1 % 2==1&&(match x.2.k with
 | .call false .. =>true
 |_=>false)
def YZ(x:Nat×xj):Bool:=x.1==2&&(match x.2.k with
 | .v (.ld ..)=>true
 |_=>false)
def Ya(x:Nat×xj):Bool:=x.1==2&&(match x.2.k with
 | .uF .. =>true
 |_=>false)
def Qz(x y:Nat×xj):Bool:=FH x.2.k.cat y.2.k.cat||(UT x&&UU y)||(UU x&&UT y)||(cH x.1 y.1&&Qy x&&UV y)||(cH x.1 y.1&&UV x&&Qy y)||(Qy x&&Pb y&&x.1==y.1+1)||(YZ x&&Ya y)
def CH(l:List xj)(i:Nat):xj:=l[i]?.getD ⟨none,none,.alloc 0 []⟩
def JX(l:List xj):List Nat:=l.filterMap λo=>match o.k,o.guard,o.dst with
 | .alloc ..,none,some d| .box ..,none,some d| .mks ..,none,some d=>some d
 |_,_,_=>none
def Yb(fz:List (Nat×Nat))(i:Nat):Option Nat:=(fz.find? (·.1==700000+i)).map (·.2)
def JY(fz:List (Nat×Nat))(nt:List Nat)(o:xj):Nat:=match o.k with
 | .uF .. =>2
 | .v (.ld _ _ (.t i))=>(match Yb fz i with
  |some k=>if k==600000 then 2 else k+3
  |none=>if nt.contains i then 0 else 1)
 | .v (.ld _ _ (.c _))=>1
 | .st _ (.t i) _=>(match Yb fz i with
  |some k=>k+3
  |none=>if nt.contains i then 2 else 0)
 | .call false _ _=>(match o.dst with
  |some d=>(match Yb fz (100000+d)with
   |some k=>k+3
   |none=>0)
  |none=>0)
 |_=>0
def K5(fz:List (Nat×Nat))(l:List xj)(L:List Nat):List (Nat×xj):=L.map λi=>(JY fz (JX l) (CH l i),CH l i)
def Q0(fz:List (Nat×Nat))(ops:Array Oper)(l:List xj)(ms:List Nat):Bool:=
 Ls ops&&l.all Pa&&(List.range l.length).all λj=>(List.range j).all λi=>match l[i]?,l[j]? with
  |some x,some y=>(Mb x y&&Qz (JY fz (JX l) x,x) (JY fz (JX l) y,y))||(ms.getD j 0).testBit i
  |_,_=>false
def Pc(fz:List (Nat×Nat))(ops:Array Oper)(l:List xj):Bool:=Q0 fz ops l (Hg ops.toList [])
def UW(fz:List (Nat×Nat))(l:List xj)(ms:List Nat)(j i:Nat):Bool:=j !=i&&(match l[j]?,l[i]? with
 |some x,some y=>(Mb x y&&Qz (JY fz (JX l) x,x) (JY fz (JX l) y,y))||(ms.getD i 0).testBit j
 |_,_=>false)
def JZ(p:Nat->Nat->Bool):List Nat->Bool
 |[]=>true
 |j::r=>r.all (λi=>p j i)&&JZ p r
def Mc(ops:Array Oper):List Nat->List Nat->Bool
 |_,[]=>true
 |seen,i::r=>(match ops[i]? with
  |some o=>o.after.toList.all λe=>!Region.binds .any e||seen.contains e.on
  |none=>false)&&Mc ops (i::seen) r
def Md(fz:List (Nat×Nat))(ord:List Nat)(ops:Array Oper)(l:List xj):Bool:=
 decide (ord.length=ops.size)&&(ord.all λi=>decide (i<ops.size))&&((List.range ops.size).all λi=>ord.contains i)&&l.all Pa&&Mc ops [] ord&&JZ (UW fz l (Hg ops.toList [])) ord
def Q1(fz:List (Nat×Nat))(id:Nat):List Nat:=(fz.filter (·.1==990000+id)).map (·.2)
def KN(l:List xj)(kp:List Nat):Bool:=l.all λo=>o.guard.isNone||(match o.dst with|some d=>!kp.contains d|none=>true)
def Pd(fz:List (Nat×Nat))(id:Nat)(c:q9):q9:=((fz.filter λp=>p.1==id&&Nat.ble 1000 p.2).map (·.2)).foldl (λc t=>.seq c (if Nat.ble 5000 t then .frzo (t-5000)else .frz (t-1000))) c
def Z9(fz:List (Nat×Nat)):Nat:=((fz.find? (·.1==999999)).map (·.2)).getD 0
def BH(P:Program)(N:Nat)(fz im:List (Nat×Nat))(kp:Nat->List Nat):Code->Option q9
 | .skip=>some .skip
 | .region id ops draw=>match Nh P N (Z9 fz) ops ((fz.filter (·.1==id)).map (·.2)) ((im.filter (·.1==id)).map (·.2)) ops.toList 0 with
  |some l=>if draw=false\/(St ops l=true/\KN l (kp id)=true/\P.follows .mixedOrders=true)then some (Pd fz id (.reg (if l.any (λo=>o.k.news)then ops.size else 0) l (kp id)))else
    if Pc fz ops l=true/\KN l (kp id)=true/\P.follows .mixedOrders=true then some (Pd fz id (.regx (if l.any (λo=>o.k.news)then ops.size else 0) (K5 fz l (List.range l.length)) (kp id)))else
    if Md fz (Q1 fz id) ops l=true/\KN l (kp id)=true/\P.follows .mixedOrders=true then some (Pd fz id (.regx (if l.any (λo=>o.k.news)then ops.size else 0) (K5 fz l (Q1 fz id)) (kp id)))else none
  |none=>none
 | .seq a b=>match BH P N fz im kp a,BH P N fz im kp b with
  |some a,some b=>some (.seq a b)
  |_,_=>none
 | .cond c a b=>match Aw c,BH P N fz im kp a,BH P N fz im kp b with
  |some c,some a,some b=>some (.cond c a b)
  |_,_,_=>none
 | .block id c=>(BH P N fz im kp c).map (.block id)
 | .loop c=>(BH P N fz im kp c).map .loop
 | .exit id=>some (.exit id)
 | .label _=>some .skip
 | .ret=>some .ret
 | .scope c=>BH P N fz im kp c
 | .rangeFunc g ps asg body=>(Aw g).map λg=>.rfun g ps N asg body
 |_=>none
section
variable {H:AB} {ob:xq} {g:z8} {L:Loc} {id n m:Nat} {σ':Nat->Nat->Option Value} {w w':World}
theorem sL.eq{f f':Nat->Option Value}:∀(cs:List Fs) (o:Nat),(∀j,o<=j->j<o+cs.length->f' j=f j)->sL g f o cs->sL g f' o cs
 |[],_,_,_=>trivial
 |c::cs,o,h,⟨⟨x,h1,h2,h4⟩,h3⟩=>⟨⟨x,by rw[h o (od _) zw];exact h1,h2,h4⟩,sL.eq cs (o+1) (λj a b=>h j zo (by simp only[oI];omega)) h3⟩
theorem sK.eq{esz:Nat}{f f':Nat->Option Value}:∀(l:List Fs) (o:Nat),(∀j,o<=j->j<o+l.length*esz->f' j=f j)->sK g esz f o l->sK g esz f' o l
 |[],_,_,_=>trivial
 |e::l,o,h,⟨⟨v,h1,h2,h3⟩,h4⟩=>by
  have hl:(e::l).length*esz=esz+l.length*esz:=by rw[oI,pN];omega
  refine⟨⟨v,h1,h2,λj x hx=>?_⟩,sK.eq l (o+esz) (λj a b=>h j zo (by rw[hl];omega)) h4⟩;have hj:j<esz:=by rw[<-h2.1];exact(oU.1 hx).1
  rw[h (o+j) zo (by rw[hl];omega)];exact h3 j x hx
theorem BE{b:Nat}{c:Array Value}{e:TypeId}{fz:Nat×Nat}(h:w.heap[b]?=some (.cells c e fz))(o:Nat):w.cell? ⟨b,o,none⟩=c[o]?:=by
 simp [World.cell?,h]
theorem En{b:Nat}(h:w'.heap[b]?=w.heap[b]?)(o:Nat):w'.cell? ⟨b,o,none⟩=w.cell? ⟨b,o,none⟩:=by
 simp [World.cell?,h]
def I1(w w':World):Prop:=∀(b:Nat) ob,w.heap[b]?=some ob->w'.heap[b]?=some ob
theorem I1.size(h:I1 w w'):w.heap.size<=w'.heap.size:=by
 rcases Nat.eq_zero_or_pos w.heap.size with h0|h0
 ·omega
 ·have h1:=h (w.heap.size-1) _ (qj zo);have:=(oU.1 h1).1;omega
theorem I1.push{ob:Obj}(h:w'.heap=w.heap.push ob):I1 w w':=by
 intro b x hb;have e9:=(oU.1 hb).1;rw[h,Array.getElem?_push,og zo];exact hb
theorem FE.ext{g':z8}(h:I1 w w')(hg:g.le g'):∀(ob:xq),FE g w id ob->FE g' w' id ob
 | .box cs=>λ⟨L,c,e,h1,h2,h3,h4,h5,h6⟩=>⟨L,c,e,hg.β _ _ h1,h2,h3,h _ _ h4,h5,sL.mono hg (λ_ _ x=>x) cs 0 h6⟩
 | .tok=>λ⟨L,h1,h2⟩=>⟨L,hg.β _ _ h1,λe9=>let ⟨c,e,h3,h4⟩:=h2 e9;⟨c,e,h _ _ h3,h4⟩⟩
 | .arr esz l=>λ⟨L,c,e,h1,h2,h3,h4,h5,h6⟩=>⟨L,c,e,hg.β _ _ h1,h2,h3,h _ _ h4,h5,sK.mono hg (λ_ _ x=>x) esz l 0 h6⟩
 | .frz esz l=>λ⟨L,h1,h2,h3⟩=>⟨L,hg.β _ _ h1,h2,sK.mono hg (hg.σ L.sO) esz l 0 h3⟩
 | .map es c=>λ⟨L,tD,h1,h2,h3,h4,h5⟩=>⟨L,tD,hg.β _ _ h1,h2,h3,h _ _ h4,Dt.mono hg _ _ h5⟩
 | .sit s pos=>λ⟨L,h1,h2,h3,h4⟩=>⟨L,hg.β _ _ h1,h2,h3,h _ _ h4⟩
 | .mit m c seen last=>λ⟨L,Lm,h1,h2,h3,h4,h5,h6⟩=>⟨L,Lm,hg.β _ _ h1,h2,h3,h _ _ h4,hg.β _ _ h5,h6⟩
 | .lp x=>λ⟨L,h1,h2,h3,h4,r,k1,k2,k3,k4,k5,k6,k7,k8⟩=>⟨L,hg.β _ _ h1,h2,h3,h4,r,h _ _ k1,k2,k3,k4,k5,k6,By.mono hg k7,k8⟩
 | .dead=>λ_=>zt
theorem x6.grow(r:x6 g H n w)(hx:I1 w w')(hσ:∀b o v,g.σ b o=some v->σ' b o=some v)
  (tX:∀b o v,σ' b o=some v->g.σ b o=some v\/(w.heap.size<=b/\w'.cell? ⟨b,o,none⟩=some v)):x6 ⟨g.β,σ'⟩ H n w':=by
 have hle:g.le ⟨g.β,σ'⟩:=⟨λ_ _ h=>h,hσ⟩;refine⟨?_,λid ob h=>FE.ext hx hle ob (r.obj id ob h),λid L h=>⟨(r.uu id L h).1,λe9=>qg ((r.uu id L h).2 e9) hx.size⟩,r.hd,r.ap,?_,r.gl.mono hle,r.gz.ext (λb c e fz h=>hx b _ h)⟩
 ·intro b o v h;rcases tX b o v h with h1|h1
  ·have h2:=r.σw b o v h1;have:∃ob,w.heap[b]?=some ob:=by grind [World.cell?]
   obtain⟨ob,hb⟩:=this;rw[En ((hx b ob hb).trans hb.symm)];exact h2
  ·exact h1.2
 ·intro id ob L o q1 q2 q3 q4 q5;cases hs:σ' L.sO o with
  |none=>exact hs
  |some v=>
   rcases tX _ _ _ hs with h1|h1
   ·rw[r.un id ob L o q1 q2 q3 q4 q5]at h1;cases h1
   ·have:=(r.uu id L q3).2 zo;omega
theorem q8.grow(hx:I1 w w')(hos:w'.os=w.os)(htape:w'.tape=w.tape)(hout:w'.output=w.output)(hσ:∀b o v,g.σ b o=some v->σ' b o=some v)
  (tX:∀b o v,σ' b o=some v->g.σ b o=some v\/w.heap.size<=b):q8 m g H w ⟨g.β,σ'⟩ H w' where
 le:=⟨λ_ _ h=>h,hσ⟩
 βn:=λ_ _ h=>.inl h
 os:=hos
 tape:=htape
 output:=hout
 size:=hx.size
 kept:=λb ob hb=>by rw[hx b ob hb];exact Iu.same _ _
 now:=λ_ _ _ h=>h
 nσ:=λb o v hb h=>.inl ((tX b o v h).resolve_right zo)
theorem x6.new'(r:x6 g H n w){x:Obj}(hx:w'.heap=w.heap.push x)(hos:w'.os=w.os)(htape:w'.tape=w.tape)(hout:w'.output=w.output)
  (h0:AD H id=none) (s5:id<n) (hm:m<=id) (hL:L.sO=w.heap.size) (hσ:∀b o v,g.σ b o=some v->σ' b o=some v)
  (tX:∀b o v,σ' b o=some v->g.σ b o=some v\/(b=w.heap.size/\w'.cell? ⟨b,o,none⟩=some v/\(o<L.lo\/L.hi<=o))) (hob:FE ⟨λi=>if i=id then some L else g.β i,σ'⟩ w' id ob):
  x6 ⟨λi=>if i=id then some L else g.β i,σ'⟩ (sA H id ob) n w'/\q8 m g H w ⟨λi=>if i=id then some L else g.β i,σ'⟩ (sA H id ob) w'/\g.le ⟨λi=>if i=id then some L else g.β i,σ'⟩:=by
 have hb0:g.β id=none:=by
  cases hb:g.β id with
  |none=>rfl
  |some L'=>exact absurd h0 (r.uu id L' hb).1
 have hle:g.le ⟨λi=>if i=id then some L else g.β i,σ'⟩:=⟨λi L' h=>by
  show(if i=id then some L else g.β i)=some L';rw[og (by rintro rfl;rw[hb0]at h;cases h)];exact h,hσ⟩
 have hext:I1 w w':=I1.push hx;have tB:w'.heap.size=w.heap.size+1:=by rw[hx];simp
 have low:∀uP L',uP≠id->g.β uP=some L'->L'.lo<L'.hi->L'.sO≠w.heap.size:=λuP L' _ h e9 e=>by
  have:=(r.uu uP L' h).2 e9;omega
 refine⟨⟨?_,?_,?_,?_,?_,?_,r.gl.mono hle,r.gz.ext (λb c e fz h=>hext b _ h)⟩,⟨hle,?_,hos,htape,hout,hext.size,λb ob' hb=>by rw[hext b ob' hb];exact Iu.same _ _,?_,?_⟩,hle⟩
 ·intro b o v h;rcases tX b o v h with h|h
  ·have h2:=r.σw b o v h;have:∃ob,w.heap[b]?=some ob:=by grind [World.cell?]
   obtain⟨ob',hb⟩:=this;rw[En ((hext b ob' hb).trans hb.symm)];exact h2
  ·exact h.2.1
 ·intro uP ob' h;rw[AN]at h;by_cases he:id=uP
  ·subst he;rw[oE rfl]at h;cases h;exact hob
  ·rw[og he]at h;exact FE.ext hext hle ob' (r.obj uP ob' h)
 ·intro uP L' h;rw[AN];by_cases he:id=uP
  ·simp_all
  ·rw[og he];have h':g.β uP=some L':=by simpa [Ne.symm he]using h
   exact⟨(r.uu uP L' h').1,λe9=>by have:=(r.uu uP L' h').2 e9;omega⟩
 ·intro uP ob' h;rw[AN]at h;by_cases he:id=uP
  ·subst he;exact s5
  ·rw[og he]at h;exact r.hd uP ob' h
 ·intro i j oi oj Li Lj sZ q1 q2 q3 q4 q5 q6 hblk;rw[AN]at q1 q2;by_cases e1:id=i
  ·grind
  ·by_cases e2:id=j
   ·grind
   ·rw[og e1]at q1;rw[og e2]at q2;exact r.ap i j oi oj Li Lj sZ q1 q2 q3 q4 (by simpa [Ne.symm e1]using q5) (by simpa [Ne.symm e2]using q6) hblk
 ·intro i oi Li o q1 q2 q3 q4 q5;rw[AN]at q1;show σ' Li.sO o=none;cases hs:σ' Li.sO o with
  |none=>rfl
  |some v=>
   exfalso;by_cases e1:id=i
   ·subst e1;have:Li=L:=by simpa using q3.symm
    subst this;rcases tX _ _ _ hs with h|h
    ·have:=r.σw _ _ _ h;rw[hL]at this;simp [World.cell?]at this
    ·omega
   ·rw[og e1]at q1;have q3':g.β i=some Li:=by simpa [Ne.symm e1]using q3
    rcases tX _ _ _ hs with h|h
    ·rw[r.un i oi Li o q1 q2 q3' q4 q5]at h;cases h
    ·have:=(r.uu i Li q3').2 zo;omega
 ·grind
 ·rintro b o hb ⟨i,oi,Li,q1,q2,q3,q4,q5,q6⟩;rw[AN]at q1;by_cases e1:id=i
  ·simp_all
  ·rw[og e1]at q1;exact⟨i,oi,Li,q1,q2,by simpa [Ne.symm e1]using q3,q4,q5,q6⟩
 ·grind
theorem x6.new(r:x6 g H n w){x:Obj}(hx:w'.heap=w.heap.push x)(hos:w'.os=w.os)(htape:w'.tape=w.tape)(hout:w'.output=w.output)
  (h0:AD H id=none) (s5:id<n) (hm:m<=id) (hL:L.sO=w.heap.size) (hob:FE ⟨λi=>if i=id then some L else g.β i,g.σ⟩ w' id ob):
  x6 ⟨λi=>if i=id then some L else g.β i,g.σ⟩ (sA H id ob) n w'/\q8 m g H w ⟨λi=>if i=id then some L else g.β i,g.σ⟩ (sA H id ob) w'/\g.le ⟨λi=>if i=id then some L else g.β i,g.σ⟩:=
 r.new' hx hos htape hout h0 s5 hm hL (λ_ _ _ h=>h) (λ_ _ _ h=>.inl h) hob
theorem x6.kill(r:x6 g H n w)(h0:AD H id=some ob):
  x6 g (sA H id .dead) n w/\q8 m g H w g (sA H id .dead) w:=by
 have low:∀i oi,AD (sA H id .dead) i=some oi->oi.owns=true->AD H i=some oi:=by
  intro i oi q1 q2;rw[AN]at q1;by_cases e:id=i
  ·rw[oE e]at q1;cases q1;simp [xq.owns]at q2
  ·rw[og e]at q1;exact q1
 refine⟨⟨r.σw,?_,?_,?_,?_,?_,r.gl,r.gz⟩,⟨.refl g,λ_ _ h=>.inl h,rfl,rfl,rfl,od _,λb ob hb=>by rw[hb];exact Iu.same _ _,?_,λ_ _ _ _ h=>.inl h⟩⟩
 ·intro i oi h;rw[AN]at h;by_cases e:id=i
  ·rw[oE e]at h;cases h;trivial
  ·rw[og e]at h;exact r.obj i oi h
 ·intro i L h;refine⟨?_,(r.uu i L h).2⟩;rw[AN];by_cases e:id=i
  ·simp [e]
  ·rw[og e];exact(r.uu i L h).1
 ·intro i oi h;rw[AN]at h;by_cases e:id=i
  ·subst e;exact r.hd id ob h0
  ·rw[og e]at h;exact r.hd i oi h
 ·intro i j oi oj Li Lj sZ q1 q2 q3 q4 q5 q6 hb;exact r.ap i j oi oj Li Lj sZ (low i oi q1 q3) (low j oj q2 q4) q3 q4 q5 q6 hb
 ·intro i oi L o q1 q2 q3 q4 q5;exact r.un i oi L o (low i oi q1 q2) q2 q3 q4 q5
 ·rintro b o hb ⟨i,oi,Li,q1,q2,q3,q4,q5,q6⟩;exact⟨i,oi,Li,low i oi q1 q2,q2,q3,q4,q5,q6⟩
theorem x6.split(r:x6 g H n w)(h0:AD H id=none)(s5:id<n)(hm:m<=id){H':AB}
  (hH:(H'=H/\L.hi<=L.lo)\/∃i0 uY,H'=sA H i0 .dead/\AD H i0=some .tok/\g.β i0=some ⟨L.sO,uY,L.hi⟩/\uY<=L.lo)
  (hσ:∀b o v,g.σ b o=some v->σ' b o=some v)
  (tX:∀b o v,σ' b o=some v->g.σ b o=some v\/(b=L.sO/\o<L.lo/\w.cell? ⟨b,o,none⟩=some v/\∃i0 uY,H'=sA H i0 .dead/\AD H i0=some .tok/\g.β i0=some ⟨L.sO,uY,L.hi⟩/\uY<=o/\o<L.hi)):
  x6 ⟨λi=>if i=id then some L else g.β i,σ'⟩ (sA H' id .tok) n w/\q8 m g H w ⟨λi=>if i=id then some L else g.β i,σ'⟩ (sA H' id .tok) w/\g.le ⟨λi=>if i=id then some L else g.β i,σ'⟩:=by
 have hb0:g.β id=none:=by
  cases hb:g.β id with
  |none=>rfl
  |some L'=>exact absurd h0 (r.uu id L' hb).1
 have hle:g.le ⟨λi=>if i=id then some L else g.β i,σ'⟩:=⟨λi L' h=>by
  show(if i=id then some L else g.β i)=some L';rw[og (by rintro rfl;rw[hb0]at h;cases h)];exact h,hσ⟩
 have low:∀i oi,AD H' i=some oi->oi.owns=true->AD H i=some oi:=by
  intro i oi q1 q2;rcases hH with⟨rfl,_⟩|⟨i0,uY,rfl,_⟩
  ·exact q1
  ·rw[AN]at q1;by_cases e:i0=i
   ·rw[oE e]at q1;cases q1;simp [xq.owns]at q2
   ·rw[og e]at q1;exact q1
 have any:∀i oi,AD H' i=some oi->∃oi',AD H i=some oi'/\(oi=oi'\/oi= .dead):=by
  intro i oi q1;rcases hH with⟨rfl,_⟩|⟨i0,uY,rfl,h1,_⟩
  ·exact⟨oi,q1,.inl rfl⟩
  ·rw[AN]at q1;by_cases e:i0=i
   ·simp_all
   ·rw[og e]at q1;exact⟨oi,q1,.inl rfl⟩
 have none':∀i,AD H i≠none->AD H' i≠none:=by grind [AN]
 have off:∀i oi Li o,AD H' i=some oi->oi.owns=true->g.β i=some Li->Li.sO=L.sO->Li.lo<=o->o<Li.hi->∀i0 uY,H'=sA H i0 .dead->AD H i0=some .tok->g.β i0=some ⟨L.sO,uY,L.hi⟩->¬(uY<=o/\o<L.hi):=by
  intro i oi Li o q1 q2 q3 q4 q5 q6 i0 uY e1 e2 e3 e4;have sZ:i≠i0:=by
   rintro rfl;rw[e1,AN,oE rfl]at q1;cases q1;simp [xq.owns]at q2
  have:=r.ap i i0 oi .tok Li ⟨L.sO,uY,L.hi⟩ sZ (low i oi q1 q2) e2 q2 rfl q3 e3 q4;simp only[]at this;omega
 have wcell:∀b o v,σ' b o=some v->w.cell? ⟨b,o,none⟩=some v:=λb o v h=>(tX b o v h).elim (λh=>r.σw b o v h) (λh=>h.2.2.1)
 refine⟨⟨wcell,?_,?_,?_,?_,?_,r.gl.mono hle,r.gz⟩,⟨hle,?_,rfl,rfl,rfl,od _,λb ob hb=>by rw[hb];exact Iu.same _ _,?_,?_⟩,hle⟩
 ·intro i oi h;rw[AN]at h;by_cases e:id=i
  ·subst e;rw[oE rfl]at h;cases h;refine⟨L,zw,λe9=>?_⟩;rcases hH with⟨_,h1⟩|⟨i0,uY,_,h1,h2,h3⟩
   ·omega
   ·obtain⟨L',k1,k2⟩:=r.obj i0 .tok h1;rw[h2]at k1;cases k1;exact k2 zp
  ·rw[og e]at h;obtain⟨oi',q1,q2⟩:=any i oi h;rcases q2 with rfl|rfl
   ·exact FE.ext (λ_ _ h=>h) hle _ (r.obj i _ q1)
   ·trivial
 ·intro i L' h;rw[AN];by_cases e:id=i
  ·subst e;have:L'=L:=by simpa using h.symm
   subst this;refine⟨zw,λe9=>?_⟩;rcases hH with⟨_,h1⟩|⟨i0,uY,_,h1,h2,h3⟩
   ·omega
   ·exact(r.uu i0 _ h2).2 zp
  ·rw[og e];have h':g.β i=some L':=by simpa [Ne.symm e]using h
   exact⟨none' i (r.uu i L' h').1,(r.uu i L' h').2⟩
 ·intro i oi h;rw[AN]at h;by_cases e:id=i
  ·subst e;exact s5
  ·rw[og e]at h;obtain⟨oi',q1,_⟩:=any i oi h;exact r.hd i oi' q1
 ·intro i j oi oj Li Lj sZ q1 q2 q3 q4 q5 q6 hblk;rw[AN]at q1 q2;have case1:∀j oj Lj,id≠j->AD H' j=some oj->oj.owns=true->g.β j=some Lj->L.sO=Lj.sO->L.hi<=Lj.lo\/Lj.hi<=L.lo\/L.hi<=L.lo\/Lj.hi<=Lj.lo:=by
   intro j oj Lj hj q2 q4 q6 hb;rcases hH with⟨_,h1⟩|⟨i0,uY,e1,h1,h2,h3⟩
   ·exact .inr (.inr (.inl h1))
   ·have sZ:j≠i0:=by
     rintro rfl;rw[e1,AN,oE rfl]at q2;cases q2;simp [xq.owns]at q4
    have:=r.ap j i0 oj .tok Lj ⟨L.sO,uY,L.hi⟩ sZ (low j oj q2 q4) h1 q4 rfl q6 h2 hb.symm;simp only[]at this;omega
  by_cases e1:id=i
  ·grind
  ·by_cases e2:id=j
   ·subst e2;have:Lj=L:=by simpa using q6.symm
    subst this;rw[og e1]at q1;have:=case1 i oi Li e1 q1 q3 (by simpa [Ne.symm e1]using q5) hblk.symm;omega
   ·rw[og e1]at q1;rw[og e2]at q2;exact r.ap i j oi oj Li Lj sZ (low i oi q1 q3) (low j oj q2 q4) q3 q4 (by simpa [Ne.symm e1]using q5) (by simpa [Ne.symm e2]using q6) hblk
 ·intro i oi Li o q1 q2 q3 q4 q5;rw[AN]at q1;show σ' Li.sO o=none;cases hs:σ' Li.sO o with
  |none=>rfl
  |some v=>
   exfalso;by_cases e1:id=i
   ·subst e1;have:Li=L:=by simpa using q3.symm
    subst this;rcases tX _ _ _ hs with h|h
    ·rcases hH with⟨_,h1⟩|⟨i0,uY,_,h1,h2,h3⟩
     ·omega
     ·rw[r.un i0 .tok _ o h1 rfl h2 zp q5]at h;cases h
    ·omega
   ·rw[og e1]at q1;have q3':g.β i=some Li:=by simpa [Ne.symm e1]using q3
    rcases tX _ _ _ hs with h|⟨h1,h2,h3,i0,uY,k1,k2,k3,k4,k5⟩
    ·rw[r.un i oi Li o (low i oi q1 q2) q2 q3' q4 q5]at h;cases h
    ·exact off i oi Li o q1 q2 q3' h1 q4 q5 i0 uY k1 k2 k3 ⟨k4,k5⟩
 ·grind
 ·rintro b o hb ⟨i,oi,Li,q1,q2,q3,q4,q5,q6⟩;rw[AN]at q1;by_cases e1:id=i
  ·subst e1;have:Li=L:=by simpa using q3.symm
   subst this;rcases hH with⟨_,h1⟩|⟨i0,uY,_,h1,h2,h3⟩
   ·omega
   ·exact⟨i0,.tok,_,h1,rfl,h2,q4,zp,q6⟩
  ·rw[og e1]at q1;exact⟨i,oi,Li,low i oi q1 q2,q2,by simpa [Ne.symm e1]using q3,q4,q5,q6⟩
 ·intro b o v hb h;rcases tX b o v h with h|⟨h1,h2,h3,i0,uY,k1,k2,k3,k4,k5⟩
  ·exact .inl h
  ·exact .inr ⟨i0,.tok,_,k2,rfl,k3,h1.symm,k4,k5⟩
theorem x6.upd(r:x6 g H n w){ob':xq}(h0:AD H id=some ob)(hown:ob.owns=true)(hL:g.β id=some L)
  (hos:w'.os=w.os) (htape:w'.tape=w.tape) (hout:w'.output=w.output) (tB:w'.heap.size=w.heap.size)
  (hoth:∀b:Nat,b≠L.sO->w'.heap[b]?=w.heap[b]?)
  (hblk:(∃c e fz c',w.heap[L.sO]?=some (.cells c e fz)/\w'.heap[L.sO]?=some (.cells c' e fz)/\c'.size=c.size/\∀o,(o<L.lo\/L.hi<=o)->c'[o]?=c[o]?)\/
   (L.lo=0/\L.hi=1/\∃x,w.heap[L.sO]?=some x/\∀c e fz,x≠ .cells c e fz))
  (hob:FE g w' id ob'):
  x6 g (sA H id ob') n w'/\q8 m g H w g (sA H id ob') w':=by
 have tK:∀b o,g.σ b o≠none->w'.cell? ⟨b,o,none⟩=w.cell? ⟨b,o,none⟩:=by
  intro b o hs;by_cases hb:b=L.sO
  ·subst hb;rcases hblk with⟨c,e,fz,c',h1,h2,h3,h4⟩|⟨h1,h2,x,h3,h4⟩
   ·rw[BE h1,BE h2];refine h4 o ?_;rcases Nat.lt_or_ge o L.lo with h5|h5
    ·exact .inl h5
    ·rcases Nat.lt_or_ge o L.hi with h6|h6
     ·exact absurd (r.un id ob L o h0 hown hL h5 h6) hs
     ·exact .inr h6
   ·exfalso;cases hv:g.σ L.sO o with
    |none=>exact hs hv
    |some v=>
     have:=r.σw _ _ _ hv;cases x with
     |cells c e fz=>exact h4 c e fz rfl
     |_=>simp [World.cell?,h3]at this
  ·exact En (hoth b hb) o
 have hapart:∀uP oi Li,uP≠id->AD H uP=some oi->oi.owns=true->g.β uP=some Li->Li.sO=L.sO->∀o,Li.lo<=o->o<Li.hi->(o<L.lo\/L.hi<=o):=by
  intro uP oi Li sZ q1 q2 q3 hb o a b;rcases r.ap uP id oi ob Li L sZ q1 h0 q2 hown q3 hL hb with h1|h1|h1|h1<;>omega
 have hgz:F7 w':=by
  intro i cs e;obtain⟨c,t,fz,h1,h2⟩:=r.gz i cs e;by_cases hb:i=L.sO
  ·grind
  ·exact⟨c,t,fz,by rw[hoth _ hb];exact h1,h2⟩
 refine⟨⟨?_,?_,?_,?_,?_,?_,r.gl,hgz⟩,⟨.refl g,λ_ _ h=>.inl h,hos,htape,hout,zo,?_,?_,λ_ _ _ _ h=>.inl h⟩⟩
 ·intro b o v h;rw[tK b o (by rw[h];simp)];exact r.σw b o v h
 ·intro uP oi h;rw[AN]at h;by_cases he:id=uP
  ·subst he;rw[oE rfl]at h;cases h;exact hob
  ·rw[og he]at h;have ho:=r.obj uP oi h;have keepc:∀(Li:Loc) c e fz,oi.owns=true->g.β uP=some Li->w.heap[Li.sO]?=some (.cells c e fz)->∃c',w'.heap[Li.sO]?=some (.cells c' e fz)/\c'.size=c.size/\∀o,Li.lo<=o->o<Li.hi->c'[o]?=c[o]?:=by grind
   cases oi with
   |box cs=>
    obtain⟨Li,c,e,h1,h2,h3,h4,h5,h6⟩:=ho;obtain⟨c',k1,k2,k3⟩:=keepc Li c e _ rfl h1 h4;exact⟨Li,c',e,h1,h2,h3,k1,k2.trans h5,sL.eq cs 0 (λj a b=>k3 j zo zo) h6⟩
   |tok=>
    obtain⟨Li,h1,h2⟩:=ho;refine⟨Li,h1,λe9=>?_⟩;obtain⟨c,e,h3,h4⟩:=h2 e9;obtain⟨c',k1,k2,k3⟩:=keepc Li c e _ rfl h1 h3;exact⟨c',e,k1,zo⟩
   |arr esz l=>
    obtain⟨Li,c,e,h1,h2,h3,h4,h5,h6⟩:=ho;obtain⟨c',k1,k2,k3⟩:=keepc Li c e _ rfl h1 h4;exact⟨Li,c',e,h1,h2,zo,k1,zo,sK.eq l 0 (λj a b=>k3 j zo zo) h6⟩
   |frz esz l=>exact ho
   |map es cl=>
    obtain⟨Li,tD,h1,h2,h3,h4,h5⟩:=ho;have hb:Li.sO≠L.sO:=by
     intro hb;have hd:=hapart uP _ Li (Ne.symm he) h rfl h1 hb 0 zo zo;rcases hblk with⟨c1,e1,fz1,c',k1,_⟩|⟨k1,k2,_⟩
     ·rw[hb,k1]at h4;cases h4
     ·omega
    exact⟨Li,tD,h1,h2,h3,by rw[hoth _ hb];exact h4,h5⟩
   |sit s pos=>
    obtain⟨Li,h1,h2,h3,h4⟩:=ho;have hb:Li.sO≠L.sO:=by
     intro hb;have hd:=hapart uP _ Li (Ne.symm he) h rfl h1 hb 0 zo zo;rcases hblk with⟨c1,e1,fz1,c',k1,_⟩|⟨k1,k2,_⟩
     ·rw[hb,k1]at h4;cases h4
     ·omega
    exact⟨Li,h1,h2,h3,by rw[hoth _ hb];exact h4⟩
   |mit m c seen last=>
    obtain⟨Li,Lm,h1,h2,h3,h4,h5⟩:=ho;have hb:Li.sO≠L.sO:=by
     intro hb;have hd:=hapart uP _ Li (Ne.symm he) h rfl h1 hb 0 zo zo;rcases hblk with⟨c1,e1,fz1,c',k1,_⟩|⟨k1,k2,_⟩
     ·rw[hb,k1]at h4;cases h4
     ·omega
    exact⟨Li,Lm,h1,h2,h3,by rw[hoth _ hb];exact h4,h5⟩
   |lp x=>
    obtain⟨Li,h1,h2,h3,h4,r1,h5,h6⟩:=ho;have hb:Li.sO≠L.sO:=by
     intro hb;have hd:=hapart uP _ Li (Ne.symm he) h rfl h1 hb 0 zo zo;rcases hblk with⟨c1,e1,fz1,c',k1,_⟩|⟨k1,k2,_⟩
     ·rw[hb,k1]at h5;cases h5
     ·omega
    exact⟨Li,h1,h2,h3,h4,r1,by rw[hoth _ hb];exact h5,h6⟩
   |dead=>trivial
 ·intro uP Li h;refine⟨?_,λe9=>by have:=(r.uu uP Li h).2 e9;omega⟩;rw[AN];by_cases he:id=uP
  ·simp [he]
  ·rw[og he];exact(r.uu uP Li h).1
 ·intro uP oi h;rw[AN]at h;by_cases he:id=uP
  ·subst he;exact r.hd id ob h0
  ·rw[og he]at h;exact r.hd uP oi h
 ·intro i j oi oj Li Lj sZ q1 q2 q3 q4 q5 q6 hb;have low:∀i oi,AD (sA H id ob') i=some oi->oi.owns=true->∃oi',AD H i=some oi'/\oi'.owns=true:=by
   intro i oi q1 q3;rw[AN]at q1;by_cases he:id=i
   ·subst he;exact⟨ob,h0,hown⟩
   ·rw[og he]at q1;exact⟨oi,q1,q3⟩
  obtain⟨oi',p1,p2⟩:=low i oi q1 q3;obtain⟨oj',p3,p4⟩:=low j oj q2 q4;exact r.ap i j oi' oj' Li Lj sZ p1 p3 p2 p4 q5 q6 hb
 ·intro i oi Li o q1 q2 q3 q4 q5;rw[AN]at q1;by_cases he:id=i
  ·subst he;exact r.un id ob Li o h0 hown q3 q4 q5
  ·rw[og he]at q1;exact r.un i oi Li o q1 q2 q3 q4 q5
 ·intro b x hb;by_cases tp:b=L.sO
  ·subst tp;rcases hblk with⟨c,e,fz,c',h1,h2,h3,h4⟩|⟨h1,h2,y,h3,h4⟩
   ·rw[h1]at hb;cases hb;refine⟨c',h2,h3,λo ho=>h4 o ?_⟩;rcases Nat.lt_or_ge o L.lo with h5|h5
    ·exact .inl h5
    ·rcases Nat.lt_or_ge o L.hi with h6|h6
     ·exact absurd ⟨id,ob,L,h0,hown,hL,rfl,h5,h6⟩ ho
     ·exact .inr h6
   ·rw[h3]at hb;cases hb;have:D5 g H L.sO 0:=⟨id,ob,L,h0,hown,hL,rfl,zo,zo⟩;cases x with
    |cells c e fz=>exact absurd rfl (h4 _ _ _)
    |_=>exact .inl this
  ·rw[hoth b tp,hb];exact Iu.same _ _
 ·rintro b o hb ⟨i,oi,Li,q1,q2,q3,q4,q5,q6⟩;rw[AN]at q1;by_cases he:id=i
  ·subst he;exact⟨id,ob,Li,h0,hown,q3,q4,q5,q6⟩
  ·rw[og he]at q1;exact⟨i,oi,Li,q1,q2,q3,q4,q5,q6⟩
end
section
variable {a:Fs} {g:z8} {esz:Nat} {f:Nat->Option Value} {v:Value}
theorem AP.notAgg(h:AP g a v)(ha:∀cs,a≠ .agg cs):∀cs,v≠ .agg cs:=by
 intro cs e;subst e;cases a<;>simp only[AP]at h;case agg cs=>exact ha _ rfl
 case sl tok l=>simp_all
 all_goals first
  |(cases h;done)
  |(obtain⟨_,h⟩:=h;cases h;done)
  |(obtain⟨_,_,_,h⟩:=h;cases h;done)
  |(obtain⟨_,_,h,_⟩:=h;cases h;done)
  |(obtain⟨_,h,_⟩:=h;cases h;done)
  |(obtain⟨_,_,h⟩:=h;cases h;done)
theorem HE(h:∀cs,v≠ .agg cs):v.cells= #[v]:=by
 cases v<;>first|rfl|exact absurd rfl (h _)
theorem KO(h:∀cs,a≠ .agg cs):a.cells=[a]:=by
 cases a<;>first|rfl|exact absurd rfl (h _)
theorem AP.cells(h:AP g a v):sG g a.cells v.cells.toList:=by
 by_cases ha:∃cs,a= .agg cs
 ·obtain⟨cs,rfl⟩:=ha;obtain⟨vs,rfl,h1,_⟩:=h;exact h1
 ·have ha':∀cs,a≠ .agg cs:=λcs e=>ha ⟨cs,e⟩
  rw[KO ha',HE (h.notAgg ha')];exact⟨v,[],rfl,h,rfl⟩
theorem AP.one(h:AP g a v)(ht:nT a):∀x∈v.cells.toList,x.oneCell'=true:=by
 by_cases ha:∃cs,a= .agg cs
 ·obtain⟨cs,rfl⟩:=ha;obtain⟨vs,rfl,_,h2⟩:=h;exact h2
 ·have ha':∀cs,a≠ .agg cs:=λcs e=>ha ⟨cs,e⟩
  rw[HE (h.notAgg ha')];intro x hx;have:x=v:=by simpa using hx
  subst this;cases x with
  |agg cs=>exact absurd rfl (h.notAgg ha' cs)
  |tuple vs=>
   exfalso;cases a<;>simp only[AP,nT]at h ht;case sl tok l=>rcases h with⟨_,h,_⟩|⟨_,_,_,_,⟨_,h,_⟩,_⟩<;>cases h
   all_goals first
    |(cases h;done)
    |(obtain⟨_,h⟩:=h;cases h;done)
    |(obtain⟨_,_,_,h⟩:=h;cases h;done)
    |(obtain⟨_,_,h,_⟩:=h;cases h;done)
    |(obtain⟨_,h,_⟩:=h;cases h;done)
    |(obtain⟨_,_,h⟩:=h;cases h;done)
  |_=>rfl
theorem sG.length:∀(as:List Fs) (vs:List Value),sG g as vs->vs.length=as.length
 |[],_,h=>by simp only[sG]at h;subst h;rfl
 |a::as,_,⟨v,rest,rfl,_,h⟩=>by simp [sG.length as rest h]
theorem sG.take:∀(k:Nat) (as:List Fs) (vs:List Value),sG g as vs->sG g (as.take k) (vs.take k)
 |0,_,_,_=>by simp [sG]
 |k+1,[],_,h=>by simp only[sG]at h;subst h;simp [sG]
 |k+1,a::as,_,⟨v,rest,rfl,h1,h2⟩=>⟨v,rest.take k,rfl,h1,sG.take k as rest h2⟩
theorem sG.drop:∀(k:Nat) (as:List Fs) (vs:List Value),sG g as vs->sG g (as.drop k) (vs.drop k)
 |0,_,_,h=>by simpa using h
 |k+1,[],_,h=>by simp only[sG]at h;subst h;simp [sG]
 |k+1,a::as,_,⟨v,rest,rfl,h1,h2⟩=>by simpa using sG.drop k as rest h2
theorem sG.append:∀(as:List Fs) (vs:List Value) (bs:List Fs) (us:List Value),sG g as vs->sG g bs us->sG g (as++bs) (vs++us)
 |[],_,_,_,h,k=>by simp only[sG]at h;subst h;simpa using k
 |a::as,_,bs,us,⟨v,rest,rfl,h1,h2⟩,k=>⟨v,rest++us,rfl,h1,sG.append as rest bs us h2 k⟩
theorem sG.getElem:∀(i:Nat) (as:List Fs) (vs:List Value),sG g as vs->∀v,vs[i]?=some v->AP g (as[i]?.getD (.sH [])) v
 |_,[],_,h,v,hv=>by simp only[sG]at h;subst h;simp at hv
 |0,a::as,_,⟨u,rest,rfl,h1,h2⟩,v,hv=>by simp at hv;subst hv;simpa using h1
 |i+1,a::as,_,⟨u,rest,rfl,h1,h2⟩,v,hv=>by simpa using sG.getElem i as rest h2 v (by simpa using hv)
theorem sG.sQ{as bs:List Fs}{vs us:List Value}{off:Nat}(h:sG g as vs)(k:sG g bs us):sG g (sQ as off bs) (vs.take off++us++vs.drop (off+us.length)):=by
 unfold AM.sQ;rw[sG.length bs us k];exact sG.append _ _ _ _ (sG.append _ _ _ _ (sG.take off as vs h) k) (sG.drop _ as vs h)
theorem sL.of:∀(cs:List Fs) (vs:List Value) (o:Nat),sG g cs vs->(∀(j:Nat) x,vs[j]?=some x->f (o+j)=some x)->(∀x∈vs,x.oneCell'=true)->sL g f o cs
 |[],_,_,_,_,_=>trivial
 |c::cs,_,o,⟨v,rest,rfl,h1,h2⟩,hf,h3=>⟨⟨v,by simpa using hf 0 v rfl,h1,h3 v zw⟩,
   sL.of cs rest (o+1) h2 (λj x hx=>by have:=hf (j+1) x (by simpa using hx);rwa[show o+(j+1)=o+1+j from by omega]at this) (λx hx=>h3 x (by simp [hx]))⟩
theorem sL.list:∀(cs:List Fs) (o:Nat),sL g f o cs->∃vs,sG g cs vs/\(∀(j:Nat) x,vs[j]?=some x->f (o+j)=some x)/\∀x∈vs,x.oneCell'=true
 |[],_,_=>⟨[],rfl,zw,zw⟩
 |c::cs,o,⟨⟨x,h1,h2,h4⟩,h3⟩=>by
  obtain⟨vs,k1,k2,k3⟩:=sL.list cs (o+1) h3;refine⟨x::vs,⟨x,vs,rfl,h2,k1⟩,?_,?_⟩
  ·grind
  ·simp_all
theorem sL.drop:∀(k:Nat) (cs:List Fs) (o:Nat),sL g f o cs->sL g f (o+k) (cs.drop k)
 |0,_,_,h=>by simpa using h
 |k+1,[],_,_=>by simp [sL]
 |k+1,c::cs,o,h=>by have:=sL.drop k cs (o+1) h.2;rwa[show o+1+k=o+(k+1)from by omega]at this
theorem sL.take:∀(k:Nat) (cs:List Fs) (o:Nat),sL g f o cs->sL g f o (cs.take k)
 |0,_,_,_=>by simp [sL]
 |k+1,[],_,_=>by simp [sL]
 |k+1,c::cs,o,h=>⟨h.1,sL.take k cs (o+1) h.2⟩
theorem sK.elem:∀(i:Nat) (l:List Fs) (o:Nat),sK g esz f o l->i<l.length->
  ∃v,AP g (l[i]?.getD (.sH [])) v/\EM esz v/\∀(j:Nat) x,v.cells[j]?=some x->f (o+i*esz+j)=some x
 |_,[],_,_,h=>by simp at h
 |0,e::l,o,⟨⟨v,h1,h2,h3⟩,h4⟩,_=>⟨v,by simpa using h1,h2,by simpa using h3⟩
 |i+1,e::l,o,⟨_,h4⟩,h=>by
  obtain⟨v,k1,k2,k3⟩:=sK.elem i l (o+esz) h4 (by simpa using h);refine⟨v,by simpa using k1,k2,λj x hx=>?_⟩;have:=k3 j x hx
  rwa[show o+esz+i*esz+j=o+(i+1)*esz+j from by rw[pN];omega]at this
theorem sK.take:∀(k:Nat) (l:List Fs) (o:Nat),sK g esz f o l->sK g esz f o (l.take k)
 |0,_,_,_=>by simp [sK]
 |k+1,[],_,_=>by simp [sK]
 |k+1,e::l,o,h=>⟨h.1,sK.take k l (o+esz) h.2⟩
theorem sK.drop:∀(k:Nat) (l:List Fs) (o:Nat),sK g esz f o l->sK g esz f (o+k*esz) (l.drop k)
 |0,_,_,h=>by simpa using h
 |k+1,[],_,_=>by simp [sK]
 |k+1,e::l,o,h=>by have:=sK.drop k l (o+esz) h.2;rwa[show o+esz+k*esz=o+(k+1)*esz from by rw[pN];omega]at this
theorem sK.append:∀(l l':List Fs) (o:Nat),sK g esz f o l->sK g esz f (o+l.length*esz) l'->sK g esz f o (l++l')
 |[],_,_,_,h=>by simpa using h
 |e::l,l',o,h,k=>⟨h.1,sK.append l l' (o+esz) h.2 (by rwa[show o+esz+l.length*esz=o+(e::l).length*esz from by rw[oI,pN];omega])⟩
theorem Bt(b o k:Nat):(⟨b,o,none⟩:Addr).add k=⟨b,o+k,none⟩:=by
 unfold Addr.add;split<;>simp_all
def Da(P:Program)(m:Nat)(g:z8)(H:AB)(n:Nat)(w:World)(s:Sem Value)(r:Fs):Prop:=
 ∃v w' g',s.run P w= .ok v w'/\AP g' r v/\x6 g' H n w'/\q8 m g H w g' H w'
section
variable {P:Program} {g:z8} {H:AB} {n m:Nat} {w:World}
theorem Da.pure(R:x6 g H n w){s:Sem Value}{r:Fs}{v:Value}(h:s.run P w= .ok v w)(hv:AP g r v):Da P m g H n w s r:=
 ⟨v,w,g,h,hv,R,q8.refl m g H w⟩
variable {a:Fs} {sz:Nat} {t:TypeId} {x:Value}
theorem Dg(h:FG P t=some sz):∃i d,P.info? t=some i/\P.underlying t=some d/\i.size=sz/\0<sz:=by
 unfold FG at h;split at h
 ·grind
 ·cases h
theorem Bj(h:FG P t=some sz):(sizeOf t).run P w= .ok sz w:=by
 obtain⟨i,d,hi,hd,rfl,_⟩:=Dg h;simp [sizeOf,typeInfo,hi]
theorem ON(h:FG P t=some sz):(isAgg t).run P w= .ok (HO P t) w:=by
 obtain⟨i,d,hi,hd,_,_⟩:=Dg h;simp only[isAgg,Sem.run_bind,run_underlying hd,Result.andThen_ok,HO,hd];cases d<;>simp
theorem K6(h:FG P t=some sz){b off:Nat}{cs:List Fs}(hp:sL g (λo=>w.cell? ⟨b,o,none⟩) off cs)(hl:cs.length=sz):
  ∃v,(loadVar t ⟨b,off,none⟩).run P w= .ok v w/\AP g (mk (HO P t) cs) v:=by
 obtain⟨vs,h1,h2,h3⟩:=hp.list;have hvl:=sG.length _ _ h1;obtain⟨_,_,_,_,_,hpos⟩:=Dg h;simp only[loadVar,Sem.run_bind,ON h,Result.andThen_ok];cases hag:HO P t with
 |true=>
  have hload:(loadCells ⟨b,off,none⟩ sz).run P w= .ok vs.toArray w:=by
   have:=run_loadCells_list (P:=P) w ⟨b,off,none⟩ vs (λj v hv=>by rw[Bt];exact h2 j v hv)
   rwa[hvl,hl]at this
  refine⟨.agg vs.toArray,?_,⟨vs.toArray,rfl,by simpa using h1,by simpa using h3⟩⟩;simp only[pG,Sem.run_bind,Bj h,Result.andThen_ok,hload];simp
 |false=>
  cases vs with
  |nil=>simp at hvl;omega
  |cons v rest=>
   cases cs with
   |nil=>simp at hl;omega
   |cons c cs=>
    obtain⟨v',rest',e,k1,k2⟩:=h1;cases e;refine⟨v,?_,by simpa [mk]using k1⟩;have:=h2 0 v rfl;simp only[oP,pb,run_load];simp only[qQ]at this;rw[this]
theorem sL.cell{b:Nat}{c:Array Value}{e:TypeId}{fz:Nat×Nat}(h:w.heap[b]?=some (.cells c e fz)){cs:List Fs}{o:Nat}(hp:sL g (λo=>c[o]?) o cs):sL g (λo=>w.cell? ⟨b,o,none⟩) o cs:=
 sL.mono (.refl g) (λo x hx=>by rw[BE h];exact hx) cs o hp
theorem sL.ofElem{f:Nat->Option Value}{e:Fs}{v:Value}{o:Nat}(h:AP g e v)(h1:∀(j:Nat) x,v.cells[j]?=some x->f (o+j)=some x)(hone:∀x∈v.cells.toList,x.oneCell'=true):sL g f o e.cells:=
 sL.of e.cells v.cells.toList o h.cells (λj x hx=>h1 j x (by simpa using hx)) hone
theorem Q2(R:x6 g H n w)(h:FG P t=some sz)(hx:AP g a x)(hs:(A4 H sz (HO P t) a).1):
  Da P m g H n w (Instr.loadAt t x) (A4 H sz (HO P t) a).2:=by
 have fin:∀{b off:Nat} {cs:List Fs},x= .pointer (some ⟨b,off,none⟩)->sL g (λo=>w.cell? ⟨b,o,none⟩) off cs->sz<=cs.length->
   Da P m g H n w (Instr.loadAt t x) (mk (HO P t) (cs.take sz)):=by
  intro b off cs e hp hl;subst e;obtain⟨v,h1,h2⟩:=K6 h (hp.take sz) (by rw[oJ];omega);exact Da.pure R (by simp [Instr.loadAt,Instr.sureAddr,h1]) h2
 cases a<;>simp only[A4]at hs⊢ <;>first|exact hs.elim|skip
 case ptr id off=>
  obtain⟨L,h1,h2,rfl⟩:=hx;cases ho:AD H id with
  |none=>simp [ho]at hs
  |some ob=>
   cases ob<;>simp only[ho]at hs⊢ <;>first|exact hs.elim|skip
   case box cs=>
    obtain⟨L',c,e,k1,k2,k3,k4,k5,k6⟩:=R.obj id _ ho;rw[h1]at k1;cases k1;have hp:sL g (λo=>w.cell? ⟨L.sO,o,none⟩) off (cs.drop off):=sL.cell k4 (by simpa using sL.drop off cs 0 k6);exact fin rfl hp (by rw[pi];omega)
 case ep cells=>
  obtain⟨b,o,rfl,h1⟩:=hx;exact fin rfl (sL.mono (.refl g) (R.σw b) cells o h1) hs
 case ap id esz i off=>
  obtain⟨L,h1,h2,rfl⟩:=hx;have go:∀{l:List Fs} {f:Nat->Option Value},sK g esz f 0 l->(∀o v,f o=some v->w.cell? ⟨L.sO,o,none⟩=some v)->i<l.length->off+sz<=esz->
    Da P m g H n w (Instr.loadAt t (.pointer (some ⟨L.sO,i*esz+off,none⟩))) (mk (HO P t) (((l[i]?.getD (.sH [])).cells.drop off).take sz)):=by
   intro l f sY hf hi tB;obtain⟨v,q1,q2,q3⟩:=sY.elem i l 0 hi;have hp:sL g (λo=>w.cell? ⟨L.sO,o,none⟩) (i*esz) (l[i]?.getD (.sH [])).cells:=sL.ofElem q1 (λj x hx=>hf _ _ (by simpa using q3 j x hx)) q2.2;have l9:(l[i]?.getD (.sH [])).cells.length=esz:=by
    rw[<-sG.length _ _ q1.cells];simpa using q2.1
   exact fin rfl (hp.drop off) (by rw[pi,l9];omega)
  cases ho:AD H id with
  |none=>simp [ho]at hs
  |some ob=>
   cases ob<;>simp only[ho]at hs⊢ <;>first|exact hs.elim|skip
   case arr e l=>
    obtain⟨rfl,hi,tB⟩:=hs;obtain⟨L',c,e',k1,k2,k3,k4,k5,k6⟩:=R.obj id _ ho;rw[h1]at k1;cases k1;exact go k6 (λo v hv=>by rw[BE k4];exact hv) hi tB
   case frz e l=>
    obtain⟨rfl,hi,tB⟩:=hs;obtain⟨L',k1,k2,k3⟩:=R.obj id _ ho;rw[h1]at k1;cases k1;exact go k3 (R.σw L.sO) hi tB
theorem EP{k:IntKind}(h:Iv k a)(hx:AP g a x):∃n,a= .int k n/\x= .int k n:=by
 cases a<;>simp only[Iv]at h<;>first|exact h.elim|skip
 subst h;exact⟨_,rfl,hx⟩
theorem Cg(h:Cl a)(hx:AP g a x):∃k n,a= .int k n/\x= .int k n:=by
 cases a<;>simp only[Cl]at h<;>first|exact h.elim|skip
 exact⟨_,_,rfl,hx⟩
theorem Ja(h:JV a)(hx:AP g a x):∃b,a= .bool b/\x= .bool b:=by
 cases a<;>simp only[JV]at h<;>first|exact h.elim|skip
 exact⟨_,rfl,hx⟩
theorem EQ(h:MU a)(hx:AP g a x):∃s,a= .str s/\x= .string ⟨s.toArray⟩:=by
 cases a<;>simp only[MU]at h<;>first|exact h.elim|skip
 exact⟨_,rfl,hx⟩
theorem FO(op:BinOp)(t:TypeId)(x y:Operand)(k k':IntKind)(a b:Int):(eqGuard op t x y (.int k a) (.int k' b)).run P w= .ok () w:=by
 cases op<;>simp [eqGuard]
theorem KP(op:BinOp)(t:TypeId)(x y:Operand)(a b:Bool):(eqGuard op t x y (.bool a) (.bool b)).run P w= .ok () w:=by
 cases op<;>simp [eqGuard]
theorem Fo(op:BinOp)(t:TypeId)(x y:Operand)(a b:ByteArray):(eqGuard op t x y (.string a) (.string b)).run P w= .ok () w:=by
 cases op<;>simp [eqGuard]
theorem V3(op:BinOp)(t:TypeId)(k:IntKind)(a b:Int)(tE:op≠ .shl/\op≠ .shr/\op≠ .eql/\op≠ .neq/\op≠ .lss/\op≠ .leq/\op≠ .gtr/\op≠ .geq)(hd:K3 op=true->b≠0):
  (binOp op t (.int k a) (.int k b)).run P w= .ok (.int k (Du op k a b)) w:=by
 obtain⟨h1,h2,h3,h4,h5,h6,h7,h8⟩:=tE;cases op<;>simp_all [binOp,Op.intArith,Op.intDiv,Op.intBits,Du,F8,K3]
theorem Yc(op:BinOp)(t:TypeId)(k:IntKind)(a b:Int)(tE:op= .eql\/op= .neq\/op= .lss\/op= .leq\/op= .gtr\/op= .geq):
  (binOp op t (.int k a) (.int k b)).run P w= .ok (.bool (icmp op a b)) w:=by
 rcases tE with rfl|rfl|rfl|rfl|rfl|rfl<;>simp [binOp,Op.intCmp,icmp]<;>first|rfl|skip
 all_goals (by_cases h:a=b<;>simp [h])
theorem V4(op:BinOp)(t:TypeId)(k ky:IntKind)(a b:Int)(tE:op= .shl\/op= .shr)(hb:0<=b):
  (binOp op t (.int k a) (.int ky b)).run P w= .ok (.int k (C7 op k a b)) w:=by
 have:¬b<0:=zo
 rcases tE with rfl|rfl<;>simp [binOp,Op.shift,C7,this]
theorem Jb(s:List UInt8):(⟨s.toArray⟩:ByteArray).toList=s:=by
 rw[ByteArray.toList_eq]
end
end
section
variable {P:Program} {g:z8} {H:AB} {n m:Nat} {w:World}
variable {a:Fs} {x y:Operand} {t:TypeId} {v:Value}
theorem Q3(h:Qx v=some a):AP g a v:=by
 have sc:∀{v:Value} {a:Fs},MZ v=some a->AP g a v/\v.oneCell'=true:=by
  intro v a h;unfold MZ at h;split at h<;>cases h;case h_3 s=>exact⟨by simp [AP],rfl⟩
  case h_5=>exact⟨.inl ⟨rfl,rfl,zt⟩,rfl⟩
  all_goals exact⟨rfl,rfl⟩
 have scs:∀(vs:List Value) (as:List Fs),Iz vs=some as->sG g as vs/\∀x∈vs,x.oneCell'=true:=by
  intro vs;induction vs with
  |nil=>intro as h;simp [Iz]at h;subst h;exact⟨rfl,zw⟩
  |cons v r ih=>
   intro as h;simp only[Iz]at h;split at h
   ·rename_i a as' h1 h2;cases h;obtain⟨k1,k2⟩:=sc h1;obtain⟨k3,k4⟩:=ih _ h2;exact⟨⟨v,r,rfl,k1,k3⟩,λx hx=>(ph.1 hx).elim (λe=>e▸k2) (k4 x)⟩
   ·cases h
 unfold Qx at h;split at h
 ·rename_i cs;cases hc:Iz cs.toList with
  |none=>simp [hc]at h
  |some as=>simp [hc]at h;subst h;exact⟨cs,rfl,(scs _ _ hc).1,(scs _ _ hc).2⟩
 ·exact(sc h).1
def Ni(P:Program)(m:Nat)(g:z8)(H:AB)(n:Nat)(w:World)(s:Sem Next)(r:Fs):Prop:=
 ∃v w' g',s.run P w= .ok (.value v) w'/\AP g' r v/\x6 g' H n w'/\q8 m g H w g' H w'
def Dh(s:Sem Value):Sem Next:=do return .value (<-s)
theorem Da.val{s:Sem Value}{r:Fs}(h:Da P m g H n w s r):Ni P m g H n w (Dh s) r:=by
 obtain⟨v,w',g',h1,h2,h3,h4⟩:=h;refine⟨v,w',g',?_,h2,h3,h4⟩;simp [Dh,h1]
theorem Ni.pure(R:x6 g H n w){s:Sem Next}{r:Fs}(h:s.run P w= .ok (.value v) w)(hv:AP g r v):Ni P m g H n w s r:=
 ⟨v,w,g,h,hv,R,q8.refl m g H w⟩
section
variable {t:TypeId} {x y:Operand} {a b:Fs} {u v:Value} (R:x6 g H n w) (hx:AP g a u) (hy:AP g b v)
include R hx hy
variable {op:BinOp} {k:IntKind}
theorem Yd(tE:op= .eql\/op= .neq\/op= .lss\/op= .leq\/op= .gtr\/op= .geq)(s1:Iv k a)(s2:Iv k b):
  Da P m g H n w (do eqGuard op t x y u v;binOp op t u v) (.bool (icmp op (BV a) (BV b))):=by
 obtain⟨i,rfl,rfl⟩:=EP s1 hx;obtain⟨j,rfl,rfl⟩:=EP s2 hy;have h:(do eqGuard op t x y (.int k i) (.int k j);binOp op t (.int k i) (.int k j):Sem Value).run P w= .ok (.bool (icmp op i j)) w:=by
  simp only[Sem.run_bind,FO,Result.andThen_ok];exact Yc _ _ _ _ _ tE
 exact Da.pure R h rfl
theorem V5(tE:op≠ .shl/\op≠ .shr/\op≠ .eql/\op≠ .neq/\op≠ .lss/\op≠ .leq/\op≠ .gtr/\op≠ .geq)(s1:Iv k a)(s2:Iv k b)(s3:K3 op=true->BV b≠0):
  Da P m g H n w (do eqGuard op t x y u v;binOp op t u v) (.int k (Du op k (BV a) (BV b))):=by
 obtain⟨i,rfl,rfl⟩:=EP s1 hx;obtain⟨j,rfl,rfl⟩:=EP s2 hy;have h:(do eqGuard op t x y (.int k i) (.int k j);binOp op t (.int k i) (.int k j):Sem Value).run P w= .ok (.int k (Du op k i j)) w:=by
  simp only[Sem.run_bind,FO,Result.andThen_ok];exact V3 _ _ _ _ _ tE s3
 exact Da.pure R h rfl
theorem OO{ky:IntKind}(tE:op= .shl\/op= .shr)(s1:Iv k a)(s2:Iv ky b)(s3:0<=BV b):
  Da P m g H n w (do eqGuard op t x y u v;binOp op t u v) (.int k (C7 op k (BV a) (BV b))):=by
 obtain⟨i,rfl,rfl⟩:=EP s1 hx;obtain⟨j,rfl,rfl⟩:=EP s2 hy;have h:(do eqGuard op t x y (.int k i) (.int ky j);binOp op t (.int k i) (.int ky j):Sem Value).run P w= .ok (.int k (C7 op k i j)) w:=by
  simp only[Sem.run_bind,FO,Result.andThen_ok];exact V4 _ _ _ _ _ _ tE s3
 exact Da.pure R h rfl
theorem Ye(tE:op= .eql\/op= .neq\/op= .lss\/op= .leq\/op= .gtr\/op= .geq)(s1:MU a)(s2:MU b):
  Da P m g H n w (do eqGuard op t x y u v;binOp op t u v) (.bool (scmp op (HN a) (HN b))):=by
 obtain⟨i,rfl,rfl⟩:=EQ s1 hx;obtain⟨j,rfl,rfl⟩:=EQ s2 hy;have h:(do eqGuard op t x y (.string ⟨i.toArray⟩) (.string ⟨j.toArray⟩);binOp op t (.string ⟨i.toArray⟩) (.string ⟨j.toArray⟩):Sem Value).run P w= .ok (.bool (scmp op i j)) w:=by grind [Sem.run_bind,Fo,Result.andThen_ok,binOp,Op.stringOp,Jb,Sem.run_pure,scmp]
 exact Da.pure R h rfl
theorem Yf(s1:MU a)(s2:MU b)(s3:(HN a).length+(HN b).length<=9223372036854775807):
  Da P m g H n w (do eqGuard .add t x y u v;binOp .add t u v) (.str (HN a++HN b)):=by
 obtain⟨i,rfl,rfl⟩:=EQ s1 hx;obtain⟨j,rfl,rfl⟩:=EQ s2 hy;have tB:i.length+j.length<=9223372036854775807:=by simp only[HN]at s3;omega
 have h:(do eqGuard .add t x y (.string ⟨i.toArray⟩) (.string ⟨j.toArray⟩);binOp .add t (.string ⟨i.toArray⟩) (.string ⟨j.toArray⟩):Sem Value).run P w= .ok (.string (⟨i.toArray⟩++⟨j.toArray⟩)) w:=by
  simp only[Sem.run_bind,Fo,Result.andThen_ok,binOp];exact run_string_add_sum (P:=P) (w:=w) ⟨i.toArray⟩ ⟨j.toArray⟩ (by show i.toArray.size+j.toArray.size<=_;simpa using tB)
 refine Da.pure R h ?_;simp only[AP,HN];congr 1
theorem UX{neq:Bool}(hu:P.underlying t=some .bool)(s1:JV a)(s2:JV b):
  Da P m g H n w (do eqGuard (if neq then .neq else .eql) t x y u v;binOp (if neq then .neq else .eql) t u v) (.bool (if neq then FZ a !=FZ b else FZ a==FZ b)):=by
 obtain⟨i,rfl,rfl⟩:=Ja s1 hx;obtain⟨j,rfl,rfl⟩:=Ja s2 hy;have h:(do eqGuard (if neq then .neq else .eql) t x y (.bool i) (.bool j);binOp (if neq then .neq else .eql) t (.bool i) (.bool j):Sem Value).run P w= .ok (.bool (if neq then i !=j else i==j)) w:=by
  simp only[Sem.run_bind,KP,Result.andThen_ok];cases neq with
  |false=>exact run_eql_bool (P:=P) (w:=w) t i j hu
  |true=>exact run_neq_bool (P:=P) (w:=w) t i j hu
 exact Da.pure R h rfl
end
theorem Bh{cs:Array Value}{o:Nat}(ha:∀w,(isAgg t).run P w= .ok false w)(h:cs[o]?=some v):(part t cs o).run P w= .ok v w:=by
 simp [part,ha,h]
theorem Ff{d:Nat}{xs ys:Array Value}:∀(fs:List Field) (o:Nat) (tags:List Nat) (as bs:List Fs),OL P o fs=some tags->sG g as (xs.toList.drop o)->sG g bs (ys.toList.drop o)->ED tags as bs->
  (Op.eqFields (d+1) xs ys fs).run P w= .ok (tN as bs) w
 |[],o,tags,as,bs,hf,hx,hy,hc=>by
  simp [OL]at hf;subst hf;cases as<;>cases bs<;>simp only[ED]at hc<;>first|exact hc.elim|skip
  simp [Op.eqFields,tN]
 |f::fs,o,tags,as,bs,hf,hx,hy,hc=>by
  simp only[OL]at hf;split at hf
  ·cases hf
  rename_i hn;have hname:f.name≠ "_" :=λe=>hn (.inl e)
  have hoff:f.offset=o:=Decidable.byContradiction λe=>hn (.inr e)
  have next:∀{a b:Fs} {as' bs':List Fs},as=a::as'->bs=b::bs'->∃u v,xs[o]?=some u/\ys[o]?=some v/\AP g a u/\AP g b v/\sG g as' (xs.toList.drop (o+1))/\sG g bs' (ys.toList.drop (o+1)):=by
   intro a b as' bs' e1 e2;subst e1;subst e2;obtain⟨u,r1,q1,q2,q3⟩:=hx;obtain⟨v,r2,q4,q5,q6⟩:=hy;refine⟨u,v,?_,?_,q2,q5,?_,?_⟩
   ·have:=congrArg (λl:List Value=>l[0]?) q1;simpa using this
   ·have:=congrArg (λl:List Value=>l[0]?) q4;simpa using this
   ·have:=congrArg (λl:List Value=>l.drop 1) q1;simp at this;rw[this];exact q3
   ·have:=congrArg (λl:List Value=>l.drop 1) q4;simp at this;rw[this];exact q6
  split at hf
  ·rename_i k l hu hl;cases hf;cases as with
   |nil=>cases bs<;>exact hc.elim
   |cons a as=>
    cases bs with
    |nil=>cases a<;>exact hc.elim
    |cons b bs=>
     cases a<;>(try exact hc.elim);cases b<;>(try exact hc.elim);obtain⟨rfl,hc⟩:=hc;obtain⟨u,v,h1,h2,rfl,rfl,h5,h6⟩:=next rfl rfl
     have ha:∀w,(isAgg f.type).run P w= .ok false w:=λw=>by simp [isAgg,run_underlying hu]
     have ih:=Ff (d:=d) fs (o+1) l as bs hl h5 h6 hc;simp only[Op.eqFields,ne_eq,hname,rC,pG,Sem.run_bind,hoff,Bh ha h1,Bh ha h2,Result.andThen_ok,run_equalIn_int w d f.type _ k _ _ hu,tN,HQ];rename_i k' x y;by_cases e:x=y<;>simp [e,ih]
  ·rename_i l hu hl;cases hf;cases as with
   |nil=>cases bs<;>exact hc.elim
   |cons a as=>
    cases bs with
    |nil=>cases a<;>exact hc.elim
    |cons b bs=>
     cases a<;>(try exact hc.elim);cases b<;>(try exact hc.elim);obtain⟨u,v,h1,h2,rfl,rfl,h5,h6⟩:=next rfl rfl
     have ha:∀w,(isAgg f.type).run P w= .ok false w:=λw=>by simp [isAgg,run_underlying hu]
     have ih:=Ff (d:=d) fs (o+1) l as bs hl h5 h6 hc;simp only[Op.eqFields,ne_eq,hname,rC,pG,Sem.run_bind,hoff,Bh ha h1,Bh ha h2,Result.andThen_ok,run_equalIn_bool w d f.type _ _ hu,tN,HQ];rename_i x y;cases x<;>cases y<;>simp [ih]
  ·rename_i l hu hl;cases hf;cases as with
   |nil=>cases bs<;>exact hc.elim
   |cons a as=>
    cases bs with
    |nil=>cases a<;>exact hc.elim
    |cons b bs=>
     cases a<;>(try exact hc.elim);cases b<;>(try exact hc.elim);obtain⟨u,v,h1,h2,rfl,rfl,h5,h6⟩:=next rfl rfl
     have ha:∀w,(isAgg f.type).run P w= .ok false w:=λw=>by simp [isAgg,run_underlying hu]
     have ih:=Ff (d:=d) fs (o+1) l as bs hl h5 h6 hc;simp only[Op.eqFields,ne_eq,hname,rC,pG,Sem.run_bind,hoff,Bh ha h1,Bh ha h2,Result.andThen_ok,run_equalIn_string w d f.type _ _ hu,tN,HQ,Jb];rename_i x y;by_cases e:x=y<;>simp [e,ih]
  ·cases hf
theorem UY(R:x6 g H n w){b:Fs}{u:Value}(hx:AP g a u)(hy:AP g b v){neq:Bool}{fs:Array Field}{tags:List Nat}(hu:P.underlying t=some (.struct fs))(h1:P.stoodInHeld t=false)(h2:P.eqGuardType P.depth t=false)
  (ht:OL P 0 fs.toList=some tags) {xs ys:List Fs} (ha:a= .agg xs) (hb:b= .agg ys) (hc:ED tags xs ys):
  Da P m g H n w (do eqGuard (if neq then .neq else .eql) t x y u v;binOp (if neq then .neq else .eql) t u v) (.bool (if neq then !tN xs ys else tN xs ys)):=by
 subst ha;subst hb;obtain⟨us,rfl,k1,-⟩:=hx;obtain⟨vs,rfl,k2,-⟩:=hy;have hfo:P.fieldsOf t=fs:=by simp [Program.fieldsOf,hu]
 have heq:=run_equalIn_struct (P:=P) w 9999 t us vs (by rw[hfo];exact hu) h1;rw[hfo,Ff (g:=g) (d:=9998) fs.toList 0 tags xs ys ht (by simpa using k1) (by simpa using k2) hc]at heq;have hg:∀op,(eqGuard op t x y (.agg us) (.agg vs)).run P w= .ok () w:=by
  intro op;cases op<;>simp [eqGuard,h2]
 have h:(do eqGuard (if neq then .neq else .eql) t x y (.agg us) (.agg vs);binOp (if neq then .neq else .eql) t (.agg us) (.agg vs):Sem Value).run P w= .ok (.bool (if neq then !tN xs ys else tN xs ys)) w:=by
  simp only[Sem.run_bind,hg,Result.andThen_ok];cases neq with
  |false=>simp only[oP,pb];rw[run_eql_struct,heq];rfl
  |true=>simp only[pG];rw[run_neq_struct,heq];rfl
 exact Da.pure R h rfl
theorem I2{d:Nat}{e:TypeId}{kd:IntKind}(hu:P.underlying e=some (.int kd)){xs ys:Array Value}:∀(m o:Nat) (as bs:List Fs),sG g as (xs.toList.drop o)->sG g bs (ys.toList.drop o)->ED (List.replicate m 0) as bs->
  (Op.eqItems (d+1) e 1 xs ys (List.range' o m)).run P w= .ok (tN as bs) w
 |0,o,as,bs,hx,hy,hc=>by
  cases as<;>cases bs<;>simp only[List.replicate_zero,ED]at hc<;>first|exact hc.elim|skip
  simp [Op.eqItems,tN]
 |m+1,o,as,bs,hx,hy,hc=>by
  rw[rX]at hc;cases as with
  |nil=>cases bs<;>exact hc.elim
  |cons a as=>
   cases bs with
   |nil=>cases a<;>exact hc.elim
   |cons b bs=>
    cases a<;>(try exact hc.elim);cases b<;>(try exact hc.elim);obtain⟨rfl,hc⟩:=hc;obtain⟨u,r1,q1,q2,q3⟩:=hx;obtain⟨v,r2,q4,q5,q6⟩:=hy;have h1:xs[o]?=some u:=by have:=congrArg (λl:List Value=>l[0]?) q1;simpa using this
    have h2:ys[o]?=some v:=by have:=congrArg (λl:List Value=>l[0]?) q4;simpa using this
    have h5:sG g as (xs.toList.drop (o+1)):=by have:=congrArg (λl:List Value=>l.drop 1) q1;simp at this;rw[this];exact q3
    have h6:sG g bs (ys.toList.drop (o+1)):=by have:=congrArg (λl:List Value=>l.drop 1) q4;simp at this;rw[this];exact q6
    have q2':u= .int _ _:=q2;have q5':v= .int _ _:=q5;subst q2';subst q5';have ha:∀w,(isAgg e).run P w= .ok false w:=λw=>by simp [isAgg,run_underlying hu]
    have ih:=I2 (d:=d) hu m (o+1) as bs h5 h6 hc;rw[List.range'_succ];simp only[Op.eqItems,Sem.run_bind,qI,Bh ha h1,Bh ha h2,Result.andThen_ok,run_equalIn_int w d e _ _ _ _ hu,tN,HQ];rename_i k' x y;by_cases q:x=y<;>simp [q,ih]
theorem Q4(R:x6 g H n w){e:TypeId}{kd:IntKind}{m':Nat}{b:Fs}{u:Value}(hx:AP g a u)(hy:AP g b v){neq:Bool}(hu:P.underlying t=some (.array m' e))(h2:P.eqGuardType P.depth t=false)(he:P.underlying e=some (.int kd))(hs:FG P e=some 1)
  {xs ys:List Fs} (ha:a= .agg xs) (hb:b= .agg ys) (hc:ED (List.replicate m' 0) xs ys):
  Da P m g H n w (do eqGuard (if neq then .neq else .eql) t x y u v;binOp (if neq then .neq else .eql) t u v) (.bool (if neq then !tN xs ys else tN xs ys)):=by
 subst ha;subst hb;obtain⟨us,rfl,k1,-⟩:=hx;obtain⟨vs,rfl,k2,-⟩:=hy;obtain⟨i,hi,hi1⟩:∃i,P.info? e=some i/\P.cellsOf e=1:=by
  unfold FG at hs;rw[he]at hs;cases hq:P.info? e with
  |none=>rw[hq]at hs;cases hs
  |some i=>rw[hq]at hs;exact⟨i,rfl,by simp only[Program.cellsOf,hq];exact(show ¬i.size=0/\i.size=1 by simpa using hs).2⟩
 have heq:=run_equalIn_array (P:=P) w 9999 us vs hu hi;rw[hi1,List.range_eq_range',I2 (g:=g) (w:=w) (d:=9998) he m' 0 xs ys (by simpa using k1) (by simpa using k2) hc]at heq;have hg:∀op,(eqGuard op t x y (.agg us) (.agg vs)).run P w= .ok () w:=by
  intro op;cases op<;>simp [eqGuard,h2]
 have h:(do eqGuard (if neq then .neq else .eql) t x y (.agg us) (.agg vs);binOp (if neq then .neq else .eql) t (.agg us) (.agg vs):Sem Value).run P w= .ok (.bool (if neq then !tN xs ys else tN xs ys)) w:=by
  simp only[Sem.run_bind,hg,Result.andThen_ok];cases neq with
  |false=>simp only[oP,pb];rw[run_eql_struct,heq];rfl
  |true=>simp only[pG];rw[run_neq_struct,heq];rfl
 exact Da.pure R h rfl
theorem V6(R:x6 g H n w){op:BinOp}{yt:TypeId}{x' y':zx}{k:x0}{ρ:Operand->Value}{ρ':zx->Fs}(hx:AP g (ρ' x') (ρ x))(hy:AP g (ρ' y') (ρ y))
  (hc:cG P op t x' y' yt=some k) (hs:(BN H ρ' k).1):Da P m g H n w (do eqGuard op t x y (ρ x) (ρ y);binOp op t (ρ x) (ρ y)) (BN H ρ' k).2:=by
 unfold cG at hc;split at hc
 ·rename_i kd hu;split at hc
  ·split at hc<;>cases hc;exact OO R hx hy (.inl rfl) hs.1 hs.2.1 hs.2.2
  ·split at hc<;>cases hc;exact OO R hx hy (.inr rfl) hs.1 hs.2.1 hs.2.2
  all_goals cases hc
  case h_9 h1 h2 h3 h4 h5 h6 h7 h8=>exact V5 R hx hy ⟨h1,h2,h3,h4,h5,h6,h7,h8⟩ hs.1 hs.2.1 hs.2.2
  all_goals exact Yd R hx hy zw hs.1 hs.2
 ·split at hc
  ·cases hc;exact Yf R hx hy hs.1 hs.2.1 hs.2.2
  all_goals first|(cases hc;done)|(cases hc;exact Ye R hx hy zw hs.1 hs.2)
 ·rename_i hu;split at hc
  ·cases hc;exact UX (neq:=false) R hx hy hu hs.1 hs.2
  ·cases hc;exact UX (neq:=true) R hx hy hu hs.1 hs.2
  ·cases hc
 ·rename_i fs hu;split at hc
  ·cases hc
  rename_i hn;have h1:P.stoodInHeld t=false:=by cases h:P.stoodInHeld t<;>simp_all
  have h2:P.eqGuardType P.depth t=false:=by cases h:P.eqGuardType P.depth t<;>simp_all
  have agg:∀(neq:Bool) l,(BN H ρ' (.aeq neq l x' y')).1->∃xs ys,ρ' x'= .agg xs/\ρ' y'= .agg ys/\ED l xs ys/\(BN H ρ' (.aeq neq l x' y')).2= .bool (if neq then !tN xs ys else tN xs ys):=by
   intro neq l hs;simp only[BN]at hs⊢;split at hs
   ·rename_i xs ys e1 e2;exact⟨xs,ys,e1,e2,hs,rfl⟩
   ·exact hs.elim
  split at hc
  ·rename_i l hl;cases hc;obtain⟨xs,ys,e1,e2,e3,e4⟩:=agg false l hs;rw[e4];exact UY (neq:=false) R hx hy hu h1 h2 hl e1 e2 e3
  ·rename_i l hl;cases hc;obtain⟨xs,ys,e1,e2,e3,e4⟩:=agg true l hs;rw[e4];exact UY (neq:=true) R hx hy hu h1 h2 hl e1 e2 e3
  ·cases hc
 ·rename_i n e hu;split at hc
  ·cases hc
  rename_i hn;have h2:P.eqGuardType P.depth t=false:=by cases h:P.eqGuardType P.depth t<;>simp_all
  have agg:∀(neq:Bool) l,(BN H ρ' (.aeq neq l x' y')).1->∃xs ys,ρ' x'= .agg xs/\ρ' y'= .agg ys/\ED l xs ys/\(BN H ρ' (.aeq neq l x' y')).2= .bool (if neq then !tN xs ys else tN xs ys):=by
   intro neq l hs;simp only[BN]at hs⊢;split at hs
   ·rename_i xs ys e1 e2;exact⟨xs,ys,e1,e2,hs,rfl⟩
   ·exact hs.elim
  split at hc
  ·rename_i kd he hz;cases hc;obtain⟨xs,ys,e1,e2,e3,e4⟩:=agg false _ hs;rw[e4];exact Q4 (neq:=false) R hx hy hu h2 he hz e1 e2 e3
  ·rename_i kd he hz;cases hc;obtain⟨xs,ys,e1,e2,e3,e4⟩:=agg true _ hs;rw[e4];exact Q4 (neq:=true) R hx hy hu h2 he hz e1 e2 e3
  ·cases hc
 ·cases hc
end
section
variable {P:Program} {g:z8} {H:AB} {n m:Nat} {w:World}
theorem I3(R:x6 g H n w){w':World}{x:Obj}(hx:w'.heap=w.heap.push x)(hos:w'.os=w.os)(htape:w'.tape=w.tape)(hout:w'.output=w.output){c:Array Value}{e:TypeId}{fz:Nat×Nat}(hc:x= .cells c e fz):
  x6 ⟨g.β,λb o=>if b=w.heap.size then c[o]? else g.σ b o⟩ H n w'/\q8 m g H w ⟨g.β,λb o=>if b=w.heap.size then c[o]? else g.σ b o⟩ H w'/\g.le ⟨g.β,λb o=>if b=w.heap.size then c[o]? else g.σ b o⟩:=by
 subst hc;have hext:I1 w w':=I1.push hx;have tX:w'.heap[w.heap.size]?=some (.cells c e fz):=by rw[hx];simp
 have old:∀b o v,g.σ b o=some v->b≠w.heap.size:=by
  intro b o v h e;have:=R.σw b o v h;subst e;simp [World.cell?]at this
 have hσ:∀b o v,g.σ b o=some v->(if b=w.heap.size then c[o]? else g.σ b o)=some v:=λb o v h=>by rw[og (old b o v h)];exact h
 refine⟨R.grow hext hσ ?_,q8.grow hext hos htape hout hσ ?_,⟨λ_ _ h=>h,hσ⟩⟩
 ·intro b o v h;by_cases hb:b=w.heap.size
  ·subst hb;rw[oE rfl]at h;exact .inr ⟨od _,by rw[BE tX];exact h⟩
  ·rw[og hb]at h;exact .inl h
 ·grind
variable {a:Fs} {u:Value}
theorem cI(R:x6 g H n w)(hx:AP g a u)(hs:JV a):Da P m g H n w (Op.unary .not u) (.bool (!FZ a)):=by
 obtain⟨b,rfl,rfl⟩:=Ja hs hx;exact Da.pure R (v:=.bool (!b)) (by simp [Op.unary]) rfl
theorem cJ(R:x6 g H n w){k:IntKind}(hx:AP g a u)(hs:Iv k a):Da P m g H n w (Op.unary .neg u) (.int k (k.wrap (0-BV a))):=by
 obtain⟨b,rfl,rfl⟩:=EP hs hx;exact Da.pure R (v:=.int k (k.wrap (0-b))) (by simp [Op.unary,Op.intArith]) rfl
theorem cK(R:x6 g H n w){k:IntKind}(hx:AP g a u)(hs:Iv k a):Da P m g H n w (Op.unary .xor u) (.int k (Du .xor k (if k.signed then -1 else k.max) (BV a))):=by
 obtain⟨b,rfl,rfl⟩:=EP hs hx;exact Da.pure R (v:=.int k (Du .xor k (if k.signed then -1 else k.max) b)) (by simp [Op.unary,Du,F8,Op.intBits]) rfl
theorem Su(R:x6 g H n w){s d:TypeId}{x':zx}{k:x0}{ρ':zx->Fs}(hx:AP g (ρ' x') u)(hc:UR P s d x'=some k)(hs:(BN H ρ' k).1):
  Da P m g H n w (convert s d u) (BN H ρ' k).2:=by
 unfold UR at hc;split at hc
 ·rename_i k1 k2 h1 h2;cases hc;obtain⟨kk,i,e1,rfl⟩:=Cg hs hx;refine Da.pure R (v:=.int k2 (k2.wrap i)) ?_ (by simp only[BN,e1,BV,AP]);simp [convert,run_underlying h1,run_underlying h2,Conv.intToInt]
 ·rename_i h1 h2;cases hc;obtain⟨l,e1,rfl⟩:=EQ hs hx;refine Da.pure R (v:=.string ⟨l.toArray⟩) ?_ (by simp only[BN,e1,HN,AP]);simp [convert,run_underlying h1,run_underlying h2]
 ·rename_i e h1 h2;split at hc
  ·rename_i he;cases hc;simp only[BN]at hs⊢;generalize ha:ρ' x'=a at hs hx⊢;cases a<;>simp only[]at hs⊢ <;>first|exact hs.elim|skip
   case sl tok l=>
    obtain⟨ht,bs,rfl⟩:=hs;have hback:(bs.map λb:UInt8=>Fs.int .u8 b.toNat).map (λv=>UInt8.ofNat (BV v).toNat)=bs:=by
     rw[pO];conv=>rhs;rw[<-rP bs]
     apply pC;intro b _;simp [BV]
    rw[hback];rcases hx with⟨hl,rfl,_⟩|⟨htok,b,o,cap,⟨sp,rfl,uE⟩,hcap,sY,_⟩
    ·have:bs=[]:=by simpa using hl
     subst this;refine Da.pure R (v:=.string ⟨#[]⟩) ?_ rfl;rw[run_convert_bytes_string w s d e none 0 0 h1 he h2];rfl
    ·by_cases hb0:bs=[]
     ·subst hb0;refine Da.pure R (v:=.string ⟨#[]⟩) ?_ rfl;exact(run_convert_bytes_string (P:=P) w s d e (some ⟨b,o,sp⟩) 0 cap h1 he h2).trans rfl
     have hsp':sp=none:=uE.resolve_right λq=>hb0 (by simpa using q.1)
     subst hsp';have h1':tok.esz=1:=by
      rcases ht with rfl|ht
      ·exact htok.elim
      ·exact ht
     rw[h1']at sY;refine Da.pure R (v:=.string ⟨bs.toArray⟩) ?_ rfl;have:=run_convert_bytes_back (P:=P) w s d e ⟨b,o,none⟩ cap bs h1 he h2 (by
      intro j hj;obtain⟨v,q1,q2,q3⟩:=sY.elem j _ o (by simpa using hj);have:v= .int .u8 (bs[j].toNat:Int):=by grind [List.getElem?_eq_getElem,AP]
      subst this;rw[Bt];have:=q3 0 (.int .u8 (bs[j].toNat:Int)) rfl;simp at this;exact R.σw _ _ _ this)
     simpa using this
  ·cases hc
 ·rename_i e h1 h2;split at hc
  ·rename_i he tB;cases hc;obtain⟨l,e1,rfl⟩:=EQ hs hx;have sP:=run_bytes_of_string (P:=P) w s d e ⟨l.toArray⟩ h1 h2 he;obtain⟨r1,r2,r3⟩:=I3 (m:=m) R (w':=(w.drew.alloc (.cells (bytesRow ⟨l.toArray⟩ (grownCap w (ByteArray.size ⟨l.toArray⟩) 0 e)) e ((bytesRow ⟨l.toArray⟩ (grownCap w (ByteArray.size ⟨l.toArray⟩) 0 e)).size,(bytesRow ⟨l.toArray⟩ (grownCap w (ByteArray.size ⟨l.toArray⟩) 0 e)).size+1)))) rfl rfl rfl rfl rfl;refine⟨_,_,_,sP,?_,r1,r2⟩;simp only[BN,e1,HN];have hszl:ByteArray.size ⟨l.toArray⟩=l.length:=by show l.toArray.size=_;simp
   refine .inr ⟨zt,w.heap.size,0,grownCap w (ByteArray.size ⟨l.toArray⟩) 0 e,⟨none,by rw[hszl];simp,.inl rfl⟩,?_,?_,zt⟩
   ·rw[hszl];simpa using grownCap_ge w l.length 0 e
   ·simp only[xv.esz,pG];have:∀(l1 l2:List UInt8) (r:List Value) (o:Nat) (f:Nat->Option Value),(∀j (x:UInt8),l2[j]?=some x->f (o+j)=some (.int .u8 x.toNat))->sK ⟨g.β,λb o=>if b=w.heap.size then(bytesRow ⟨l.toArray⟩ (grownCap w (ByteArray.size ⟨l.toArray⟩) 0 e))[o]? else g.σ b o⟩ 1 f o (l2.map λb=>.int .u8 b.toNat):=by
     intro l1 l2;induction l2 with
     |nil=>intro r o f _;trivial
     |cons b l2 ih=>
      intro r o f hf;refine⟨⟨.int .u8 b.toNat,rfl,⟨rfl,by simp [Value.cells,Value.oneCell']⟩,?_⟩,ih r (o+1) f λj x hx=>?_⟩
      ·intro j x hx;cases j with
       |zero=>simp [Value.cells]at hx;subst hx;simpa using hf 0 b rfl
       |succ j=>simp [Value.cells]at hx
      ·have:=hf (j+1) x (by simpa using hx);rwa[show o+(j+1)=o+1+j from by omega]at this
    refine this l l [] 0 _ λj x hx=>?_
    have hj:j<l.length:=(pK.1 hx).1;simp only[pn,bytesRow];rw[Array.getElem?_append_left (by simpa using hj)];simp [hx]
  ·cases hc
 ·cases hc
end
theorem In(off:Nat):∀(l:List Value) (k:Nat) (cells:Array Value),off+k+l.length<=cells.size->
  ((l.zipIdx k).foldl (λcs p=>cs.setIfInBounds (off+p.2) p.1) cells).toList=cells.toList.take (off+k)++l++cells.toList.drop (off+k+l.length)
 |[],k,cells,_=>zw
 |v::rest,k,cells,h=>by
  simp only[oI]at h;rw[List.zipIdx_cons,qc,In off rest (k+1) _ (by simp;omega)];have e:=list_seg_step cells.toList (off+k) v rest (by simp;omega);simpa [Array.toList_setIfInBounds,Nat.add_assoc]using e
def putCells(off:Nat)(v:Value)(cells:Array Value):Array Value:=v.cells.zipIdx.foldl (λcs (c,j)=>cs.setIfInBounds (off+j) c) cells
def OP(off:Nat)(v:Value)(cells:Array Value)(h:off+v.cells.size<=cells.size):
  (putCells off v cells).toList=cells.toList.take off++v.cells.toList++cells.toList.drop (off+v.cells.size):=by
 have:=In off v.cells.toList 0 cells (by simpa using h);simp only[qQ,pq]at this;rw[<-this,putCells,<-Array.toList_zipIdx,Array.foldl_toList]
section
variable {P:Program} {g:z8} {H:AB} {n m:Nat} {w:World}
variable {z:Fs} {parts:Array (Nat×Operand)} {esz s:Nat} {ρ':zx->Fs} {ρ:Operand->Value} {t e:TypeId}
theorem Q5{place:Nat->Option (Nat×Nat)}:∀(parts:List (Nat×Operand)) (uo:List (Nat×Nat×zx)) (zs:List Fs) (cells:Array Value),
  Gu place parts=some uo->(∀x x',Aw x=some x'->x'∈uo.map (·.2.2)->AP g (ρ' x') (ρ x))->
  (∀p∈uo,nT (ρ' p.2.2)/\(ρ' p.2.2).cells.length=p.2.1/\p.1+p.2.1<=zs.length)->sG g zs cells.toList->(∀x∈cells.toList,x.oneCell'=true)->
  ∃uM,Instr.fill place cells (parts.map λ(i,x)=>(i,ρ x))=some uM/\sG g (uo.foldl (λcs p=>sQ cs p.1 (ρ' p.2.2).cells) zs) uM.toList/\∀x∈uM.toList,x.oneCell'=true
 |[],uo,zs,cells,hc,_,_,h,h1=>by
  simp only[Gu]at hc;cases hc;exact⟨cells,rfl,h,h1⟩
 |(i,x)::parts,uo,zs,cells,hc,hv,hs,h,h1=>by
  simp only[Gu]at hc;split at hc
  ·rename_i off size a as e1 e2 e3;cases hc;obtain⟨s0,s1,s2⟩:=hs (off,size,a) zw;dsimp only at s0 s1 s2;have hva:=hv x a e2 zw;have tB:(ρ x).cells.size=size:=by
    have:=sG.length _ _ hva.cells;simp only[pq]at this;omega
   have hzl:=sG.length _ _ h;simp only[pq]at hzl;have tO:off+(ρ x).cells.size<=cells.size:=zo
   have step:=OP off (ρ x) cells tO;have hr:sG g (sQ zs off (ρ' a).cells) (cells.toList.take off++(ρ x).cells.toList++cells.toList.drop (off+(ρ x).cells.size)):=by
    have:=sG.sQ (off:=off) h hva.cells;simpa using this
   obtain⟨uM,k1,k2,k3⟩:=Q5 parts as (sQ zs off (ρ' a).cells) (putCells off (ρ x) cells) e3
    (λy y' hy hm=>hv y y' hy (by simp only[oL,ph];exact .inr hm))
    (λp hp=>by
     obtain⟨t0,t1,t2⟩:=hs p (by simp [hp]);refine⟨t0,t1,?_⟩;have:(sQ zs off (ρ' a).cells).length=zs.length:=by
      simp only[sQ,ou,oJ,pi];omega
     omega)
    (by rw[step];exact hr)
    (by
     rw[step];intro y hy;rcases pI.1 hy with hy|hy
     ·rcases pI.1 hy with hy|hy
      ·exact h1 y (rD hy)
      ·exact hva.one s0 y hy
     ·exact h1 y (rE hy))
   refine⟨uM,?_,by simpa using k2,k3⟩;simp only[oL,Instr.fill,e1];rw[og (by simp [tB];omega)];exact k1
  ·cases hc
theorem Bu(h:B6 P t=some z):∃i zv,P.info? t=some i/\i.zero=some zv/\(∀g,AP g z zv)/\zv.cells.size=i.size/\z.cells.length=i.size/\i.size≠0/\nT z:=by
 unfold B6 at h;split at h
 ·rename_i i hi;split at h
  ·rename_i zv hz;split at h
   ·rename_i a ha;split at h
    ·rename_i hl;cases h;have hr:∀g,AP g z zv:=λg=>Q3 ha
     have tB:zv.cells.size=i.size:=by
      have:=sG.length _ _ (hr ⟨λ_=>none,λ_ _=>none⟩).cells;simp only[pq]at this;omega
     refine⟨i,zv,hi,hz,hr,tB,hl.1,hl.2,?_⟩;unfold Qx MZ at ha;split at ha
     ·rename_i cs;cases hcs:Iz cs.toList<;>simp [hcs]at ha;subst ha;trivial
     ·split at ha<;>cases ha<;>trivial
    ·cases h
   ·cases h
  ·cases h
 ·cases h
theorem Q6(R:x6 g H n w){mkv:Bool}{k:x0}(hc:CD P mkv (.build t parts)=some k)
  (hv:∀x x',Aw x=some x'->x'∈k.sF->AP g (ρ' x') (ρ x)) (hs:(BN H ρ' k).1):Da P m g H n w (Instr.build t (parts.map λ(i,x)=>(i,ρ x))) (BN H ρ' k).2:=by
 have fin:∀(place:Nat->Option (Nat×Nat)) (z:Fs) (zv:Value) ps,B6 P t=some z->(∀g,AP g z zv)->nT z->Gu place parts.toList=some ps->k= .build z.cells ps->
   (∀cells,Instr.fill place zv.cells ((parts.map λ(i,x)=>(i,ρ x)).toList)=some cells->(Instr.build t (parts.map λ(i,x)=>(i,ρ x))).run P w= .ok (.agg cells) w)->
   Da P m g H n w (Instr.build t (parts.map λ(i,x)=>(i,ρ x))) (BN H ρ' k).2:=by
  intro place z zv ps h1 h2 h3 h4 h5 h6;subst h5;obtain⟨cells,q1,q2,q3⟩:=Q5 (g:=g) (ρ:=ρ) (ρ':=ρ') parts.toList ps z.cells zv.cells h4 (λx x' a b=>hv x x' a b) hs (h2 g).cells ((h2 g).one h3);refine Da.pure R (h6 cells (by simpa using q1)) ?_;simp only[BN];exact⟨cells,rfl,q2,q3⟩
 simp only[CD]at hc;split at hc
 ·rename_i z fs hz hu;split at hc
  ·rename_i pl tj;cases hcp:Gu (λi=>pl[i]?) parts.toList with
   |none=>simp [hcp]at hc
   |some ps=>
    simp [hcp]at hc;obtain⟨i,zv,hi,hzz,hr,tB,hl,h0,hnt⟩:=Bu hz;refine fin (λi=>pl[i]?) z zv ps hz hr hnt hcp hc.symm λcells hf=>run_build w t _ cells ?_
    simp only[Program.built,hi,hu,hzz];have:fs.toList.mapM (λf=>(P.info? f.type).map λi=>(f.offset,i.size))=some pl:=tj;simp only[this];simpa using hf
  ·cases hc
 ·rename_i z nn e hz hu;split at hc
  ·rename_i s hsz';obtain⟨ie,de,hie,hde,rfl,hpos⟩:=Dg hsz';cases hcp:Gu (λi=>some (i*ie.size,ie.size)) parts.toList with
   |none=>simp [hcp]at hc
   |some ps=>
    simp [hcp]at hc;obtain⟨i,zv,hi,hzz,hr,tB,hl,h0,hnt⟩:=Bu hz;refine fin (λi=>some (i*ie.size,ie.size)) z zv ps hz hr hnt hcp hc.symm λcells hf=>run_build w t _ cells ?_
    simp only[Program.built,hi,hu,hzz,hie];exact hf
  ·cases hc
 ·cases hc
theorem sK.set{f f':Nat->Option Value}{a:Fs}{v:Value}(hv:AP g a v)(tB:EM esz v):∀(i:Nat) (l:List Fs) (o:Nat),i<l.length->
  (∀(j:Nat) x,v.cells[j]?=some x->f' (o+i*esz+j)=some x)->(∀j,(j<o+i*esz\/o+i*esz+esz<=j)->f' j=f j)->sK g esz f o l->sK g esz f' o (l.set i a)
 |_,[],_,h,_,_,_=>by simp at h
 |0,e::l,o,_,h1,h2,⟨_,h4⟩=>⟨⟨v,hv,tB,by simpa using h1⟩,sK.eq l (o+esz) (λj a b=>h2 j (.inr zo)) h4⟩
 |i+1,e::l,o,h,h1,h2,⟨⟨u,k1,k2,k3⟩,h4⟩=>by
  have he:∀x,o+(i+1)*esz+x=o+esz+i*esz+x:=λx=>by rw[pN];omega
  refine⟨⟨u,k1,k2,λj x hx=>?_⟩,sK.set hv tB i l (o+esz) (by simpa using h) (λj x hx=>by rw[<-he];exact h1 j x hx) (λj hj=>h2 j ?_) h4⟩
  ·have hj:j<esz:=by rw[<-k2.1];exact(oU.1 hx).1
   rw[h2 (o+j) (.inl (by have:=he 0;omega))];exact k3 j x hx
  ·simp_all
theorem sK.replicate{f:Nat->Option Value}{a:Fs}{v:Value}(hv:AP g a v)(tB:EM esz v):∀(k o:Nat),(∀i<k,∀(j:Nat) x,v.cells[j]?=some x->f (o+i*esz+j)=some x)->sK g esz f o (List.replicate k a)
 |0,_,_=>trivial
 |k+1,o,h=>⟨⟨v,hv,tB,by simpa using h 0 zo⟩,sK.replicate hv tB k (o+esz) λi hi j x hx=>by
   have:=h (i+1) zo j x hx;rwa[show o+(i+1)*esz+j=o+esz+i*esz+j from by rw[pN];omega]at this⟩
theorem C2{z:Array Value}{k i j:Nat}{x:Value}(hi:i<k)(hj:z[j]?=some x):(madeCells z (k*z.size))[i*z.size+j]?=some x:=by
 have e9:j<z.size:=(oU.1 hj).1;have w9:i*z.size+j<k*z.size:=by
  have:(i+1)*z.size<=k*z.size:=qu _ hi;rw[pN]at this;omega
 have hmod:(i*z.size+j) % z.size=j:=by rw[Nat.mul_comm,Nat.mul_add_mod,qU e9]
 unfold madeCells;rw[Array.getElem?_map,qj (by simpa using w9)];simp only[Array.getElem_range,pr,hmod];rw[getElem!_pos z j e9,(oU.1 hj).2]
theorem V7(R:x6 g H n w){i:TypeInfo}{x':zx}{u:Value}(hu:P.underlying t=some (.slice e))(hi:P.info? e=some i)(hz:B6 P e=some z)(tB:FG P e=some s)
  (hx:AP g (ρ' x') u) (hs:(BN H ρ' (.mkz s i.bytes z x')).1):Da P m g H n w (Instr.makeSlice t u u) (BN H ρ' (.mkz s i.bytes z x')).2:=by
 obtain⟨h1,h2,h3,h4,h5⟩:=hs;obtain⟨k,c,e1,rfl⟩:=Cg h1 hx;obtain⟨i',zv,v7,hzz,hr,hzs,hl,h0,hnt⟩:=Bu hz;rw[hi]at v7;cases v7;obtain⟨i'',d,hi'',hd,hss,hpos⟩:=Dg tB;rw[hi]at hi'';cases hi'';rw[e1]at h2 h3 h4;simp only[BV]at h2 h3 h4;have hb:(i.bytes:Int)*c<=281474976710656:=by grind [small,Int.toNat_natCast,Nat.mul_comm]
 have sP:=run_make (P:=P) w t e i zv hu hi hzz k k c c h2 (rH _) hb zo;obtain⟨r1,r2,r3⟩:=I3 (m:=m) R (w':=w.alloc (.cells (madeCells zv.cells (c.toNat*i.size)) e)) rfl rfl rfl rfl rfl;refine⟨_,_,_,sP,?_,r1,r2⟩;simp only[BN,e1,BV];refine .inr ⟨zt,w.heap.size,0,c.toNat,⟨none,zw,.inl rfl⟩,zw,?_,zw⟩;simp only[xv.esz,pG];have hzv:EM s zv:=⟨zo,(hr ⟨λ_=>none,λ_ _=>none⟩).one hnt⟩;refine sK.replicate (hr _) hzv _ _ λa ha j x hx=>?_
 simp only[pn];have:=C2 (z:=zv.cells) (k:=c.toNat) ha hx;rw[hzs]at this;rw[<-hss];exact this
theorem OQ:∀(parts:List (Nat×Operand)) (uo:List (Nat×zx)) (l:List Fs) (cells:Array Value),
  E8 parts=some uo->(∀x x',Aw x=some x'->x'∈uo.map (·.2)->AP g (ρ' x') (ρ x))->
  (∀p∈uo,nT (ρ' p.2)/\(ρ' p.2).cells.length=esz/\p.1<l.length)->cells.size=l.length*esz->sK g esz (λo=>cells[o]?) 0 l->
  ∃uM,Instr.fill (λi=>some (i*esz,esz)) cells (parts.map λ(i,x)=>(i,ρ x))=some uM/\uM.size=cells.size/\sK g esz (λo=>uM[o]?) 0 (uo.foldl (λl p=>l.set p.1 (ρ' p.2)) l)
 |[],uo,l,cells,hc,_,_,tB,h=>by
  simp only[E8]at hc;cases hc;exact⟨cells,rfl,rfl,h⟩
 |(i,x)::parts,uo,l,cells,hc,hv,hs,tB,h=>by
  simp only[E8]at hc;split at hc
  ·rename_i a as e2 e3;cases hc;obtain⟨s0,s1,s2⟩:=hs (i,a) zw;simp only[]at s1 s2;have hva:=hv x a e2 zw;have hsx:(ρ x).cells.size=esz:=by
    have:=sG.length _ _ hva.cells;simp only[pq]at this;omega
   have tO:i*esz+(ρ x).cells.size<=cells.size:=by
    rw[hsx,tB];have:(i+1)*esz<=l.length*esz:=qu _ s2;rw[pN]at this;omega
   have step:=OP (i*esz) (ρ x) cells tO;have hsize:(putCells (i*esz) (ρ x) cells).size=cells.size:=by grind [Array.length_toList,List.length_append,List.length_take,List.length_drop]
   have AD:∀o,(putCells (i*esz) (ρ x) cells)[o]?=if i*esz<=o/\o<i*esz+esz then(ρ x).cells[o-i*esz]? else cells[o]?:=by
    intro o;rw[<-pJ,step];by_cases h1:o<i*esz
    ·grind
    ·grind
   obtain⟨uM,k1,k2,k3⟩:=OQ parts as (l.set i (ρ' a)) (putCells (i*esz) (ρ x) cells) e3
    (λy y' hy hm=>hv y y' hy (by simp only[oL,ph];exact .inr hm))
    (λp hp=>by
     obtain⟨t0,t1,t2⟩:=hs p (by simp [hp]);exact⟨t0,t1,by simpa using t2⟩)
    (by rw[hsize,tB];simp)
    (sK.set hva ⟨hsx,hva.one s0⟩ i l 0 s2 (λj x' hx'=>by
      have hj:j<esz:=by rw[<-hsx];exact(oU.1 hx').1
      rw[AD,oE zo];rw[show 0+i*esz+j-i*esz=j from by omega];exact hx')
     (λj hj=>by rw[AD,og zo]) h)
   refine⟨uM,?_,by rw[k2,hsize],by simpa using k3⟩;simp only[oL,Instr.fill];rw[og (by simp [hsx];omega)];exact k1
  ·cases hc
theorem Yg{w:World}{len:Nat}{ps:List (Nat×zx)}(hu:P.underlying t=some (.slice e))(hz:B6 P e=some z)(tB:FG P e=some s)
  (hc:E8 parts.toList=some ps) (hv:∀x x',Aw x=some x'->x'∈ps.map (·.2)->AP g (ρ' x') (ρ x)) (h1:∀p∈ps,nT (ρ' p.2)/\(ρ' p.2).cells.length=s/\p.1<len) (h3:len*s<=16777216):
  ∃cells:Array Value,(Instr.buildSlice t len (parts.map λ(i,x)=>(i,ρ x))).run P w= .ok (.slice (some ⟨w.heap.size,0,none⟩) len len) (w.alloc (.cells cells e))/\cells.size=len*s/\
   sK g s (λo=>cells[o]?) 0 (ps.foldl (λl p=>l.set p.1 (ρ' p.2)) (List.replicate len z)):=by
 obtain⟨i,zv,hi,hzz,hr,hzs,hl,h0,hnt⟩:=Bu hz;obtain⟨i'',d,hi'',hd,rfl,hpos⟩:=Dg tB;rw[hi]at hi'';cases hi'';have hmade:sK g i.size (λo=>(madeCells zv.cells (len*i.size))[o]?) 0 (List.replicate len z):=by
  refine sK.replicate (hr _) ⟨hzs,(hr ⟨λ_=>none,λ_ _=>none⟩).one hnt⟩ _ _ λa ha j x hx=>?_
  simp only[pn];have:=C2 (z:=zv.cells) (k:=len) ha hx
  rwa[hzs]at this
 obtain⟨cells,q1,q2,q3⟩:=OQ (g:=g) (ρ:=ρ) (ρ':=ρ') parts.toList ps (List.replicate len z) (madeCells zv.cells (len*i.size)) hc hv
  (λp hp=>by obtain⟨a,b,c⟩:=h1 p hp;exact⟨a,b,by simpa using c⟩) (by rw[size_madeCells];simp) hmade
 have l9:∀(ps:List (Nat×zx)) (l:List Fs),(ps.foldl (λl p=>l.set p.1 (ρ' p.2)) l).length=l.length:=by
  intro ps;induction ps with
  |nil=>intro l;rfl
  |cons p ps ih=>intro l;simp [ih]
 have sP:(Instr.buildSlice t len (parts.map λ(i,x)=>(i,ρ x))).run P w= .ok (.slice (some ⟨w.heap.size,0,none⟩) len len) (w.alloc (.cells cells e)):=by
  have hn:¬(16777216<len*i.size):=zo
  have hq:Instr.fill (λi_1=>some (i_1*i.size,i.size)) ((Array.range (len*i.size)).map (zv.cells[· % zv.cells.size]!)) (parts.map λ(i,x)=>(i,ρ x)).toList=some cells:=by simpa [madeCells]using q1
  by_cases h00:len*i.size=0
  ·have hlen0:len=0:=(Nat.mul_eq_zero.1 h00).resolve_right h0;subst hlen0;have hr0:∀(f:Nat->Value),(Array.range 0).map f= #[]:=λf=>by apply qe;simp
   simp only[qR,hr0]at hq;simp at hq;simp [Instr.buildSlice,run_underlying hu,sizeOf,typeInfo,hi,newRow,hr0,hq]
  ·simp_all [Instr.buildSlice,run_underlying,sizeOf,typeInfo,zeroValue,newRow]
 exact⟨cells,sP,by rw[q2,size_madeCells],q3⟩
theorem Hh:∀(ps:List (Nat×zx)) (l:List Fs),(ps.foldl (λl p=>l.set p.1 (ρ' p.2)) l).length=l.length
 |[],l=>rfl
 |p::ps,l=>by rw[qc,Hh ps];simp
theorem Yh(R:x6 g H n w){len:Nat}{ps:List (Nat×zx)}(hu:P.underlying t=some (.slice e))(hz:B6 P e=some z)(tB:FG P e=some s)
  (hc:E8 parts.toList=some ps) (hv:∀x x',Aw x=some x'->x'∈ps.map (·.2)->AP g (ρ' x') (ρ x)) (hs:(BN H ρ' (.bs s len z ps)).1):
  Da P m g H n w (Instr.buildSlice t len (parts.map λ(i,x)=>(i,ρ x))) (BN H ρ' (.bs s len z ps)).2:=by
 obtain⟨h1,h2,h3⟩:=hs;obtain⟨cells,sP,_,q3⟩:=Yg (w:=w) hu hz tB hc hv h1 h3;obtain⟨r1,r2,r3⟩:=I3 (m:=m) R (w':=w.alloc (.cells cells e)) rfl rfl rfl rfl rfl;refine⟨_,_,_,sP,?_,r1,r2⟩;simp only[BN];have hL:(List.foldl (λl p=>l.set p.1 (ρ' p.2)) (List.replicate len z) ps).length=len:=by rw[Hh];simp
 refine .inr ⟨zt,w.heap.size,0,len,⟨none,by rw[hL],.inl rfl⟩,by rw[hL];exact od _,?_,hL.symm⟩;simp only[xv.esz,pG];exact sK.mono r3 (λ_ _ h=>h) _ _ _ q3
end
section
variable {P:Program} {g:z8} {H:AB} {n m:Nat} {w:World}
variable {fs:Array Field} {len lo hi:Int} {f off s:Nat} {x' i':zx} {ρ':zx->Fs} {x:Operand} {ρ:Operand->Value} {mx:Option Int} {lo' v7:Option zx} {tok:xv} {t e:TypeId} {u v:Value}
theorem K7(h:KM P fs f=some (off,s)):∃fd,fs[f]?=some fd/\fd.offset=off/\FG P fd.type=some s:=by
 unfold KM at h;split at h
 ·simp_all
 ·cases h
theorem Q7{sz:Nat}(h:FG P t=some sz){cs:List Fs}{vs:Array Value}(hr:sG g cs vs.toList)(h1:∀x∈vs.toList,x.oneCell'=true)(hl:off+sz<=cs.length):
  ∃v,(part t vs off).run P w= .ok v w/\AP g (mk (HO P t) ((cs.drop off).take sz)) v:=by
 have l9:=sG.length _ _ hr;obtain⟨_,_,_,_,_,hpos⟩:=Dg h;simp only[part,Sem.run_bind,ON h,Result.andThen_ok];cases hag:HO P t with
 |true=>
  refine⟨.agg (vs.extract off (off+sz)),by simp [Bj h],⟨_,rfl,?_,?_⟩⟩
  ·have:=(hr.drop off).take sz;rw[Array.toList_extract];simpa [List.extract_eq_take_drop]using this
  ·grind [Array.toList_extract,List.extract_eq_take_drop]
 |false=>
  have e9:off<vs.size:=by simp only[pq]at l9;omega
  refine⟨vs[off],by simp [e9],?_⟩;have:=sG.getElem off cs vs.toList hr vs[off] (by simp [e9]);simp only[mk,oP,pb];have e:((cs.drop off).take sz).headD (.sH [])=cs[off]?.getD (.sH []):=by
   cases sz with
   |zero=>omega
   |succ sz=>
    cases hd:cs.drop off with
    |nil=>have:=congrArg List.length hd;simp at this;omega
    |cons c r=>have:=congrArg (λl:List Fs=>l[0]?) hd;simp at this;simp [this]
  rw[e];exact this
theorem V8(R:x6 g H n w){fd:Field}(hu:P.underlying t=some (.struct fs))(hfd:fs[f]?=some fd)(hp:KM P fs f=some (off,s))
  (hx:AP g (ρ' x') u) (hs:(BN H ρ' (.fld off s (HO P fd.type) x')).1):Da P m g H n w (Instr.field t u f) (BN H ρ' (.fld off s (HO P fd.type) x')).2:=by
 obtain⟨fd',h1,h2,h3⟩:=K7 hp;rw[hfd]at h1;cases h1;simp only[BN]at hs⊢;generalize ρ' x'=a at hs hx⊢;cases a<;>simp only[]at hs⊢ <;>first|exact hs.elim|skip
 obtain⟨vs,rfl,k1,k2⟩:=hx;obtain⟨v,q1,q2⟩:=Q7 (w:=w) h3 k1 k2 hs;exact Da.pure R (by simp [Instr.field,run_underlying hu,hfd,asAgg,h2,q1]) q2
theorem Nj(R:x6 g H n w)(hu:P.underlying t=some (.struct fs))(hp:KM P fs f=some (off,s))
  (hx:AP g (ρ' x') u) (hs:(BN H ρ' (.fa off x')).1):Da P m g H n w (Instr.fieldAt t u f) (BN H ρ' (.fa off x')).2:=by
 obtain⟨fd,h1,h2,h3⟩:=K7 hp;obtain⟨_,_,_,_,_,hpos⟩:=Dg h3;have sP:∀b o,(Instr.fieldAt t (.pointer (some ⟨b,o,none⟩)) f).run P w= .ok (.pointer (some ⟨b,o+off,none⟩)) w:=by simp_all [Instr.fieldAt,run_underlying,Instr.sureAddr,fieldPlace,Bj,Bt]<;>omega
 simp only[BN]at hs⊢;generalize ρ' x'=a at hs hx⊢;cases a<;>simp only[]at hs⊢ <;>first|exact hs.elim|skip
 case ptr id o=>obtain⟨L,k1,k2,rfl⟩:=hx;exact Da.pure R (sP _ _) ⟨L,k1,k2,rfl⟩
 case ep cs=>obtain⟨b,o,rfl,k1⟩:=hx;exact Da.pure R (sP _ _) ⟨b,o+off,rfl,k1.drop off⟩
 case ap id e i o=>obtain⟨L,k1,k2,rfl⟩:=hx;exact Da.pure R (sP _ _) ⟨L,k1,k2,by rw[Nat.add_assoc]⟩
theorem kF(R:x6 g H n w)(hu:P.underlying t=some (.slice e))(tB:FG P e=some s)
  (hx:AP g (ρ' x') u) (hi:AP g (ρ' i') v) (hs:(BN H ρ' (.ia s x' i')).1):Da P m g H n w (Instr.indexAt t u v) (BN H ρ' (.ia s x' i')).2:=by
 have sP:∀(b o len cap:Nat) k (i:Int),0<=i->i<len->(Instr.indexAt t (.slice (some ⟨b,o,none⟩) len cap) (.int k i)).run P w= .ok (.pointer (some ⟨b,o+i.toNat*s,none⟩)) w:=by simp_all [Instr.indexAt,run_underlying,asIntOf,Bj,Bt]
 simp only[BN]at hs⊢;generalize ρ' x'=a at hs hx⊢;cases a<;>simp only[]at hs⊢ <;>first|exact hs.elim|skip
 case sl tok l=>
  obtain⟨h1,h2,h3,h4⟩:=hs;obtain⟨k,i,e1,rfl⟩:=Cg h2 hi;simp only[e1,BV]at h3 h4⊢;rcases hx with⟨rfl,rfl,_⟩|⟨htok,b,o,cap,⟨sp,rfl,uE⟩,hcap,sY,_⟩
  ·simp at h4;omega
  ·have hsp':sp=none:=uE.resolve_right λq=>by rw[q.1]at h4;simp at h4;omega
   subst hsp';rw[h1]at sY;obtain⟨v,q1,q2,q3⟩:=sY.elem i.toNat l o zo;exact Da.pure R (sP _ _ _ _ _ _ h3 h4) ⟨b,o+i.toNat*s,rfl,sL.ofElem q1 q3 q2.2⟩
 case ref id e' off len cap=>
  obtain⟨h1,h2,h3,h4⟩:=hs;obtain⟨k,i,e1,rfl⟩:=Cg h2 hi;simp only[e1,BV]at h3 h4⊢;obtain⟨L,k1,k2,rfl⟩:=hx;exact Da.pure R (sP _ _ _ _ _ _ h3 h4) ⟨L,k1,k2,by rw[h1,pN,qQ]⟩
theorem cM(R:x6 g H n w){len:Nat}(hu:P.underlying t=some (.array len e))(tB:FG P e=some s)
  (hx:AP g (ρ' x') u) (hi:AP g (ρ' i') v) (hs:(BN H ρ' (.iaA len s x' i')).1):Da P m g H n w (Instr.indexAt t u v) (BN H ρ' (.iaA len s x' i')).2:=by
 have sP:∀(b o:Nat) k (i:Int),0<=i->i<len->(Instr.indexAt t (.pointer (some ⟨b,o,none⟩)) (.int k i)).run P w= .ok (.pointer (some ⟨b,o+i.toNat*s,none⟩)) w:=by simp_all [Instr.indexAt,run_underlying,asIntOf,Instr.sureAddr,Bj,Bt]
 simp only[BN]at hs⊢;generalize ρ' x'=a at hs hx⊢;cases a<;>simp only[]at hs⊢ <;>first|exact hs.elim|skip
 case ptr id o=>
  obtain⟨h2,h3,h4⟩:=hs;obtain⟨k,i,e1,rfl⟩:=Cg h2 hi;simp only[e1,BV]at h3 h4⊢;obtain⟨L,k1,k2,rfl⟩:=hx;exact Da.pure R (sP _ _ _ _ h3 h4) ⟨L,k1,k2,rfl⟩
 case ep cs=>
  obtain⟨h2,h3,h4⟩:=hs;obtain⟨k,i,e1,rfl⟩:=Cg h2 hi;simp only[e1,BV]at h3 h4⊢;obtain⟨b,o,rfl,k1⟩:=hx;exact Da.pure R (sP _ _ _ _ h3 h4) ⟨b,_,rfl,k1.drop _⟩
theorem cN(R:x6 g H n w)(hu:P.underlying t=some .string)
  (hx:AP g (ρ' x') u) (hi:AP g (ρ' i') v) (hs:(BN H ρ' (.ixS x' i')).1):Da P m g H n w (Instr.index t u v) (BN H ρ' (.ixS x' i')).2:=by
 obtain⟨h1,h2,h3,h4⟩:=hs;obtain⟨l,e1,rfl⟩:=EQ h1 hx;obtain⟨k,i,e2,rfl⟩:=Cg h2 hi;simp only[BN,e1,e2,BV,HN]at h3 h4⊢;obtain⟨j,rfl⟩:=Int.eq_ofNat_of_zero_le h3;have hj:j<l.length:=zo
 simp only[oH];have hb:getElem? (ByteArray.mk l.toArray) j=some l[j]:=by
  have tB:j<(ByteArray.mk l.toArray).size:=by show j<l.toArray.size;simpa using hj
  rw[getElem?_pos (ByteArray.mk l.toArray) j tB];rfl
 refine Da.pure R (v:=.int .u8 (l[j].toNat:Int)) ?_ (by simp [AP,o8 hj]);simp [Instr.index,run_underlying hu,asIntOf,hb]
theorem cO(R:x6 g H n w){len:Nat}(hu:P.underlying t=some (.array len e))(tB:FG P e=some s)
  (hx:AP g (ρ' x') u) (hi:AP g (ρ' i') v) (hs:(BN H ρ' (.ixA len s (HO P e) x' i')).1):Da P m g H n w (Instr.index t u v) (BN H ρ' (.ixA len s (HO P e) x' i')).2:=by
 simp only[BN]at hs⊢;generalize ρ' x'=a at hs hx⊢;cases a<;>simp only[]at hs⊢ <;>first|exact hs.elim|skip
 obtain⟨h2,h3,h4,h5⟩:=hs;obtain⟨k,i,e1,rfl⟩:=Cg h2 hi;simp only[e1,BV]at h3 h4 h5⊢;obtain⟨vs,rfl,k1,k2⟩:=hx;obtain⟨v,q1,q2⟩:=Q7 (w:=w) tB k1 k2 h5;exact Da.pure R (by simp [Instr.index,run_underlying hu,asIntOf,h3,h4,Bj tB,q1]) q2
theorem DH{isSlice:Bool}{len cap:Nat}{lo hi mx:Option Operand}{mx':Option zx}(vf:DG lo=some lo')(hhi:DG hi=some v7)(hmx:DG mx=some mx')
  (hv:∀x x',Aw x=some x'->(lo'=some x'\/v7=some x'\/mx'=some x')->AP g (ρ' x') (ρ x))
  (b1:CK ρ' lo') (b2:CK ρ' v7) (b3:CK ρ' mx') (hmh:mx'≠none->v7≠none) (h0:0<=sS ρ' 0 lo') (h1:sS ρ' 0 lo'<=sS ρ' len v7) (h2:sS ρ' len v7<=sS ρ' cap mx') (h3:sS ρ' cap mx'<=cap):
  (Instr.sliceBounds isSlice len cap (lo.map ρ) (hi.map ρ) (mx.map ρ)).run P w= .ok ((sS ρ' 0 lo').toNat,(sS ρ' len v7).toNat,(sS ρ' cap mx').toNat) w:=by
 have bound:∀(x:Operand) (x':zx) (y:Nat) (c:BoundsCode),AP g (ρ' x') (ρ x)->Cl (ρ' x')->0<=BV (ρ' x')->BV (ρ' x')<=y->(Instr.sliceBound (ρ x) y c).run P w= .ok (BV (ρ' x')).toNat w:=by
  intro x x' y c r s a b;obtain⟨k,i,e1,e2⟩:=Cg s r;rw[e1]at a b⊢;rw[e2];exact run_sliceBound w k i y c a b
 have cases3:∀(x:Option Operand) (x':Option zx),DG x=some x'->(x=none/\x'=none)\/∃y y',x=some y/\x'=some y'/\Aw y=some y':=by
  intro x x' h;cases x with
  |none=>simp [DG]at h;exact .inl ⟨rfl,h.symm⟩
  |some y=>
   simp only[DG]at h;cases hy:Aw y with
   |none=>simp [hy]at h
   |some y'=>simp [hy]at h;exact .inr ⟨y,y',rfl,h.symm,hy⟩
 rcases cases3 _ _ hmx with⟨rfl,rfl⟩|⟨z,z',rfl,rfl,hz⟩<;>rcases cases3 _ _ hhi with⟨rfl,rfl⟩|⟨y,y',rfl,rfl,hy⟩<;>rcases cases3 _ _ vf with⟨rfl,rfl⟩|⟨x,x',rfl,rfl,hx⟩<;>simp only[sS,CK,qd,pr]at*
 ·simp [Instr.sliceBounds]
 ·have e:=bound x x' len .sliceB (hv x x' hx zw) b1 h0 h1;simp [Instr.sliceBounds,e]
 ·have e:=λc=>bound y y' cap c (hv y y' hy zw) b2 zo h2
  simp [Instr.sliceBounds,e]
 ·have e:=λc=>bound y y' cap c (hv y y' hy zw) b2 zo h2
  have e2:=λc=>bound x x' (BV (ρ' y')).toNat c (hv x x' hx zw) b1 h0 zo
  simp [Instr.sliceBounds,e,e2]
 ·simp at hmh
 ·simp at hmh
 ·have e:=λc=>bound z z' cap c (hv z z' hz zw) b3 zo h3
  have e2:=λc=>bound y y' (BV (ρ' z')).toNat c (hv y y' hy zw) b2 zo zo
  simp [Instr.sliceBounds,e,e2]
 ·have e:=λc=>bound z z' cap c (hv z z' hz zw) b3 zo h3
  have e2:=λc=>bound y y' (BV (ρ' z')).toNat c (hv y y' hy zw) b2 zo zo
  have e3:=λc=>bound x x' (BV (ρ' y')).toNat c (hv x x' hx zw) b1 h0 zo
  simp [Instr.sliceBounds,e,e2,e3]
theorem cP(R:x6 g H n w)(hu:P.underlying t=some .string){lo hi:Option Operand}(vf:DG lo=some lo')(hhi:DG hi=some v7)
  (hx:AP g (ρ' x') (ρ x)) (hv:∀y y',Aw y=some y'->(lo'=some y'\/v7=some y')->AP g (ρ' y') (ρ y)) (hs:(BN H ρ' (.slS x' lo' v7)).1):
  Da P m g H n w (Instr.sliceAt t (ρ x) (lo.map ρ) (hi.map ρ) none) (BN H ρ' (.slS x' lo' v7)).2:=by
 obtain⟨h1,b1,b2,h2,h3,h4⟩:=hs;obtain⟨l,e1,e2⟩:=EQ h1 hx;rw[e2];simp only[BN,e1,HN]at h3 h4⊢;have tB:ByteArray.size ⟨l.toArray⟩=l.length:=by show l.toArray.size=_;simp
 have hb:=DH (P:=P) (g:=g) (w:=w) (isSlice:=false) (len:=l.length) (cap:=l.length) (ρ:=ρ) (ρ':=ρ') (mx:=none) (mx':=none) vf hhi rfl (λy y' a b=>hv y y' a (by simpa using b)) b1 b2 zt zw h2 h3 (by simpa [sS]using h4) (by simp [sS]);refine Da.pure R (v:=.string (ByteArray.extract ⟨l.toArray⟩ (sS ρ' 0 lo').toNat (sS ρ' l.length v7).toNat)) ?_ ?_
 ·simp_all [qd,Instr.sliceAt,Instr.slice,run_underlying]
 ·simp only[AP];congr 1;apply ByteArray.ext;rw[ByteArray.data_extract];apply qe;simp [List.extract_eq_take_drop,List.drop_take]
theorem OR{id e:Nat}:Ef tok len lo hi mx≠ .own id e:=by
 cases tok<;>cases mx<;>simp only[Ef]<;>(try split)<;>simp
theorem V9:(Ef tok len lo hi mx).esz=tok.esz:=by
 cases tok<;>cases mx<;>simp only[Ef]<;>(try split)<;>rfl
theorem Sv(h:match tok with| .nil=>False|_=>True):match Ef tok len lo hi mx with| .nil=>False|_=>True:=by
 cases tok<;>cases mx<;>simp only[Ef]at h⊢ <;>first|exact h.elim|(split<;>rename_i heq<;>first|trivial|(split at heq<;>cases heq))
theorem Q8{e:Nat}(h:Ef tok len lo hi mx= .exact e):(mx=none/\hi=len/\∃e',tok= .exact e')\/mx=some hi:=by
 cases tok<;>cases mx<;>simp only[Ef]at h<;>first
  |(cases h;done)
  |(split at h
    ·rename_i heq;subst heq;exact .inr rfl
    ·cases h)
  |(split at h
    ·rename_i heq;exact .inl ⟨rfl,heq,_,rfl⟩
    ·cases h)
theorem CZ{ρ:zx->Fs}{d:Int}:sS ρ d none=d:=rfl
theorem Jc{ρ:zx->Fs}{d:Int}{x:zx}:sS ρ d (some x)=BV (ρ x):=rfl
theorem kG(R:x6 g H n w)(hu:P.underlying t=some (.slice e))(tB:FG P e=some s){lo hi mx:Option Operand}{mx':Option zx}(vf:DG lo=some lo')(hhi:DG hi=some v7)(hmx:DG mx=some mx')
  (hx:AP g (ρ' x') (ρ x)) (hv:∀y y',Aw y=some y'->(lo'=some y'\/v7=some y'\/mx'=some y')->AP g (ρ' y') (ρ y)) (hs:(BN H ρ' (.sl s x' lo' v7 mx')).1):
  Da P m g H n w (Instr.sliceAt t (ρ x) (lo.map ρ) (hi.map ρ) (mx.map ρ)) (BN H ρ' (.sl s x' lo' v7 mx')).2:=by
 simp only[BN]at hs⊢;generalize hA:ρ' x'=a at hs hx⊢;generalize ρ x=u at hx⊢;cases a<;>simp only[]at hs⊢ <;>first|exact hs.elim|skip
 case sl tok l=>
  obtain⟨ht,b1,b2,b3,hmh,h0,h1,h2,h3⟩:=hs;rcases hx with⟨rfl,rfl,l6⟩|⟨htok,b,o,cap,⟨sp,rfl,uE⟩,hcap,sY,hk⟩
  ·
   simp only[pd,Int.natCast_zero]at h1 h2 h3;have hhi0:sS ρ' (0:Nat) v7=0:=by simp only[Int.natCast_zero];omega
   have hlo0:sS ρ' 0 lo'=0:=zo
   have hmx0:sS ρ' (0:Nat) mx'=0:=by
    cases mx' with
    |none=>rfl
    |some z=>have:=h3 z rfl;simp only[sS];omega
   have hb:=DH (P:=P) (g:=g) (w:=w) (isSlice:=true) (len:=0) (cap:=0) (ρ:=ρ) (ρ':=ρ') vf hhi hmx hv b1 b2 b3 hmh h0 zo zo zo;rw[hhi0,hlo0,hmx0]at hb;refine Da.pure R (v:=.slice none 0 0) (by simp [Instr.sliceAt,Instr.slice,run_underlying hu,hb,Bj tB]) ?_;refine .inl ⟨zw,rfl,?_⟩;split
   ·rename_i heq;exact absurd heq OR
   ·trivial
  ·have ht':tok.esz=s:=by
    rcases ht with rfl|ht
    ·exact htok.elim
    ·exact ht
   rw[ht']at sY;have hml:sS ρ' cap mx'<=cap/\sS ρ' l.length v7<=sS ρ' cap mx'/\(∀z,mx'=some z->sS ρ' cap mx'=BV (ρ' z)):=by
    cases mx' with
    |none=>rw[CZ];exact⟨rH _,zo,zw⟩
    |some z=>have:=h3 z rfl;rw[Jc];exact⟨zo,zo,λ_ h=>by cases h;rfl⟩
   have hb:=DH (P:=P) (g:=g) (w:=w) (isSlice:=true) (len:=l.length) (cap:=cap) (ρ:=ρ) (ρ':=ρ') vf hhi hmx hv b1 b2 b3 hmh h0 h1 hml.2.1 hml.1;generalize hLo:(sS ρ' 0 lo').toNat=L0 at hb⊢;generalize hHi:(sS ρ' l.length v7).toNat=H0 at hb⊢;generalize hMx:(sS ρ' cap mx').toNat=M0 at hb⊢;have hLH:L0<=H0:=zo
   have hHM:H0<=M0:=zo
   have hHl:H0<=l.length:=zo
   have hadd:∀k:Nat,(l=[]->k=0)->(⟨b,o,sp⟩:Addr).add k=⟨b,o+k,sp⟩:=λk hk0=>by
    rcases uE with rfl|⟨q,_⟩
    ·exact Bt ..
    ·rw[hk0 q];rfl
   have hL0:l=[]->L0*s=0:=λq=>by
    rw[q]at hHl;simp at hHl;have:L0=0:=zo
    rw[this,qR]
   refine Da.pure R (v:=.slice (if M0=L0 then some ⟨b,o,sp⟩else some ⟨b,o+L0*s,sp⟩) (H0-L0) (M0-L0)) ?_ ?_
   ·simp only[Instr.sliceAt,Sem.run_bind,run_underlying hu,Result.andThen_ok,Instr.slice,hb,Bj tB,Sem.run_pure,pr,hadd _ hL0]
   ·have l9:((l.take H0).drop L0).length=H0-L0:=by rw[pi,oJ];omega
    have hesz:∀mxo,(Ef tok l.length (sS ρ' 0 lo') (sS ρ' l.length v7) mxo).esz=s:=by
     intro mxo;rw[V9];exact ht'
    refine .inr ⟨?_,b,if M0=L0 then o else o+L0*s,M0-L0,⟨sp,?_,?_⟩,by rw[l9];omega,?_,?_⟩
    ·exact Sv htok
    ·rw[l9];split<;>rfl
    ·refine uE.imp id λq=>⟨by rw[q.1];simp,?_⟩
     obtain⟨ql,q⟩:=q;have hH0:H0=0:=by rw[ql]at hHl;simpa using hHl
     rcases q with q|⟨e',rfl⟩
     ·exact .inl zo
     ·cases mx' with
      |none=>exact .inr ⟨e',rfl⟩
      |some z=>
       by_cases hz:BV (ρ' z)=sS ρ' l.length v7
       ·have:=hml.2.2 z rfl;exact .inl zo
       ·exact .inr ⟨e',by simp only[Ef,pr,og hz]⟩
    ·rw[hesz];by_cases hML:M0=L0
     ·rw[oE hML];have:(l.take H0).drop L0=[]:=by
       apply pt;rw[l9];omega
      rw[this];trivial
     ·rw[og hML];exact(sY.take H0).drop L0
    ·rw[l9];split
     ·rename_i e0 heq;rcases Q8 heq with⟨hm,hh,e',rfl⟩|hm
      ·have hm':mx'=none:=by cases mx'<;>simp_all
       subst hm';rw[CZ]at hMx;simp only[]at hk;omega
      ·cases mx' with
       |none=>simp at hm
       |some z=>
        have hz:=hml.2.2 z rfl;simp only[pr,Option.some.injEq]at hm;omega
     ·rename_i heq;exact absurd heq OR
     ·trivial
 case ref id e' off len cap=>
  cases mx' with
  |none=>
   simp only[GP]at hs⊢;obtain⟨rfl,hcl,b1,b2,h0,h1,h2,h3⟩:=hs;obtain⟨L,k1,k2,rfl⟩:=hx;have hb:=DH (P:=P) (g:=g) (w:=w) (isSlice:=true) (len:=len) (cap:=cap) (ρ:=ρ) (ρ':=ρ') vf hhi hmx hv b1 b2 zt zw h0 h1 (by rw[CZ];omega) (by rw[CZ];exact rH _);refine Da.pure R (v:=.slice (some ⟨L.sO,off*e'+(sS ρ' 0 lo').toNat*e',none⟩) ((sS ρ' len v7).toNat-(sS ρ' 0 lo').toNat) (cap-(sS ρ' 0 lo').toNat)) ?_ ⟨L,k1,k2,by rw[pN]⟩;have sZ:¬cap=(sS ρ' 0 lo').toNat:=zo
   simp only[Instr.sliceAt,Sem.run_bind,run_underlying hu,Result.andThen_ok,Instr.slice,hb,Bj tB,Sem.run_pure,pr,Bt];simp only[CZ,oH,sZ,pb]
  |some z=>
   simp only[GP]at hs⊢;obtain⟨rfl,hh,b1,b2,b3,h0,h1,h2⟩:=hs;obtain⟨L,k1,k2,rfl⟩:=hx;have hb:=DH (P:=P) (g:=g) (w:=w) (isSlice:=true) (len:=len) (cap:=cap) (ρ:=ρ) (ρ':=ρ') vf hhi hmx hv b1 b2 b3 (λ_=>hh) zo zo (by rw[Jc];omega) (by rw[Jc];omega);refine Da.pure R (v:=.slice (some ⟨L.sO,off*e',none⟩) 0 0) ?_ (.inr ⟨zt,L.sO,off*e',0,⟨none,rfl,.inl rfl⟩,od _,zt,rfl⟩);have e1:(sS ρ' 0 lo').toNat=0:=zo
   have e2:(sS ρ' len v7).toNat=0:=zo
   have e3:(sS ρ' cap (some z)).toNat=0:=by rw[Jc];omega
   rw[e1,e2,e3]at hb;simp [Instr.sliceAt,Instr.slice,run_underlying hu,hb,Bj tB]
theorem Eo:∀(xs:List Operand) (xs':List zx),Im xs=some xs'->(∀x x',Aw x=some x'->x'∈xs'->AP g (ρ' x') (ρ x))->sG g (xs'.map ρ') (xs.map ρ)
 |[],xs',h,_=>by simp [Im]at h;subst h;rfl
 |x::xs,xs',h,hv=>by
  simp only[Im]at h;split at h
  ·rename_i a as h1 h2;cases h;exact⟨ρ x,xs.map ρ,rfl,hv x a h1 zw,Eo xs as h2 (λy y' e hm=>hv y y' e (by simp [hm]))⟩
  ·cases h
theorem Yi(R:x6 g H n w){o:Oper}(ho:o.op= .nilCheck x)(hx:AP g (ρ' x') (ρ x))(hs:(BN H ρ' (.nilc x')).1):Ni P m g H n w (execOp ρ o) (BN H ρ' (.nilc x')).2:=by
 simp only[BN]at hs⊢;generalize ρ' x'=a at hs hx⊢;have plain:∀v:Value,v≠ .pointer none->v≠ .nilIface->v≠ .nilFunc->(∀nm a b,v≠ .func (.method nm) a b)->ρ x=v->(execOp ρ o).run P w= .ok (.value v) w:=by
  intro v h1 h2 h3 h4 e;simp only[execOp,ho,e];simp
 cases a<;>(try simp only[]at hs⊢)<;>first|exact hs.elim|skip
 case ptr id o=>obtain⟨L,k1,k2,e⟩:=hx;exact Ni.pure R (plain _ zw zw zw zw e) ⟨L,k1,k2,rfl⟩
 case ep cs=>obtain⟨b,o,e,k1⟩:=hx;exact Ni.pure R (plain _ zw zw zw zw e) ⟨b,o,rfl,k1⟩
 case ap id e i o=>obtain⟨L,k1,k2,e⟩:=hx;exact Ni.pure R (plain _ zw zw zw zw e) ⟨L,k1,k2,rfl⟩
 case fn f a b=>
  cases f<;>(try simp only[]at hs⊢)<;>first|exact hs.elim|skip
  obtain⟨p,q,e,k1,k2⟩:=hx;exact Ni.pure R (plain _ zw zw zw zw e) ⟨p,q,rfl,k1,k2⟩
 case ifc t v=>obtain⟨y,e,k1⟩:=hx;exact Ni.pure R (plain _ zw zw zw zw e) ⟨y,rfl,k1⟩
theorem Me{k:IntKind}{mx:Bool}{P:Program}{w:World}:∀(ns:List Int) (a:Int),
  ((ns.map (Value.int k)).foldlM (if mx then Builtin.max2 else Builtin.min2) (.int k a)).run P w= .ok (.int k (ns.foldl (λm y=>if mx then max m y else min m y) a)) w
 |[],a=>zw
 |y::ns,a=>by
  have h:((if mx then Builtin.max2 else Builtin.min2) (.int k a) (.int k y)).run P w= .ok (.int k (if mx then max a y else min a y)) w:=by
   cases mx with
   |true=>simp [Builtin.max2];omega
   |false=>simp [Builtin.min2];omega
  simp only[oL,List.foldlM_cons,Sem.run_bind,h,Result.andThen_ok,Me ns,qc]
theorem Q9(R:x6 g H n w){ts:Array TypeId}{ty:TypeId}{mx:Bool}{k:IntKind}{xs':List zx}{vs:Array Value}(hx:sG g (xs'.map ρ') vs.toList)(hs:(BN H ρ' (.mnmx mx k xs')).1):
  Da P m g H n w (if mx then Builtin.max_ ts ty vs else Builtin.min_ ts ty vs) (BN H ρ' (.mnmx mx k xs')).2:=by
 obtain⟨h1,h2⟩:=hs;have ints:∀(xs:List zx) (vs:List Value),(∀x∈xs,Iv k (ρ' x))->sG g (xs.map ρ') vs->vs=(xs.map λx=>BV (ρ' x)).map (Value.int k):=by
  intro xs;induction xs with
  |nil=>intro vs _ h;simp only[pc,sG]at h;subst h;rfl
  |cons x xs ih=>
   intro vs hi h;obtain⟨v,r,rfl,q1,q2⟩:=h;obtain⟨i,e1,rfl⟩:=EP (hi x zw) q1;rw[ih r (λy hy=>hi y (by simp [hy])) q2];simp [e1,BV]
 have hv:=ints xs' _ h1 hx;cases xs' with
 |nil=>exact absurd rfl h2
 |cons x xs=>
  simp only[oL]at hv;have hf:=Me (k:=k) (mx:=mx) (P:=P) (w:=w) (xs.map λx=>BV (ρ' x)) (BV (ρ' x));refine Da.pure R (v:=.int k ((xs.map λx=>BV (ρ' x)).foldl (λm y=>if mx then max m y else min m y) (BV (ρ' x)))) ?_ ?_
  ·cases mx<;>simp only[Builtin.max_,Builtin.min_,hv,oP,pG,pb]at hf⊢ <;>exact hf
  ·simp only[BN,YS,AP,List.foldl_map]
theorem Sw(R:x6 g H n w){o:Oper}{mkv:Bool}{k:x0}(hc:CD P mkv o.op=some k)
  (hv:∀x x',Aw x=some x'->x'∈k.sF->AP g (ρ' x') (ρ x)) (hs:(BN H ρ' k).1):Ni P m g H n w (execOp ρ o) (BN H ρ' k).2:=by
 have one:∀{x:Operand} {f:zx->x0},(Aw x).map f=some k->∃x',Aw x=some x'/\k=f x':=by simp_all
 cases ho:o.op<;>simp only[ho]at hc;case move x=>
  obtain⟨x',e,rfl⟩:=one hc;exact Ni.pure R (by simp [execOp,ho]) (hv x x' e (by simp [x0.sF]))
 case assign x=>
  obtain⟨x',e,rfl⟩:=one hc;exact Ni.pure R (by simp [execOp,ho]) (hv x x' e (by simp [x0.sF]))
 case build t parts=>
  have:=(Q6 (m:=m) R hc hv hs).val;simpa [execOp,ho,Dh]using this
 case buildSlice t len parts=>
  simp only[CD]at hc;split at hc
  ·rename_i e hu;split at hc
   ·rename_i z s hz tB;cases hcp:E8 parts.toList with
    |none=>simp [hcp]at hc
    |some ps=>
     simp [hcp]at hc;subst hc;have:=(Yh (m:=m) R hu hz tB hcp hv hs).val;simpa [execOp,ho,Dh]using this
   ·cases hc
  ·cases hc
 case load t a=>
  simp only[CD]at hc;split at hc
  ·rename_i s a' h1 h2;cases hc;have:=(Q2 (m:=m) R h1 (hv a a' h2 (by simp [x0.sF])) hs).val;simpa [execOp,ho,Dh,BN]using this
  ·cases hc
 case nilCheck x=>
  obtain⟨x',e,rfl⟩:=one hc;exact Yi R ho (hv x x' e (by simp [x0.sF])) hs
 case binOp op t x y yt=>
  simp only[CD]at hc;split at hc
  ·rename_i a b h1 h2;have ux:a∈k.sF/\b∈k.sF:=by
    unfold cG at hc;split at hc
    ·grind [x0.sF]
    ·grind [x0.sF]
    ·grind [x0.sF]
    ·grind [x0.sF]
    ·grind [x0.sF]
    ·cases hc
   have:=(V6 (m:=m) R (x:=x) (y:=y) (hv x a h1 ux.1) (hv y b h2 ux.2) hc hs).val;simpa [execOp,ho,Dh]using this
  ·cases hc
 case unOp op t x=>
  cases op<;>simp only[CD]at hc<;>first|(cases hc;done)|skip
  ·split at hc
   ·rename_i kd hu;obtain⟨x',e,rfl⟩:=one hc;have:=(cJ (P:=P) (m:=m) R (hv x x' e (by simp [x0.sF])) hs).val;simpa [execOp,ho,Dh,BN]using this
   ·cases hc
  ·split at hc
   ·rename_i kd hu;obtain⟨x',e,rfl⟩:=one hc;have:=(cK (P:=P) (m:=m) R (hv x x' e (by simp [x0.sF])) hs).val;simpa [execOp,ho,Dh,BN]using this
   ·cases hc
  ·obtain⟨x',e,rfl⟩:=one hc;have:=(cI (P:=P) (m:=m) R (hv x x' e (by simp [x0.sF])) hs).val;simpa [execOp,ho,Dh,BN]using this
 case convert s d x=>
  simp only[CD]at hc;split at hc
  ·rename_i a h1;have ux:a∈k.sF:=by grind [UR,x0.sF]
   have:=(Su (m:=m) R (hv x a h1 ux) hc hs).val;simpa [execOp,ho,Dh]using this
  ·cases hc
 case makeInterface t x=>
  simp only[CD]at hc;split at hc
  ·cases hc
  ·rename_i d hni hu;obtain⟨x',e,rfl⟩:=one hc;have hr:(Instr.makeInterface t (ρ x)).run P w= .ok (.iface t (ρ x)) w:=by
    simp only[Instr.makeInterface,Sem.run_bind,run_underlying hu,Result.andThen_ok];simp
   exact Ni.pure R (v:=.iface t (ρ x)) (by simp [execOp,ho,hr]) ⟨_,rfl,hv x x' e (by simp [x0.sF])⟩
  ·cases hc
 case makeFunc fn first cap=>
  simp only[CD]at hc;split at hc
  ·rename_i a b h1 h2;cases hc;refine Ni.pure R (v:=.func fn (first.map ρ) (cap.map ρ)) (by simp [execOp,ho,Instr.makeFunc]) ⟨_,_,rfl,?_,?_⟩
   ·simpa using Eo first.toList a h1 (λx x' e hm=>hv x x' e (by simp [x0.sF,hm]))
   ·simpa using Eo cap.toList b h2 (λx x' e hm=>hv x x' e (by simp [x0.sF,hm]))
  ·cases hc
 case makeSlice t l c=>
  have fin:∀{e:TypeId} {inf:TypeInfo} {z:Fs} {s:Nat} {x:Operand} {x':zx},P.underlying t=some (.slice e)->P.info? e=some inf->B6 P e=some z->FG P e=some s->Aw x=some x'->k= .mkz s inf.bytes z x'->l=x->c=x->
    Ni P m g H n w (execOp ρ o) (BN H ρ' k).2:=by
   intro e inf z s x x' h1 h2 h3 h4 h5 h6 h7 h8;subst h6;have:=(V7 (m:=m) R h1 h2 h3 h4 (hv x x' h5 (by simp [x0.sF])) hs).val;simpa [execOp,ho,Dh,h7,h8]using this
  cases l<;>cases c<;>(try (simp only[CD]at hc;cases hc;done))
  ·rename_i l c;simp only[CD]at hc;split at hc
   ·rename_i hlc;obtain⟨-,rfl⟩:=hlc;split at hc
    ·rename_i e hu;split at hc
     ·rename_i inf z s h1 h2 h3;cases hc;exact fin hu h1 h2 h3 rfl rfl rfl rfl
     ·cases hc
    ·cases hc
   ·cases hc
  ·rename_i l c;cases l<;>(try (simp only[CD]at hc;cases hc;done));rename_i kl nl;cases kl<;>(try (simp only[CD]at hc;cases hc;done));cases c<;>(try (simp only[CD]at hc;cases hc;done));rename_i kc nc;cases kc<;>(try (simp only[CD]at hc;cases hc;done));simp only[CD]at hc;split at hc
   ·rename_i hlc;obtain⟨-,rfl⟩:=hlc;split at hc
    ·rename_i e hu;split at hc
     ·grind [Aw,Qx,MZ]
     ·cases hc
    ·cases hc
   ·cases hc
 case slice t x lo hi mx=>
  simp only[CD]at hc;split at hc
  ·rename_i a l h hu h1 h2 h3 h4;cases hc;have hm0:mx=none:=by
    cases mx with
    |none=>rfl
    |some z=>simp only[DG]at h4;cases hz:Aw z<;>simp [hz]at h4
   subst hm0;have:=(cP (m:=m) R hu h2 h3 (hv x a h1 (by simp [x0.sF])) (λy y' e hm=>hv y y' e (by simp only[x0.sF,ph,pI];rcases hm with rfl|rfl<;>simp)) hs).val;simpa [execOp,ho,Dh]using this
  ·rename_i e a l h mm hu h1 h2 h3 h4;split at hc
   ·rename_i s tB;cases hc;have:=(kG (m:=m) R hu tB h2 h3 h4 (hv x a h1 (by simp [x0.sF])) (λy y' e hm=>hv y y' e (by simp only[x0.sF,ph,pI];rcases hm with rfl|rfl|rfl<;>simp)) hs).val;simpa [execOp,ho,Dh]using this
   ·cases hc
  ·cases hc
 case fieldAddr t x f=>
  simp only[CD]at hc;split at hc
  ·rename_i fs hu;split at hc
   ·rename_i off s a h1 h2;cases hc;have:=(Nj (m:=m) R hu h1 (hv x a h2 (by simp [x0.sF])) hs).val;simpa [execOp,ho,Dh]using this
   ·cases hc
  ·cases hc
 case field t x f=>
  simp only[CD]at hc;split at hc
  ·rename_i fs hu;split at hc
   ·rename_i fd off s a h1 h2 h3;cases hc;have:=(V8 (m:=m) R hu h1 h2 (hv x a h3 (by simp [x0.sF])) hs).val;simpa [execOp,ho,Dh]using this
   ·cases hc
  ·cases hc
 case indexAddr t x i=>
  simp only[CD]at hc;split at hc
  ·rename_i e a b hu h1 h2;split at hc
   ·rename_i s tB;cases hc;have:=(kF (m:=m) R hu tB (hv x a h1 (by simp [x0.sF])) (hv i b h2 (by simp [x0.sF])) hs).val;simpa [execOp,ho,Dh]using this
   ·cases hc
  ·rename_i nn e a b hu h1 h2;split at hc
   ·rename_i s tB;cases hc;have:=(cM (m:=m) R hu tB (hv x a h1 (by simp [x0.sF])) (hv i b h2 (by simp [x0.sF])) hs).val;simpa [execOp,ho,Dh]using this
   ·cases hc
  ·cases hc
 case index t x i=>
  simp only[CD]at hc;split at hc
  ·rename_i a b hu h1 h2;cases hc;have:=(cN (m:=m) R hu (hv x a h1 (by simp [x0.sF])) (hv i b h2 (by simp [x0.sF])) hs).val;simpa [execOp,ho,Dh]using this
  ·rename_i nn e a b hu h1 h2;split at hc
   ·rename_i s tB;cases hc;have:=(cO (m:=m) R hu tB (hv x a h1 (by simp [x0.sF])) (hv i b h2 (by simp [x0.sF])) hs).val;simpa [execOp,ho,Dh]using this
   ·cases hc
  ·cases hc
 case extract x i=>
  obtain⟨x',e,rfl⟩:=one hc;have hx:=hv x x' e (by simp [x0.sF]);simp only[BN]at hs⊢;generalize ρ' x'=a at hs hx⊢;cases a<;>simp only[]at hs⊢ <;>first|exact hs.elim|skip
  rename_i vs';obtain⟨vs,e1,k1⟩:=hx;have hl:=sG.length _ _ k1;simp only[pq]at hl;have e9:i<vs.size:=zo
  refine Ni.pure R (v:=vs[i]) (by simp [execOp,ho,Instr.extract,e1,e9]) (sG.getElem i vs' vs.toList k1 vs[i] (by simp [e9]))
 case call c=>
  obtain⟨callee,args,argTypes⟩:=c;cases callee<;>(try (simp only[CD]at hc;cases hc;done));rename_i b;cases b<;>(try (simp only[CD]at hc;cases hc;done))
  ·
   simp only[CD]at hc;split at hc
   ·rename_i t x h1 h2;have e1:argTypes= #[t]:=by apply qe;simpa using h1
    have e2:args= #[x]:=by apply qe;simpa using h2
    subst e1;subst e2;split at hc
    ·rename_i e a hu ha;cases hc;have hx:=hv x a ha (by simp [x0.sF]);simp only[BN]at hs⊢;generalize ρ' a=b at hs hx⊢;split at hs
     ·rcases hx with⟨-,e2,-⟩|⟨h,-⟩
      ·refine Ni.pure R (v:=.int .i64 0) ?_ rfl;simp [execOp,ho,resolve,invoke,builtin,Builtin.cap_,run_underlying hu,e2,goInt]
      ·exact h.elim
     ·rename_i id esz off len cap;obtain⟨L,_,_,e2⟩:=hx;refine Ni.pure R (v:=.int .i64 cap) ?_ rfl;simp [execOp,ho,resolve,invoke,builtin,Builtin.cap_,run_underlying hu,e2,goInt]
     ·exact hs.elim
    ·cases hc
   ·cases hc
  ·
   simp only[CD]at hc;split at hc
   ·rename_i t x h1 h2;have e1:argTypes= #[t]:=by apply qe;simpa using h1
    have e2:args= #[x]:=by apply qe;simpa using h2
    subst e1;subst e2;split at hc
    ·rename_i a hu ha;cases hc;obtain⟨l,e1,e2⟩:=EQ hs (hv x a ha (by simp [x0.sF]));have tB:ByteArray.size ⟨l.toArray⟩=l.length:=by show l.toArray.size=_;simp
     refine Ni.pure R (v:=.int .i64 l.length) ?_ (by simp only[BN,e1,HN,AP]);simp [execOp,ho,resolve,invoke,builtin,Builtin.len_,run_underlying hu,e2,tB,goInt]
    ·rename_i e a hu ha;cases hc;have hx:=hv x a ha (by simp [x0.sF]);simp only[BN]at hs⊢;generalize ρ' a=b at hs hx⊢;cases b<;>simp only[]at hs⊢ <;>first|exact hs.elim|skip
     case sl tok l=>
      have:∃ad cap,ρ x= .slice ad l.length cap:=by
       rcases hx with⟨rfl,h,_⟩|⟨_,b,o,cap,⟨_,h,_⟩,_⟩
       ·exact⟨none,0,h⟩
       ·exact⟨_,cap,h⟩
      obtain⟨ad,cap,e2⟩:=this;refine Ni.pure R (v:=.int .i64 l.length) ?_ rfl;simp [execOp,ho,resolve,invoke,builtin,Builtin.len_,run_underlying hu,e2,goInt]
     case ref id esz off len cap=>
      obtain⟨L,_,_,e2⟩:=hx;refine Ni.pure R (v:=.int .i64 len) ?_ rfl;simp [execOp,ho,resolve,invoke,builtin,Builtin.len_,run_underlying hu,e2,goInt]
    ·cases hc
   ·cases hc
  ·
   simp only[CD]at hc;split at hc
   ·split at hc
    ·rename_i kd xs hu hxs;cases hc;have hr:sG g (xs.map ρ') (args.map ρ).toList:=by simpa using Eo args.toList xs hxs (λx x' e hm=>hv x x' e (by simpa [x0.sF]using hm))
     have:=(Q9 (P:=P) (m:=m) (ts:=argTypes) (ty:=o.type) (mx:=true) R hr hs).val;simpa [execOp,ho,resolve,invoke,builtin,Dh]using this
    ·cases hc
   ·cases hc
  ·
   simp only[CD]at hc;split at hc
   ·split at hc
    ·rename_i kd xs hu hxs;cases hc;have hr:sG g (xs.map ρ') (args.map ρ).toList:=by simpa using Eo args.toList xs hxs (λx x' e hm=>hv x x' e (by simpa [x0.sF]using hm))
     have:=(Q9 (P:=P) (m:=m) (ts:=argTypes) (ty:=o.type) (mx:=false) R hr hs).val;simpa [execOp,ho,resolve,invoke,builtin,Dh]using this
    ·cases hc
   ·cases hc
 all_goals (simp only[CD]at hc;cases hc)
end
end Go.AM
