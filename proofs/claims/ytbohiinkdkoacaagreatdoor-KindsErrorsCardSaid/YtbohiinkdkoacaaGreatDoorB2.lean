/-
  Parts of the proof. Conditions: none.
-/
import Derived.OrdersIn
import Derived.Laws.CopyRow
import Derived.Laws.OwnMore
import Derived.Laws.MakeOwn
import Derived.Laws.Entries
import Derived.Laws.IdiomStrings
import Derived.Laws.Strings
import Derived.Laws.StructEq
import Derived.ChangeKeysEq
import Derived.Laws.Concat
import Derived.Laws.Slices
set_option maxRecDepth 20000
set_option linter.all false
namespace Go.AM
theorem zo{p:Prop}(h:p:=by omega):p:=h
theorem zd{p:Prop}(h:p:=by decide):p:=h
theorem zw{p:Prop}(h:p:=by simp):p:=h
theorem zp{p:Prop}(h:p:=by simp only[];omega):p:=h
def V0:=@List.length_map
def V1:=@eq_true
def V2:=@List.getElem?_eq_getElem
def V3:=@Bool.not_true
def V4:=@Nat.le_refl
def V5:=@if_neg
def V6:=@Bool.not_false
def V7:=@Bool.and_eq_true
def V8:=@Nat.zero_le
def V9:=@List.length_append
def Vs:=@eq_false
def Vt:=@List.map_append
def Vu:=@decide_eq_true_eq
def Vv:=@if_pos
def Vw:=@List.take_length
def Vx:=@List.take_add_one
def Vy:=@Int.toNat_natCast
def Vz:=@List.length_cons
def W0:=@List.length_take
def W1:=@List.getElem_mem
def W2:=@decide_eq_false
def W3:=@List.getElem?_map
def W4:=@List.all_eq_true
def W5:=@Bool.false_eq_true
def W6:=@List.map_cons
def W7:=@Option.getD_some
def W9:=@List.append_nil
def Wa:=@Int.natCast_nonneg
def Wb:=@List.append_assoc
def Wc:=@Array.getElem?_eq_some_iff
def Wd:=@Bool.or_eq_true
def We:=@List.take_of_length_le
def Wf:=@if_false
def Wg:=@Bool.eq_iff_iff
def Wh:=@List.map_nil
def Wi:=@List.nil_append
def Wj:=@List.length_replicate
def Wl:=@List.length_drop
def Wm:=@List.drop_eq_getElem_cons
def Wn:=@of_decide_eq_true
def Wo:=@decide_eq_true
def Wp:=@List.mem_cons
def Wq:=@List.length_nil
def Wr:=@Nat.zero_add
def Ws:=@Array.length_toList
def Wt:=@Option.map_some
def Wu:=@List.mem_cons_self
def Wv:=@List.eq_nil_of_length_eq_zero
def Ww:=@List.cons_append
def Wx:=@Nat.le_add_right
def Wy:=@List.mem_range
def Wz:=@List.map_congr_left
def WA:=@List.contains_iff_mem
def WB:=@if_true
def WC:=@List.drop_length
def WD:=@Nat.le_trans
def WE:=@Nat.not_lt_zero
def WF:=@List.getElem?_append_right
def WG:=@Array.getElem?_toList
def WH:=@List.mem_append
def WI:=@List.getElem?_append_left
def WJ:=@List.mem_cons_of_mem
def WK:=@List.take_append_of_le_length
def WL:=@List.mem_map
def WM:=@List.getD_eq_getElem?_getD
def WN:=@List.getElem?_eq_some_iff
def WO:=@Nat.add_mul
def WP:=@List.mem_iff_getElem
def WQ:=@true_and
def WR:=@Int.toNat_of_nonneg
def WS:=@forall_const
def WT:=@List.range_succ
def WU:=@List.getElem?_cons_zero
def WV:=@List.mem_singleton
def WW:=@List.pairwise_iff_getElem
def WX:=@Array.getElem?_setIfInBounds_ne
def WY:=@Option.map_eq_some_iff
def WZ:=@List.take_zero
def X0:=@List.length_filter_le
def X1:=@List.length_eq_zero_iff
def X2:=@List.map_map
def X3:=@List.foldl_cons
def X4:=@Option.map_none
def X5:=@Array.ext'
def X6:=@Nat.lt_of_lt_of_le
def X7:=@List.filter_cons
def X8:=@Array.getElem?_eq_getElem
def X9:=@List.findIdx?_eq_some_iff_getElem
def Xa:=@and_assoc
def Xb:=@List.mem_filter
def Xc:=@List.mem_iff_getElem?
def Xd:=@List.length_range
def Xe:=@List.getElem?_cons_succ
def Xf:=@decide_eq_false_iff_not
def Xg:=@false_implies
def Xh:=@List.filter_append
def Xi:=@List.drop_of_length_le
def Xj:=@Array.getElem?_eq_none
def Xk:=@and_true
def Xl:=@Nat.mul_le_mul_right
def Xm:=@Bool.or_eq_false_iff
def Xn:=@Bool.false_and
def Xo:=@List.nodup_append
def Xp:=@List.mergeSort_perm
def Xq:=@List.pairwise_cons
def Xr:=@List.all_cons
def Xs:=@Bool.true_and
def Xt:=@List.drop_zero
def Xu:=@Bool.not_eq_true'
def Xv:=@List.nodup_cons
def Xw:=@Nat.add_zero
def Xx:=@Bool.false_or
def Xy:=@Nat.mod_eq_of_lt
def Xz:=@List.not_mem_nil
def XA:=@BitVec.toNat_ofNat
def XB:=@List.set_append_right
def XC:=@Nat.mul_one
def XD:=@Nat.zero_mul
def XE:=@List.mem_of_getElem?
def XG:=@List.flatten_cons
def XH:=@not_true_eq_false
def XI:=@List.map_take
def XJ:=@List.getElem?_range
def XK:=@List.flatMap_append
def XL:=@List.pairwise_lt_range
def XM:=@Bool.not_eq_false'
def XN:=@List.zip_cons_cons
def XO:=@List.map_replicate
def XP:=@implies_true
def XQ:=@List.length_set
def XR:=@Nat.min_eq_left
def XT:=@List.take_append_drop
def XU:=@List.getElem?_eq_none
def XV:=@Int.tdiv_eq_ediv_of_nonneg
def XW:=@List.perm_ext_iff_of_nodup
def XX:=@Int.tmod_eq_emod_of_nonneg
def XY:=@List.zip_nil_left
def XZ:=@List.pairwise_map
def Y0:=@not_false_eq_true
def Y1:=@List.mem_of_mem_take
def Y2:=@List.mem_of_mem_drop
def Y3:=@Array.toArray_toList
def Y4:=@Array.mem_toList_iff
def Y5:=@List.findIdx?_eq_none_iff
def Y6:=@beq_iff_eq
def Y7:=@Int.le_refl
def Y8:=@List.drop_drop
def Y9:=@eq_self
def Ya:=@Option.bind_some
def Yb:=@List.drop_append
def Yc:=@List.getElem_map
def Yd:=@List.filter_eq_self
def Ye:=@List.filter_sublist
def Yf:=@of_decide_eq_false
def Yg:=@List.map_id
def Yh:=@List.drop_eq_nil_of_le
def Yi:=@Bool.not_eq_false
def Yj:=@List.filter_congr
def Yk:=@List.foldl_nil
def Yl:=@List.take_left
def Ym:=@BitVec.ofInt_natCast
def Yn:=@Int.fdiv_eq_ediv_of_nonneg
def Yo:=@List.replicate_succ
def Yp:=@List.filter_nil
def Yq:=@Option.toList_some
def Yr:=@List.filter_filter
def Ys:=@List.getElem?_drop
def Yt:=@and_self
def Yu:=@decide_false
end Go.AM
namespace Go.AM
inductive Zd where
 |nil|none (esz:Nat)|exact(esz:Nat)|own (id esz:Nat)
def Zd.esz:Zd->Nat
 | .nil=>0
 | .none e=>e
 | .exact e=>e
 | .own _ e=>e
inductive Fs where
 |bool (b:Bool)
 |int (k:IntKind) (n:Int)
 |str (s:List UInt8)
 |nilp
 |ptr (id off:Nat)
 |ep (cells:List Fs)
 |gp (g:Nat)
 |sl (tok:Zd) (l:List Fs)
 |ref (id esz off len cap:Nat)
 |ap (id esz i off:Nat)
 |agg (cs:List Fs)
 |tup (vs:List Fs)
 |fn (f:Fn) (first cap:List Fs)
 |nilfn
 |ifc (t:TypeId) (v:Fs)
 |nilifc
 |mp (id:Nat)
 |nilmp
 |up
def Fs.cells:Fs->List Fs
 | .agg cs=>cs
 |v=>[v]
def EH(esz:Nat)(v:Value):Prop:=v.cells.size=esz/\∀x∈v.cells.toList,x.oneCell'=true
structure Loc where
 blk:Nat
 lo:Nat
 hi:Nat
structure Yx where
 β:Nat->Option Loc
 σ:Nat->Nat->Option Value
structure Yx.le(g g':Yx):Prop where
 β:∀id L,g.β id=some L->g'.β id=some L
 σ:∀b o v,g.σ b o=some v->g'.σ b o=some v
def Yx.le.refl(g:Yx):g.le g:=⟨λ_ _ h=>h,λ_ _ _ h=>h⟩
def Yx.le.trans{a b c:Yx}(h:a.le b)(k:b.le c):a.le c:=
 ⟨λid L x=>k.β id L (h.β id L x),λx o v y=>k.σ x o v (h.σ x o v y)⟩
mutual
def VRel(g:Yx):Fs->Value->Prop
 | .bool b,v=>v= .bool b
 | .int k n,v=>v= .int k n
 | .str s,v=>v= .string ⟨s.toArray⟩
 | .nilp,v=>v= .pointer none
 | .ptr id off,v=>∃L,g.β id=some L/\L.lo=0/\v= .pointer (some ⟨L.blk,off,none⟩)
 | .ep cells,v=>∃b o,v= .pointer (some ⟨b,o,none⟩)/\PStab g (g.σ b) o cells
 | .gp i,v=>v= .pointer (some ⟨i,0,none⟩)
 | .sl tok l,v=>
  (l=[]/\v= .slice none 0 0/\(match tok with| .own id _=>∃L,g.β id=some L|_=>True))\/
  ((match tok with| .nil=>False|_=>True)/\∃b o cap,(∃sp,v= .slice (some ⟨b,o,sp⟩) l.length cap/\(sp=none\/l=[]/\(cap=0\/∃e,tok= .none e)))/\l.length<=cap/\Stab g tok.esz (g.σ b) o l/\
   (match tok with| .exact _=>cap=l.length| .own id e=>g.β id=some ⟨b,o+l.length*e,o+cap*e⟩|_=>True))
 | .ref id esz off len cap,v=>∃L,g.β id=some L/\L.lo=0/\v= .slice (some ⟨L.blk,off*esz,none⟩) len cap
 | .ap id esz i off,v=>∃L,g.β id=some L/\L.lo=0/\v= .pointer (some ⟨L.blk,i*esz+off,none⟩)
 | .agg cs,v=>∃vs:Array Value,v= .agg vs/\VRels g cs vs.toList/\∀x∈vs.toList,x.oneCell'=true
 | .tup cs,v=>∃vs:Array Value,v= .tuple vs/\VRels g cs vs.toList
 | .fn f x c,v=>∃x' c':Array Value,v= .func f x' c'/\VRels g x x'.toList/\VRels g c c'.toList
 | .nilfn,v=>v= .nilFunc
 | .ifc t a,v=>∃x,v= .iface t x/\VRel g a x
 | .nilifc,v=>v= .nilIface
 | .mp id,v=>∃L,g.β id=some L/\v= .map (some L.blk)
 | .nilmp,v=>v= .map none
 | .up,v=>∃a,v= .pointer (some a)
def VRels(g:Yx):List Fs->List Value->Prop
 |[],vs=>vs=[]
 |a::as,vs=>∃v rest,vs=v::rest/\VRel g a v/\VRels g as rest
def PStab(g:Yx)(f:Nat->Option Value):Nat->List Fs->Prop
 |_,[]=>True
 |o,c::cs=>(∃x,f o=some x/\VRel g c x/\x.oneCell'=true)/\PStab g f (o+1) cs
def Stab(g:Yx)(esz:Nat)(f:Nat->Option Value):Nat->List Fs->Prop
 |_,[]=>True
 |o,e::l=>(∃v,VRel g e v/\EH esz v/\∀(j:Nat) x,v.cells[j]?=some x->f (o+j)=some x)/\Stab g esz f (o+esz) l
end
mutual
theorem VRel.mono{g g':Yx}(h:g.le g'):∀(a:Fs) (v:Value),VRel g a v->VRel g' a v
 | .bool _,_=>id
 | .int _ _,_=>id
 | .str _,_=>id
 | .nilp,_=>id
 | .ptr _ _,_=>by
  simp only[VRel];rintro⟨L,h1,h2,rfl⟩;exact⟨L,h.β _ _ h1,h2,rfl⟩
 | .ep cells,_=>by
  simp only[VRel];rintro⟨b,o,rfl,h1⟩;exact⟨b,o,rfl,PStab.mono h (h.σ b) cells o h1⟩
 | .gp _,_=>id
 | .sl tok l,_=>by
  simp only[VRel];rintro(⟨rfl,rfl,h0⟩|⟨ht,b,o,cap,hv,hc,hs,hk⟩)
  ·refine .inl ⟨rfl,rfl,?_⟩;cases tok<;>first|exact h0|exact h0.imp λL hL=>h.β _ _ hL
  ·refine .inr ⟨ht,b,o,cap,hv,hc,Stab.mono h (h.σ b) _ l o hs,?_⟩;cases tok<;>first|exact hk|exact h.β _ _ hk
 | .ref _ _ _ _ _,_=>by
  simp only[VRel];rintro⟨L,h1,h2,rfl⟩;exact⟨L,h.β _ _ h1,h2,rfl⟩
 | .ap _ _ _ _,_=>by
  simp only[VRel];rintro⟨L,h1,h2,rfl⟩;exact⟨L,h.β _ _ h1,h2,rfl⟩
 | .agg cs,_=>by
  simp only[VRel];rintro⟨vs,rfl,h1,h2⟩;exact⟨vs,rfl,VRels.mono h cs _ h1,h2⟩
 | .tup cs,_=>by
  simp only[VRel];rintro⟨vs,rfl,h1⟩;exact⟨vs,rfl,VRels.mono h cs _ h1⟩
 | .fn _ x c,_=>by
  simp only[VRel];rintro⟨x',c',rfl,h1,h2⟩;exact⟨x',c',rfl,VRels.mono h x _ h1,VRels.mono h c _ h2⟩
 | .nilfn,_=>id
 | .ifc _ a,_=>by
  simp only[VRel];rintro⟨x,rfl,h1⟩;exact⟨x,rfl,VRel.mono h a x h1⟩
 | .nilifc,_=>id
 | .mp _,_=>by
  simp only[VRel];rintro⟨L,h1,rfl⟩;exact⟨L,h.β _ _ h1,rfl⟩
 | .nilmp,_=>id
 | .up,_=>id
theorem VRels.mono{g g':Yx}(h:g.le g'):∀(as:List Fs) (vs:List Value),VRels g as vs->VRels g' as vs
 |[],_=>id
 |a::as,_=>by
  simp only[VRels];rintro⟨v,rest,rfl,h1,h2⟩;exact⟨v,rest,rfl,VRel.mono h a v h1,VRels.mono h as rest h2⟩
theorem PStab.mono{g g':Yx}(h:g.le g'){f f':Nat->Option Value}(hf:∀o x,f o=some x->f' o=some x):∀(cs:List Fs) (o:Nat),PStab g f o cs->PStab g' f' o cs
 |[],_=>λ_=>trivial
 |c::cs,o=>by
  simp only[PStab];rintro⟨⟨x,h1,h2,h4⟩,h3⟩;exact⟨⟨x,hf _ _ h1,VRel.mono h c x h2,h4⟩,PStab.mono h hf cs (o+1) h3⟩
theorem Stab.mono{g g':Yx}(h:g.le g'){f f':Nat->Option Value}(hf:∀o x,f o=some x->f' o=some x)(esz:Nat):∀(l:List Fs) (o:Nat),Stab g esz f o l->Stab g' esz f' o l
 |[],_=>λ_=>trivial
 |e::l,o=>by
  simp only[Stab];rintro⟨⟨v,h1,h2,h3⟩,h4⟩;exact⟨⟨v,VRel.mono h e v h1,h2,λj x hx=>hf _ _ (h3 j x hx)⟩,Stab.mono h hf esz l (o+esz) h4⟩
end
def glob(i:Nat):Option (List Fs):=match i with
 |0=>some [.int .u32 1779033703,.int .u32 3144134277,.int .u32 1013904242,.int .u32 2773480762,.int .u32 1359893119,.int .u32 2600822924,.int .u32 528734635,.int .u32 1541459225]
 |1=>some [.int .u32 1116352408,.int .u32 1899447441,.int .u32 3049323471,.int .u32 3921009573,.int .u32 961987163,.int .u32 1508970993,.int .u32 2453635748,.int .u32 2870763221,.int .u32 3624381080,.int .u32 310598401,.int .u32 607225278,.int .u32 1426881987,.int .u32 1925078388,.int .u32 2162078206,.int .u32 2614888103,.int .u32 3248222580,.int .u32 3835390401,.int .u32 4022224774,.int .u32 264347078,.int .u32 604807628,.int .u32 770255983,.int .u32 1249150122,.int .u32 1555081692,.int .u32 1996064986,.int .u32 2554220882,.int .u32 2821834349,.int .u32 2952996808,.int .u32 3210313671,.int .u32 3336571891,.int .u32 3584528711,.int .u32 113926993,.int .u32 338241895,.int .u32 666307205,.int .u32 773529912,.int .u32 1294757372,.int .u32 1396182291,.int .u32 1695183700,.int .u32 1986661051,.int .u32 2177026350,.int .u32 2456956037,.int .u32 2730485921,.int .u32 2820302411,.int .u32 3259730800,.int .u32 3345764771,.int .u32 3516065817,.int .u32 3600352804,.int .u32 4094571909,.int .u32 275423344,.int .u32 430227734,.int .u32 506948616,.int .u32 659060556,.int .u32 883997877,.int .u32 958139571,.int .u32 1322822218,.int .u32 1537002063,.int .u32 1747873779,.int .u32 1955562222,.int .u32 2024104815,.int .u32 2227730452,.int .u32 2361852424,.int .u32 2428436474,.int .u32 2756734187,.int .u32 3204031479,.int .u32 3329325298]
 |_=>none
def Dg(g:Yx):Prop:=∀i cs,glob i=some cs->PStab g (g.σ i) 0 cs
def Dg.mono{g g':Yx}(h:g.le g')(k:Dg g):Dg g':=λi cs e=>PStab.mono h (h.σ i) cs 0 (k i cs e)
section
def eget:List (Nat×Bool×Fs)->Nat->Option (Bool×Fs)
 |[],_=>none
 |(t,gv)::r,i=>if t=i then some gv else eget r i
def BU(g:Yx)(env:List (Nat×Bool×Fs))(tmps:Array Value):Prop:=
 ∀t gd v,eget env t=some (gd,v)->∃x,tmps[t]?=some x/\(gd=true->VRel g v x)/\(gd=false->x=undef)
variable {tm:Array Value} {g g' g1:Yx} {ds:List Deferred} {m n B:Nat} {w w' w1:World}
theorem BU.mono(h:g.le g'){env:List (Nat×Bool×Fs)}{tmps:Array Value}(e:BU g env tmps):BU g' env tmps:=
 λt gd v k=>let ⟨x,h1,h2,h3⟩:=e t gd v k;⟨x,h1,λq=>(h2 q).mono h,h3⟩
structure LoopA where
 l:Nat
 st:LoopState
 pend:Option Code
 nt:Nat
 env:List (Nat×Bool×Fs)
 ps:Array Tmp
 asg:Code
 body:Code
def LRel(g:Yx)(w:World)(b:Nat)(x:LoopA):Prop:=
 b=x.l/\∃r:Loop,w.heap[b]?=some (.loop r)/\r.state=x.st/\r.pending=x.pend/\r.params=x.ps/\r.assign=x.asg/\r.body=x.body/\BU g x.env r.tmps/\x.nt<=r.tmps.size
inductive Z7 where
 |box (cs:List Fs)
 |tok
 |arr (esz:Nat) (l:List Fs)
 |frz (esz:Nat) (l:List Fs)
 |map (es:List (Fs×Fs×Nat)) (clock:Nat)
 |sit (s:List UInt8) (pos:Nat)
 |mit (m c:Nat) (seen:List Nat) (last:Nat)
 |lp (x:LoopA)
 |dead
def Z7.owns:Z7->Bool
 | .frz .. =>false
 | .dead=>false
 |_=>true
abbrev AC:=Nat->Option Z7
def hnil:AC:=λ_=>none
def hget(H:AC)(i:Nat):Option Z7:=H i
def hset(H:AC)(i:Nat)(o:Z7):AC:=λj=>if i=j then some o else H j
theorem Ri(i:Nat):hget hnil i=none:=rfl
theorem AJ(H:AC)(i j:Nat)(o:Z7):hget (hset H i o) j=if i=j then some o else hget H j:=rfl
theorem AB(H:AC)(i:Nat)(o:Z7):hget (hset H i o) i=some o:=by simp [AJ]
theorem AA(H:AC)(i j:Nat)(o:Z7)(h:i≠j):hget (hset H i o) j=hget H j:=by simp [AJ,h]
theorem AD(H:AC)(i:Nat)(a b:Z7):hset (hset H i a) i b=hset H i b:=by
 funext j;simp only[hset];split<;>rfl
theorem FP(H:AC)(i j:Nat)(a b:Z7)(h:i≠j):hset (hset H i a) j b=hset (hset H j b) i a:=by
 funext k;simp only[hset];by_cases h1:j=k
 ·subst h1;rw[Vv rfl,V5 h,Vv rfl]
 ·simp [h1]
def MRel(g:Yx):List (Fs×Fs×Nat)->List MapEntry->Prop
 |[],es=>es=[]
 |(k,v,b)::r,es=>∃e es',es=e::es'/\VRel g k e.key/\VRel g v e.val/\e.born=b/\MRel g r es'
theorem MRel.mono(h:g.le g'):∀(es:List (Fs×Fs×Nat)) (es':List MapEntry),MRel g es es'->MRel g' es es'
 |[],_=>id
 |(k,v,b)::r,_=>by
  simp only[MRel];rintro⟨e,es',rfl,h1,h2,h3,h4⟩;exact⟨e,es',rfl,h1.mono h,h2.mono h,h3,MRel.mono h r es' h4⟩
def ORel(g:Yx)(w:World)(id:Nat):Z7->Prop
 | .box cs=>∃L c e,g.β id=some L/\L.lo=0/\L.hi=cs.length/\w.heap[L.blk]?=some (.cells c e (0,0))/\c.size=cs.length/\PStab g (λo=>c[o]?) 0 cs
 | .tok=>∃L,g.β id=some L/\(L.lo<L.hi->∃c e,w.heap[L.blk]?=some (.cells c e (0,0))/\L.hi<=c.size)
 | .arr esz l=>∃L c e,g.β id=some L/\L.lo=0/\L.hi=c.size/\w.heap[L.blk]?=some (.cells c e (0,0))/\l.length*esz=c.size/\Stab g esz (λo=>c[o]?) 0 l
 | .frz esz l=>∃L,g.β id=some L/\L.lo=0/\Stab g esz (g.σ L.blk) 0 l
 | .map es clock=>∃L es',g.β id=some L/\L.lo=0/\L.hi=1/\w.heap[L.blk]?=some (.map es' clock)/\MRel g es es'.toList
 | .sit s pos=>∃L,g.β id=some L/\L.lo=0/\L.hi=1/\w.heap[L.blk]?=some (.stringIter ⟨s.toArray⟩ pos)
 | .mit m c seen last=>∃L Lm,g.β id=some L/\L.lo=0/\L.hi=1/\w.heap[L.blk]?=some (.mapIter (some Lm.blk) c seen.toArray last)/\g.β m=some Lm/\c<=last
 | .lp x=>∃L,g.β id=some L/\L.lo=0/\L.hi=1/\LRel g w L.blk x
 | .dead=>True
def Kept(own:Nat->Prop):Obj->Option Obj->Prop
 | .cells c e fz,r=>∃c',r=some (.cells c' e fz)/\c'.size=c.size/\∀o,¬own o->c'[o]?=c[o]?
 |ob,r=>own 0\/r=some ob
theorem Kept.same(own:Nat->Prop)(ob:Obj):Kept own ob (some ob):=by
 cases ob<;>first|exact⟨_,rfl,rfl,λ_ _=>rfl⟩|exact .inr rfl
def Ft(w:World):Prop:=∀i cs,glob i=some cs->∃c e fz,w.heap[i]?=some (.cells c e fz)/\c.size=cs.length
theorem Ft.kept{own:Nat->Nat->Prop}(k:Ft w)(h:∀(b:Nat) ob,w.heap[b]?=some ob->Kept (own b) ob w'.heap[b]?):Ft w':=by
 intro i cs e;obtain⟨c,t,fz,h1,h2⟩:=k i cs e;obtain⟨c',h3,h4,_⟩:=h i _ h1;exact⟨c',t,fz,h3,zo⟩
theorem Ft.ext(k:Ft w)(h:∀(b:Nat) c e fz,w.heap[b]?=some (.cells c e fz)->w'.heap[b]?=some (.cells c e fz)):Ft w':=by
 intro i cs e;obtain⟨c,t,fz,h1,h2⟩:=k i cs e;exact⟨c,t,fz,h _ _ _ _ h1,h2⟩
structure Z2(g:Yx)(H:AC)(n:Nat)(w:World):Prop where
 σw:∀b o v,g.σ b o=some v->w.cell? ⟨b,o,none⟩=some v
 obj:∀id ob,hget H id=some ob->ORel g w id ob
 dom:∀id L,g.β id=some L->hget H id≠none/\(L.lo<L.hi->L.blk<w.heap.size)
 hd:∀id ob,hget H id=some ob->id<n
 ap:∀id id' ob ob' L L',id≠id'->hget H id=some ob->hget H id'=some ob'->ob.owns=true->ob'.owns=true->g.β id=some L->g.β id'=some L'->
  L.blk=L'.blk->L.hi<=L'.lo\/L'.hi<=L.lo\/L.hi<=L.lo\/L'.hi<=L'.lo
 un:∀id ob L o,hget H id=some ob->ob.owns=true->g.β id=some L->L.lo<=o->o<L.hi->g.σ L.blk o=none
 gl:Dg g
 gz:Ft w
def Dh(g:Yx)(H:AC)(b o:Nat):Prop:=
 ∃id ob L,hget H id=some ob/\ob.owns=true/\g.β id=some L/\L.blk=b/\L.lo<=o/\o<L.hi
structure Yv(m:Nat)(g:Yx)(H:AC)(w:World)(g':Yx)(H':AC)(w':World):Prop where
 le:g.le g'
 βn:∀id L,g'.β id=some L->g.β id=some L\/m<=id
 os:w'.os=w.os
 tape:w'.tape=w.tape
 output:w'.output=w.output
 size:w.heap.size<=w'.heap.size
 kept:∀(b:Nat) ob,w.heap[b]?=some ob->Kept (Dh g H b) ob w'.heap[b]?
 now:∀b o,b<w.heap.size->Dh g' H' b o->Dh g H b o
 nσ:∀b o v,b<w.heap.size->g'.σ b o=some v->g.σ b o=some v\/Dh g H b o
theorem Yv.refl(m:Nat)(g:Yx)(H:AC)(w:World):Yv m g H w g H w where
 le:=.refl g
 βn:=λ_ _ h=>.inl h
 os:=rfl
 tape:=rfl
 output:=rfl
 size:=V4 _
 kept:=λb ob h=>by rw[h];exact Kept.same _ _
 now:=λ_ _ _ h=>h
 nσ:=λ_ _ _ _ h=>.inl h
theorem Yv.floor{m':Nat}{H H':AC}(h:Yv m g H w g' H' w')(hm:m'<=m):Yv m' g H w g' H' w':=
 {h with βn:=λid L x=>(h.βn id L x).imp (λa=>a) (λa=>WD hm a)}
theorem Yv.trans{g2:Yx}{H H1 H2:AC}{w2:World}(h:Yv m g H w g1 H1 w1)(k:Yv m g1 H1 w1 g2 H2 w2):Yv m g H w g2 H2 w2 where
 le:=h.le.trans k.le
 βn:=λid L x=>by
  rcases k.βn id L x with y|y
  ·exact h.βn id L y
  ·exact .inr y
 os:=k.os.trans h.os
 tape:=k.tape.trans h.tape
 output:=k.output.trans h.output
 size:=WD h.size k.size
 kept:=λb ob hb=>by
  have c6:b<w.heap.size:=(Wc.1 hb).1;have h1:=h.kept b ob hb;have stay:∀o,¬Dh g H b o->¬Dh g1 H1 b o:=λo ho hh=>ho (h.now b o c6 hh)
  have other:∀ob',(∀c e fz,ob'≠ .cells c e fz)->(Dh g H b 0\/w1.heap[b]?=some ob')->Dh g H b 0\/w2.heap[b]?=some ob':=by
   intro ob' hne h1;rcases h1 with h1|h1
   ·exact .inl h1
   ·have h2:=k.kept b ob' h1;by_cases ho:Dh g H b 0
    ·exact .inl ho
    ·refine .inr ?_;cases ob'<;>first|exact(h2.resolve_left (stay 0 ho))|exact absurd rfl (hne _ _ _)
  cases ob<;>first|exact other _ (by intros;simp) h1|skip
  obtain⟨c1,e1,s1,k1⟩:=h1;have h2:=k.kept b _ e1;obtain⟨c2,e2,s2,k2⟩:=h2;exact⟨c2,e2,s2.trans s1,λo ho=>(k2 o (stay o ho)).trans (k1 o ho)⟩
 now:=λb o hb hh=>h.now b o hb (k.now b o (X6 hb h.size) hh)
 nσ:=λb o v hb hh=>by
  rcases k.nσ b o v (X6 hb h.size) hh with x|x
  ·exact h.nσ b o v hb x
  ·exact .inr (h.now b o hb x)
def Zd.under(n:Nat):Zd->Prop
 | .own id _=>id<n
 |_=>True
mutual
def Fs.under(n:Nat):Fs->Prop
 | .ptr id _=>id<n
 | .ep cells=>unders n cells
 | .sl t l=>t.under n/\unders n l
 | .ap id _ _ _=>id<n
 | .ref id _ _ _ _=>id<n
 | .agg cs=>unders n cs
 | .tup cs=>unders n cs
 | .fn _ x c=>unders n x/\unders n c
 | .ifc _ a=>a.under n
 | .mp id=>id<n
 |_=>True
def unders(n:Nat):List Fs->Prop
 |[]=>True
 |a::as=>a.under n/\unders n as
end
def Hy(n:Nat):List (Fs×Fs×Nat)->Prop
 |[]=>True
 |(k,v,_)::r=>k.under n/\v.under n/\Hy n r
def Z7.under(n:Nat):Z7->Prop
 | .box cs=>unders n cs
 | .arr _ l=>unders n l
 | .frz _ l=>unders n l
 | .map es _=>Hy n es
 | .mit m _ _ _=>m<n
 | .lp x=>∀t v,eget x.env t=some (true,v)->v.under n
 |_=>True
theorem Hz:∀i cs,glob i=some cs->unders 0 cs:=by
 intro i cs h;unfold glob at h;repeat' split at h;all_goals first|(cases h;simp [unders,Fs.under];done)|cases h
def Iz(n:Nat)(g' g:Yx):Prop:=(∀id L,id<n->g'.β id=some L->g.β id=some L)/\∀b o v,g'.σ b o=some v->g.σ b o=some v
mutual
variable {g g':Yx} {n:Nat}
theorem VRel.agree(h:Iz n g' g):∀(a:Fs) (v:Value),a.under n->VRel g' a v->VRel g a v
 | .bool _,_=>λ_=>id
 | .int _ _,_=>λ_=>id
 | .str _,_=>λ_=>id
 | .nilp,_=>λ_=>id
 | .ptr _ _,_=>by
  simp only[VRel,Fs.under];rintro hb ⟨L,h1,h2,rfl⟩;exact⟨L,h.1 _ _ hb h1,h2,rfl⟩
 | .ep cells,_=>by
  simp only[VRel,Fs.under];rintro hb ⟨b,o,rfl,h1⟩;exact⟨b,o,rfl,PStab.agree h (h.2 b) cells o hb h1⟩
 | .gp _,_=>λ_=>id
 | .sl tok l,_=>by
  simp only[VRel,Fs.under];rintro⟨hb1,l5⟩ (⟨rfl,rfl,h0⟩|⟨ht,b,o,cap,hv,hc,hs,hk⟩)
  ·refine .inl ⟨rfl,rfl,?_⟩;cases tok<;>first|exact h0|exact h0.imp λL hL=>h.1 _ _ hb1 hL
  ·refine .inr ⟨ht,b,o,cap,hv,hc,Stab.agree h (h.2 b) _ l o l5 hs,?_⟩;cases tok<;>first|exact hk|exact h.1 _ _ hb1 hk
 | .ref _ _ _ _ _,_=>by
  simp only[VRel,Fs.under];rintro hb ⟨L,h1,h2,rfl⟩;exact⟨L,h.1 _ _ hb h1,h2,rfl⟩
 | .ap _ _ _ _,_=>by
  simp only[VRel,Fs.under];rintro hb ⟨L,h1,h2,rfl⟩;exact⟨L,h.1 _ _ hb h1,h2,rfl⟩
 | .agg cs,_=>by
  simp only[VRel,Fs.under];rintro hb ⟨vs,rfl,h1,h2⟩;exact⟨vs,rfl,VRels.agree h cs _ hb h1,h2⟩
 | .tup cs,_=>by
  simp only[VRel,Fs.under];rintro hb ⟨vs,rfl,h1⟩;exact⟨vs,rfl,VRels.agree h cs _ hb h1⟩
 | .fn _ x c,_=>by
  simp only[VRel,Fs.under];rintro⟨hb1,l5⟩ ⟨x',c',rfl,h1,h2⟩;exact⟨x',c',rfl,VRels.agree h x _ hb1 h1,VRels.agree h c _ l5 h2⟩
 | .nilfn,_=>λ_=>id
 | .ifc _ a,_=>by
  simp only[VRel,Fs.under];rintro hb ⟨x,rfl,h1⟩;exact⟨x,rfl,VRel.agree h a x hb h1⟩
 | .nilifc,_=>λ_=>id
 | .mp _,_=>by
  simp only[VRel,Fs.under];rintro hb ⟨L,h1,rfl⟩;exact⟨L,h.1 _ _ hb h1,rfl⟩
 | .nilmp,_=>λ_=>id
 | .up,_=>λ_=>id
theorem VRels.agree(h:Iz n g' g):∀(as:List Fs) (vs:List Value),unders n as->VRels g' as vs->VRels g as vs
 |[],_=>λ_=>id
 |a::as,_=>by
  simp only[VRels,unders];rintro⟨hb1,l5⟩ ⟨v,rest,rfl,h1,h2⟩;exact⟨v,rest,rfl,VRel.agree h a v hb1 h1,VRels.agree h as rest l5 h2⟩
theorem PStab.agree(h:Iz n g' g){f f':Nat->Option Value}(hf:∀o x,f o=some x->f' o=some x):∀(cs:List Fs) (o:Nat),unders n cs->PStab g' f o cs->PStab g f' o cs
 |[],_=>λ_ _=>trivial
 |c::cs,o=>by
  simp only[PStab,unders];rintro⟨hb1,l5⟩ ⟨⟨x,h1,h2,h4⟩,h3⟩;exact⟨⟨x,hf _ _ h1,VRel.agree h c x hb1 h2,h4⟩,PStab.agree h hf cs (o+1) l5 h3⟩
theorem Stab.agree(h:Iz n g' g){f f':Nat->Option Value}(hf:∀o x,f o=some x->f' o=some x)(esz:Nat):∀(l:List Fs) (o:Nat),unders n l->Stab g' esz f o l->Stab g esz f' o l
 |[],_=>λ_ _=>trivial
 |e::l,o=>by
  simp only[Stab,unders];rintro⟨hb1,l5⟩ ⟨⟨v,h1,h2,h3⟩,h4⟩;exact⟨⟨v,VRel.agree h e v hb1 h1,h2,λj x hx=>hf _ _ (h3 j x hx)⟩,Stab.agree h hf esz l (o+esz) l5 h4⟩
end
theorem MRel.agree(h:Iz n g' g):∀(es:List (Fs×Fs×Nat)) (es':List MapEntry),Hy n es->MRel g' es es'->MRel g es es'
 |[],_=>λ_=>id
 |(k,v,b)::r,_=>by
  simp only[MRel,Hy];rintro⟨b1,b2,b3⟩ ⟨e,es',rfl,h1,h2,h3,h4⟩;exact⟨e,es',rfl,VRel.agree h _ _ b1 h1,VRel.agree h _ _ b2 h2,h3,MRel.agree h r es' b3 h4⟩
mutual
variable {g:Yx} {n:Nat}
theorem VRel.under(h:∀id L,g.β id=some L->id<n):∀(a:Fs) (v:Value),VRel g a v->a.under n
 | .bool _,_=>λ_=>trivial
 | .int _ _,_=>λ_=>trivial
 | .str _,_=>λ_=>trivial
 | .nilp,_=>λ_=>trivial
 | .ptr _ _,_=>by
  simp only[VRel,Fs.under];rintro⟨L,h1,h2,rfl⟩;exact h _ _ h1
 | .ep cells,_=>by
  simp only[VRel,Fs.under];rintro⟨b,o,rfl,h1⟩;exact PStab.under h cells o h1
 | .gp _,_=>λ_=>trivial
 | .sl tok l,_=>by
  simp only[VRel,Fs.under];rintro(⟨rfl,rfl,h0⟩|⟨ht,b,o,cap,hv,hc,hs,hk⟩)
  ·refine⟨?_,trivial⟩;cases tok<;>first|exact trivial|exact h0.elim λL hL=>h _ _ hL
  ·refine⟨?_,Stab.under h l o hs⟩;cases tok<;>first|exact trivial|exact h _ _ hk
 | .ref _ _ _ _ _,_=>by
  simp only[VRel,Fs.under];rintro⟨L,h1,h2,rfl⟩;exact h _ _ h1
 | .ap _ _ _ _,_=>by
  simp only[VRel,Fs.under];rintro⟨L,h1,h2,rfl⟩;exact h _ _ h1
 | .agg cs,_=>by
  simp only[VRel,Fs.under];rintro⟨vs,rfl,h1,-⟩;exact VRels.under h cs _ h1
 | .tup cs,_=>by
  simp only[VRel,Fs.under];rintro⟨vs,rfl,h1⟩;exact VRels.under h cs _ h1
 | .fn _ x c,_=>by
  simp only[VRel,Fs.under];rintro⟨x',c',rfl,h1,h2⟩;exact⟨VRels.under h x _ h1,VRels.under h c _ h2⟩
 | .nilfn,_=>λ_=>trivial
 | .ifc _ a,_=>by
  simp only[VRel,Fs.under];rintro⟨x,rfl,h1⟩;exact VRel.under h a x h1
 | .nilifc,_=>λ_=>trivial
 | .mp _,_=>by
  simp only[VRel,Fs.under];rintro⟨L,h1,rfl⟩;exact h _ _ h1
 | .nilmp,_=>λ_=>trivial
 | .up,_=>λ_=>trivial
theorem VRels.under(h:∀id L,g.β id=some L->id<n):∀(as:List Fs) (vs:List Value),VRels g as vs->unders n as
 |[],_=>λ_=>trivial
 |a::as,_=>by
  simp only[VRels,unders];rintro⟨v,rest,rfl,h1,h2⟩;exact⟨VRel.under h a v h1,VRels.under h as rest h2⟩
theorem PStab.under(h:∀id L,g.β id=some L->id<n){f:Nat->Option Value}:∀(cs:List Fs) (o:Nat),PStab g f o cs->unders n cs
 |[],_=>λ_=>trivial
 |c::cs,o=>by
  simp only[PStab,unders];rintro⟨⟨x,h1,h2,-⟩,h3⟩;exact⟨VRel.under h c x h2,PStab.under h cs (o+1) h3⟩
theorem Stab.under(h:∀id L,g.β id=some L->id<n){f:Nat->Option Value}{esz:Nat}:∀(l:List Fs) (o:Nat),Stab g esz f o l->unders n l
 |[],_=>λ_=>trivial
 |e::l,o=>by
  simp only[Stab,unders];rintro⟨⟨v,h1,h2,h3⟩,h4⟩;exact⟨VRel.under h e v h1,Stab.under h l (o+esz) h4⟩
end
theorem MRel.under(h:∀id L,g.β id=some L->id<n):∀(es:List (Fs×Fs×Nat)) (es':List MapEntry),MRel g es es'->Hy n es
 |[],_=>λ_=>trivial
 |(k,v,b)::r,_=>by
  simp only[MRel,Hy];rintro⟨e,es',rfl,h1,h2,h3,h4⟩;exact⟨VRel.under h _ _ h1,VRel.under h _ _ h2,MRel.under h r es' h4⟩
theorem ORel.under{id:Nat}(h:∀id L,g.β id=some L->id<n):∀(ob:Z7),ORel g w id ob->ob.under n
 | .box cs=>λ⟨_,_,_,_,_,_,_,_,h6⟩=>PStab.under h cs 0 h6
 | .tok=>λ_=>trivial
 | .arr esz l=>λ⟨_,_,_,_,_,_,_,_,h6⟩=>Stab.under h l 0 h6
 | .frz esz l=>λ⟨_,_,_,h6⟩=>Stab.under h l 0 h6
 | .map es c=>λ⟨_,_,_,_,_,_,h6⟩=>MRel.under h es _ h6
 | .sit _ _=>λ_=>trivial
 | .mit m _ _ _=>λ⟨_,_,_,_,_,_,h5,_⟩=>h _ _ h5
 | .lp x=>λ⟨_,_,_,_,_,_,_,_,_,_,_,_,h8,_⟩ t v e=>let ⟨y,_,h2,_⟩:=h8 t true v e;VRel.under h v y (h2 rfl)
 | .dead=>λ_=>trivial
theorem ORel.agree{id:Nat}(h:Iz n g' g)(d7:id<n):∀(ob:Z7),ob.under n->ORel g' w id ob->ORel g w id ob
 | .box cs=>λhb ⟨L,c,e,h1,h2,h3,h4,h5,h6⟩=>⟨L,c,e,h.1 _ _ d7 h1,h2,h3,h4,h5,PStab.agree h (λ_ _ x=>x) cs 0 hb h6⟩
 | .tok=>λ_ ⟨L,h1,h2⟩=>⟨L,h.1 _ _ d7 h1,h2⟩
 | .arr esz l=>λhb ⟨L,c,e,h1,h2,h3,h4,h5,h6⟩=>⟨L,c,e,h.1 _ _ d7 h1,h2,h3,h4,h5,Stab.agree h (λ_ _ x=>x) esz l 0 hb h6⟩
 | .frz esz l=>λhb ⟨L,h1,h2,h3⟩=>⟨L,h.1 _ _ d7 h1,h2,Stab.agree h (h.2 L.blk) esz l 0 hb h3⟩
 | .map es c=>λhb ⟨L,es',h1,h2,h3,h4,h5⟩=>⟨L,es',h.1 _ _ d7 h1,h2,h3,h4,MRel.agree h es _ hb h5⟩
 | .sit _ _=>λ_ ⟨L,h1,h2⟩=>⟨L,h.1 _ _ d7 h1,h2⟩
 | .mit m _ _ _=>λhb ⟨L,Lm,h1,h2,h3,h4,h5,h6⟩=>⟨L,Lm,h.1 _ _ d7 h1,h2,h3,h4,h.1 _ _ hb h5,h6⟩
 | .lp x=>λhb ⟨L,h1,h2,h3,h4,r,k1,k2,k3,k4,k5,k6,k7,k8⟩=>⟨L,h.1 _ _ d7 h1,h2,h3,h4,r,k1,k2,k3,k4,k5,k6,
   λt gd v e=>let ⟨y,q1,q2,q3⟩:=k7 t gd v e;⟨y,q1,λhg=>VRel.agree h v y (hb t v (by rw[e,hg])) (q2 hg),q3⟩,k8⟩
 | .dead=>λ_ _=>trivial
theorem Z2.lt{H:AC}(r:Z2 g H n w):∀id L,g.β id=some L->id<n:=λid L h=>by
 have h1:=(r.dom id L h).1;cases h2:hget H id with
 |none=>exact absurd h2 h1
 |some ob=>exact r.hd id ob h2
def OWk(a b:Z7):Prop:=(∀g w id,ORel g w id a->ORel g w id b)/\(b.owns=true->a.owns=true)
theorem OWk.refl(a:Z7):OWk a a:=⟨λ_ _ _ h=>h,λh=>h⟩
def FQ(n:Nat)(H H1 H2:AC):Prop:=
 (∀id ob,hget H2 id=some ob->id<n/\(∃ob1,hget H1 id=some ob1/\OWk ob1 ob)/\(ob.under n\/hget H id=some ob))/\∀id,hget H id≠none->hget H2 id≠none
theorem forget{n1:Nat}{H H1 H2:AC}(r0:Z2 g H n w)(r1:Z2 g1 H1 n1 w1)(t:Yv n g H w g1 H1 w1)(h2:FQ n H H1 H2):
  Z2 ⟨g.β,g1.σ⟩ H2 n w1/\Yv n g H w ⟨g.β,g1.σ⟩ H2 w1/\Iz n g1 ⟨g.β,g1.σ⟩:=by
 have ag:Iz n g1 ⟨g.β,g1.σ⟩:=⟨λid L d7 hL=>(t.βn id L hL).resolve_right zo,λ_ _ _ h=>h⟩;have up:∀id L,g.β id=some L->g1.β id=some L:=t.le.β;have own:∀b o,Dh ⟨g.β,g1.σ⟩ H2 b o->Dh g1 H1 b o:=by
  rintro b o ⟨id,ob,L,q1,q2,q3,q4,q5,q6⟩;obtain⟨-,⟨ob1,p1,p2⟩,-⟩:=h2.1 id ob q1;exact⟨id,ob1,L,p1,p2.2 q2,up _ _ q3,q4,q5,q6⟩
 refine⟨⟨r1.σw,?_,?_,?_,?_,?_,Dg.mono (g:=g) (g':=⟨g.β,g1.σ⟩) ⟨λ_ _ h=>h,t.le.σ⟩ r0.gl,r1.gz⟩,⟨⟨λ_ _ h=>h,t.le.σ⟩,λ_ _ h=>.inl h,t.os,t.tape,t.output,t.size,t.kept,?_,t.nσ⟩,ag⟩
 ·intro id ob hob;obtain⟨q1,⟨ob1,q2,q4⟩,q3⟩:=h2.1 id ob hob;have hu:ob.under n:=q3.elim (λh=>h) (λh=>ORel.under r0.lt ob (r0.obj id ob h));exact ORel.agree ag q1 ob hu (q4.1 _ _ _ (r1.obj id ob1 q2))
 ·intro id L hL;refine⟨h2.2 id (r0.dom id L hL).1,λc6=>X6 ((r0.dom id L hL).2 c6) t.size⟩
 ·intro id ob hob;exact(h2.1 id ob hob).1
 ·intro id id' ob ob' L L' hne q1 q2 q3 q4 q5 q6;obtain⟨-,⟨ob1,p1,p2⟩,-⟩:=h2.1 id ob q1;obtain⟨-,⟨ob2,p3,p4⟩,-⟩:=h2.1 id' ob' q2;exact r1.ap id id' ob1 ob2 L L' hne p1 p3 (p2.2 q3) (p4.2 q4) (up _ _ q5) (up _ _ q6)
 ·intro id ob L o q1 q2 q3 q4 q5;obtain⟨-,⟨ob1,p1,p2⟩,-⟩:=h2.1 id ob q1;exact r1.un id ob1 L o p1 (p2.2 q2) (up _ _ q3) q4 q5
 ·intro b o hb hh;exact t.now b o hb (own b o hh)
theorem NQ{H H1 H2:AC}(t:Yv n g H w g1 H1 w1)(h2:FQ n H H1 H2){b o:Nat}:Dh ⟨g.β,g1.σ⟩ H2 b o->Dh g1 H1 b o:=by
 rintro⟨id,ob,L,q1,q2,q3,q4,q5,q6⟩;obtain⟨-,⟨ob1,p1,p2⟩,-⟩:=h2.1 id ob q1;exact⟨id,ob1,L,p1,p2.2 q2,t.le.β _ _ q3,q4,q5,q6⟩
def MOK(B:Nat)(g:Yx)(H:AC):List Deferred->World->Prop
 |[],_=>True
 |d::ds,w=>(∃b,d.target= .collected b/\B<=b/\w.heap[b]?=some (.deferred (some []))/\¬Dh g H b 0/\∀d'∈ds,d'.target≠ .collected b)/\MOK B g H ds w
theorem MOK.step{H H':AC}(t:Yv m g H w g' H' w'):∀{ds:List Deferred},MOK B g H ds w->MOK B g' H' ds w'
 |[],_=>trivial
 |d::ds,⟨⟨b,h1,h2,h3,h4,h5⟩,h⟩=>by
  refine⟨⟨b,h1,h2,?_,λho=>h4 (t.now b 0 (Wc.1 h3).1 ho),h5⟩,MOK.step t h⟩;have:=t.kept b _ h3;exact this.resolve_left h4
theorem MOK.own{H H':AC}(t:∀b,Dh g' H' b 0->Dh g H b 0):∀{ds:List Deferred},MOK B g H ds w->MOK B g' H' ds w
 |[],_=>trivial
 |d::ds,⟨⟨b,h1,h2,h3,h4,h5⟩,h⟩=>⟨⟨b,h1,h2,h3,λho=>h4 (t b ho),h5⟩,MOK.own t h⟩
theorem MOK.heap{H:AC}(h:w'.heap=w.heap):∀{ds:List Deferred},MOK B g H ds w->MOK B g H ds w'
 |[],_=>trivial
 |d::ds,⟨⟨b,h1,h2,h3,h4,h5⟩,k⟩=>⟨⟨b,h1,h2,by rw[h];exact h3,h4,h5⟩,MOK.heap h k⟩
theorem MOK.blk{H:AC}:∀{ds:List Deferred},MOK B g H ds w->∀d∈ds,∃b,d.target= .collected b/\b<w.heap.size
 |[],_,d,hd=>by cases hd
 |d::ds,⟨⟨b,h1,h2,h3,h4,h5⟩,k⟩,d',hd=>by
  rcases Wp.1 hd with rfl|hd
  ·grind
  ·exact MOK.blk k d' hd
structure DP where
 fl:Nat
 base:List Deferred
 no:Bool
 lo:Nat
 tm:Array Value
def DOK(D:DP)(g:Yx)(H:AC)(ds:List Deferred)(tm:Array Value)(w:World):Prop:=∃ms,ds=ms++D.base/\MOK D.fl g H ms w/\(D.no=true->ms=[]/\∀t,t<D.lo->tm[t]?=D.tm[t]?)
theorem DOK.step{D:DP}{H H':AC}(t:Yv m g H w g' H' w'):DOK D g H ds tm w->DOK D g' H' ds tm w'
 |⟨ms,h1,h2,h3⟩=>⟨ms,h1,h2.step t,h3⟩
theorem DOK.own{D:DP}{H H':AC}(t:∀b,Dh g' H' b 0->Dh g H b 0):DOK D g H ds tm w->DOK D g' H' ds tm w
 |⟨ms,h1,h2,h3⟩=>⟨ms,h1,h2.own t,h3⟩
theorem DOK.heap{D:DP}{H:AC}(h:w'.heap=w.heap):DOK D g H ds tm w->DOK D g H ds tm w'
 |⟨ms,h1,h2,h3⟩=>⟨ms,h1,h2.heap h,h3⟩
theorem DOK.nil{D:DP}{H:AC}(h:D.no=true->∀t,t<D.lo->tm[t]?=D.tm[t]?):DOK D g H D.base tm w:=⟨[],rfl,trivial,λq=>⟨rfl,h q⟩⟩
theorem DOK.put{D:DP}{H:AC}{d:Nat}{x:Value}(hd:D.lo<=d):DOK D g H ds tm w->DOK D g H ds (tm.setIfInBounds d x) w
 |⟨ms,h1,h2,h3⟩=>⟨ms,h1,h2,λq=>⟨(h3 q).1,λt ht=>by rw[WX zo];exact(h3 q).2 t ht⟩⟩
theorem Z2.dblk{H:AC}(r:Z2 g H n w){b:Nat}{x y:Option (List Deferred)}(hb:w.heap[b]?=some (.deferred x)):
  Z2 g H n {w with heap:=w.heap.setIfInBounds b (.deferred y)}:=by
 have oth:∀(k:Nat) ob,(∀z,ob≠ .deferred z)->w.heap[k]?=some ob->(w.heap.setIfInBounds b (.deferred y))[k]?=some ob:=by grind
 refine⟨λk o v h=>?_,λid ob ho=>?_,λid L h=>⟨(r.dom id L h).1,λc6=>by simpa using(r.dom id L h).2 c6⟩,r.hd,r.ap,r.un,r.gl,r.gz.ext (λk c e fz h=>oth k _ (λz=>zw) h)⟩
 ·have h2:=r.σw k o v h;by_cases e:b=k
  ·subst e;simp [World.cell?,hb]at h2
  ·simp_all [World.cell?,WX]
 ·have:=r.obj id ob ho;cases ob with
  |box cs=>obtain⟨L,c,e,h1,h2,h3,h4,h5⟩:=this;exact⟨L,c,e,h1,h2,h3,oth _ _ zw h4,h5⟩
  |tok=>obtain⟨L,h1,h2⟩:=this;exact⟨L,h1,λc6=>let ⟨c,e,h3,h4⟩:=h2 c6;⟨c,e,oth _ _ zw h3,h4⟩⟩
  |arr esz l=>obtain⟨L,c,e,h1,h2,h3,h4,h5⟩:=this;exact⟨L,c,e,h1,h2,h3,oth _ _ zw h4,h5⟩
  |frz esz l=>exact this
  |map es c=>obtain⟨L,es',h1,h2,h3,h4,h5⟩:=this;exact⟨L,es',h1,h2,h3,oth _ _ zw h4,h5⟩
  |sit s pos=>obtain⟨L,h1,h2,h3,h4⟩:=this;exact⟨L,h1,h2,h3,oth _ _ zw h4⟩
  |mit m c seen last=>obtain⟨L,Lm,h1,h2,h3,h4,h5⟩:=this;exact⟨L,Lm,h1,h2,h3,oth _ _ zw h4,h5⟩
  |lp x=>obtain⟨L,h1,h2,h3,h4,r,k1,k2⟩:=this;exact⟨L,h1,h2,h3,h4,r,oth _ _ zw k1,k2⟩
  |dead=>trivial
end
section
inductive Zb where
 |ret (v:Fs)
 |pan (v:Fs)
def ERel(g:Yx):Zb->Ending->Prop
 | .ret a,.returned v=>VRel g a v
 | .pan a,.panicked chain=>∃v,chain=[{v,recovered:=false}]/\VRel g a v
 |_,_=>False
def BW(P:Program)(f:FuncId):Prop:=∃fn,P.funcs[f]?=some fn/\fn.body.isNone=false/\(fn.name== "runtime.NumGoroutine")=false
def AN(P:Program)(f:FuncId)(args:List Fs)(H:AC)(n:Nat)(R:Zb->AC->Nat->Prop):Prop:=
 BW P f/\∀g w vs,Z2 g H n w->VRels g args vs->
  Calls P f vs.toArray w λe w'=>∃g' out H' n',R out H' n'/\ERel g' out e/\Z2 g' H' n' w'/\n<=n'/\Yv n g H w g' H' w'
variable {H:AC} {args:List Fs} {n:Nat} {P:Program}
theorem AN.mono{f:FuncId}{R R':Zb->AC->Nat->Prop}(h:AN P f args H n R)(hr:∀o H' n',R o H' n'->R' o H' n'):AN P f args H n R':=
 ⟨h.1,λg w vs r v=>(h.2 g w vs r v).mono λe w' ⟨g',out,H',n',q,rest⟩=>⟨g',out,H',n',hr _ _ _ q,rest⟩⟩
def FR(r:Option Nat):Fence:={Fence.wide with round:=r}
def B2(P:Program)(l:Nat)(args:List Fs)(H:AC)(n:Nat)(R:Bool->AC->Nat->Prop):Prop:=
 ∀r g w vs,Z2 g H n w->VRels g args vs->∃f tmps assign body,(Instr.yield l vs.toArray).run P w= .ok (.round l f tmps assign body) w/\
  RoundIn (FR r) 0 P l f tmps assign body w λe w'=>∃b g' H' n',e= .returned (.bool b)/\R b H' n'/\Z2 g' H' n' w'/\n<=n'/\Yv n g H w g' H' w'
theorem B2.mono{l:Nat}{R R':Bool->AC->Nat->Prop}(h:B2 P l args H n R)(hr:∀b H' n',R b H' n'->R' b H' n'):B2 P l args H n R':=
 λr g w vs a b=>let ⟨f,tmps,as,bd,h1,h2⟩:=h r g w vs a b;⟨f,tmps,as,bd,h1,h2.mono λe w' ⟨b,g',H',n',k1,k2,k3⟩=>⟨b,g',H',n',k1,hr _ _ _ k2,k3⟩⟩
def Ab(P:Program)(f:FuncId)(args:List Fs)(H:AC)(n:Nat)(r:Fs):Prop:=
 AN P f args H n λout H' n'=>out= .ret r/\H'=H/\n'=n
def Wk(a b:Fs):Prop:=∀g v,VRel g a v->VRel g b v
theorem Wk.refl(a:Fs):Wk a a:=λ_ _ h=>h
def Pur(P:Program)(f:FuncId)(args:List Fs)(r:Fs):Prop:=
 unders 0 args/\r.under 0/\AN P f args hnil 0 λout _ _=>∃v,out= .ret v/\Wk v r
theorem Z2.sub{g:Yx}{w:World}(r:Z2 g H n w):Z2 ⟨λ_=>none,g.σ⟩ hnil 0 w where
 σw:=r.σw
 obj:=λ_ _ h=>by simp [hget,hnil]at h
 dom:=λ_ _ h=>by simp at h
 hd:=λ_ _ h=>by simp [hget,hnil]at h
 ap:=λ_ _ _ _ _ _ _ h=>by simp [hget,hnil]at h
 un:=λ_ _ _ _ h=>by simp [hget,hnil]at h
 gl:=λi cs h=>PStab.agree (n:=0) (g:=⟨λ_=>none,g.σ⟩) (g':=g) ⟨λ_ _ h=>absurd h (WE _),λ_ _ _ h=>h⟩ (λ_ _ x=>x) cs 0 (Hz i cs h) (r.gl i cs h)
 gz:=r.gz
theorem C8{g:Yx}{b o:Nat}:¬Dh g hnil b o:=by
 rintro⟨id,ob,L,h,_⟩;simp [hget,hnil]at h
theorem Pur.quiet{f:FuncId}{r:Fs}(h:Pur P f args r)(H:AC)(n:Nat):Ab P f args H n r:=by
 obtain⟨ha,hr,hcb,hc⟩:=h;refine⟨hcb,λg w vs hR hvs=>?_⟩;have hvs0:VRels ⟨λ_=>none,g.σ⟩ args vs:=VRels.agree (n:=0) (g:=⟨λ_=>none,g.σ⟩) (g':=g) ⟨λ_ _ h=>absurd h (WE _),λ_ _ _ h=>h⟩ args vs ha hvs;refine(hc ⟨λ_=>none,g.σ⟩ w vs hR.sub hvs0).mono ?_;rintro e w' ⟨g',out,H',n',⟨v,rfl,hw⟩,he,hR',-,ht⟩;cases e with
 |panicked c=>exact he.elim
 |outgrown=>exact he.elim
 |returned x=>
  have hx:VRel g' r x:=hw _ _ he
  have hσ:∀b o v,g.σ b o=some v->g'.σ b o=some v:=ht.le.σ;have old:∀b o v,b<w.heap.size->g'.σ b o=some v->g.σ b o=some v:=λb o v hb h=>(ht.nσ b o v hb h).resolve_right C8
  have keep:∀(b:Nat) ob,w.heap[b]?=some ob->w'.heap[b]?=some ob:=by
   intro b ob hb;have hk:=ht.kept b ob hb;cases ob<;>first|exact hk.resolve_left C8|skip
   obtain⟨c',h1,h2,h3⟩:=hk;rw[h1];congr 2;exact Array.ext_getElem? λi=>h3 i C8
  have gle:g.le ⟨g.β,g'.σ⟩:=⟨λ_ _ h=>h,hσ⟩;refine⟨⟨g.β,g'.σ⟩,.ret r,H,n,⟨rfl,rfl,rfl⟩,?_,?_,V4 _,?_⟩
  ·exact VRel.agree (n:=0) (g:=⟨g.β,g'.σ⟩) (g':=g') ⟨λ_ _ h=>absurd h (WE _),λ_ _ _ h=>h⟩ r x hr hx
  ·refine⟨hR'.σw,?_,?_,hR.hd,hR.ap,?_,hR.gl.mono gle,hR'.gz⟩
   ·intro id ob hob;have ho:=hR.obj id ob hob;cases ob with
    |box cs=>obtain⟨L,c,e,h1,h2,h3,h4,h5,h6⟩:=ho;exact⟨L,c,e,h1,h2,h3,keep _ _ h4,h5,PStab.mono gle (λ_ _ h=>h) cs 0 h6⟩
    |tok=>obtain⟨L,h1,h2⟩:=ho;exact⟨L,h1,λc6=>let ⟨c,e,h3,h4⟩:=h2 c6;⟨c,e,keep _ _ h3,h4⟩⟩
    |arr esz l=>obtain⟨L,c,e,h1,h2,h3,h4,h5,h6⟩:=ho;exact⟨L,c,e,h1,h2,h3,keep _ _ h4,h5,Stab.mono gle (λ_ _ h=>h) esz l 0 h6⟩
    |frz esz l=>obtain⟨L,h1,h2,h3⟩:=ho;exact⟨L,h1,h2,Stab.mono gle (hσ L.blk) esz l 0 h3⟩
    |map es c=>obtain⟨L,es',h1,h2,h3,h4,h5⟩:=ho;exact⟨L,es',h1,h2,h3,keep _ _ h4,MRel.mono gle _ _ h5⟩
    |sit s pos=>obtain⟨L,h1,h2,h3,h4⟩:=ho;exact⟨L,h1,h2,h3,keep _ _ h4⟩
    |mit m c seen last=>obtain⟨L,Lm,h1,h2,h3,h4,h5⟩:=ho;exact⟨L,Lm,h1,h2,h3,keep _ _ h4,h5⟩
    |lp x=>obtain⟨L,h1,h2,h3,h4,r,k1,k2,k3,k4,k5,k6,k7,k8⟩:=ho;exact⟨L,h1,h2,h3,h4,r,keep _ _ k1,k2,k3,k4,k5,k6,BU.mono gle k7,k8⟩
    |dead=>trivial
   ·intro id L hL;exact⟨(hR.dom id L hL).1,λc6=>X6 ((hR.dom id L hL).2 c6) ht.size⟩
   ·intro id ob L o q1 q2 q3 q4 q5;cases hs:g'.σ L.blk o with
    |none=>rfl
    |some v=>
     have hb:=(hR.dom id L q3).2 zo;have:=old _ _ _ hb hs;rw[hR.un id ob L o q1 q2 q3 q4 q5]at this;cases this
  ·exact⟨gle,λ_ _ h=>.inl h,ht.os,ht.tape,ht.output,ht.size,λb ob hb=>by rw[keep b ob hb];exact Kept.same _ _,λ_ _ _ h=>h,λb o v hb h=>.inl (old b o v hb h)⟩
end
section
inductive Yy where
 |t (i:Nat)
 |c (v:Fs)
def isI(k:IntKind):Fs->Prop
 | .int k' _=>k'=k
 |_=>False
def CP:Fs->Prop
 | .int _ _=>True
 |_=>False
def toI:Fs->Int
 | .int _ n=>n
 |_=>0
def isB:Fs->Prop
 | .bool _=>True
 |_=>False
def toB:Fs->Bool
 | .bool b=>b
 |_=>false
def isS:Fs->Prop
 | .str _=>True
 |_=>False
def toS:Fs->List UInt8
 | .str s=>s
 |_=>[]
def isF:Fs->Prop
 | .ifc _ _=>True
 |_=>False
def Jp:BinOp->Bool
 | .quo| .rem=>true
 |_=>false
def FT(op:BinOp)(k:IntKind)(x y:Int):Int:=
 let a:=BitVec.ofInt k.bits x
 let b:=BitVec.ofInt k.bits y
 match op with
 | .and=>k.wrap (a&&&b).toNat
 | .or=>k.wrap (a|||b).toNat
 | .xor=>k.wrap (a^^^b).toNat
 |_=>k.wrap (a&&& ~~~b).toNat
def C9(op:BinOp)(k:IntKind)(x y:Int):Int:=
 match op with
 | .add=>k.wrap (x+y)
 | .sub=>k.wrap (x-y)
 | .mul=>k.wrap (x*y)
 | .quo=>k.wrap (x.tdiv y)
 | .rem=>x.tmod y
 |op=>FT op k x y
def CK(op:BinOp)(k:IntKind)(x y:Int):Int:=
 match op with
 | .shl=>k.wrap (x*2^(min y.toNat k.bits))
 |_=>x.fdiv (2^(min y.toNat k.bits))
def icmp(op:BinOp)(x y:Int):Bool:=
 match op with
 | .eql=>decide (x=y)
 | .neq=>!decide (x=y)
 | .lss=>decide (x<y)
 | .leq=>decide (x<=y)
 | .gtr=>decide (y<x)
 |_=>decide (y<=x)
def scmp(op:BinOp)(x y:List UInt8):Bool:=
 match op with
 | .eql=>decide (x=y)
 | .neq=>!decide (x=y)
 | .lss=>Op.bytesLess x y
 | .leq=>Op.bytesLess x y||decide (x=y)
 | .gtr=>!(Op.bytesLess x y||decide (x=y))
 |_=>!Op.bytesLess x y
mutual
def ceq:Fs->Fs->Bool
 | .int _ a,.int _ b=>decide (a=b)
 | .bool a,.bool b=>a==b
 | .str a,.str b=>decide (a=b)
 | .agg xs,.agg ys=>ceqs xs ys
 |_,_=>false
def ceqs:List Fs->List Fs->Bool
 |[],[]=>true
 |x::xs,y::ys=>ceq x y&&ceqs xs ys
 |_,_=>false
end
def cfit:List Nat->List Fs->List Fs->Prop
 |[],[],[]=>True
 |0::fs,.int k _::xs,.int k' _::ys=>k=k'/\cfit fs xs ys
 |1::fs,.bool _::xs,.bool _::ys=>cfit fs xs ys
 |2::fs,.str _::xs,.str _::ys=>cfit fs xs ys
 |_,_,_=>False
def nT:Fs->Prop
 | .tup _=>False
 |_=>True
def mk(ag:Bool)(cs:List Fs):Fs:=if ag then .agg cs else cs.headD (.tup [])
def splice(cs:List Fs)(off:Nat)(xs:List Fs):List Fs:=cs.take off++xs++cs.drop (off+xs.length)
inductive Z1 where
 |mv (x:Yy)
 |arith (op:BinOp) (k:IntKind) (x y:Yy)
 |shift (op:BinOp) (k ky:IntKind) (x y:Yy)
 |icmp (op:BinOp) (k:IntKind) (x y:Yy)
 |beq (neq:Bool) (x y:Yy)
 |sadd (x y:Yy)
 |scmp (op:BinOp) (x y:Yy)
 |not (x:Yy)
 |neg (k:IntKind) (x:Yy)
 |conv (k:IntKind) (x:Yy)
 |sid (x:Yy)
 |fa (off:Nat) (x:Yy)
 |fld (off sz:Nat) (ag:Bool) (x:Yy)
 |ld (sz:Nat) (ag:Bool) (x:Yy)
 |ia (esz:Nat) (x i:Yy)
 |iaA (n esz:Nat) (x i:Yy)
 |ixS (x i:Yy)
 |ixA (n esz:Nat) (ag:Bool) (x i:Yy)
 |slS (x:Yy) (lo hi:Option Yy)
 |sl (esz:Nat) (x:Yy) (lo hi mx:Option Yy)
 |lenS (x:Yy)
 |len (x:Yy)
 |mnmx (mx:Bool) (k:IntKind) (xs:List Yy)
 |build (zero:List Fs) (parts:List (Nat×Nat×Yy))
 |bs (esz n:Nat) (zero:Fs) (parts:List (Nat×Yy))
 |mkz (esz bytes:Nat) (zero:Fs) (n:Yy)
 |b2s (x:Yy)
 |s2b (x:Yy)
 |fn (f:Fn) (first cap:List Yy)
 |ext (i:Nat) (x:Yy)
 |ifc (t:TypeId) (x:Yy)
 |nilc (x:Yy)
 |aeq (neq:Bool) (fs:List Nat) (x y:Yy)
 |capx (x:Yy)
 |cmpl (k:IntKind) (x:Yy)
 |slp (n:Nat) (x:Yy) (lo hi:Option Yy)
def Z1.opds:Z1->List Yy
 | .mv x| .sid x| .not x| .neg _ x| .conv _ x| .fa _ x| .fld _ _ _ x| .ld _ _ x| .lenS x| .len x| .mkz _ _ _ x| .b2s x| .s2b x| .ext _ x| .ifc _ x| .nilc x| .capx x| .cmpl _ x=>[x]
 | .arith _ _ x y| .shift _ _ _ x y| .icmp _ _ x y| .beq _ x y| .sadd x y| .scmp _ x y| .ia _ x y| .iaA _ _ x y| .ixS x y| .ixA _ _ _ x y| .aeq _ _ x y=>[x,y]
 | .slS x lo hi| .slp _ x lo hi=>x::(lo.toList++hi.toList)
 | .sl _ x lo hi mx=>x::(lo.toList++hi.toList++mx.toList)
 | .mnmx _ _ xs=>xs
 | .build _ ps=>ps.map (·.2.2)
 | .bs _ _ _ ps=>ps.map (·.2)
 | .fn _ a b=>a++b
def Ay(H:AC)(sz:Nat)(ag:Bool):Fs->Prop×Fs
 | .ptr id off=>match hget H id with
  |some (.box cs)=>(off+sz<=cs.length,mk ag ((cs.drop off).take sz))
  |_=>(False,.tup [])
 | .ep cs=>(sz<=cs.length,mk ag (cs.take sz))
 | .ap id esz i off=>match hget H id with
  |some (.arr e l)|some (.frz e l)=>(e=esz/\i<l.length/\off+sz<=esz,mk ag (((l[i]?.getD (.tup [])).cells.drop off).take sz))
  |_=>(False,.tup [])
 |_=>(False,.tup [])
def bnd(ρ:Yy->Fs)(d:Int):Option Yy->Int
 |none=>d
 |some x=>toI (ρ x)
def bndI(ρ:Yy->Fs):Option Yy->Prop
 |none=>True
 |some x=>CP (ρ x)
def small(n bytes:Nat):Prop:=n*bytes<=35184372088832
def EB(tok:Zd)(len lo hi:Int)(mx:Option Int):Zd:=
 match tok with
 | .nil=>.nil
 | .own _ e=>(match mx with|none=>.none e|some m=>if m=hi then .exact e else .none e)
 | .none e=>(match mx with|none=>.none e|some m=>if m=hi then .exact e else .none e)
 | .exact e=>(match mx with|none=>if hi=len then .exact e else .none e|some m=>if m=hi then .exact e else .none e)
def Eu(esz:Nat)(ρ:Yy->Fs)(lo hi:Option Yy)(id e off len cap:Nat):Option Yy->Prop×Fs
 |none=>(e=esz/\len<=cap/\bndI ρ lo/\bndI ρ hi/\0<=bnd ρ 0 lo/\bnd ρ 0 lo<=bnd ρ len hi/\(bnd ρ len hi<=len\/bnd ρ len hi<=cap)/\bnd ρ 0 lo<cap,
    .ref id e (off+(bnd ρ 0 lo).toNat) ((bnd ρ len hi).toNat-(bnd ρ 0 lo).toNat) (cap-(bnd ρ 0 lo).toNat))
 |some m=>(e=esz/\hi≠none/\bndI ρ lo/\bndI ρ hi/\CP (ρ m)/\bnd ρ 0 lo=0/\bnd ρ len hi=0/\toI (ρ m)=0,.sl (.exact e) [])
def evMM(ρ:Yy->Fs)(mx:Bool)(k:IntKind)(xs:List Yy):Prop×Fs:=((∀x∈xs,isI k (ρ x))/\xs≠[],.int k (match xs with
  |[]=>0
  |x::r=>r.foldl (λm y=>if mx then max m (toI (ρ y))else min m (toI (ρ y))) (toI (ρ x))))
def evB(ρ:Yy->Fs)(zero:List Fs)(parts:List (Nat×Nat×Yy)):Prop×Fs:=
 ((∀p∈parts,nT (ρ p.2.2)/\(ρ p.2.2).cells.length=p.2.1/\p.1+p.2.1<=zero.length),.agg (parts.foldl (λcs p=>splice cs p.1 (ρ p.2.2).cells) zero))
def evS(ρ:Yy->Fs)(esz n:Nat)(zero:Fs)(parts:List (Nat×Yy)):Prop×Fs:=
 ((∀p∈parts,nT (ρ p.2)/\(ρ p.2).cells.length=esz/\p.1<n)/\zero.cells.length=esz/\n*esz<=16777216,.sl (.exact esz) (parts.foldl (λl p=>l.set p.1 (ρ p.2)) (List.replicate n zero)))
def evk(H:AC)(ρ:Yy->Fs):Z1->Prop×Fs
 | .mv x=>(True,ρ x)
 | .arith op k x y=>(isI k (ρ x)/\isI k (ρ y)/\(Jp op=true->toI (ρ y)≠0),.int k (C9 op k (toI (ρ x)) (toI (ρ y))))
 | .shift op k ky x y=>(isI k (ρ x)/\isI ky (ρ y)/\0<=toI (ρ y),.int k (CK op k (toI (ρ x)) (toI (ρ y))))
 | .icmp op k x y=>(isI k (ρ x)/\isI k (ρ y),.bool (icmp op (toI (ρ x)) (toI (ρ y))))
 | .beq neq x y=>(isB (ρ x)/\isB (ρ y),.bool (if neq then toB (ρ x) !=toB (ρ y)else toB (ρ x)==toB (ρ y)))
 | .sadd x y=>(isS (ρ x)/\isS (ρ y)/\small ((toS (ρ x)).length+(toS (ρ y)).length) 1,.str (toS (ρ x)++toS (ρ y)))
 | .scmp op x y=>(isS (ρ x)/\isS (ρ y),.bool (scmp op (toS (ρ x)) (toS (ρ y))))
 | .not x=>(isB (ρ x),.bool (!toB (ρ x)))
 | .neg k x=>(isI k (ρ x),.int k (k.wrap (0-toI (ρ x))))
 | .sid x=>(isS (ρ x),.str (toS (ρ x)))
 | .conv k x=>(CP (ρ x),.int k (k.wrap (toI (ρ x))))
 | .fa off x=>match ρ x with
  | .ptr id o=>(True,.ptr id (o+off))
  | .ep cs=>(True,.ep (cs.drop off))
  | .ap id e i o=>(True,.ap id e i (o+off))
  |_=>(False,.tup [])
 | .fld off sz ag x=>match ρ x with
  | .agg cs=>(off+sz<=cs.length,mk ag ((cs.drop off).take sz))
  |_=>(False,.tup [])
 | .ld sz ag x=>Ay H sz ag (ρ x)
 | .ia esz x i=>match ρ x with
  | .sl tok l=>(tok.esz=esz/\CP (ρ i)/\0<=toI (ρ i)/\toI (ρ i)<l.length,.ep (l[(toI (ρ i)).toNat]?.getD (.tup [])).cells)
  | .ref id e off len _=>(e=esz/\CP (ρ i)/\0<=toI (ρ i)/\toI (ρ i)<len,.ap id e (off+(toI (ρ i)).toNat) 0)
  |_=>(False,.tup [])
 | .iaA n esz x i=>match ρ x with
  | .ptr id o=>(CP (ρ i)/\0<=toI (ρ i)/\toI (ρ i)<n,.ptr id (o+(toI (ρ i)).toNat*esz))
  | .ep cs=>(CP (ρ i)/\0<=toI (ρ i)/\toI (ρ i)<n,.ep (cs.drop ((toI (ρ i)).toNat*esz)))
  |_=>(False,.tup [])
 | .ixS x i=>(isS (ρ x)/\CP (ρ i)/\0<=toI (ρ i)/\toI (ρ i)<(toS (ρ x)).length,.int .u8 ((toS (ρ x))[(toI (ρ i)).toNat]?.getD 0).toNat)
 | .ixA n esz ag x i=>match ρ x with
  | .agg cs=>(CP (ρ i)/\0<=toI (ρ i)/\toI (ρ i)<n/\(toI (ρ i)).toNat*esz+esz<=cs.length,mk ag ((cs.drop ((toI (ρ i)).toNat*esz)).take esz))
  |_=>(False,.tup [])
 | .slS x lo hi=>(isS (ρ x)/\bndI ρ lo/\bndI ρ hi/\0<=bnd ρ 0 lo/\bnd ρ 0 lo<=bnd ρ (toS (ρ x)).length hi/\bnd ρ (toS (ρ x)).length hi<=(toS (ρ x)).length,
   .str (((toS (ρ x)).take (bnd ρ (toS (ρ x)).length hi).toNat).drop (bnd ρ 0 lo).toNat))
 | .sl esz x lo hi mx=>match ρ x with
  | .sl tok l=>((tok= .nil\/tok.esz=esz)/\bndI ρ lo/\bndI ρ hi/\bndI ρ mx/\(mx≠none->hi≠none)/\0<=bnd ρ 0 lo/\bnd ρ 0 lo<=bnd ρ l.length hi/\bnd ρ l.length hi<=l.length/\
     (∀m,mx=some m->bnd ρ l.length hi<=toI (ρ m)/\toI (ρ m)<=l.length),
    .sl (EB tok l.length (bnd ρ 0 lo) (bnd ρ l.length hi) (mx.map λm=>toI (ρ m))) ((l.take (bnd ρ l.length hi).toNat).drop (bnd ρ 0 lo).toNat))
  | .ref id e off len cap=>Eu esz ρ lo hi id e off len cap mx
  |_=>(False,.tup [])
 | .lenS x=>(isS (ρ x),.int .i64 (toS (ρ x)).length)
 | .len x=>match ρ x with
  | .sl _ l=>(True,.int .i64 l.length)
  | .ref _ _ _ len _=>(True,.int .i64 len)
  |_=>(False,.tup [])
 | .mnmx mx k xs=>evMM ρ mx k xs
 | .build zero parts=>evB ρ zero parts
 | .bs esz n zero parts=>evS ρ esz n zero parts
 | .mkz esz bytes zero n=>(CP (ρ n)/\0<=toI (ρ n)/\small (toI (ρ n)).toNat bytes/\toI (ρ n)<=35184372088832/\zero.cells.length=esz,.sl (.exact esz) (List.replicate (toI (ρ n)).toNat zero))
 | .b2s x=>match ρ x with
  | .sl tok l=>((tok= .nil\/tok.esz=1)/\∃bs:List UInt8,l=bs.map λb=>.int .u8 b.toNat,.str (l.map λv=>UInt8.ofNat (toI v).toNat))
  |_=>(False,.tup [])
 | .s2b x=>(isS (ρ x),.sl (.none 1) ((toS (ρ x)).map λb=>.int .u8 b.toNat))
 | .fn f a b=>(True,.fn f (a.map ρ) (b.map ρ))
 | .ext i x=>match ρ x with
  | .tup vs=>(i<vs.length,vs[i]?.getD (.tup []))
  |_=>(False,.tup [])
 | .ifc t x=>(True,.ifc t (ρ x))
 | .nilc x=>match ρ x with
  | .ptr id o=>(True,.ptr id o)
  | .ep cs=>(True,.ep cs)
  | .ap id e i o=>(True,.ap id e i o)
  | .ifc t v=>(True,.ifc t v)
  | .fn (.func f) a b=>(True,.fn (.func f) a b)
  |_=>(False,.tup [])
 | .aeq neq fs x y=>match ρ x,ρ y with
  | .agg xs,.agg ys=>(cfit fs xs ys,.bool (if neq then !ceqs xs ys else ceqs xs ys))
  |_,_=>(False,.tup [])
 | .capx x=>match ρ x with
  | .sl .nil []=>(True,.int .i64 0)
  | .ref _ _ _ _ cap=>(True,.int .i64 cap)
  |_=>(False,.tup [])
 | .cmpl k x=>(isI k (ρ x),.int k (C9 .xor k (if k.signed then -1 else k.max) (toI (ρ x))))
 | .slp n x lo hi=>match ρ x with
  | .ptr id 0=>(bndI ρ lo/\bndI ρ hi/\0<=bnd ρ 0 lo/\bnd ρ 0 lo<=bnd ρ n hi/\bnd ρ n hi<=n/\bnd ρ 0 lo<n,.ref id 1 (bnd ρ 0 lo).toNat ((bnd ρ n hi).toNat-(bnd ρ 0 lo).toNat) (n-(bnd ρ 0 lo).toNat))
  |_=>(False,.tup [])
inductive KT where
 |int (k:IntKind)
 |bool
 |str
 |arr (n:Nat) (k:IntKind)
def isIs(k:IntKind):Nat->List Fs->Prop
 |0,[]=>True
 |n+1,.int k' _::r=>k'=k/\isIs k n r
 |_,_=>False
def KT.is:KT->Fs->Prop
 | .arr n k,.agg xs=>isIs k n xs
 | .int k,.int k' _=>k'=k
 | .bool,.bool _=>True
 | .str,.str _=>True
 |_,_=>False
def BN(k:Fs):List (Fs×Fs×Nat)->Option Fs
 |[]=>none
 |(k',v,_)::r=>if ceq k k'=true then some v else BN k r
def mset(k v:Fs)(c:Nat):List (Fs×Fs×Nat)->List (Fs×Fs×Nat)
 |[]=>[(k,v,c)]
 |(k',v',b)::r=>if ceq k k'=true then(k',v,b)::r else(k',v',b)::mset k v c r
def Di(kt:KT):List (Fs×Fs×Nat)->Prop
 |[]=>True
 |(k',_,_)::r=>kt.is k'/\Di kt r
def CQ(zero:Fs)(ok:Bool)(o:Option Fs):Fs:=if ok=true then .tup [o.getD zero,.bool o.isSome]else o.getD zero
def K5(s:Nat):List (Fs×Fs×Nat)->Option (Fs×Fs)
 |[]=>none
 |(k,v,b)::r=>if b=s then some (k,v)else K5 s r
def Gj(H:AC)(m:Nat)(seen:List Nat):Option (Fs×Fs):=match hget H m,seen.getLast? with
 |some (.map es _),some s=>K5 s es
 |_,_=>none
inductive XOp where
 |mkm (rel:Nat)
 |look (kt:KT) (zero:Fs) (ok:Bool)
 |mput (kt:KT)
 |mlen
 |srng (rel:Nat)
 |mrng (rel:Nat)
 |ment
 |snext
 |i2s
 |nileq (kd:Nat) (neq:Bool)
 |tas (t:TypeId) (ok:Bool) (zero:Fs)
 |cpy (esz:Nat) (str:Bool)
 |slx (n esz:Nat) (lo hi:Bool)
 |bsm (rel esz n:Nat) (zero:Fs) (is:List Nat)
 |mkc (rel esz bytes:Nat) (zero:Fs) (l c:Nat)
 |cpb
def isIn:Fs->Bool
 | .int _ _=>true
 |_=>false
def grp(esz:Nat):Nat->List Fs->List Fs
 |0,_=>[]
 |n+1,cs=>.agg (cs.take esz)::grp esz n (cs.drop esz)
def slxE(H:AC)(n esz:Nat)(lo hi:Int):Fs->Prop×AC×Fs
 | .ptr id 0=>match hget H id with
  |some (.box cs)=>(cs.length=n*esz/\0<=lo/\lo<=hi/\hi<=n/\lo<n,hset H id (.arr esz (grp esz n cs)),.ref id esz lo.toNat (hi.toNat-lo.toNat) (n-lo.toNat))
  |some (.arr e l)=>(e=esz/\l.length=n/\0<=lo/\lo<=hi/\hi<=n/\lo<n,H,.ref id esz lo.toNat (hi.toNat-lo.toNat) (n-lo.toNat))
  |_=>(False,H,.tup [])
 |_=>(False,H,.tup [])
def srcV(H:AC)(esz:Nat)(v:Fs):Bool->Option (List Fs)
 |true=>match v with
  | .str s=>some (s.map λb=>.int .u8 b.toNat)
  |_=>none
 |false=>match v with
  | .sl tok l=>if tok.esz=esz\/l.length=0 then some l else none
  | .ref id e off len cap=>match hget H id with
   |some (.arr e' l)=>if e=esz/\e'=esz/\off+len<=l.length then some ((l.drop off).take len)else none
   |_=>none
  |_=>none
def bsmS(esz n:Nat):List Nat->List Fs->Prop
 |[],[]=>True
 |i::is,v::vs=>nT v/\v.cells.length=esz/\i<n/\bsmS esz n is vs
 |_,_=>False
def bsmF:List Nat->List Fs->List Fs->List Fs
 |i::is,v::vs,l=>bsmF is vs (l.set i v)
 |_,_,l=>l
def cpbE(H:AC):Fs->Fs->Prop×AC×Fs
 | .ref id e off len _,.ref id2 e2 off2 len2 _=>match hget H id with
  |some (.box cs)=>(e=1/\e2=1/\id2=id/\off+len<=cs.length/\off2+len2<=cs.length/\cs.all isIn=true,hset H id (.box (cs.take off++((cs.drop off2).take len2).take (min len2 len)++cs.drop (off+min len2 len))),.int .i64 (min len2 len:Nat))
  |_=>(False,H,.tup [])
 |_,_=>(False,H,.tup [])
def xE(base:Nat):XOp->AC->List Fs->Prop×AC×Fs
 | .mkm rel,H,[]=>(hget H (base+rel)=none,hset H (base+rel) (.map [] 0),.mp (base+rel))
 | .look kt zero ok,H,[.mp id,k]=>match hget H id with
  |some (.map es _)=>(kt.is k/\Di kt es,H,CQ zero ok (BN k es))
  |_=>(False,H,.tup [])
 | .look kt zero ok,H,[.nilmp,k]=>(kt.is k,H,CQ zero ok none)
 | .mput kt,H,[.mp id,k,v]=>match hget H id with
  |some (.map es c)=>(kt.is k/\Di kt es/\nT v,hset H id (.map (mset k v c es) (if(BN k es).isSome=true then c else c+1)),.tup [])
  |_=>(False,H,.tup [])
 | .mlen,H,[.mp id]=>match hget H id with
  |some (.map es _)=>(True,H,.int .i64 es.length)
  |_=>(False,H,.tup [])
 | .mlen,H,[.nilmp]=>(True,H,.int .i64 0)
 | .mrng rel,H,[.mp m]=>match hget H m with
  |some (.map es c)=>(hget H (base+rel)=none,hset H (base+rel) (.mit m c [] c),.ptr (base+rel) 0)
  |_=>(False,H,.tup [])
 | .ment,H,[.ptr id 0]=>match hget H id with
  |some (.mit m _ seen last)=>(match hget H m,Gj H m seen with
   |some (.map _ clk),some (k,v)=>(clk=last,H,.tup [k,v])
   |_,_=>(False,H,.tup []))
  |_=>(False,H,.tup [])
 | .srng rel,H,[.str s]=>(hget H (base+rel)=none,hset H (base+rel) (.sit s 0),.ptr (base+rel) 0)
 | .snext,H,[.ptr id 0]=>match hget H id with
  |some (.sit s pos)=>(True,if pos<s.length then hset H id (.sit s (pos+(Utf8.decode ⟨s.toArray⟩ pos).2))else H,
    if pos<s.length then .tup [.bool true,.int .i64 pos,.int .i32 (Utf8.decode ⟨s.toArray⟩ pos).1]else .tup [.bool false])
  |_=>(False,H,.tup [])
 | .i2s,H,[.int _ n]=>(True,H,.str (Utf8.encode n).data.toList)
 | .nileq 0 neq,H,[.ifc _ _]=>(True,H,.bool neq)
 | .nileq 1 neq,H,[.ptr _ _]=>(True,H,.bool neq)
 | .nileq 1 neq,H,[.ep _]=>(True,H,.bool neq)
 | .nileq 1 neq,H,[.gp _]=>(True,H,.bool neq)
 | .nileq 1 neq,H,[.ap _ _ _ _]=>(True,H,.bool neq)
 | .nileq 1 neq,H,[.up]=>(True,H,.bool neq)
 | .nileq 2 neq,H,[.fn _ _ _]=>(True,H,.bool neq)
 | .nileq 0 neq,H,[.nilifc]=>(True,H,.bool (!neq))
 | .nileq 1 neq,H,[.nilp]=>(True,H,.bool (!neq))
 | .nileq 2 neq,H,[.nilfn]=>(True,H,.bool (!neq))
 | .tas t false _,H,[.ifc t' v]=>(t'=t,H,v)
 | .tas t true zero,H,[.ifc t' v]=>(True,H,if t'=t then .tup [v,.bool true]else .tup [zero,.bool false])
 | .tas _ true zero,H,[.nilifc]=>(True,H,.tup [zero,.bool false])
 | .slx n esz false false,H,[v]=>slxE H n esz 0 n v
 | .slx n esz true false,H,[v,.int _ a]=>slxE H n esz a n v
 | .slx n esz false true,H,[v,.int _ b]=>slxE H n esz 0 b v
 | .slx n esz true true,H,[v,.int _ a,.int _ b]=>slxE H n esz a b v
 | .cpy esz str,H,[.ref id e off len cap,y]=>match hget H id,srcV H esz y str with
  |some (.arr e' l),some l'=>(e=esz/\e'=esz/\off+len<=l.length,hset H id (.arr esz (l.take off++l'.take (min l'.length len)++l.drop (off+min l'.length len))),.int .i64 (min l'.length len:Nat))
  |_,_=>(False,H,.tup [])
 | .bsm rel esz n zero is,H,vs=>(hget H (base+rel)=none/\bsmS esz n is vs/\zero.cells.length=esz/\n*esz<=16777216,hset H (base+rel) (.arr esz (bsmF is vs (List.replicate n zero))),.ref (base+rel) esz 0 n n)
 | .cpb,H,[x,y]=>cpbE H x y
 | .mkc rel esz bytes zero l c,H,[]=>(hget H (base+rel)=none/\l<=c/\small c bytes/\c<=35184372088832,hset H (base+rel) (.arr esz (List.replicate c zero)),.ref (base+rel) esz 0 l c)
 |_,H,_=>(False,H,.tup [])
inductive Io where
 |v (k:Z1)
 |pick (c a b:Yy)
 |alloc (rel:Nat) (cs:List Fs)
 |box (rel sz:Nat) (x:Yy)
 |st (sz:Nat) (a x:Yy)
 |app (rel esz bytes:Nat) (s x:Yy) (str:Bool)
 |mks (rel esz bytes:Nat) (zero:Fs) (n:Yy)
 |call (quiet:Bool) (f:Yy) (args:List Yy)
 |pan (x:Yy)
 |slA (n:Nat) (x:Yy) (lo hi:Option Yy)
 |ext (x:XOp) (xs:List Yy)
 |appR (rel esz bytes:Nat) (zero:Fs) (s x:Yy) (str:Bool)
 |appZ (rel esz bytes:Nat) (zero:Fs) (s n:Yy)
 |nils (neq:Bool) (x:Yy)
 |cpu (f:Yy) (args:List Yy)
 |mnx (x:Yy)
def Io.news:Io->Bool
 | .alloc .. | .box .. | .mks .. | .app .. | .appR .. | .appZ .. | .ext (.mkm _) _| .ext (.bsm ..) _| .ext (.mkc ..) _| .ext (.srng _) _| .ext (.mrng _) _=>true
 |_=>false
def Io.opds:Io->List Yy
 | .v k=>k.opds
 | .pick c a b=>[c,a,b]
 | .alloc _ _=>[]
 | .box _ _ x=>[x]
 | .st _ a x=>[a,x]
 | .app _ _ _ a x _=>[a,x]
 | .mks _ _ _ _ x=>[x]
 | .call _ f xs=>f::xs
 | .pan x=>[x]
 | .slA _ x lo hi=>x::(lo.toList++hi.toList)
 | .ext _ xs=>xs
 | .appR _ _ _ _ a x _=>[a,x]
 | .appZ _ _ _ _ a x=>[a,x]
 | .nils _ x=>[x]
 | .cpu f xs=>f::xs
 | .mnx x=>[x]
structure Z9 where
 dst:Option Nat
 guard:Option (Nat×Bool)
 k:Io
structure AS where
 env:List (Nat×Bool×Fs)
 H:AC
 n:Nat
def lk(env:List (Nat×Bool×Fs)):Yy->Bool×Fs
 | .t i=>match eget env i with
  |some x=>x
  |none=>(false,.tup [])
 | .c v=>(true,v)
def lkv(env:List (Nat×Bool×Fs))(x:Yy):Fs:=(lk env x).2
def oks(env:List (Nat×Bool×Fs)):List Yy->Prop
 |[]=>True
 |x::r=>(lk env x).1=true/\oks env r
def AS.put(s:AS)(dst:Option Nat)(g:Bool)(v:Fs):AS:=
 match dst with
 |none=>s
 |some d=>{s with env:=(d,g,v)::s.env}
def AS.keep(s:AS)(l:List Nat):AS:={s with env:=l.filterMap λt=>(eget s.env t).map λx=>(t,x)}
def gok(env:List (Nat×Bool×Fs)):Option (Nat×Bool)->Prop
 |none=>True
 |some (t,_)=>match eget env t with
  |none=>False
  |some (g,v)=>g=true->isB v
def gvb(env:List (Nat×Bool×Fs)):Option (Nat×Bool)->Bool
 |none=>true
 |some (t,w)=>(lk env (.t t)).1&&(toB (lkv env (.t t))==w)
def sel(b:Bool):Fs->Fs->Fs
 | .bool x,.bool y=>.bool (bif b then x else y)
 |x,y=>bif b then x else y
def Bz(H:AC)(ρ:Yy->Fs)(esz:Nat)(x:Yy):Bool->Option (List Fs)
 |true=>match ρ x with
  | .str s=>some (s.map λb=>.int .u8 b.toNat)
  |_=>none
 |false=>match ρ x with
  | .sl tok l=>if tok.esz=esz\/l.length=0 then some l else none
  | .ref id e off len cap=>match hget H id with
   |some (.arr e' l)=>if e=esz/\e'=esz/\off+len<=l.length then some ((l.drop off).take len)else none
   |_=>none
  |_=>none
def Gk(H:AC)(n:Nat)(lo hi:Int)(K:AC->Fs->Prop):Fs->Prop
 | .ptr id 0=>match hget H id with
  |some (.box cs)=>cs.length=n/\0<=lo/\lo<=hi/\hi<=n/\lo<n/\K (hset H id (.arr 1 cs)) (.ref id 1 lo.toNat (hi.toNat-lo.toNat) (n-lo.toNat))
  |some (.arr e cs)=>e=1/\cs.length=n/\0<=lo/\lo<=hi/\hi<=n/\lo<n/\K H (.ref id 1 lo.toNat (hi.toNat-lo.toNat) (n-lo.toNat))
  |_=>False
 |_=>False
variable {H H':AC} {K K':AC->Fs->Prop} {zero v v':Fs} {n id esz bytes sz:Nat} {cx:Nat->Fs}
theorem NR{lo hi:Int}(h:∀H v,K H v->K' H v):∀{v:Fs},Gk H n lo hi K v->Gk H n lo hi K' v:=by
 intro v;unfold Gk;split
 ·grind
 ·exact id
def At(H:AC)(esz:Nat):Zd->Prop
 | .nil=>True
 | .none _=>False
 | .exact e=>e=esz
 | .own id e=>e=esz/\hget H id=some .tok
def AL(H:AC):Zd->AC
 | .own id _=>hset H id .dead
 |_=>H
def DQ(H:AC)(id esz bytes:Nat)(zero:Fs)(K:AC->Fs->Prop):Fs->Option (List Fs)->Prop
 | .sl tok l,some l'=>hget H id=none/\0<esz/\zero.cells.length=esz/\(tok= .nil\/tok= .exact esz)/\small (l.length+l'.length) bytes/\l.length+l'.length<=35184372088832/\
   (l'=[]->K H (.sl tok l))/\
   (l'≠[]->∀cap,l.length+l'.length<=cap->K (hset H id (.arr esz (l++l'++List.replicate (cap-(l.length+l'.length)) zero))) (.ref id esz 0 (l.length+l'.length) cap))
 | .ref i0 e off len cap,some l'=>hget H id=none/\0<esz/\zero.cells.length=esz/\e=esz/\off=0/\small (len+l'.length) bytes/\len+l'.length<=35184372088832/\
   (match hget H i0 with
   |some (.arr e' l)=>e'=esz/\l.length=cap/\len<=cap/\
     (len+l'.length<=cap->K (hset H i0 (.arr esz (l.take len++l'++l.drop (len+l'.length)))) (.ref i0 esz 0 (len+l'.length) cap))/\
     (cap<len+l'.length->∀cap',len+l'.length<=cap'->K (hset H id (.arr esz (l.take len++l'++List.replicate (cap'-(len+l'.length)) zero))) (.ref id esz 0 (len+l'.length) cap'))
   |_=>False)
 |_,_=>False
theorem E6(h:∀H v,K H v->K' H v){x:Option (List Fs)}:DQ H id esz bytes zero K v x->DQ H id esz bytes zero K' v x:=by
 intro q;unfold DQ at q⊢;split at q
 ·simp_all
 ·grind
 ·exact q
def F6(H:AC)(id esz bytes:Nat)(zero:Fs)(K:AC->Fs->Prop):Fs->Fs->Prop
 | .sl .nil [],.int _ k=>0<=k/\DQ H id esz bytes zero K (.sl .nil []) (some (List.replicate k.toNat zero))
 |_,_=>False
theorem K6(h:∀H v,K H v->K' H v){x:Fs}:F6 H id esz bytes zero K v x->F6 H id esz bytes zero K' v x:=by
 intro q;unfold F6 at q⊢;split at q
 ·exact⟨q.1,E6 h q.2⟩
 ·exact q.elim
def DL(old:Fs)(off sz esz:Nat)(v:Fs):Prop×Fs:=if off=0/\sz=esz then(True,v)else match old with
 | .agg cs=>(cs.length=esz/\off+sz<=esz,.agg (splice cs off v.cells))
 |_=>(False,v)
theorem Jq{old v:Fs}{n:Nat}:DL old 0 n n v=(True,v):=by simp [DL]
theorem EI{cs:List Fs}{off:Nat}(h:(off=0/\sz=esz)=False):DL (.agg cs) off sz esz v=(cs.length=esz/\off+sz<=esz,.agg (splice cs off v.cells)):=by simp [DL,h]
def FU(K:Bool->Prop)(neq:Bool):Fs->Prop
 | .sl .nil []=>K (!neq)
 | .sl _ []=>K neq/\K (!neq)
 | .sl _ (_::_)=>K neq
 | .ref _ _ _ _ _=>K neq
 |_=>False
theorem K7{K K':Bool->Prop}(h:∀b,K b->K' b){neq:Bool}:FU K neq v->FU K' neq v:=by
 intro q;unfold FU at q⊢;split at q
 ·exact h _ q
 ·exact⟨h _ q.1,h _ q.2⟩
 ·exact h _ q
 ·exact h _ q
 ·exact q.elim
def Cp(es:List (Fs×Fs×Nat))(seen:List Nat):List (Fs×Fs×Nat):=es.filter λe=>!seen.contains e.2.2
def Hg(H:AC)(K:AC->Fs->Prop):Fs->Prop
 | .ptr id 0=>match hget H id with
  |some (.mit m c seen last)=>(match hget H m with
   |some (.map es clk)=>c<=clk/\(∀e∈es,e.2.2<c)/\(Cp es seen=[]->K H (.tup [.bool false]))/\∀e∈Cp es seen,K (hset H id (.mit m c (seen++[e.2.2]) clk)) (.tup [.bool true,e.1,e.2.1])
   |_=>False)
  |_=>False
 |_=>False
theorem NS(h:∀H v,K H v->K' H v):Hg H K v->Hg H K' v:=by
 intro q;unfold Hg at q⊢;split at q
 ·split at q
  ·grind
  ·exact q.elim
 ·exact q.elim
section
variable (P:Program) (Qp:Fs->AC->Nat->Prop) (base:Nat)
def A5(o:Z9)(K:AS->Prop)(s:AS):Prop:=
 let ρ:=lkv s.env
 match o.k with
 | .alloc rel cs=>hget s.H (base+rel)=none/\K ({s with H:=hset s.H (base+rel) (.box cs)}.put o.dst true (.ptr (base+rel) 0))
 | .box rel sz x=>hget s.H (base+rel)=none/\nT (ρ x)/\(ρ x).cells.length=sz/\K ({s with H:=hset s.H (base+rel) (.box (ρ x).cells)}.put o.dst true (.ptr (base+rel) 0))
 | .st sz a x=>nT (ρ x)/\(ρ x).cells.length=sz/\match ρ a with
  | .ptr id off=>(match hget s.H id with
   |some (.box cs)=>off+sz<=cs.length/\K ({s with H:=hset s.H id (.box (splice cs off (ρ x).cells))}.put o.dst true (.tup []))
   |_=>False)
  | .ap id esz i off=>(match hget s.H id with
   |some (.arr e l)=>e=esz/\i<l.length/\(DL (l[i]?.getD (.tup [])) off sz esz (ρ x)).1/\K ({s with H:=hset s.H id (.arr e (l.set i (DL (l[i]?.getD (.tup [])) off sz esz (ρ x)).2))}.put o.dst true (.tup []))
   |_=>False)
  |_=>False
 | .app rel esz bytes x y str=>(match ρ x,Bz s.H ρ esz y str with
  | .sl tok l,some l'=>hget s.H (base+rel)=none/\At s.H esz tok/\small (l.length+l'.length) bytes/\l.length+l'.length<=35184372088832/\0<esz/\
    K ({s with H:=hset (AL s.H tok) (base+rel) .tok}.put o.dst true (.sl (.own (base+rel) esz) (l++l')))
  |_,_=>False)
 | .mks rel esz bytes zero n=>hget s.H (base+rel)=none/\CP (ρ n)/\0<=toI (ρ n)/\small (toI (ρ n)).toNat bytes/\toI (ρ n)<=35184372088832/\zero.cells.length=esz/\
   K ({s with H:=hset s.H (base+rel) (.arr esz (List.replicate (toI (ρ n)).toNat zero))}.put o.dst true (.ref (base+rel) esz 0 (toI (ρ n)).toNat (toI (ρ n)).toNat))
 | .call _ f args=>(match ρ f with
  | .fn (.func f) first cap=>AN P f (first++args.map ρ++cap) s.H s.n λout H' n'=>match out with
   | .ret v=>K ({s with H:=H',n:=n'}.put o.dst true v)
   | .pan v=>Qp v H' n'
  | .fn (.yield l) [] []=>B2 P l (args.map ρ) s.H s.n λb H' n'=>K ({s with H:=H',n:=n'}.put o.dst true (.bool b))
  |_=>False)
 | .pan x=>isF (ρ x)/\Qp (ρ x) s.H s.n
 | .slA n x lo hi=>bndI ρ lo/\bndI ρ hi/\Gk s.H n (bnd ρ 0 lo) (bnd ρ n hi) (λH' v=>K ({s with H:=H'}.put o.dst true v)) (ρ x)
 | .ext x xs=>(xE base x s.H (xs.map ρ)).1/\K ({s with H:=(xE base x s.H (xs.map ρ)).2.1}.put o.dst true (xE base x s.H (xs.map ρ)).2.2)
 | .appR rel esz bytes zero x y str=>DQ s.H (base+rel) esz bytes zero (λH' v=>K ({s with H:=H'}.put o.dst true v)) (ρ x) (Bz s.H ρ esz y str)
 | .appZ rel esz bytes zero x y=>F6 s.H (base+rel) esz bytes zero (λH' v=>K ({s with H:=H'}.put o.dst true v)) (ρ x) (ρ y)
 | .nils neq x=>FU (λb=>K (s.put o.dst true (.bool b))) neq (ρ x)
 | .mnx x=>Hg s.H (λH' v=>K ({s with H:=H'}.put o.dst true v)) (ρ x)
 | .cpu f args=>(match ρ f with
  | .fn (.func f) first cap=>∃r,Pur P f (first++args.map ρ++cap) r/\K (s.put o.dst true r)
  |_=>False)
 |_=>False
def AU(o:Z9)(K:AS->Prop)(s:AS):Prop:=
 gok s.env o.guard/\
  match o.k with
  | .v k=>(gvb s.env o.guard=true->oks s.env k.opds/\(evk s.H (lkv s.env) k).1)/\K (s.put o.dst (gvb s.env o.guard) (evk s.H (lkv s.env) k).2)
  | .pick c a b=>(gvb s.env o.guard=true->(lk s.env c).1=true/\isB (lkv s.env c)/\(toB (lkv s.env c)=true->(lk s.env a).1=true)/\(toB (lkv s.env c)=false->(lk s.env b).1=true))/\
    K (s.put o.dst (gvb s.env o.guard) (sel (toB (lkv s.env c)) (lkv s.env a) (lkv s.env b)))
  | .call true f args=>∃r,(gvb s.env o.guard=true->(lk s.env f).1=true/\oks s.env args/\match lkv s.env f with
    | .fn (.func f) first cap=>Ab P f (first++args.map (lkv s.env)++cap) s.H s.n r
    |_=>False)/\K (s.put o.dst (gvb s.env o.guard) r)
  |k=>(gvb s.env o.guard=true->oks s.env (k.opds)/\A5 P Qp base o K s)/\(gvb s.env o.guard=false->K (s.put o.dst false (.tup [])))
def DA:List Z9->(AS->Prop)->AS->Prop
 |[],K,s=>K s
 |o::r,K,s=>AU P Qp base o (DA r K) s
end
def Fu(base:Nat):Fs->Prop
 | .ptr id _| .ap id _ _ _=>id<base
 |_=>True
def Hh(base:Nat):Fs->Prop
 | .ptr id _| .ap id _ _ _=>base<=id
 |_=>False
def addr(id:Nat):Fs->Prop
 | .ptr i _| .ap i _ _ _=>i=id
 |_=>False
def cxOf(env:List (Nat×Bool×Fs))(n:Nat)(t:Nat):Fs:=if 100000<=t then .ptr (n+(t-100000)) 0 else lkv env (.t t)
def atN(base:Nat)(cx:Nat->Fs)(k id:Nat):Prop:=if k<1000 then base=id+k else if k<300000 then(if k % 2=0 then 1000+2*id=k else 1001+2*id≠k)else if k % 2=0 then addr id (cx ((k-300000)/2))else ¬addr id (cx ((k-300000)/2))
def atK(base:Nat)(cx:Nat->Fs)(k:Nat):Fs->Prop
 | .ptr id _=>atN base cx k id
 | .ap id _ _ _=>1000<=k/\atN base cx k id
 | .ep _=>1000<=k/\k % 2=1
 |_=>False
def isP:Fs->Prop
 | .ptr _ _=>True
 |_=>False
def MO(H H':AC):Prop:=∀id cs,hget H id=some (.box cs)->hget H' id=some (.box cs)
def BS(base:Nat)(cx:Nat->Fs)(ρ:Yy->Fs):Nat->Io->Prop
 |0,_=>True
 |1,.v (.ld _ _ a)=>Fu base (ρ a)
 |2,.st _ a _=>Hh base (ρ a)
 |k+3,.v (.ld _ _ a)=>atK base cx k (ρ a)
 |k+3,.st _ a _=>atK base cx k (ρ a)
 |k+3,.call false _ _=>300000<=k/\k % 2=0
 |2,.v (.ld _ _ a)=>isP (ρ a)
 |2,.appR _ _ _ _ _ _ _=>True
 |_,_=>False
def FW(a:Fs)(H H':AC):Prop:=∀id,¬addr id a->hget H id≠none->hget H' id=hget H id
def EJ(cx:Nat->Fs):Nat->Io->AC->AC->Prop
 |k+3,.call false _ _,H,H'=>FW (cx ((k-300000)/2)) H H'
 |2,.appR _ _ _ _ _ _ _,H,H'=>MO H H'
 |_,_,_,_=>True
def Fv(base:Nat)(cx:Nat->Fs)(f:Nat)(o:Z9)(s:AS):Prop:=gvb s.env o.guard=true->BS base cx (lkv s.env) f o.k
def Jr(P:Program)(Qp:Fs->AC->Nat->Prop)(base:Nat)(cx:Nat->Fs)(x:Nat×Z9)(K:AS->Prop)(s:AS):Prop:=Fv base cx x.1 x.2 s/\AU P Qp base x.2 (λs'=>EJ cx x.1 x.2.k s.H s'.H/\K s') s
def runX(P:Program)(Qp:Fs->AC->Nat->Prop)(base:Nat)(cx:Nat->Fs):List (Nat×Z9)->(AS->Prop)->AS->Prop
 |[],K,s=>K s
 |o::r,K,s=>Jr P Qp base cx o (runX P Qp base cx r K) s
theorem Dp{k:Io}:EJ cx 0 k H H'=True:=by unfold EJ;split<;>first|rfl|(rename_i h;cases h)
theorem PH{f:Nat}{o:Z1}:EJ cx f (.v o) H H'=True:=by cases f<;>(unfold EJ;split<;>first|rfl|(rename_i h;cases h))
theorem MP{f:Nat}{a x:Yy}:EJ cx f (.st sz a x) H H'=True:=by cases f<;>(unfold EJ;split<;>first|rfl|(rename_i h;cases h))
inductive Yw where
 |skip
 |reg (bump:Nat) (ops:List Z9) (keep:List Nat)
 |seq (a b:Yw)
 |cond (c:Yy) (a b:Yw)
 |block (id:Nat) (c:Yw)
 |loop (c:Yw)
 |exit (id:Nat)
 |ret
 |rfun (g:Yy) (ps:Array Tmp) (nt:Nat) (asg body:Code)
 |regx (bump:Nat) (ops:List (Nat×Z9)) (keep:List Nat)
 |frz (t:Nat)
 |frzo (t:Nat)
def Yw.plain:Yw->Bool
 | .seq a b| .cond _ a b=>a.plain&&b.plain
 | .block _ c| .loop c=>c.plain
 | .rfun .. =>false
 |_=>true
inductive Z3 where
 |normal
 |exit (id:Nat)
 |ret
 |pan (v:Fs)
def PI(env:List (Nat×Bool×Fs)):List (Nat×Bool×Fs)->Prop
 |[]=>True
 |(t,g,v)::r=>(∃v',eget env t=some (g,v')/\Wk v' v)/\PI env r
def GU(n:Nat):List (Nat×Bool×Fs)->Prop
 |[]=>True
 |(_,_,v)::r=>v.under n/\GU n r
def H8(s s' s2:AS):Prop:=
 s2=s'\/(PI s'.env s2.env/\((s2.H=s'.H/\s2.n=s'.n)\/(s2.n=s.n/\FQ s.n s.H s'.H s2.H/\GU s.n s2.env)))
def Gl(Q:Z3->AS->Prop)(s:AS)(id:Nat)(out:Zb)(H':AC)(n':Nat):Prop:=
 match out with
 | .pan v=>Q (.pan v) ⟨[],H',n'⟩
 | .ret _=>match hget H' id with
  |some (.lp x)=>x.st≠ .busy/\(match x.pend with
   |none=>Q .normal {s with H:=hset H' id .dead,n:=n'}
   |some .ret=>Q .ret {s with H:=hset H' id .dead,n:=n'}
   |some (.exit i)=>Q (.exit i) {s with H:=hset H' id .dead,n:=n'}
   |_=>False)
  |_=>False
def Fw(P:Program)(s:AS)(Q:Z3->AS->Prop)(ps:Array Tmp)(nt:Nat)(asg body:Code):Fs->Prop
 | .fn (.func f) first cap=>∀l,AN P f (first++[.fn (.yield l) [] []]++cap) (hset s.H s.n (.lp ⟨l,.ready,none,nt,s.env,ps,asg,body⟩)) (s.n+1) (Gl Q s s.n)
 |_=>False
def frzA(Q:Z3->AS->Prop)(s:AS)(t:Nat):Option (Bool×Fs)->Prop
 |some (true,.ref id e off len cap)=>match hget s.H id with
  |some (.arr e' l)=>e'=e/\off+len<=l.length/\len<=cap/\
    Q .normal {s with env:=(t,true,.sl (if len=cap then .exact e else .none e) ((l.drop off).take len))::s.env,H:=hset s.H id (.frz e l)}
  |some (.frz e' l)=>e'=e/\off+len<=l.length/\len<=cap/\
    Q .normal {s with env:=(t,true,.sl (if len=cap then .exact e else .none e) ((l.drop off).take len))::s.env}
  |_=>False
 |some (true,.ptr id 0)=>match hget s.H id with
  |some (.arr e l)=>e=1/\l.all isIn=true/\Q .normal {s with H:=hset s.H id (.box l)}
  |some (.box _)=>Q .normal s
  |_=>False
 |_=>False
def FX(Q:Z3->AS->Prop)(s:AS)(t:Nat):Option (Bool×Fs)->Prop
 |some (true,.ref id e off len cap)=>match hget s.H id with
  |some (.arr e' l)=>e'=e/\off=0/\l.length=cap/\len<=cap/\
    Q .normal {env:=(t,true,.sl (.own s.n e) (l.take len))::s.env,H:=hset (hset s.H id .dead) s.n .tok,n:=s.n+1}
  |_=>False
 |some (true,.sl tok l)=>Q .normal {s with env:=(t,true,.sl tok l)::s.env}
 |_=>False
def awp(P:Program):Yw->(Z3->AS->Prop)->AS->Prop
 | .skip,Q,s=>Q .normal s
 | .reg bump ops keep,Q,s=>DA P (λv H n=>Q (.pan v) ⟨[],H,n⟩) s.n ops (λs'=>Q .normal (s'.keep keep)) {s with n:=s.n+bump}
 | .seq a b,Q,s=>awp P a (λe s'=>match e with
  | .normal=>awp P b Q s'
  |e=>Q e s') s
 | .cond c a b,Q,s=>(lk s.env c).1=true/\isB (lkv s.env c)/\(toB (lkv s.env c)=true->awp P a Q s)/\(toB (lkv s.env c)=false->awp P b Q s)
 | .block id c,Q,s=>awp P c (λe s'=>match e with
  | .exit i=>if i=id then Q .normal s' else Q (.exit i) s'
  |e=>Q e s') s
 | .loop c,Q,s=>∃(I:AS->Prop) (μ:AS->Nat),I s/\∀s1,I s1->awp P c (λe s'=>match e with
  | .normal=>∃s2,H8 s1 s' s2/\I s2/\μ s2<μ s1
  |e=>Q e s') s1
 | .exit id,Q,s=>Q (.exit id) s
 | .ret,Q,s=>Q .ret s
 | .rfun g ps nt asg body,Q,s=>(lk s.env g).1=true/\Fw P s Q ps nt asg body (lkv s.env g)
 | .frz t,Q,s=>frzA Q s t (eget s.env t)
 | .frzo t,Q,s=>FX Q s t (eget s.env t)
 | .regx bump ops keep,Q,s=>runX P (λv H n=>Q (.pan v) ⟨[],H,n⟩) s.n (cxOf s.env s.n) ops (λs'=>Q .normal (s'.keep keep)) {s with n:=s.n+bump}
def allI(ρ:Yy->Fs)(k:IntKind):List Yy->Prop
 |[]=>True
 |x::r=>isI k (ρ x)/\allI ρ k r
def H9(ρ:Yy->Fs)(mx:Bool):Int->List Yy->Int
 |m,[]=>m
 |m,y::r=>H9 ρ mx (if mx then max m (toI (ρ y))else min m (toI (ρ y))) r
theorem PJ{ρ:Yy->Fs}{k:IntKind}:∀(xs:List Yy),(∀x∈xs,isI k (ρ x))=allI ρ k xs
 |[]=>by simp [allI]
 |x::r=>by simp [allI,<-PJ r]
theorem Js{ρ:Yy->Fs}{mx:Bool}:∀(r:List Yy) (m:Int),r.foldl (λm y=>if mx then max m (toI (ρ y))else min m (toI (ρ y))) m=H9 ρ mx m r
 |[],m=>rfl
 |y::r,m=>by simp only[X3,H9];exact Js r _
theorem PL{ρ:Yy->Fs}{mx:Bool}{k:IntKind}{x:Yy}{r:List Yy}:evMM ρ mx k (x::r)=(isI k (ρ x)/\allI ρ k r,.int k (H9 ρ mx (toI (ρ x)) r)):=by simp_all [evMM,PJ,Js,allI,ne_eq,Y0,Xk]
def allB(ρ:Yy->Fs)(n:Nat):List (Nat×Nat×Yy)->Prop
 |[]=>True
 |(o,z,x)::r=>(nT (ρ x)/\(ρ x).cells.length=z/\o+z<=n)/\allB ρ n r
def NT(ρ:Yy->Fs):List Fs->List (Nat×Nat×Yy)->List Fs
 |cs,[]=>cs
 |cs,(o,_,x)::r=>NT ρ (splice cs o (ρ x).cells) r
theorem PM{ρ:Yy->Fs}:∀(l:List (Nat×Nat×Yy)),(∀p∈l,nT (ρ p.2.2)/\(ρ p.2.2).cells.length=p.2.1/\p.1+p.2.1<=n)=allB ρ n l
 |[]=>by simp [allB]
 |(o,z,x)::r=>by simp [allB,<-PM r]
theorem MQ{ρ:Yy->Fs}:∀(r:List (Nat×Nat×Yy)) (cs:List Fs),r.foldl (λcs p=>splice cs p.1 (ρ p.2.2).cells) cs=NT ρ cs r
 |[],cs=>rfl
 |(o,z,x)::r,cs=>by simp only[X3,NT];exact MQ r _
theorem evB_eq{ρ:Yy->Fs}{zero:List Fs}{parts:List (Nat×Nat×Yy)}:evB ρ zero parts=(allB ρ zero.length parts,.agg (NT ρ zero parts)):=by
 simp only[evB,PM,MQ]
def allS(ρ:Yy->Fs)(esz n:Nat):List (Nat×Yy)->Prop
 |[]=>True
 |(o,x)::r=>(nT (ρ x)/\(ρ x).cells.length=esz/\o<n)/\allS ρ esz n r
def NU(ρ:Yy->Fs):List Fs->List (Nat×Yy)->List Fs
 |cs,[]=>cs
 |cs,(o,x)::r=>NU ρ (cs.set o (ρ x)) r
theorem PN{ρ:Yy->Fs}:∀(l:List (Nat×Yy)),(∀p∈l,nT (ρ p.2)/\(ρ p.2).cells.length=esz/\p.1<n)=allS ρ esz n l
 |[]=>by simp [allS]
 |(o,x)::r=>by simp [allS,<-PN r]
theorem MR{ρ:Yy->Fs}:∀(r:List (Nat×Yy)) (cs:List Fs),r.foldl (λl p=>l.set p.1 (ρ p.2)) cs=NU ρ cs r
 |[],cs=>rfl
 |(o,x)::r,cs=>by simp only[X3,NU];exact MR r _
theorem evS_eq{ρ:Yy->Fs}{esz n:Nat}{zero:Fs}{parts:List (Nat×Yy)}:evS ρ esz n zero parts=(allS ρ esz n parts/\zero.cells.length=esz/\n*esz<=16777216,.sl (.exact esz) (NU ρ (List.replicate n zero) parts)):=by
 simp only[evS,PN,MR]
section
variable {P:Program} {Qp:Fs->AC->Nat->Prop} {b:Nat}
theorem Jt{l:List Z9}{K:AS->Prop}{s s':AS}(h:s=s'):DA P Qp b l K s=DA P Qp b l K s':=by rw[h]
theorem Ju{o:Z9}{K:AS->Prop}{s s':AS}(h:s=s'):AU P Qp b o K s=AU P Qp b o K s':=by rw[h]
theorem PO{c:Yw}{Q:Z3->AS->Prop}{s s':AS}(h:s=s'):awp P c Q s=awp P c Q s':=by rw[h]
variable {rel esz bytes:Nat} {d:Option Nat}
theorem Jv{k:Z1}{K:AS->Prop}{s:AS}:
  AU P Qp b ⟨d,none,.v k⟩ K s=(oks s.env k.opds/\(evk s.H (lkv s.env) k).1/\K (s.put d true (evk s.H (lkv s.env) k).2)):=by
 simp [AU,gok,gvb,Xa]
theorem K8{t:Nat}{w:Bool}{k:Z1}{K:AS->Prop}{s:AS}:
  AU P Qp b ⟨d,some (t,w),.v k⟩ K s=(gok s.env (some (t,w))/\(gvb s.env (some (t,w))=true->oks s.env k.opds/\(evk s.H (lkv s.env) k).1)/\K (s.put d (gvb s.env (some (t,w))) (evk s.H (lkv s.env) k).2)):=by
 simp [AU]
theorem Jw{x y z:Yy}{K:AS->Prop}{s:AS}:
  AU P Qp b ⟨d,none,.pick x y z⟩ K s=((lk s.env x).1=true/\isB (lkv s.env x)/\(toB (lkv s.env x)=true->(lk s.env y).1=true)/\(toB (lkv s.env x)=false->(lk s.env z).1=true)/\
    K (s.put d true (sel (toB (lkv s.env x)) (lkv s.env y) (lkv s.env z)))):=by
 simp [AU,gok,gvb,Xa]
theorem NV{t:Nat}{w:Bool}{x y z:Yy}{K:AS->Prop}{s:AS}:
  AU P Qp b ⟨d,some (t,w),.pick x y z⟩ K s=(gok s.env (some (t,w))/\(gvb s.env (some (t,w))=true->(lk s.env x).1=true/\isB (lkv s.env x)/\(toB (lkv s.env x)=true->(lk s.env y).1=true)/\(toB (lkv s.env x)=false->(lk s.env z).1=true))/\
    K (s.put d (gvb s.env (some (t,w))) (sel (toB (lkv s.env x)) (lkv s.env y) (lkv s.env z)))):=by
 simp [AU]
theorem IA{cs:List Fs}{K:AS->Prop}{s:AS}:
  AU P Qp b ⟨d,none,.alloc rel cs⟩ K s=(hget s.H (b+rel)=none/\K ({s with H:=hset s.H (b+rel) (.box cs)}.put d true (.ptr (b+rel) 0))):=by
 simp [AU,gok,gvb,A5,oks,Io.opds]
theorem Rj{sz:Nat}{x:Yy}{K:AS->Prop}{s:AS}:
  AU P Qp b ⟨d,none,.box rel sz x⟩ K s=((lk s.env x).1=true/\hget s.H (b+rel)=none/\nT (lkv s.env x)/\(lkv s.env x).cells.length=sz/\K ({s with H:=hset s.H (b+rel) (.box (lkv s.env x).cells)}.put d true (.ptr (b+rel) 0))):=by
 simp [AU,gok,gvb,A5,oks,Io.opds]
def stAt(H:AC)(sz:Nat)(v:Fs)(K:AC->Prop):Fs->Prop
 | .ptr id off=>match hget H id with
  |some (.box cs)=>off+sz<=cs.length/\K (hset H id (.box (splice cs off v.cells)))
  |_=>False
 | .ap id esz i off=>match hget H id with
  |some (.arr e l)=>e=esz/\i<l.length/\(DL (l[i]?.getD (.tup [])) off sz esz v).1/\K (hset H id (.arr e (l.set i (DL (l[i]?.getD (.tup [])) off sz esz v).2)))
  |_=>False
 |_=>False
theorem I0{sz:Nat}{a x:Yy}{K:AS->Prop}{s:AS}:
  AU P Qp b ⟨d,none,.st sz a x⟩ K s=((lk s.env a).1=true/\(lk s.env x).1=true/\nT (lkv s.env x)/\(lkv s.env x).cells.length=sz/\stAt s.H sz (lkv s.env x) (λH'=>K ({s with H:=H'}.put d true (.tup []))) (lkv s.env a)):=by
 simp only[AU,gok,gvb,A5,stAt,oks,Io.opds,WQ,WS,seval,Xg,Xk,Xa]
theorem Rk{x:Yy}{K:AS->Prop}{s:AS}:AU P Qp b ⟨d,none,.pan x⟩ K s=((lk s.env x).1=true/\isF (lkv s.env x)/\Qp (lkv s.env x) s.H s.n):=by
 simp [AU,gok,gvb,A5,oks,Io.opds]
def K9(H:AC)(id esz bytes:Nat)(K:AC->Fs->Prop):Fs->Option (List Fs)->Prop
 | .sl tok l,some l'=>hget H id=none/\At H esz tok/\small (l.length+l'.length) bytes/\l.length+l'.length<=35184372088832/\0<esz/\
   K (hset (AL H tok) id .tok) (.sl (.own id esz) (l++l'))
 |_,_=>False
theorem MS{x y:Yy}{str:Bool}{K:AS->Prop}{s:AS}:
  AU P Qp b ⟨d,none,.app rel esz bytes x y str⟩ K s=((lk s.env x).1=true/\(lk s.env y).1=true/\
   K9 s.H (b+rel) esz bytes (λH' v=>K ({s with H:=H'}.put d true v)) (lkv s.env x) (Bz s.H (lkv s.env) esz y str)):=by
 simp only[AU,gok,gvb,A5,K9,oks,Io.opds,WQ,WS,seval,Xg,Xk,Xa]
theorem Rl{n:Nat}{x:Yy}{lo hi:Option Yy}{K:AS->Prop}{s:AS}:
  AU P Qp b ⟨d,none,.slA n x lo hi⟩ K s=(oks s.env (x::(lo.toList++hi.toList))/\bndI (lkv s.env) lo/\bndI (lkv s.env) hi/\
   Gk s.H n (bnd (lkv s.env) 0 lo) (bnd (lkv s.env) n hi) (λH' v=>K ({s with H:=H'}.put d true v)) (lkv s.env x)):=by
 simp only[AU,gok,gvb,A5,oks,Io.opds,WQ,WS,seval,Xg,Xk]
theorem NW{cx:Nat->Fs}{l:List (Nat×Z9)}{K:AS->Prop}{s s':AS}(h:s=s'):runX P Qp b cx l K s=runX P Qp b cx l K s':=by rw[h]
theorem Up{x y:Yw}{Q:Z3->AS->Prop}{s:AS}:awp P (.seq x y) Q s=awp P x (λe s'=>match e with
  | .normal=>awp P y Q s'
  |e=>Q e s') s:=rfl
theorem MT{x:XOp}{xs:List Yy}{K:AS->Prop}{s:AS}:
  AU P Qp b ⟨d,none,.ext x xs⟩ K s=(oks s.env xs/\(xE b x s.H (xs.map (lkv s.env))).1/\K ({s with H:=(xE b x s.H (xs.map (lkv s.env))).2.1}.put d true (xE b x s.H (xs.map (lkv s.env))).2.2)):=by
 simp only[AU,gok,gvb,A5,oks,Io.opds,WQ,WS,seval,Xg,Xk]
theorem Jx{z:Fs}{x y:Yy}{str:Bool}{K:AS->Prop}{s:AS}:
  AU P Qp b ⟨d,none,.appR rel esz bytes z x y str⟩ K s=((lk s.env x).1=true/\(lk s.env y).1=true/\
   DQ s.H (b+rel) esz bytes z (λH' v=>K ({s with H:=H'}.put d true v)) (lkv s.env x) (Bz s.H (lkv s.env) esz y str)):=by
 simp only[AU,gok,gvb,A5,oks,Io.opds,WQ,WS,seval,Xg,Xk,Xa]
theorem PP{z:Fs}{x y:Yy}{K:AS->Prop}{s:AS}:
  AU P Qp b ⟨d,none,.appZ rel esz bytes z x y⟩ K s=((lk s.env x).1=true/\(lk s.env y).1=true/\
   F6 s.H (b+rel) esz bytes z (λH' v=>K ({s with H:=H'}.put d true v)) (lkv s.env x) (lkv s.env y)):=by
 simp only[AU,gok,gvb,A5,oks,Io.opds,WQ,WS,seval,Xg,Xk,Xa]
theorem PQ{neq:Bool}{x:Yy}{K:AS->Prop}{s:AS}:
  AU P Qp b ⟨d,none,.nils neq x⟩ K s=((lk s.env x).1=true/\FU (λb=>K (s.put d true (.bool b))) neq (lkv s.env x)):=by
 simp only[AU,gok,gvb,A5,oks,Io.opds,WQ,WS,seval,Xg,Xk]
theorem Rm{x:Yy}{K:AS->Prop}{s:AS}:
  AU P Qp b ⟨d,none,.mnx x⟩ K s=((lk s.env x).1=true/\Hg s.H (λH' v=>K ({s with H:=H'}.put d true v)) (lkv s.env x)):=by
 simp only[AU,gok,gvb,A5,oks,Io.opds,WQ,WS,seval,Xg,Xk]
end
theorem NX{a a':Fs}{K:AC->Prop}(h:H=H')(h2:v=v')(h3:a=a'):stAt H sz v K a=stAt H' sz v' K a':=by rw[h,h2,h3]
theorem LC{lo lo' hi i8:Int}(h:H=H')(h1:lo=lo')(h2:hi=i8)(h3:v=v'):Gk H n lo hi K v=Gk H' n lo' i8 K v':=by rw[h,h1,h2,h3]
theorem NY{Q:Z3->AS->Prop}{s s':AS}{t:Nat}{x x':Option (Bool×Fs)}(h:s=s')(h2:x=x'):frzA Q s t x=frzA Q s' t x':=by rw[h,h2]
theorem LD{x x':Option (List Fs)}(h:H=H')(h2:v=v')(h3:x=x'):K9 H id esz bytes K v x=K9 H' id esz bytes K v' x':=by rw[h,h2,h3]
attribute [congr] LC NY NW Jt Ju PO NX LD
end
def LE:Value->Option Fs
 | .bool b=>some (.bool b)
 | .int k n=>some (.int k n)
 | .string s=>some (.str s.data.toList)
 | .pointer none=>some .nilp
 | .slice none 0 0=>some (.sl .nil [])
 | .nilFunc=>some .nilfn
 | .nilIface=>some .nilifc
 | .map none=>some .nilmp
 |_=>none
def Gm:List Value->Option (List Fs)
 |[]=>some []
 |v::r=>match LE v,Gm r with
  |some a,some as=>some (a::as)
  |_,_=>none
def cval:Value->Option Fs
 | .agg cs=>(Gm cs.toList).map .agg
 |v=>LE v
def copd:Operand->Option Yy
 | .tmp t=>some (.t t)
 | .const v=>(cval v).map .c
 | .global g=>some (.c (match glob g with|some cs=>.ep cs|none=>.gp g))
 | .func f=>some (.c (.fn (.func f) [] []))
def Hj:List Operand->Option (List Yy)
 |[]=>some []
 |x::r=>match copd x,Hj r with
  |some a,some as=>some (a::as)
  |_,_=>none
def DB:Option Operand->Option (Option Yy)
 |none=>some none
 |some x=>(copd x).map some
section
variable (P:Program)
def aggT(t:TypeId):Bool:=match P.underlying t with
 |some (.struct _)|some (.array _ _)=>true
 |_=>false
def szT(t:TypeId):Option Nat:=match P.info? t,P.underlying t with
 |some i,some _=>if i.size=0 then none else some i.size
 |_,_=>none
def Br(t:TypeId):Option Fs:=match P.info? t with
 |some i=>match i.zero with
  |some z=>match cval z with
   |some a=>if a.cells.length=i.size/\i.size≠0 then some a else none
   |none=>none
  |none=>none
 |none=>none
def FY(f:Nat->Option (Nat×Nat)):List (Nat×Operand)->Option (List (Nat×Nat×Yy))
 |[]=>some []
 |(i,x)::r=>match f i,copd x,FY f r with
  |some (off,size),some a,some as=>some ((off,size,a)::as)
  |_,_,_=>none
def DZ:List (Nat×Operand)->Option (List (Nat×Yy))
 |[]=>some []
 |(i,x)::r=>match copd x,DZ r with
  |some a,some as=>some ((i,a)::as)
  |_,_=>none
def Uq(fs:Array Field):Option (List (Nat×Nat)):=fs.toList.mapM λf=>(P.info? f.type).map λi=>(f.offset,i.size)
def IB(fs:Array Field)(i:Nat):Option (Nat×Nat):=match fs[i]? with
 |some f=>(szT P f.type).map λs=>(f.offset,s)
 |none=>none
def NZ:Nat->List Field->Option (List Nat)
 |_,[]=>some []
 |o,f::r=>if f.name= "_" \/f.offset≠o then none else match P.underlying f.type,NZ (o+1) r with
  |some (.int _),some l=>some (0::l)
  |some .bool,some l=>some (1::l)
  |some .string,some l=>some (2::l)
  |_,_=>none
def cbin(op:BinOp)(t:TypeId)(x y:Yy)(yt:TypeId):Option Z1:=
 match P.underlying t with
 |some (.int k)=>match op with
  | .shl| .shr=>match P.underlying yt with
   |some (.int ky)=>some (.shift op k ky x y)
   |_=>none
  | .eql| .neq| .lss| .leq| .gtr| .geq=>some (.icmp op k x y)
  |_=>some (.arith op k x y)
 |some .string=>match op with
  | .add=>some (.sadd x y)
  | .eql| .neq| .lss| .leq| .gtr| .geq=>some (.scmp op x y)
  |_=>none
 |some .bool=>match op with
  | .eql=>some (.beq false x y)
  | .neq=>some (.beq true x y)
  |_=>none
 |some (.struct fs)=>if P.stoodInHeld t=true\/P.eqGuardType P.depth t=true then none else match op,NZ P 0 fs.toList with
  | .eql,some l=>some (.aeq false l x y)
  | .neq,some l=>some (.aeq true l x y)
  |_,_=>none
 |some (.array n e)=>if P.eqGuardType P.depth t=true then none else match P.underlying e,szT P e,op with
  |some (.int _),some 1,.eql=>some (.aeq false (List.replicate n 0) x y)
  |some (.int _),some 1,.neq=>some (.aeq true (List.replicate n 0) x y)
  |_,_,_=>none
 |_=>none
def Rn(s d:TypeId)(x:Yy):Option Z1:=
 match P.underlying s,P.underlying d with
 |some (.int _),some (.int k)=>some (.conv k x)
 |some .string,some .string=>some (.sid x)
 |some (.slice e),some .string=>match P.underlying e with
  |some (.int .u8)=>some (.b2s x)
  |_=>none
 |some .string,some (.slice e)=>match P.underlying e,szT P e with
  |some (.int .u8),some 1=>some (.s2b x)
  |_,_=>none
 |_,_=>none
def copk(mkv:Bool):Op->Option Z1
 | .move x| .assign x=>(copd x).map .mv
 | .build t parts=>match Br P t,P.underlying t with
  |some z,some (.struct fs)=>match Uq P fs with
   |some pl=>(FY (λi=>pl[i]?) parts.toList).map (.build z.cells)
   |none=>none
  |some z,some (.array n e)=>match szT P e with
   |some s=>(FY (λi=>some (i*s,s)) parts.toList).map (.build z.cells)
   |none=>none
  |_,_=>none
 | .buildSlice t len parts=>match P.underlying t with
  |some (.slice e)=>match Br P e,szT P e with
   |some z,some s=>(DZ parts.toList).map (.bs s len z)
   |_,_=>none
  |_=>none
 | .load t a=>match szT P t,copd a with
  |some s,some a=>some (.ld s (aggT P t) a)
  |_,_=>none
 | .nilCheck x=>(copd x).map .nilc
 | .binOp op t x y yt=>match copd x,copd y with
  |some a,some b=>cbin P op t a b yt
  |_,_=>none
 | .unOp .not _ x=>(copd x).map .not
 | .unOp .xor t x=>match P.underlying t with
  |some (.int k)=>(copd x).map (.cmpl k)
  |_=>none
 | .unOp .neg t x=>match P.underlying t with
  |some (.int k)=>(copd x).map (.neg k)
  |_=>none
 | .convert s d x=>match copd x with
  |some a=>Rn P s d a
  |none=>none
 | .makeInterface t x=>match P.underlying t with
  |some (.interface _)=>none
  |some _=>(copd x).map (.ifc t)
  |none=>none
 | .makeFunc fn first cap=>match Hj first.toList,Hj cap.toList with
  |some a,some b=>some (.fn fn a b)
  |_,_=>none
 | .makeSlice t (.tmp l) (.tmp c)=>if mkv=true/\l=c then match P.underlying t with
  |some (.slice e)=>match P.info? e,Br P e,szT P e with
   |some i,some z,some s=>some (.mkz s i.bytes z (.t l))
   |_,_,_=>none
  |_=>none else none
 | .makeSlice t (.const (.int .i64 l)) (.const (.int .i64 c))=>if mkv=true/\l=c then match P.underlying t with
  |some (.slice e)=>match P.info? e,Br P e,szT P e with
   |some i,some z,some s=>some (.mkz s i.bytes z (.c (.int .i64 l)))
   |_,_,_=>none
  |_=>none else none
 | .slice t x lo hi mx=>match P.underlying t,copd x,DB lo,DB hi,DB mx with
  |some .string,some a,some l,some h,some none=>some (.slS a l h)
  |some (.slice e),some a,some l,some h,some m=>match szT P e with
   |some s=>some (.sl s a l h m)
   |none=>none
  |_,_,_,_,_=>none
 | .fieldAddr t x f=>match P.underlying t with
  |some (.struct fs)=>match IB P fs f,copd x with
   |some (off,_),some a=>some (.fa off a)
   |_,_=>none
  |_=>none
 | .field t x f=>match P.underlying t with
  |some (.struct fs)=>match fs[f]?,IB P fs f,copd x with
   |some fd,some (off,s),some a=>some (.fld off s (aggT P fd.type) a)
   |_,_,_=>none
  |_=>none
 | .indexAddr t x i=>match P.underlying t,copd x,copd i with
  |some (.slice e),some a,some b=>match szT P e with
   |some s=>some (.ia s a b)
   |none=>none
  |some (.array n e),some a,some b=>match szT P e with
   |some s=>some (.iaA n s a b)
   |none=>none
  |_,_,_=>none
 | .index t x i=>match P.underlying t,copd x,copd i with
  |some .string,some a,some b=>some (.ixS a b)
  |some (.array n e),some a,some b=>match szT P e with
   |some s=>some (.ixA n s (aggT P e) a b)
   |none=>none
  |_,_,_=>none
 | .extract x i=>(copd x).map (.ext i)
 | .call {callee:=.builtin .len,args,argTypes}=>match argTypes.toList,args.toList with
  |[t],[x]=>match P.underlying t,copd x with
   |some .string,some a=>some (.lenS a)
   |some (.slice _),some a=>some (.len a)
   |_,_=>none
  |_,_=>none
 | .call {callee:=.builtin .cap,args,argTypes}=>match argTypes.toList,args.toList with
  |[t],[x]=>match P.underlying t,copd x with
   |some (.slice _),some a=>some (.capx a)
   |_,_=>none
  |_,_=>none
 | .call {callee:=.builtin .max,args,argTypes}=>match argTypes.toList with
  |t::_=>match P.underlying t,Hj args.toList with
   |some (.int k),some xs=>some (.mnmx true k xs)
   |_,_=>none
  |_=>none
 | .call {callee:=.builtin .min,args,argTypes}=>match argTypes.toList with
  |t::_=>match P.underlying t,Hj args.toList with
   |some (.int k),some xs=>some (.mnmx false k xs)
   |_,_=>none
  |_=>none
 |_=>none
def ktT(t:TypeId):Option KT:=match P.underlying t with
 |some (.int k)=>some (.int k)
 |some .bool=>some .bool
 |some .string=>some .str
 |some (.array n e)=>match P.underlying e,szT P e with
  |some (.int k),some 1=>some (.arr n k)
  |_,_=>none
 |_=>none
def nilT(t:TypeId)(c:Value):Option Nat:=match P.underlying t,c with
 |some (.interface _),.nilIface=>some 0
 |some (.pointer _),.pointer none=>some 1
 |some (.func ..),.nilFunc=>some 2
 |_,_=>none
def Na(t:TypeId)(c:Value):Bool:=match P.underlying t,c with
 |some (.slice _),.slice none _ _=>true
 |_,_=>false
def PR(t:TypeId):Bool:=match P.underlying t with
 |some (.interface _)=>true
 |none=>true
 |_=>false
def cput(t:TypeId)(m k x:Operand):Option Io:=match P.underlying t,copd m,copd k,copd x with
 |some (.map kt _),some m,some k,some x=>(ktT P kt).map λkk=>.ext (.mput kk) [m,k,x]
 |_,_,_,_=>none
def copK(mkv imp:Bool)(i:Nat):Op->Option Io
 | .pick c a b=>match copd c,copd a,copd b with
  |some c,some a,some b=>some (.pick c a b)
  |_,_,_=>none
 | .alloc t=>(Br P t).map λz=>.alloc i z.cells
 | .box t x=>match szT P t,copd x with
  |some s,some a=>some (.box i s a)
  |_,_=>none
 | .store t a x=>match szT P t,copd a,copd x with
  |some s,some a,some x=>some (.st s a x)
  |_,_,_=>none
 | .makeSlice t l c=>if mkv then(copk P mkv (.makeSlice t l c)).map .v else match l,c with
  | .tmp l,.tmp c=>if l=c then match P.underlying t with
   |some (.slice e)=>match P.info? e,Br P e,szT P e with
    |some inf,some z,some s=>some (.mks i s inf.bytes z (.t l))
    |_,_,_=>none
   |_=>none else none
  | .const (.int .i64 l),.const (.int .i64 c)=>if l=c then match P.underlying t with
   |some (.slice e)=>match P.info? e,Br P e,szT P e with
    |some inf,some z,some s=>some (.mks i s inf.bytes z (.c (.int .i64 l)))
    |_,_,_=>none
   |_=>none else if 0<=l/\0<=c then match P.underlying t with
   |some (.slice e)=>match P.info? e,Br P e,szT P e with
    |some inf,some z,some s=>some (.ext (.mkc i s inf.bytes z l.toNat c.toNat) [])
    |_,_,_=>none
   |_=>none else none
  |_,_=>none
 | .buildSlice t len parts=>if mkv then(match P.underlying t with
  |some (.slice e)=>match Br P e,szT P e,DZ parts.toList with
   |some z,some s,some ps=>some (.ext (.bsm i s len z (ps.map (·.1))) (ps.map (·.2)))
   |_,_,_=>none
  |_=>none)else(copk P mkv (.buildSlice t len parts)).map .v
 | .call {callee:=.builtin .append,args,argTypes}=>match argTypes.toList,args.toList with
  |[t,u],[x,y]=>match P.underlying t,copd x,copd y with
   |some (.slice e),some a,some b=>match P.info? e,Br P e,P.underlying u with
    |some inf,some z,some .string=>if inf.size=1 then some (if mkv then .appR i inf.size inf.bytes z a b true else .app i inf.size inf.bytes a b true)else none
    |some inf,some z,some (.slice e')=>if t=u then some (if mkv then .appR i inf.size inf.bytes z a b false else .app i inf.size inf.bytes a b false)else none
    |some inf,some z,some (.int _)=>some (.appZ i inf.size inf.bytes z a b)
    |_,_,_=>none
   |_,_,_=>none
  |_,_=>none
 | .call {callee:=.builtin .copy,args,argTypes}=>match argTypes.toList,args.toList with
  |[t,u],[x,y]=>match P.underlying t,copd x,copd y with
   |some (.slice e),some a,some b=>match P.info? e,P.underlying u with
    |some inf,some .string=>if inf.size=1 then some (.ext (.cpy inf.size true) [a,b])else none
    |some inf,some (.slice _)=>some (.ext (if mkv=true/\inf.size=1 then .cpb else .cpy inf.size false) [a,b])
    |_,_=>none
   |_,_,_=>none
  |_,_=>none
 | .call {callee:=.value f,args,.. }=>match copd f,Hj args.toList with
  |some f,some xs=>some (if mkv&&imp then .cpu f xs else .call (!imp) f xs)
  |_,_=>none
 | .panic x=>(copd x).map .pan
 | .slice t x lo hi mx=>match P.underlying t with
  |some (.array n e)=>match copd x,DB lo,DB hi,mx with
   |some x,some l,some h,none=>if szT P e=some 1 then some (if mkv then .v (.slp n x l h)else .slA n x l h)else match szT P e with
    |some k=>if 2<=k then some (.ext (.slx n k l.isSome h.isSome) (x::(l.toList++h.toList)))else none
    |none=>none
   |_,_,_,_=>none
  |_=>(copk P mkv (.slice t x lo hi mx)).map .v
 | .makeMap t none=>match P.underlying t with
  |some (.map _ _)=>some (.ext (.mkm i) [])
  |_=>none
 | .lookup t x ix ok=>match P.underlying t,copd x,copd ix with
  |some (.map kt e),some a,some b=>match ktT P kt,Br P e with
   |some kk,some z=>some (.ext (.look kk z ok) [a,b])
   |_,_=>none
  |_,_,_=>none
 | .mapUpdate t m k x=>cput P t m k x
 | .insert t m k x=>cput P t m k x
 | .range t x=>match P.underlying t,copd x with
  |some .string,some a=>some (.ext (.srng i) [a])
  |some (.map _ _),some a=>some (.ext (.mrng i) [a])
  |_,_=>none
 | .next x true=>(copd x).map λa=>.ext .snext [a]
 | .next x false=>(copd x).map .mnx
 | .entry x=>(copd x).map λa=>.ext .ment [a]
 | .convert s d x=>match P.underlying s,P.underlying d with
  |some (.int _),some .string=>(copd x).map λa=>.ext .i2s [a]
  |_,_=>(copk P mkv (.convert s d x)).map .v
 | .call {callee:=.builtin .len,args,argTypes}=>match argTypes.toList,args.toList with
  |[t],[x]=>match P.underlying t with
   |some (.map _ _)=>(copd x).map λa=>.ext .mlen [a]
   |_=>(copk P mkv (.call {callee:=.builtin .len,args,argTypes})).map .v
  |_,_=>none
 | .binOp .eql t x (.const c) yt=>match nilT P t c with
  |some kd=>(copd x).map λa=>.ext (.nileq kd false) [a]
  |none=>if Na P t c=true then(copd x).map (.nils false)else(copk P mkv (.binOp .eql t x (.const c) yt)).map .v
 | .binOp .neq t x (.const c) yt=>match nilT P t c with
  |some kd=>(copd x).map λa=>.ext (.nileq kd true) [a]
  |none=>if Na P t c=true then(copd x).map (.nils true)else(copk P mkv (.binOp .neq t x (.const c) yt)).map .v
 | .typeAssert x _ t ok=>if PR P t=true then none else match copd x,Br P t with
  |some a,some z=>some (.ext (.tas t ok z) [a])
  |_,_=>none
 |op=>(copk P mkv op).map .v
end
def Io.cat:Io->Nat
 | .v (.ld ..)=>1
 | .v _=>0
 | .pick .. =>0
 | .ext (.nileq ..) _| .ext (.tas ..) _| .cpu .. =>0
 | .ext (.mkm _) _| .ext (.bsm ..) _| .ext (.mkc ..) _=>2
 | .alloc .. | .box .. | .mks .. =>2
 | .call true .. | .ext (.look ..) _=>3
 | .call false .. | .pan _| .slA .. | .ext .. | .appR .. | .appZ .. | .nils .. | .mnx .. =>5
 | .app .. =>4
 | .st .. =>6
def EK:Nat->Nat->Bool
 |0,_=>true
 |5,_=>false
 |_,0=>true
 |1,1|1,2|1,3|1,4|2,1|2,2|3,1|3,3|4,1=>true
 |_,_=>false
def Jy(ops:Array Oper):Option (Nat×Bool)->Option (Option (Nat×Bool))
 |none=>some none
 |some (j,w)=>match (ops[j]?).bind (·.dst)with
  |some d=>some (some (d,w))
  |none=>none
def Jz(x y:Z9):Bool:=
 let lk (o:Z9) (d:Nat):Bool:=(o.k.opds.any fun| .t i=>i==d|_=>false)||(match o.guard with|some (g,_)=>g==d|none=>false)
 (match x.dst with|some d=>!lk y d&&y.dst !=some d|none=>true)&&(match y.dst with|some d=>!lk x d|none=>true)
def Gn(acc:List Nat)(o:Oper):Nat:=(o.after.toList.filter (Region.binds .any)).foldl (λm e=>m|||(1<<<e.on)|||acc.getD e.on 0) 0
def Gp:List Oper->List Nat->List Nat
 |[],acc=>acc
 |o::r,acc=>Gp r (acc++[Gn acc o])
def cops(P:Program)(N lo:Nat)(ops:Array Oper)(mkv imp:List Nat):List Oper->Nat->Option (List Z9)
 |[],_=>some []
 |o::r,i=>match Jy ops o.guard,copK P (mkv.contains i) (imp.contains i) i o.op,cops P N lo ops mkv imp r (i+1)with
  |some g,some k,some l=>if o.dst.all (λd=>decide (d<N)&&decide (lo<=d))then some ({dst:=o.dst,guard:=g,k}::l)else none
  |_,_,_=>none
def I1(ops:Array Oper):Bool:=(List.range ops.size).all λj=>match ops[j]? with
 |some o=>o.after.toList.all λe=>!Region.binds .any e||decide (e.on<j)
 |none=>true
def ldOK(o:Z9):Bool:=match o.k with
 | .v (.ld _ _ (.c (.ptr ..)))=>false
 | .v (.ld _ _ (.c (.ap ..)))=>false
 |_=>true
def PS(ops:Array Oper)(l:List Z9)(ms:List Nat):Bool:=
 I1 ops&&l.all ldOK&&(List.range l.length).all λj=>(List.range j).all λi=>match l[i]?,l[j]? with
  |some x,some y=>(Jz x y&&EK x.k.cat y.k.cat)||(ms.getD j 0).testBit i
  |_,_=>false
def PT(ops:Array Oper)(l:List Z9):Bool:=PS ops l (Gp ops.toList [])
def Ro(x:Nat×Z9):Bool:=x.1==1&&(match x.2.k with
 | .v (.ld ..)=>true
 |_=>false)
def Rp(x:Nat×Z9):Bool:=x.1==2&&(match x.2.k with
 | .st .. =>true
 |_=>false)
def PU(x:Nat×Z9):Bool:=Nat.ble 3 x.1&&(match x.2.k with
 | .v (.ld ..)=>true
 |_=>false)
def Rq(x:Nat×Z9):Bool:=Nat.ble 3 x.1&&(match x.2.k with
 | .st .. =>true
 |_=>false)
def apK(x y:Nat):Bool:=(x !=y&&Nat.ble x 1002&&Nat.ble y 1002)||(Nat.ble 1003 x&&x % 2==1&&y==x+1)||(Nat.ble 1003 y&&y % 2==1&&x==y+1)||(x !=y&&Nat.ble 1003 x&&Nat.ble x 300002&&x % 2==1&&Nat.ble 1003 y&&Nat.ble y 300002&&y % 2==1)
def LG(x:Nat×Z9):Bool:=Nat.ble 300003 x.1&&x.1 % 2==1&&(match x.2.k with
 | .call false .. =>true
 |_=>false)
def Ur(x:Nat×Z9):Bool:=x.1==2&&(match x.2.k with
 | .v (.ld ..)=>true
 |_=>false)
def Us(x:Nat×Z9):Bool:=x.1==2&&(match x.2.k with
 | .appR .. =>true
 |_=>false)
def catX(x y:Nat×Z9):Bool:=EK x.2.k.cat y.2.k.cat||(Ro x&&Rp y)||(Rp x&&Ro y)||(apK x.1 y.1&&PU x&&Rq y)||(apK x.1 y.1&&Rq x&&PU y)||(PU x&&LG y&&x.1==y.1+1)||(Ur x&&Us y)
def opAt(l:List Z9)(i:Nat):Z9:=l[i]?.getD ⟨none,none,.alloc 0 []⟩
def I2(l:List Z9):List Nat:=l.filterMap λo=>match o.k,o.guard,o.dst with
 | .alloc ..,none,some d| .box ..,none,some d| .mks ..,none,some d=>some d
 |_,_,_=>none
def Ut(fz:List (Nat×Nat))(i:Nat):Option Nat:=(fz.find? (·.1==700000+i)).map (·.2)
def I3(fz:List (Nat×Nat))(nt:List Nat)(o:Z9):Nat:=match o.k with
 | .appR .. =>2
 | .v (.ld _ _ (.t i))=>(match Ut fz i with
  |some k=>if k==600000 then 2 else k+3
  |none=>if nt.contains i then 0 else 1)
 | .v (.ld _ _ (.c _))=>1
 | .st _ (.t i) _=>(match Ut fz i with
  |some k=>k+3
  |none=>if nt.contains i then 2 else 0)
 | .call false _ _=>(match o.dst with
  |some d=>(match Ut fz (100000+d)with
   |some k=>k+3
   |none=>0)
  |none=>0)
 |_=>0
def xAt(fz:List (Nat×Nat))(l:List Z9)(L:List Nat):List (Nat×Z9):=L.map λi=>(I3 fz (I2 l) (opAt l i),opAt l i)
def MU(fz:List (Nat×Nat))(ops:Array Oper)(l:List Z9)(ms:List Nat):Bool:=
 I1 ops&&l.all ldOK&&(List.range l.length).all λj=>(List.range j).all λi=>match l[i]?,l[j]? with
  |some x,some y=>(Jz x y&&catX (I3 fz (I2 l) x,x) (I3 fz (I2 l) y,y))||(ms.getD j 0).testBit i
  |_,_=>false
def LH(fz:List (Nat×Nat))(ops:Array Oper)(l:List Z9):Bool:=MU fz ops l (Gp ops.toList [])
def Rr(fz:List (Nat×Nat))(l:List Z9)(ms:List Nat)(j i:Nat):Bool:=j !=i&&(match l[j]?,l[i]? with
 |some x,some y=>(Jz x y&&catX (I3 fz (I2 l) x,x) (I3 fz (I2 l) y,y))||(ms.getD i 0).testBit j
 |_,_=>false)
def GV(p:Nat->Nat->Bool):List Nat->Bool
 |[]=>true
 |j::r=>r.all (λi=>p j i)&&GV p r
def J0(ops:Array Oper):List Nat->List Nat->Bool
 |_,[]=>true
 |seen,i::r=>(match ops[i]? with
  |some o=>o.after.toList.all λe=>!Region.binds .any e||seen.contains e.on
  |none=>false)&&J0 ops (i::seen) r
def J1(fz:List (Nat×Nat))(ord:List Nat)(ops:Array Oper)(l:List Z9):Bool:=
 decide (ord.length=ops.size)&&(ord.all λi=>decide (i<ops.size))&&((List.range ops.size).all λi=>ord.contains i)&&l.all ldOK&&J0 ops [] ord&&GV (Rr fz l (Gp ops.toList [])) ord
def PV(fz:List (Nat×Nat))(id:Nat):List Nat:=(fz.filter (·.1==990000+id)).map (·.2)
def IC(l:List Z9)(kp:List Nat):Bool:=l.all λo=>o.guard.isNone||(match o.dst with|some d=>!kp.contains d|none=>true)
def LI(fz:List (Nat×Nat))(id:Nat)(c:Yw):Yw:=((fz.filter λp=>p.1==id&&Nat.ble 1000 p.2).map (·.2)).foldl (λc t=>.seq c (if Nat.ble 5000 t then .frzo (t-5000)else .frz (t-1000))) c
def loF(fz:List (Nat×Nat)):Nat:=((fz.find? (·.1==999999)).map (·.2)).getD 0
def Aw(P:Program)(N:Nat)(fz im:List (Nat×Nat))(kp:Nat->List Nat):Code->Option Yw
 | .skip=>some .skip
 | .region id ops draw=>match cops P N (loF fz) ops ((fz.filter (·.1==id)).map (·.2)) ((im.filter (·.1==id)).map (·.2)) ops.toList 0 with
  |some l=>if draw=false\/(PT ops l=true/\IC l (kp id)=true/\P.follows .mixedOrders=true)then some (LI fz id (.reg (if l.any (λo=>o.k.news)then ops.size else 0) l (kp id)))else
    if LH fz ops l=true/\IC l (kp id)=true/\P.follows .mixedOrders=true then some (LI fz id (.regx (if l.any (λo=>o.k.news)then ops.size else 0) (xAt fz l (List.range l.length)) (kp id)))else
    if J1 fz (PV fz id) ops l=true/\IC l (kp id)=true/\P.follows .mixedOrders=true then some (LI fz id (.regx (if l.any (λo=>o.k.news)then ops.size else 0) (xAt fz l (PV fz id)) (kp id)))else none
  |none=>none
 | .seq a b=>match Aw P N fz im kp a,Aw P N fz im kp b with
  |some a,some b=>some (.seq a b)
  |_,_=>none
 | .cond c a b=>match copd c,Aw P N fz im kp a,Aw P N fz im kp b with
  |some c,some a,some b=>some (.cond c a b)
  |_,_,_=>none
 | .block id c=>(Aw P N fz im kp c).map (.block id)
 | .loop c=>(Aw P N fz im kp c).map .loop
 | .exit id=>some (.exit id)
 | .label _=>some .skip
 | .ret=>some .ret
 | .scope c=>Aw P N fz im kp c
 | .rangeFunc g ps asg body=>(copd g).map λg=>.rfun g ps N asg body
 |_=>none
section
variable {H:AC} {ob:Z7} {g:Yx} {L:Loc} {id n m:Nat} {σ':Nat->Nat->Option Value} {w w':World}
theorem PStab.eq{f f':Nat->Option Value}:∀(cs:List Fs) (o:Nat),(∀j,o<=j->j<o+cs.length->f' j=f j)->PStab g f o cs->PStab g f' o cs
 |[],_,_,_=>trivial
 |c::cs,o,h,⟨⟨x,h1,h2,h4⟩,h3⟩=>⟨⟨x,by rw[h o (V4 _) zw];exact h1,h2,h4⟩,PStab.eq cs (o+1) (λj a b=>h j zo (by simp only[Vz];omega)) h3⟩
theorem Stab.eq{esz:Nat}{f f':Nat->Option Value}:∀(l:List Fs) (o:Nat),(∀j,o<=j->j<o+l.length*esz->f' j=f j)->Stab g esz f o l->Stab g esz f' o l
 |[],_,_,_=>trivial
 |e::l,o,h,⟨⟨v,h1,h2,h3⟩,h4⟩=>by
  have hl:(e::l).length*esz=esz+l.length*esz:=by rw[Vz,WO];omega
  refine⟨⟨v,h1,h2,λj x hx=>?_⟩,Stab.eq l (o+esz) (λj a b=>h j zo (by rw[hl];omega)) h4⟩;have hj:j<esz:=by rw[<-h2.1];exact(Wc.1 hx).1
  rw[h (o+j) zo (by rw[hl];omega)];exact h3 j x hx
theorem An{b:Nat}{c:Array Value}{e:TypeId}{fz:Nat×Nat}(h:w.heap[b]?=some (.cells c e fz))(o:Nat):w.cell? ⟨b,o,none⟩=c[o]?:=by
 simp [World.cell?,h]
theorem Cl{b:Nat}(h:w'.heap[b]?=w.heap[b]?)(o:Nat):w'.cell? ⟨b,o,none⟩=w.cell? ⟨b,o,none⟩:=by
 simp [World.cell?,h]
def HExt(w w':World):Prop:=∀(b:Nat) ob,w.heap[b]?=some ob->w'.heap[b]?=some ob
theorem HExt.size(h:HExt w w'):w.heap.size<=w'.heap.size:=by
 rcases Nat.eq_zero_or_pos w.heap.size with h0|h0
 ·omega
 ·have h1:=h (w.heap.size-1) _ (X8 zo);have:=(Wc.1 h1).1;omega
theorem HExt.push{ob:Obj}(h:w'.heap=w.heap.push ob):HExt w w':=by
 intro b x hb;have c6:=(Wc.1 hb).1;rw[h,Array.getElem?_push,V5 zo];exact hb
theorem ORel.ext{g':Yx}(h:HExt w w')(hg:g.le g'):∀(ob:Z7),ORel g w id ob->ORel g' w' id ob
 | .box cs=>λ⟨L,c,e,h1,h2,h3,h4,h5,h6⟩=>⟨L,c,e,hg.β _ _ h1,h2,h3,h _ _ h4,h5,PStab.mono hg (λ_ _ x=>x) cs 0 h6⟩
 | .tok=>λ⟨L,h1,h2⟩=>⟨L,hg.β _ _ h1,λc6=>let ⟨c,e,h3,h4⟩:=h2 c6;⟨c,e,h _ _ h3,h4⟩⟩
 | .arr esz l=>λ⟨L,c,e,h1,h2,h3,h4,h5,h6⟩=>⟨L,c,e,hg.β _ _ h1,h2,h3,h _ _ h4,h5,Stab.mono hg (λ_ _ x=>x) esz l 0 h6⟩
 | .frz esz l=>λ⟨L,h1,h2,h3⟩=>⟨L,hg.β _ _ h1,h2,Stab.mono hg (hg.σ L.blk) esz l 0 h3⟩
 | .map es c=>λ⟨L,es',h1,h2,h3,h4,h5⟩=>⟨L,es',hg.β _ _ h1,h2,h3,h _ _ h4,MRel.mono hg _ _ h5⟩
 | .sit s pos=>λ⟨L,h1,h2,h3,h4⟩=>⟨L,hg.β _ _ h1,h2,h3,h _ _ h4⟩
 | .mit m c seen last=>λ⟨L,Lm,h1,h2,h3,h4,h5,h6⟩=>⟨L,Lm,hg.β _ _ h1,h2,h3,h _ _ h4,hg.β _ _ h5,h6⟩
 | .lp x=>λ⟨L,h1,h2,h3,h4,r,k1,k2,k3,k4,k5,k6,k7,k8⟩=>⟨L,hg.β _ _ h1,h2,h3,h4,r,h _ _ k1,k2,k3,k4,k5,k6,BU.mono hg k7,k8⟩
 | .dead=>λ_=>trivial
theorem Z2.grow(r:Z2 g H n w)(hx:HExt w w')(hσ:∀b o v,g.σ b o=some v->σ' b o=some v)
  (hnew:∀b o v,σ' b o=some v->g.σ b o=some v\/(w.heap.size<=b/\w'.cell? ⟨b,o,none⟩=some v)):Z2 ⟨g.β,σ'⟩ H n w':=by
 have hle:g.le ⟨g.β,σ'⟩:=⟨λ_ _ h=>h,hσ⟩;refine⟨?_,λid ob h=>ORel.ext hx hle ob (r.obj id ob h),λid L h=>⟨(r.dom id L h).1,λc6=>X6 ((r.dom id L h).2 c6) hx.size⟩,r.hd,r.ap,?_,r.gl.mono hle,r.gz.ext (λb c e fz h=>hx b _ h)⟩
 ·intro b o v h;rcases hnew b o v h with h1|h1
  ·have h2:=r.σw b o v h1;have:∃ob,w.heap[b]?=some ob:=by grind [World.cell?]
   obtain⟨ob,hb⟩:=this;rw[Cl ((hx b ob hb).trans hb.symm)];exact h2
  ·exact h1.2
 ·intro id ob L o q1 q2 q3 q4 q5;cases hs:σ' L.blk o with
  |none=>exact hs
  |some v=>
   rcases hnew _ _ _ hs with h1|h1
   ·rw[r.un id ob L o q1 q2 q3 q4 q5]at h1;cases h1
   ·have:=(r.dom id L q3).2 zo;omega
theorem Yv.grow(hx:HExt w w')(hos:w'.os=w.os)(htape:w'.tape=w.tape)(hout:w'.output=w.output)(hσ:∀b o v,g.σ b o=some v->σ' b o=some v)
  (hnew:∀b o v,σ' b o=some v->g.σ b o=some v\/w.heap.size<=b):Yv m g H w ⟨g.β,σ'⟩ H w' where
 le:=⟨λ_ _ h=>h,hσ⟩
 βn:=λ_ _ h=>.inl h
 os:=hos
 tape:=htape
 output:=hout
 size:=hx.size
 kept:=λb ob hb=>by rw[hx b ob hb];exact Kept.same _ _
 now:=λ_ _ _ h=>h
 nσ:=λb o v hb h=>.inl ((hnew b o v h).resolve_right zo)
theorem Z2.new'(r:Z2 g H n w){x:Obj}(hx:w'.heap=w.heap.push x)(hos:w'.os=w.os)(htape:w'.tape=w.tape)(hout:w'.output=w.output)
  (h0:hget H id=none) (d7:id<n) (hm:m<=id) (hL:L.blk=w.heap.size) (hσ:∀b o v,g.σ b o=some v->σ' b o=some v)
  (hnew:∀b o v,σ' b o=some v->g.σ b o=some v\/(b=w.heap.size/\w'.cell? ⟨b,o,none⟩=some v/\(o<L.lo\/L.hi<=o))) (hob:ORel ⟨λi=>if i=id then some L else g.β i,σ'⟩ w' id ob):
  Z2 ⟨λi=>if i=id then some L else g.β i,σ'⟩ (hset H id ob) n w'/\Yv m g H w ⟨λi=>if i=id then some L else g.β i,σ'⟩ (hset H id ob) w'/\g.le ⟨λi=>if i=id then some L else g.β i,σ'⟩:=by
 have hb0:g.β id=none:=by
  cases hb:g.β id with
  |none=>rfl
  |some L'=>exact absurd h0 (r.dom id L' hb).1
 have hle:g.le ⟨λi=>if i=id then some L else g.β i,σ'⟩:=⟨λi L' h=>by
  show(if i=id then some L else g.β i)=some L';rw[V5 (by rintro rfl;rw[hb0]at h;cases h)];exact h,hσ⟩
 have hext:HExt w w':=HExt.push hx;have hsz:w'.heap.size=w.heap.size+1:=by rw[hx];simp
 have low:∀id' L',id'≠id->g.β id'=some L'->L'.lo<L'.hi->L'.blk≠w.heap.size:=λid' L' _ h c6 e=>by
  have:=(r.dom id' L' h).2 c6;omega
 refine⟨⟨?_,?_,?_,?_,?_,?_,r.gl.mono hle,r.gz.ext (λb c e fz h=>hext b _ h)⟩,⟨hle,?_,hos,htape,hout,hext.size,λb ob' hb=>by rw[hext b ob' hb];exact Kept.same _ _,?_,?_⟩,hle⟩
 ·intro b o v h;rcases hnew b o v h with h|h
  ·have h2:=r.σw b o v h;have:∃ob,w.heap[b]?=some ob:=by grind [World.cell?]
   obtain⟨ob',hb⟩:=this;rw[Cl ((hext b ob' hb).trans hb.symm)];exact h2
  ·exact h.2.1
 ·intro id' ob' h;rw[AJ]at h;by_cases he:id=id'
  ·subst he;rw[Vv rfl]at h;cases h;exact hob
  ·rw[V5 he]at h;exact ORel.ext hext hle ob' (r.obj id' ob' h)
 ·intro id' L' h;rw[AJ];by_cases he:id=id'
  ·simp_all
  ·rw[V5 he];have h':g.β id'=some L':=by simpa [Ne.symm he]using h
   exact⟨(r.dom id' L' h').1,λc6=>by have:=(r.dom id' L' h').2 c6;omega⟩
 ·intro id' ob' h;rw[AJ]at h;by_cases he:id=id'
  ·subst he;exact d7
  ·rw[V5 he]at h;exact r.hd id' ob' h
 ·intro i j oi oj Li Lj hne q1 q2 q3 q4 q5 q6 hblk;rw[AJ]at q1 q2;by_cases e1:id=i
  ·grind
  ·by_cases e2:id=j
   ·grind
   ·rw[V5 e1]at q1;rw[V5 e2]at q2;exact r.ap i j oi oj Li Lj hne q1 q2 q3 q4 (by simpa [Ne.symm e1]using q5) (by simpa [Ne.symm e2]using q6) hblk
 ·intro i oi Li o q1 q2 q3 q4 q5;rw[AJ]at q1;show σ' Li.blk o=none;cases hs:σ' Li.blk o with
  |none=>rfl
  |some v=>
   exfalso;by_cases e1:id=i
   ·subst e1;have:Li=L:=by simpa using q3.symm
    subst this;rcases hnew _ _ _ hs with h|h
    ·have:=r.σw _ _ _ h;rw[hL]at this;simp [World.cell?]at this
    ·omega
   ·rw[V5 e1]at q1;have q3':g.β i=some Li:=by simpa [Ne.symm e1]using q3
    rcases hnew _ _ _ hs with h|h
    ·rw[r.un i oi Li o q1 q2 q3' q4 q5]at h;cases h
    ·have:=(r.dom i Li q3').2 zo;omega
 ·grind
 ·rintro b o hb ⟨i,oi,Li,q1,q2,q3,q4,q5,q6⟩;rw[AJ]at q1;by_cases e1:id=i
  ·simp_all
  ·rw[V5 e1]at q1;exact⟨i,oi,Li,q1,q2,by simpa [Ne.symm e1]using q3,q4,q5,q6⟩
 ·grind
theorem Z2.new(r:Z2 g H n w){x:Obj}(hx:w'.heap=w.heap.push x)(hos:w'.os=w.os)(htape:w'.tape=w.tape)(hout:w'.output=w.output)
  (h0:hget H id=none) (d7:id<n) (hm:m<=id) (hL:L.blk=w.heap.size) (hob:ORel ⟨λi=>if i=id then some L else g.β i,g.σ⟩ w' id ob):
  Z2 ⟨λi=>if i=id then some L else g.β i,g.σ⟩ (hset H id ob) n w'/\Yv m g H w ⟨λi=>if i=id then some L else g.β i,g.σ⟩ (hset H id ob) w'/\g.le ⟨λi=>if i=id then some L else g.β i,g.σ⟩:=
 r.new' hx hos htape hout h0 d7 hm hL (λ_ _ _ h=>h) (λ_ _ _ h=>.inl h) hob
theorem Z2.kill(r:Z2 g H n w)(h0:hget H id=some ob):
  Z2 g (hset H id .dead) n w/\Yv m g H w g (hset H id .dead) w:=by
 have low:∀i oi,hget (hset H id .dead) i=some oi->oi.owns=true->hget H i=some oi:=by
  intro i oi q1 q2;rw[AJ]at q1;by_cases e:id=i
  ·rw[Vv e]at q1;cases q1;simp [Z7.owns]at q2
  ·rw[V5 e]at q1;exact q1
 refine⟨⟨r.σw,?_,?_,?_,?_,?_,r.gl,r.gz⟩,⟨.refl g,λ_ _ h=>.inl h,rfl,rfl,rfl,V4 _,λb ob hb=>by rw[hb];exact Kept.same _ _,?_,λ_ _ _ _ h=>.inl h⟩⟩
 ·intro i oi h;rw[AJ]at h;by_cases e:id=i
  ·rw[Vv e]at h;cases h;trivial
  ·rw[V5 e]at h;exact r.obj i oi h
 ·intro i L h;refine⟨?_,(r.dom i L h).2⟩;rw[AJ];by_cases e:id=i
  ·simp [e]
  ·rw[V5 e];exact(r.dom i L h).1
 ·intro i oi h;rw[AJ]at h;by_cases e:id=i
  ·subst e;exact r.hd id ob h0
  ·rw[V5 e]at h;exact r.hd i oi h
 ·intro i j oi oj Li Lj hne q1 q2 q3 q4 q5 q6 hb;exact r.ap i j oi oj Li Lj hne (low i oi q1 q3) (low j oj q2 q4) q3 q4 q5 q6 hb
 ·intro i oi L o q1 q2 q3 q4 q5;exact r.un i oi L o (low i oi q1 q2) q2 q3 q4 q5
 ·rintro b o hb ⟨i,oi,Li,q1,q2,q3,q4,q5,q6⟩;exact⟨i,oi,Li,low i oi q1 q2,q2,q3,q4,q5,q6⟩
theorem Z2.split(r:Z2 g H n w)(h0:hget H id=none)(d7:id<n)(hm:m<=id){H':AC}
  (hH:(H'=H/\L.hi<=L.lo)\/∃i0 lo0,H'=hset H i0 .dead/\hget H i0=some .tok/\g.β i0=some ⟨L.blk,lo0,L.hi⟩/\lo0<=L.lo)
  (hσ:∀b o v,g.σ b o=some v->σ' b o=some v)
  (hnew:∀b o v,σ' b o=some v->g.σ b o=some v\/(b=L.blk/\o<L.lo/\w.cell? ⟨b,o,none⟩=some v/\∃i0 lo0,H'=hset H i0 .dead/\hget H i0=some .tok/\g.β i0=some ⟨L.blk,lo0,L.hi⟩/\lo0<=o/\o<L.hi)):
  Z2 ⟨λi=>if i=id then some L else g.β i,σ'⟩ (hset H' id .tok) n w/\Yv m g H w ⟨λi=>if i=id then some L else g.β i,σ'⟩ (hset H' id .tok) w/\g.le ⟨λi=>if i=id then some L else g.β i,σ'⟩:=by
 have hb0:g.β id=none:=by
  cases hb:g.β id with
  |none=>rfl
  |some L'=>exact absurd h0 (r.dom id L' hb).1
 have hle:g.le ⟨λi=>if i=id then some L else g.β i,σ'⟩:=⟨λi L' h=>by
  show(if i=id then some L else g.β i)=some L';rw[V5 (by rintro rfl;rw[hb0]at h;cases h)];exact h,hσ⟩
 have low:∀i oi,hget H' i=some oi->oi.owns=true->hget H i=some oi:=by
  intro i oi q1 q2;rcases hH with⟨rfl,_⟩|⟨i0,lo0,rfl,_⟩
  ·exact q1
  ·rw[AJ]at q1;by_cases e:i0=i
   ·rw[Vv e]at q1;cases q1;simp [Z7.owns]at q2
   ·rw[V5 e]at q1;exact q1
 have any:∀i oi,hget H' i=some oi->∃oi',hget H i=some oi'/\(oi=oi'\/oi= .dead):=by
  intro i oi q1;rcases hH with⟨rfl,_⟩|⟨i0,lo0,rfl,h1,_⟩
  ·exact⟨oi,q1,.inl rfl⟩
  ·rw[AJ]at q1;by_cases e:i0=i
   ·simp_all
   ·rw[V5 e]at q1;exact⟨oi,q1,.inl rfl⟩
 have none':∀i,hget H i≠none->hget H' i≠none:=by grind [AJ]
 have off:∀i oi Li o,hget H' i=some oi->oi.owns=true->g.β i=some Li->Li.blk=L.blk->Li.lo<=o->o<Li.hi->∀i0 lo0,H'=hset H i0 .dead->hget H i0=some .tok->g.β i0=some ⟨L.blk,lo0,L.hi⟩->¬(lo0<=o/\o<L.hi):=by
  intro i oi Li o q1 q2 q3 q4 q5 q6 i0 lo0 e1 e2 e3 e4;have hne:i≠i0:=by
   rintro rfl;rw[e1,AJ,Vv rfl]at q1;cases q1;simp [Z7.owns]at q2
  have:=r.ap i i0 oi .tok Li ⟨L.blk,lo0,L.hi⟩ hne (low i oi q1 q2) e2 q2 rfl q3 e3 q4;simp only[]at this;omega
 have wcell:∀b o v,σ' b o=some v->w.cell? ⟨b,o,none⟩=some v:=λb o v h=>(hnew b o v h).elim (λh=>r.σw b o v h) (λh=>h.2.2.1)
 refine⟨⟨wcell,?_,?_,?_,?_,?_,r.gl.mono hle,r.gz⟩,⟨hle,?_,rfl,rfl,rfl,V4 _,λb ob hb=>by rw[hb];exact Kept.same _ _,?_,?_⟩,hle⟩
 ·intro i oi h;rw[AJ]at h;by_cases e:id=i
  ·subst e;rw[Vv rfl]at h;cases h;refine⟨L,zw,λc6=>?_⟩;rcases hH with⟨_,h1⟩|⟨i0,lo0,_,h1,h2,h3⟩
   ·omega
   ·obtain⟨L',k1,k2⟩:=r.obj i0 .tok h1;rw[h2]at k1;cases k1;exact k2 zp
  ·rw[V5 e]at h;obtain⟨oi',q1,q2⟩:=any i oi h;rcases q2 with rfl|rfl
   ·exact ORel.ext (λ_ _ h=>h) hle _ (r.obj i _ q1)
   ·trivial
 ·intro i L' h;rw[AJ];by_cases e:id=i
  ·subst e;have:L'=L:=by simpa using h.symm
   subst this;refine⟨zw,λc6=>?_⟩;rcases hH with⟨_,h1⟩|⟨i0,lo0,_,h1,h2,h3⟩
   ·omega
   ·exact(r.dom i0 _ h2).2 zp
  ·rw[V5 e];have h':g.β i=some L':=by simpa [Ne.symm e]using h
   exact⟨none' i (r.dom i L' h').1,(r.dom i L' h').2⟩
 ·intro i oi h;rw[AJ]at h;by_cases e:id=i
  ·subst e;exact d7
  ·rw[V5 e]at h;obtain⟨oi',q1,_⟩:=any i oi h;exact r.hd i oi' q1
 ·intro i j oi oj Li Lj hne q1 q2 q3 q4 q5 q6 hblk;rw[AJ]at q1 q2;have case1:∀j oj Lj,id≠j->hget H' j=some oj->oj.owns=true->g.β j=some Lj->L.blk=Lj.blk->L.hi<=Lj.lo\/Lj.hi<=L.lo\/L.hi<=L.lo\/Lj.hi<=Lj.lo:=by
   intro j oj Lj hj q2 q4 q6 hb;rcases hH with⟨_,h1⟩|⟨i0,lo0,e1,h1,h2,h3⟩
   ·exact .inr (.inr (.inl h1))
   ·have hne:j≠i0:=by
     rintro rfl;rw[e1,AJ,Vv rfl]at q2;cases q2;simp [Z7.owns]at q4
    have:=r.ap j i0 oj .tok Lj ⟨L.blk,lo0,L.hi⟩ hne (low j oj q2 q4) h1 q4 rfl q6 h2 hb.symm;simp only[]at this;omega
  by_cases e1:id=i
  ·grind
  ·by_cases e2:id=j
   ·subst e2;have:Lj=L:=by simpa using q6.symm
    subst this;rw[V5 e1]at q1;have:=case1 i oi Li e1 q1 q3 (by simpa [Ne.symm e1]using q5) hblk.symm;omega
   ·rw[V5 e1]at q1;rw[V5 e2]at q2;exact r.ap i j oi oj Li Lj hne (low i oi q1 q3) (low j oj q2 q4) q3 q4 (by simpa [Ne.symm e1]using q5) (by simpa [Ne.symm e2]using q6) hblk
 ·intro i oi Li o q1 q2 q3 q4 q5;rw[AJ]at q1;show σ' Li.blk o=none;cases hs:σ' Li.blk o with
  |none=>rfl
  |some v=>
   exfalso;by_cases e1:id=i
   ·subst e1;have:Li=L:=by simpa using q3.symm
    subst this;rcases hnew _ _ _ hs with h|h
    ·rcases hH with⟨_,h1⟩|⟨i0,lo0,_,h1,h2,h3⟩
     ·omega
     ·rw[r.un i0 .tok _ o h1 rfl h2 zp q5]at h;cases h
    ·omega
   ·rw[V5 e1]at q1;have q3':g.β i=some Li:=by simpa [Ne.symm e1]using q3
    rcases hnew _ _ _ hs with h|⟨h1,h2,h3,i0,lo0,k1,k2,k3,k4,k5⟩
    ·rw[r.un i oi Li o (low i oi q1 q2) q2 q3' q4 q5]at h;cases h
    ·exact off i oi Li o q1 q2 q3' h1 q4 q5 i0 lo0 k1 k2 k3 ⟨k4,k5⟩
 ·grind
 ·rintro b o hb ⟨i,oi,Li,q1,q2,q3,q4,q5,q6⟩;rw[AJ]at q1;by_cases e1:id=i
  ·subst e1;have:Li=L:=by simpa using q3.symm
   subst this;rcases hH with⟨_,h1⟩|⟨i0,lo0,_,h1,h2,h3⟩
   ·omega
   ·exact⟨i0,.tok,_,h1,rfl,h2,q4,zp,q6⟩
  ·rw[V5 e1]at q1;exact⟨i,oi,Li,low i oi q1 q2,q2,by simpa [Ne.symm e1]using q3,q4,q5,q6⟩
 ·intro b o v hb h;rcases hnew b o v h with h|⟨h1,h2,h3,i0,lo0,k1,k2,k3,k4,k5⟩
  ·exact .inl h
  ·exact .inr ⟨i0,.tok,_,k2,rfl,k3,h1.symm,k4,k5⟩
theorem Z2.upd(r:Z2 g H n w){ob':Z7}(h0:hget H id=some ob)(hown:ob.owns=true)(hL:g.β id=some L)
  (hos:w'.os=w.os) (htape:w'.tape=w.tape) (hout:w'.output=w.output) (hsz:w'.heap.size=w.heap.size)
  (hoth:∀b:Nat,b≠L.blk->w'.heap[b]?=w.heap[b]?)
  (hblk:(∃c e fz c',w.heap[L.blk]?=some (.cells c e fz)/\w'.heap[L.blk]?=some (.cells c' e fz)/\c'.size=c.size/\∀o,(o<L.lo\/L.hi<=o)->c'[o]?=c[o]?)\/
   (L.lo=0/\L.hi=1/\∃x,w.heap[L.blk]?=some x/\∀c e fz,x≠ .cells c e fz))
  (hob:ORel g w' id ob'):
  Z2 g (hset H id ob') n w'/\Yv m g H w g (hset H id ob') w':=by
 have hcell:∀b o,g.σ b o≠none->w'.cell? ⟨b,o,none⟩=w.cell? ⟨b,o,none⟩:=by
  intro b o hs;by_cases hb:b=L.blk
  ·subst hb;rcases hblk with⟨c,e,fz,c',h1,h2,h3,h4⟩|⟨h1,h2,x,h3,h4⟩
   ·rw[An h1,An h2];refine h4 o ?_;rcases Nat.lt_or_ge o L.lo with h5|h5
    ·exact .inl h5
    ·rcases Nat.lt_or_ge o L.hi with h6|h6
     ·exact absurd (r.un id ob L o h0 hown hL h5 h6) hs
     ·exact .inr h6
   ·exfalso;cases hv:g.σ L.blk o with
    |none=>exact hs hv
    |some v=>
     have:=r.σw _ _ _ hv;cases x with
     |cells c e fz=>exact h4 c e fz rfl
     |_=>simp [World.cell?,h3]at this
  ·exact Cl (hoth b hb) o
 have hapart:∀id' oi Li,id'≠id->hget H id'=some oi->oi.owns=true->g.β id'=some Li->Li.blk=L.blk->∀o,Li.lo<=o->o<Li.hi->(o<L.lo\/L.hi<=o):=by
  intro id' oi Li hne q1 q2 q3 hb o a b;rcases r.ap id' id oi ob Li L hne q1 h0 q2 hown q3 hL hb with h1|h1|h1|h1<;>omega
 have hgz:Ft w':=by
  intro i cs e;obtain⟨c,t,fz,h1,h2⟩:=r.gz i cs e;by_cases hb:i=L.blk
  ·grind
  ·exact⟨c,t,fz,by rw[hoth _ hb];exact h1,h2⟩
 refine⟨⟨?_,?_,?_,?_,?_,?_,r.gl,hgz⟩,⟨.refl g,λ_ _ h=>.inl h,hos,htape,hout,zo,?_,?_,λ_ _ _ _ h=>.inl h⟩⟩
 ·intro b o v h;rw[hcell b o (by rw[h];simp)];exact r.σw b o v h
 ·intro id' oi h;rw[AJ]at h;by_cases he:id=id'
  ·subst he;rw[Vv rfl]at h;cases h;exact hob
  ·rw[V5 he]at h;have ho:=r.obj id' oi h;have keepc:∀(Li:Loc) c e fz,oi.owns=true->g.β id'=some Li->w.heap[Li.blk]?=some (.cells c e fz)->∃c',w'.heap[Li.blk]?=some (.cells c' e fz)/\c'.size=c.size/\∀o,Li.lo<=o->o<Li.hi->c'[o]?=c[o]?:=by grind
   cases oi with
   |box cs=>
    obtain⟨Li,c,e,h1,h2,h3,h4,h5,h6⟩:=ho;obtain⟨c',k1,k2,k3⟩:=keepc Li c e _ rfl h1 h4;exact⟨Li,c',e,h1,h2,h3,k1,k2.trans h5,PStab.eq cs 0 (λj a b=>k3 j zo zo) h6⟩
   |tok=>
    obtain⟨Li,h1,h2⟩:=ho;refine⟨Li,h1,λc6=>?_⟩;obtain⟨c,e,h3,h4⟩:=h2 c6;obtain⟨c',k1,k2,k3⟩:=keepc Li c e _ rfl h1 h3;exact⟨c',e,k1,zo⟩
   |arr esz l=>
    obtain⟨Li,c,e,h1,h2,h3,h4,h5,h6⟩:=ho;obtain⟨c',k1,k2,k3⟩:=keepc Li c e _ rfl h1 h4;exact⟨Li,c',e,h1,h2,zo,k1,zo,Stab.eq l 0 (λj a b=>k3 j zo zo) h6⟩
   |frz esz l=>exact ho
   |map es cl=>
    obtain⟨Li,es',h1,h2,h3,h4,h5⟩:=ho;have hb:Li.blk≠L.blk:=by
     intro hb;have hd:=hapart id' _ Li (Ne.symm he) h rfl h1 hb 0 zo zo;rcases hblk with⟨c1,e1,fz1,c',k1,_⟩|⟨k1,k2,_⟩
     ·rw[hb,k1]at h4;cases h4
     ·omega
    exact⟨Li,es',h1,h2,h3,by rw[hoth _ hb];exact h4,h5⟩
   |sit s pos=>
    obtain⟨Li,h1,h2,h3,h4⟩:=ho;have hb:Li.blk≠L.blk:=by
     intro hb;have hd:=hapart id' _ Li (Ne.symm he) h rfl h1 hb 0 zo zo;rcases hblk with⟨c1,e1,fz1,c',k1,_⟩|⟨k1,k2,_⟩
     ·rw[hb,k1]at h4;cases h4
     ·omega
    exact⟨Li,h1,h2,h3,by rw[hoth _ hb];exact h4⟩
   |mit m c seen last=>
    obtain⟨Li,Lm,h1,h2,h3,h4,h5⟩:=ho;have hb:Li.blk≠L.blk:=by
     intro hb;have hd:=hapart id' _ Li (Ne.symm he) h rfl h1 hb 0 zo zo;rcases hblk with⟨c1,e1,fz1,c',k1,_⟩|⟨k1,k2,_⟩
     ·rw[hb,k1]at h4;cases h4
     ·omega
    exact⟨Li,Lm,h1,h2,h3,by rw[hoth _ hb];exact h4,h5⟩
   |lp x=>
    obtain⟨Li,h1,h2,h3,h4,r1,h5,h6⟩:=ho;have hb:Li.blk≠L.blk:=by
     intro hb;have hd:=hapart id' _ Li (Ne.symm he) h rfl h1 hb 0 zo zo;rcases hblk with⟨c1,e1,fz1,c',k1,_⟩|⟨k1,k2,_⟩
     ·rw[hb,k1]at h5;cases h5
     ·omega
    exact⟨Li,h1,h2,h3,h4,r1,by rw[hoth _ hb];exact h5,h6⟩
   |dead=>trivial
 ·intro id' Li h;refine⟨?_,λc6=>by have:=(r.dom id' Li h).2 c6;omega⟩;rw[AJ];by_cases he:id=id'
  ·simp [he]
  ·rw[V5 he];exact(r.dom id' Li h).1
 ·intro id' oi h;rw[AJ]at h;by_cases he:id=id'
  ·subst he;exact r.hd id ob h0
  ·rw[V5 he]at h;exact r.hd id' oi h
 ·intro i j oi oj Li Lj hne q1 q2 q3 q4 q5 q6 hb;have low:∀i oi,hget (hset H id ob') i=some oi->oi.owns=true->∃oi',hget H i=some oi'/\oi'.owns=true:=by
   intro i oi q1 q3;rw[AJ]at q1;by_cases he:id=i
   ·subst he;exact⟨ob,h0,hown⟩
   ·rw[V5 he]at q1;exact⟨oi,q1,q3⟩
  obtain⟨oi',p1,p2⟩:=low i oi q1 q3;obtain⟨oj',p3,p4⟩:=low j oj q2 q4;exact r.ap i j oi' oj' Li Lj hne p1 p3 p2 p4 q5 q6 hb
 ·intro i oi Li o q1 q2 q3 q4 q5;rw[AJ]at q1;by_cases he:id=i
  ·subst he;exact r.un id ob Li o h0 hown q3 q4 q5
  ·rw[V5 he]at q1;exact r.un i oi Li o q1 q2 q3 q4 q5
 ·intro b x hb;by_cases s9:b=L.blk
  ·subst s9;rcases hblk with⟨c,e,fz,c',h1,h2,h3,h4⟩|⟨h1,h2,y,h3,h4⟩
   ·rw[h1]at hb;cases hb;refine⟨c',h2,h3,λo ho=>h4 o ?_⟩;rcases Nat.lt_or_ge o L.lo with h5|h5
    ·exact .inl h5
    ·rcases Nat.lt_or_ge o L.hi with h6|h6
     ·exact absurd ⟨id,ob,L,h0,hown,hL,rfl,h5,h6⟩ ho
     ·exact .inr h6
   ·rw[h3]at hb;cases hb;have:Dh g H L.blk 0:=⟨id,ob,L,h0,hown,hL,rfl,zo,zo⟩;cases x with
    |cells c e fz=>exact absurd rfl (h4 _ _ _)
    |_=>exact .inl this
  ·rw[hoth b s9,hb];exact Kept.same _ _
 ·rintro b o hb ⟨i,oi,Li,q1,q2,q3,q4,q5,q6⟩;rw[AJ]at q1;by_cases he:id=i
  ·subst he;exact⟨id,ob,Li,h0,hown,q3,q4,q5,q6⟩
  ·rw[V5 he]at q1;exact⟨i,oi,Li,q1,q2,q3,q4,q5,q6⟩
end
section
variable {a:Fs} {g:Yx} {esz:Nat} {f:Nat->Option Value} {v:Value}
theorem VRel.notAgg(h:VRel g a v)(ha:∀cs,a≠ .agg cs):∀cs,v≠ .agg cs:=by
 intro cs e;subst e;cases a<;>simp only[VRel]at h;case agg cs=>exact ha _ rfl
 case sl tok l=>simp_all
 all_goals first
  |(cases h;done)
  |(obtain⟨_,h⟩:=h;cases h;done)
  |(obtain⟨_,_,_,h⟩:=h;cases h;done)
  |(obtain⟨_,_,h,_⟩:=h;cases h;done)
  |(obtain⟨_,h,_⟩:=h;cases h;done)
  |(obtain⟨_,_,h⟩:=h;cases h;done)
theorem EM(h:∀cs,v≠ .agg cs):v.cells= #[v]:=by
 cases v<;>first|rfl|exact absurd rfl (h _)
theorem GL(h:∀cs,a≠ .agg cs):a.cells=[a]:=by
 cases a<;>first|rfl|exact absurd rfl (h _)
theorem VRel.cells(h:VRel g a v):VRels g a.cells v.cells.toList:=by
 by_cases ha:∃cs,a= .agg cs
 ·obtain⟨cs,rfl⟩:=ha;obtain⟨vs,rfl,h1,_⟩:=h;exact h1
 ·have ha':∀cs,a≠ .agg cs:=λcs e=>ha ⟨cs,e⟩
  rw[GL ha',EM (h.notAgg ha')];exact⟨v,[],rfl,h,rfl⟩
theorem VRel.one(h:VRel g a v)(ht:nT a):∀x∈v.cells.toList,x.oneCell'=true:=by
 by_cases ha:∃cs,a= .agg cs
 ·obtain⟨cs,rfl⟩:=ha;obtain⟨vs,rfl,_,h2⟩:=h;exact h2
 ·have ha':∀cs,a≠ .agg cs:=λcs e=>ha ⟨cs,e⟩
  rw[EM (h.notAgg ha')];intro x hx;have:x=v:=by simpa using hx
  subst this;cases x with
  |agg cs=>exact absurd rfl (h.notAgg ha' cs)
  |tuple vs=>
   exfalso;cases a<;>simp only[VRel,nT]at h ht;case sl tok l=>rcases h with⟨_,h,_⟩|⟨_,_,_,_,⟨_,h,_⟩,_⟩<;>cases h
   all_goals first
    |(cases h;done)
    |(obtain⟨_,h⟩:=h;cases h;done)
    |(obtain⟨_,_,_,h⟩:=h;cases h;done)
    |(obtain⟨_,_,h,_⟩:=h;cases h;done)
    |(obtain⟨_,h,_⟩:=h;cases h;done)
    |(obtain⟨_,_,h⟩:=h;cases h;done)
  |_=>rfl
theorem VRels.length:∀(as:List Fs) (vs:List Value),VRels g as vs->vs.length=as.length
 |[],_,h=>by simp only[VRels]at h;subst h;rfl
 |a::as,_,⟨v,rest,rfl,_,h⟩=>by simp [VRels.length as rest h]
theorem VRels.take:∀(k:Nat) (as:List Fs) (vs:List Value),VRels g as vs->VRels g (as.take k) (vs.take k)
 |0,_,_,_=>by simp [VRels]
 |k+1,[],_,h=>by simp only[VRels]at h;subst h;simp [VRels]
 |k+1,a::as,_,⟨v,rest,rfl,h1,h2⟩=>⟨v,rest.take k,rfl,h1,VRels.take k as rest h2⟩
theorem VRels.drop:∀(k:Nat) (as:List Fs) (vs:List Value),VRels g as vs->VRels g (as.drop k) (vs.drop k)
 |0,_,_,h=>by simpa using h
 |k+1,[],_,h=>by simp only[VRels]at h;subst h;simp [VRels]
 |k+1,a::as,_,⟨v,rest,rfl,h1,h2⟩=>by simpa using VRels.drop k as rest h2
theorem VRels.append:∀(as:List Fs) (vs:List Value) (bs:List Fs) (us:List Value),VRels g as vs->VRels g bs us->VRels g (as++bs) (vs++us)
 |[],_,_,_,h,k=>by simp only[VRels]at h;subst h;simpa using k
 |a::as,_,bs,us,⟨v,rest,rfl,h1,h2⟩,k=>⟨v,rest++us,rfl,h1,VRels.append as rest bs us h2 k⟩
theorem VRels.getElem:∀(i:Nat) (as:List Fs) (vs:List Value),VRels g as vs->∀v,vs[i]?=some v->VRel g (as[i]?.getD (.tup [])) v
 |_,[],_,h,v,hv=>by simp only[VRels]at h;subst h;simp at hv
 |0,a::as,_,⟨u,rest,rfl,h1,h2⟩,v,hv=>by simp at hv;subst hv;simpa using h1
 |i+1,a::as,_,⟨u,rest,rfl,h1,h2⟩,v,hv=>by simpa using VRels.getElem i as rest h2 v (by simpa using hv)
theorem VRels.splice{as bs:List Fs}{vs us:List Value}{off:Nat}(h:VRels g as vs)(k:VRels g bs us):VRels g (splice as off bs) (vs.take off++us++vs.drop (off+us.length)):=by
 unfold AM.splice;rw[VRels.length bs us k];exact VRels.append _ _ _ _ (VRels.append _ _ _ _ (VRels.take off as vs h) k) (VRels.drop _ as vs h)
theorem PStab.of:∀(cs:List Fs) (vs:List Value) (o:Nat),VRels g cs vs->(∀(j:Nat) x,vs[j]?=some x->f (o+j)=some x)->(∀x∈vs,x.oneCell'=true)->PStab g f o cs
 |[],_,_,_,_,_=>trivial
 |c::cs,_,o,⟨v,rest,rfl,h1,h2⟩,hf,h3=>⟨⟨v,by simpa using hf 0 v rfl,h1,h3 v zw⟩,
   PStab.of cs rest (o+1) h2 (λj x hx=>by have:=hf (j+1) x (by simpa using hx);rwa[show o+(j+1)=o+1+j from by omega]at this) (λx hx=>h3 x (by simp [hx]))⟩
theorem PStab.list:∀(cs:List Fs) (o:Nat),PStab g f o cs->∃vs,VRels g cs vs/\(∀(j:Nat) x,vs[j]?=some x->f (o+j)=some x)/\∀x∈vs,x.oneCell'=true
 |[],_,_=>⟨[],rfl,zw,zw⟩
 |c::cs,o,⟨⟨x,h1,h2,h4⟩,h3⟩=>by
  obtain⟨vs,k1,k2,k3⟩:=PStab.list cs (o+1) h3;refine⟨x::vs,⟨x,vs,rfl,h2,k1⟩,?_,?_⟩
  ·grind
  ·simp_all
theorem PStab.drop:∀(k:Nat) (cs:List Fs) (o:Nat),PStab g f o cs->PStab g f (o+k) (cs.drop k)
 |0,_,_,h=>by simpa using h
 |k+1,[],_,_=>by simp [PStab]
 |k+1,c::cs,o,h=>by have:=PStab.drop k cs (o+1) h.2;rwa[show o+1+k=o+(k+1)from by omega]at this
theorem PStab.take:∀(k:Nat) (cs:List Fs) (o:Nat),PStab g f o cs->PStab g f o (cs.take k)
 |0,_,_,_=>by simp [PStab]
 |k+1,[],_,_=>by simp [PStab]
 |k+1,c::cs,o,h=>⟨h.1,PStab.take k cs (o+1) h.2⟩
theorem Stab.elem:∀(i:Nat) (l:List Fs) (o:Nat),Stab g esz f o l->i<l.length->
  ∃v,VRel g (l[i]?.getD (.tup [])) v/\EH esz v/\∀(j:Nat) x,v.cells[j]?=some x->f (o+i*esz+j)=some x
 |_,[],_,_,h=>by simp at h
 |0,e::l,o,⟨⟨v,h1,h2,h3⟩,h4⟩,_=>⟨v,by simpa using h1,h2,by simpa using h3⟩
 |i+1,e::l,o,⟨_,h4⟩,h=>by
  obtain⟨v,k1,k2,k3⟩:=Stab.elem i l (o+esz) h4 (by simpa using h);refine⟨v,by simpa using k1,k2,λj x hx=>?_⟩;have:=k3 j x hx
  rwa[show o+esz+i*esz+j=o+(i+1)*esz+j from by rw[WO];omega]at this
theorem Stab.take:∀(k:Nat) (l:List Fs) (o:Nat),Stab g esz f o l->Stab g esz f o (l.take k)
 |0,_,_,_=>by simp [Stab]
 |k+1,[],_,_=>by simp [Stab]
 |k+1,e::l,o,h=>⟨h.1,Stab.take k l (o+esz) h.2⟩
theorem Stab.drop:∀(k:Nat) (l:List Fs) (o:Nat),Stab g esz f o l->Stab g esz f (o+k*esz) (l.drop k)
 |0,_,_,h=>by simpa using h
 |k+1,[],_,_=>by simp [Stab]
 |k+1,e::l,o,h=>by have:=Stab.drop k l (o+esz) h.2;rwa[show o+esz+k*esz=o+(k+1)*esz from by rw[WO];omega]at this
theorem Stab.append:∀(l l':List Fs) (o:Nat),Stab g esz f o l->Stab g esz f (o+l.length*esz) l'->Stab g esz f o (l++l')
 |[],_,_,_,h=>by simpa using h
 |e::l,l',o,h,k=>⟨h.1,Stab.append l l' (o+esz) h.2 (by rwa[show o+esz+l.length*esz=o+(e::l).length*esz from by rw[Vz,WO];omega])⟩
theorem BF(b o k:Nat):(⟨b,o,none⟩:Addr).add k=⟨b,o+k,none⟩:=by
 unfold Addr.add;split<;>simp_all
def Yld(P:Program)(m:Nat)(g:Yx)(H:AC)(n:Nat)(w:World)(s:Sem Value)(r:Fs):Prop:=
 ∃v w' g',s.run P w= .ok v w'/\VRel g' r v/\Z2 g' H n w'/\Yv m g H w g' H w'
section
variable {P:Program} {g:Yx} {H:AC} {n m:Nat} {w:World}
theorem Yld.pure(R:Z2 g H n w){s:Sem Value}{r:Fs}{v:Value}(h:s.run P w= .ok v w)(hv:VRel g r v):Yld P m g H n w s r:=
 ⟨v,w,g,h,hv,R,Yv.refl m g H w⟩
variable {a:Fs} {sz:Nat} {t:TypeId} {x:Value}
theorem CX(h:szT P t=some sz):∃i d,P.info? t=some i/\P.underlying t=some d/\i.size=sz/\0<sz:=by
 unfold szT at h;split at h
 ·grind
 ·cases h
theorem A8(h:szT P t=some sz):(sizeOf t).run P w= .ok sz w:=by
 obtain⟨i,d,hi,hd,rfl,_⟩:=CX h;simp [sizeOf,typeInfo,hi]
theorem J2(h:szT P t=some sz):(isAgg t).run P w= .ok (aggT P t) w:=by
 obtain⟨i,d,hi,hd,_,_⟩:=CX h;simp only[isAgg,Sem.run_bind,run_underlying hd,Result.andThen_ok,aggT,hd];cases d<;>simp
theorem Gq(h:szT P t=some sz){b off:Nat}{cs:List Fs}(hp:PStab g (λo=>w.cell? ⟨b,o,none⟩) off cs)(hl:cs.length=sz):
  ∃v,(loadVar t ⟨b,off,none⟩).run P w= .ok v w/\VRel g (mk (aggT P t) cs) v:=by
 obtain⟨vs,h1,h2,h3⟩:=hp.list;have hvl:=VRels.length _ _ h1;obtain⟨_,_,_,_,_,hpos⟩:=CX h;simp only[loadVar,Sem.run_bind,J2 h,Result.andThen_ok];cases hag:aggT P t with
 |true=>
  have hload:(loadCells ⟨b,off,none⟩ sz).run P w= .ok vs.toArray w:=by
   have:=run_loadCells_list (P:=P) w ⟨b,off,none⟩ vs (λj v hv=>by rw[BF];exact h2 j v hv)
   rwa[hvl,hl]at this
  refine⟨.agg vs.toArray,?_,⟨vs.toArray,rfl,by simpa using h1,by simpa using h3⟩⟩;simp only[WB,Sem.run_bind,A8 h,Result.andThen_ok,hload];simp
 |false=>
  cases vs with
  |nil=>simp at hvl;omega
  |cons v rest=>
   cases cs with
   |nil=>simp at hl;omega
   |cons c cs=>
    obtain⟨v',rest',e,k1,k2⟩:=h1;cases e;refine⟨v,?_,by simpa [mk]using k1⟩;have:=h2 0 v rfl;simp only[W5,Wf,run_load];simp only[Xw]at this;rw[this]
theorem PStab.cell{b:Nat}{c:Array Value}{e:TypeId}{fz:Nat×Nat}(h:w.heap[b]?=some (.cells c e fz)){cs:List Fs}{o:Nat}(hp:PStab g (λo=>c[o]?) o cs):PStab g (λo=>w.cell? ⟨b,o,none⟩) o cs:=
 PStab.mono (.refl g) (λo x hx=>by rw[An h];exact hx) cs o hp
theorem PStab.ofElem{f:Nat->Option Value}{e:Fs}{v:Value}{o:Nat}(h:VRel g e v)(h1:∀(j:Nat) x,v.cells[j]?=some x->f (o+j)=some x)(hone:∀x∈v.cells.toList,x.oneCell'=true):PStab g f o e.cells:=
 PStab.of e.cells v.cells.toList o h.cells (λj x hx=>h1 j x (by simpa using hx)) hone
theorem LJ(R:Z2 g H n w)(h:szT P t=some sz)(hx:VRel g a x)(hs:(Ay H sz (aggT P t) a).1):
  Yld P m g H n w (Instr.loadAt t x) (Ay H sz (aggT P t) a).2:=by
 have fin:∀{b off:Nat} {cs:List Fs},x= .pointer (some ⟨b,off,none⟩)->PStab g (λo=>w.cell? ⟨b,o,none⟩) off cs->sz<=cs.length->
   Yld P m g H n w (Instr.loadAt t x) (mk (aggT P t) (cs.take sz)):=by
  intro b off cs e hp hl;subst e;obtain⟨v,h1,h2⟩:=Gq h (hp.take sz) (by rw[W0];omega);exact Yld.pure R (by simp [Instr.loadAt,Instr.sureAddr,h1]) h2
 cases a<;>simp only[Ay]at hs⊢ <;>first|exact hs.elim|skip
 case ptr id off=>
  obtain⟨L,h1,h2,rfl⟩:=hx;cases ho:hget H id with
  |none=>simp [ho]at hs
  |some ob=>
   cases ob<;>simp only[ho]at hs⊢ <;>first|exact hs.elim|skip
   case box cs=>
    obtain⟨L',c,e,k1,k2,k3,k4,k5,k6⟩:=R.obj id _ ho;rw[h1]at k1;cases k1;have hp:PStab g (λo=>w.cell? ⟨L.blk,o,none⟩) off (cs.drop off):=PStab.cell k4 (by simpa using PStab.drop off cs 0 k6);exact fin rfl hp (by rw[Wl];omega)
 case ep cells=>
  obtain⟨b,o,rfl,h1⟩:=hx;exact fin rfl (PStab.mono (.refl g) (R.σw b) cells o h1) hs
 case ap id esz i off=>
  obtain⟨L,h1,h2,rfl⟩:=hx;have go:∀{l:List Fs} {f:Nat->Option Value},Stab g esz f 0 l->(∀o v,f o=some v->w.cell? ⟨L.blk,o,none⟩=some v)->i<l.length->off+sz<=esz->
    Yld P m g H n w (Instr.loadAt t (.pointer (some ⟨L.blk,i*esz+off,none⟩))) (mk (aggT P t) (((l[i]?.getD (.tup [])).cells.drop off).take sz)):=by
   intro l f hst hf hi hsz;obtain⟨v,q1,q2,q3⟩:=hst.elem i l 0 hi;have hp:PStab g (λo=>w.cell? ⟨L.blk,o,none⟩) (i*esz) (l[i]?.getD (.tup [])).cells:=PStab.ofElem q1 (λj x hx=>hf _ _ (by simpa using q3 j x hx)) q2.2;have d6:(l[i]?.getD (.tup [])).cells.length=esz:=by
    rw[<-VRels.length _ _ q1.cells];simpa using q2.1
   exact fin rfl (hp.drop off) (by rw[Wl,d6];omega)
  cases ho:hget H id with
  |none=>simp [ho]at hs
  |some ob=>
   cases ob<;>simp only[ho]at hs⊢ <;>first|exact hs.elim|skip
   case arr e l=>
    obtain⟨rfl,hi,hsz⟩:=hs;obtain⟨L',c,e',k1,k2,k3,k4,k5,k6⟩:=R.obj id _ ho;rw[h1]at k1;cases k1;exact go k6 (λo v hv=>by rw[An k4];exact hv) hi hsz
   case frz e l=>
    obtain⟨rfl,hi,hsz⟩:=hs;obtain⟨L',k1,k2,k3⟩:=R.obj id _ ho;rw[h1]at k1;cases k1;exact go k3 (R.σw L.blk) hi hsz
theorem Cq{k:IntKind}(h:isI k a)(hx:VRel g a x):∃n,a= .int k n/\x= .int k n:=by
 cases a<;>simp only[isI]at h<;>first|exact h.elim|skip
 subst h;exact⟨_,rfl,hx⟩
theorem Bj(h:CP a)(hx:VRel g a x):∃k n,a= .int k n/\x= .int k n:=by
 cases a<;>simp only[CP]at h<;>first|exact h.elim|skip
 exact⟨_,_,rfl,hx⟩
theorem GW(h:isB a)(hx:VRel g a x):∃b,a= .bool b/\x= .bool b:=by
 cases a<;>simp only[isB]at h<;>first|exact h.elim|skip
 exact⟨_,rfl,hx⟩
theorem Cr(h:isS a)(hx:VRel g a x):∃s,a= .str s/\x= .string ⟨s.toArray⟩:=by
 cases a<;>simp only[isS]at h<;>first|exact h.elim|skip
 exact⟨_,rfl,hx⟩
theorem DC(op:BinOp)(t:TypeId)(x y:Operand)(k k':IntKind)(a b:Int):(eqGuard op t x y (.int k a) (.int k' b)).run P w= .ok () w:=by
 cases op<;>simp [eqGuard]
theorem GM(op:BinOp)(t:TypeId)(x y:Operand)(a b:Bool):(eqGuard op t x y (.bool a) (.bool b)).run P w= .ok () w:=by
 cases op<;>simp [eqGuard]
theorem DR(op:BinOp)(t:TypeId)(x y:Operand)(a b:ByteArray):(eqGuard op t x y (.string a) (.string b)).run P w= .ok () w:=by
 cases op<;>simp [eqGuard]
theorem PW(op:BinOp)(t:TypeId)(k:IntKind)(a b:Int)(hop:op≠ .shl/\op≠ .shr/\op≠ .eql/\op≠ .neq/\op≠ .lss/\op≠ .leq/\op≠ .gtr/\op≠ .geq)(hd:Jp op=true->b≠0):
  (binOp op t (.int k a) (.int k b)).run P w= .ok (.int k (C9 op k a b)) w:=by
 obtain⟨h1,h2,h3,h4,h5,h6,h7,h8⟩:=hop;cases op<;>simp_all [binOp,Op.intArith,Op.intDiv,Op.intBits,C9,FT,Jp]
theorem Rs(op:BinOp)(t:TypeId)(k:IntKind)(a b:Int)(hop:op= .eql\/op= .neq\/op= .lss\/op= .leq\/op= .gtr\/op= .geq):
  (binOp op t (.int k a) (.int k b)).run P w= .ok (.bool (icmp op a b)) w:=by
 rcases hop with rfl|rfl|rfl|rfl|rfl|rfl<;>simp [binOp,Op.intCmp,icmp]<;>first|rfl|skip
 all_goals (by_cases h:a=b<;>simp [h])
theorem PX(op:BinOp)(t:TypeId)(k ky:IntKind)(a b:Int)(hop:op= .shl\/op= .shr)(hb:0<=b):
  (binOp op t (.int k a) (.int ky b)).run P w= .ok (.int k (CK op k a b)) w:=by
 have:¬b<0:=zo
 rcases hop with rfl|rfl<;>simp [binOp,Op.shift,CK,this]
theorem F7(s:List UInt8):(⟨s.toArray⟩:ByteArray).toList=s:=by
 rw[ByteArray.toList_eq]
end
end
section
variable {P:Program} {g:Yx} {H:AC} {n m:Nat} {w:World}
variable {a:Fs} {x y:Operand} {t:TypeId} {v:Value}
theorem MV(h:cval v=some a):VRel g a v:=by
 have sc:∀{v:Value} {a:Fs},LE v=some a->VRel g a v/\v.oneCell'=true:=by
  intro v a h;unfold LE at h;split at h<;>cases h;case h_3 s=>exact⟨by simp [VRel],rfl⟩
  case h_5=>exact⟨.inl ⟨rfl,rfl,trivial⟩,rfl⟩
  all_goals exact⟨rfl,rfl⟩
 have scs:∀(vs:List Value) (as:List Fs),Gm vs=some as->VRels g as vs/\∀x∈vs,x.oneCell'=true:=by
  intro vs;induction vs with
  |nil=>intro as h;simp [Gm]at h;subst h;exact⟨rfl,zw⟩
  |cons v r ih=>
   intro as h;simp only[Gm]at h;split at h
   ·rename_i a as' h1 h2;cases h;obtain⟨k1,k2⟩:=sc h1;obtain⟨k3,k4⟩:=ih _ h2;exact⟨⟨v,r,rfl,k1,k3⟩,λx hx=>(Wp.1 hx).elim (λe=>e▸k2) (k4 x)⟩
   ·cases h
 unfold cval at h;split at h
 ·rename_i cs;cases hc:Gm cs.toList with
  |none=>simp [hc]at h
  |some as=>simp [hc]at h;subst h;exact⟨cs,rfl,(scs _ _ hc).1,(scs _ _ hc).2⟩
 ·exact(sc h).1
def Val(P:Program)(m:Nat)(g:Yx)(H:AC)(n:Nat)(w:World)(s:Sem Next)(r:Fs):Prop:=
 ∃v w' g',s.run P w= .ok (.value v) w'/\VRel g' r v/\Z2 g' H n w'/\Yv m g H w g' H w'
def Da(s:Sem Value):Sem Next:=do return .value (<-s)
theorem Yld.val{s:Sem Value}{r:Fs}(h:Yld P m g H n w s r):Val P m g H n w (Da s) r:=by
 obtain⟨v,w',g',h1,h2,h3,h4⟩:=h;refine⟨v,w',g',?_,h2,h3,h4⟩;simp [Da,h1]
theorem Val.pure(R:Z2 g H n w){s:Sem Next}{r:Fs}(h:s.run P w= .ok (.value v) w)(hv:VRel g r v):Val P m g H n w s r:=
 ⟨v,w,g,h,hv,R,Yv.refl m g H w⟩
section
variable {t:TypeId} {x y:Operand} {a b:Fs} {u v:Value} (R:Z2 g H n w) (hx:VRel g a u) (hy:VRel g b v)
include R hx hy
variable {op:BinOp} {k:IntKind}
theorem Rt(hop:op= .eql\/op= .neq\/op= .lss\/op= .leq\/op= .gtr\/op= .geq)(s1:isI k a)(s2:isI k b):
  Yld P m g H n w (do eqGuard op t x y u v;binOp op t u v) (.bool (icmp op (toI a) (toI b))):=by
 obtain⟨i,rfl,rfl⟩:=Cq s1 hx;obtain⟨j,rfl,rfl⟩:=Cq s2 hy;have h:(do eqGuard op t x y (.int k i) (.int k j);binOp op t (.int k i) (.int k j):Sem Value).run P w= .ok (.bool (icmp op i j)) w:=by
  simp only[Sem.run_bind,DC,Result.andThen_ok];exact Rs _ _ _ _ _ hop
 exact Yld.pure R h rfl
theorem PY(hop:op≠ .shl/\op≠ .shr/\op≠ .eql/\op≠ .neq/\op≠ .lss/\op≠ .leq/\op≠ .gtr/\op≠ .geq)(s1:isI k a)(s2:isI k b)(s3:Jp op=true->toI b≠0):
  Yld P m g H n w (do eqGuard op t x y u v;binOp op t u v) (.int k (C9 op k (toI a) (toI b))):=by
 obtain⟨i,rfl,rfl⟩:=Cq s1 hx;obtain⟨j,rfl,rfl⟩:=Cq s2 hy;have h:(do eqGuard op t x y (.int k i) (.int k j);binOp op t (.int k i) (.int k j):Sem Value).run P w= .ok (.int k (C9 op k i j)) w:=by
  simp only[Sem.run_bind,DC,Result.andThen_ok];exact PW _ _ _ _ _ hop s3
 exact Yld.pure R h rfl
theorem J3{ky:IntKind}(hop:op= .shl\/op= .shr)(s1:isI k a)(s2:isI ky b)(s3:0<=toI b):
  Yld P m g H n w (do eqGuard op t x y u v;binOp op t u v) (.int k (CK op k (toI a) (toI b))):=by
 obtain⟨i,rfl,rfl⟩:=Cq s1 hx;obtain⟨j,rfl,rfl⟩:=Cq s2 hy;have h:(do eqGuard op t x y (.int k i) (.int ky j);binOp op t (.int k i) (.int ky j):Sem Value).run P w= .ok (.int k (CK op k i j)) w:=by
  simp only[Sem.run_bind,DC,Result.andThen_ok];exact PX _ _ _ _ _ _ hop s3
 exact Yld.pure R h rfl
theorem Ru(hop:op= .eql\/op= .neq\/op= .lss\/op= .leq\/op= .gtr\/op= .geq)(s1:isS a)(s2:isS b):
  Yld P m g H n w (do eqGuard op t x y u v;binOp op t u v) (.bool (scmp op (toS a) (toS b))):=by
 obtain⟨i,rfl,rfl⟩:=Cr s1 hx;obtain⟨j,rfl,rfl⟩:=Cr s2 hy;have h:(do eqGuard op t x y (.string ⟨i.toArray⟩) (.string ⟨j.toArray⟩);binOp op t (.string ⟨i.toArray⟩) (.string ⟨j.toArray⟩):Sem Value).run P w= .ok (.bool (scmp op i j)) w:=by grind [Sem.run_bind,DR,Result.andThen_ok,binOp,Op.stringOp,F7,Sem.run_pure,scmp]
 exact Yld.pure R h rfl
theorem Rv(s1:isS a)(s2:isS b)(s3:small ((toS a).length+(toS b).length) 1):
  Yld P m g H n w (do eqGuard .add t x y u v;binOp .add t u v) (.str (toS a++toS b)):=by
 obtain⟨i,rfl,rfl⟩:=Cr s1 hx;obtain⟨j,rfl,rfl⟩:=Cr s2 hy;have hsz:i.length+j.length<=9223372036854775807:=by simp only[small,toS]at s3;omega
 have h:(do eqGuard .add t x y (.string ⟨i.toArray⟩) (.string ⟨j.toArray⟩);binOp .add t (.string ⟨i.toArray⟩) (.string ⟨j.toArray⟩):Sem Value).run P w= .ok (.string (⟨i.toArray⟩++⟨j.toArray⟩)) w:=by
  simp only[Sem.run_bind,DR,Result.andThen_ok,binOp];exact run_string_add_sum (P:=P) (w:=w) ⟨i.toArray⟩ ⟨j.toArray⟩ (by show i.toArray.size+j.toArray.size<=_;simpa using hsz)
 refine Yld.pure R h ?_;simp only[VRel,toS];congr 1
theorem PZ{neq:Bool}(hu:P.underlying t=some .bool)(s1:isB a)(s2:isB b):
  Yld P m g H n w (do eqGuard (if neq then .neq else .eql) t x y u v;binOp (if neq then .neq else .eql) t u v) (.bool (if neq then toB a !=toB b else toB a==toB b)):=by
 obtain⟨i,rfl,rfl⟩:=GW s1 hx;obtain⟨j,rfl,rfl⟩:=GW s2 hy;have h:(do eqGuard (if neq then .neq else .eql) t x y (.bool i) (.bool j);binOp (if neq then .neq else .eql) t (.bool i) (.bool j):Sem Value).run P w= .ok (.bool (if neq then i !=j else i==j)) w:=by
  simp only[Sem.run_bind,GM,Result.andThen_ok];cases neq with
  |false=>exact run_eql_bool (P:=P) (w:=w) t i j hu
  |true=>exact run_neq_bool (P:=P) (w:=w) t i j hu
 exact Yld.pure R h rfl
end
theorem A3{cs:Array Value}{o:Nat}(ha:∀w,(isAgg t).run P w= .ok false w)(h:cs[o]?=some v):(part t cs o).run P w= .ok v w:=by
 simp [part,ha,h]
theorem DS{d:Nat}{xs ys:Array Value}:∀(fs:List Field) (o:Nat) (tags:List Nat) (as bs:List Fs),NZ P o fs=some tags->VRels g as (xs.toList.drop o)->VRels g bs (ys.toList.drop o)->cfit tags as bs->
  (Op.eqFields (d+1) xs ys fs).run P w= .ok (ceqs as bs) w
 |[],o,tags,as,bs,hf,hx,hy,hc=>by
  simp [NZ]at hf;subst hf;cases as<;>cases bs<;>simp only[cfit]at hc<;>first|exact hc.elim|skip
  simp [Op.eqFields,ceqs]
 |f::fs,o,tags,as,bs,hf,hx,hy,hc=>by
  simp only[NZ]at hf;split at hf
  ·cases hf
  rename_i hn;have hname:f.name≠ "_" :=λe=>hn (.inl e)
  have hoff:f.offset=o:=Decidable.byContradiction λe=>hn (.inr e)
  have next:∀{a b:Fs} {as' bs':List Fs},as=a::as'->bs=b::bs'->∃u v,xs[o]?=some u/\ys[o]?=some v/\VRel g a u/\VRel g b v/\VRels g as' (xs.toList.drop (o+1))/\VRels g bs' (ys.toList.drop (o+1)):=by
   intro a b as' bs' e1 e2;subst e1;subst e2;obtain⟨u,r1,q1,q2,q3⟩:=hx;obtain⟨v,r2,q4,q5,q6⟩:=hy;refine⟨u,v,?_,?_,q2,q5,?_,?_⟩
   ·have:=congrArg (λl:List Value=>l[0]?) q1;simpa using this
   ·have:=congrArg (λl:List Value=>l[0]?) q4;simpa using this
   ·have:=congrArg (λl:List Value=>l.drop 1) q1;simp at this;rw[this];exact q3
   ·have:=congrArg (λl:List Value=>l.drop 1) q4;simp at this;rw[this];exact q6
  split at hf
  ·rename_i k l hu hl;cases hf;cases as with
   |nil=>cases bs<;>exact hc.elim
   |cons a as=>
    cases bs with
    |nil=>cases a<;>exact hc.elim
    |cons b bs=>
     cases a<;>(try exact hc.elim);cases b<;>(try exact hc.elim);obtain⟨rfl,hc⟩:=hc;obtain⟨u,v,h1,h2,rfl,rfl,h5,h6⟩:=next rfl rfl
     have ha:∀w,(isAgg f.type).run P w= .ok false w:=λw=>by simp [isAgg,run_underlying hu]
     have ih:=DS (d:=d) fs (o+1) l as bs hl h5 h6 hc;simp only[Op.eqFields,ne_eq,hname,Y0,WB,Sem.run_bind,hoff,A3 ha h1,A3 ha h2,Result.andThen_ok,run_equalIn_int w d f.type _ k _ _ hu,ceqs,ceq];rename_i k' x y;by_cases e:x=y<;>simp [e,ih]
  ·rename_i l hu hl;cases hf;cases as with
   |nil=>cases bs<;>exact hc.elim
   |cons a as=>
    cases bs with
    |nil=>cases a<;>exact hc.elim
    |cons b bs=>
     cases a<;>(try exact hc.elim);cases b<;>(try exact hc.elim);obtain⟨u,v,h1,h2,rfl,rfl,h5,h6⟩:=next rfl rfl
     have ha:∀w,(isAgg f.type).run P w= .ok false w:=λw=>by simp [isAgg,run_underlying hu]
     have ih:=DS (d:=d) fs (o+1) l as bs hl h5 h6 hc;simp only[Op.eqFields,ne_eq,hname,Y0,WB,Sem.run_bind,hoff,A3 ha h1,A3 ha h2,Result.andThen_ok,run_equalIn_bool w d f.type _ _ hu,ceqs,ceq];rename_i x y;cases x<;>cases y<;>simp [ih]
  ·rename_i l hu hl;cases hf;cases as with
   |nil=>cases bs<;>exact hc.elim
   |cons a as=>
    cases bs with
    |nil=>cases a<;>exact hc.elim
    |cons b bs=>
     cases a<;>(try exact hc.elim);cases b<;>(try exact hc.elim);obtain⟨u,v,h1,h2,rfl,rfl,h5,h6⟩:=next rfl rfl
     have ha:∀w,(isAgg f.type).run P w= .ok false w:=λw=>by simp [isAgg,run_underlying hu]
     have ih:=DS (d:=d) fs (o+1) l as bs hl h5 h6 hc;simp only[Op.eqFields,ne_eq,hname,Y0,WB,Sem.run_bind,hoff,A3 ha h1,A3 ha h2,Result.andThen_ok,run_equalIn_string w d f.type _ _ hu,ceqs,ceq,F7];rename_i x y;by_cases e:x=y<;>simp [e,ih]
  ·cases hf
theorem Pa(R:Z2 g H n w){b:Fs}{u:Value}(hx:VRel g a u)(hy:VRel g b v){neq:Bool}{fs:Array Field}{tags:List Nat}(hu:P.underlying t=some (.struct fs))(h1:P.stoodInHeld t=false)(h2:P.eqGuardType P.depth t=false)
  (ht:NZ P 0 fs.toList=some tags) {xs ys:List Fs} (ha:a= .agg xs) (hb:b= .agg ys) (hc:cfit tags xs ys):
  Yld P m g H n w (do eqGuard (if neq then .neq else .eql) t x y u v;binOp (if neq then .neq else .eql) t u v) (.bool (if neq then !ceqs xs ys else ceqs xs ys)):=by
 subst ha;subst hb;obtain⟨us,rfl,k1,-⟩:=hx;obtain⟨vs,rfl,k2,-⟩:=hy;have hfo:P.fieldsOf t=fs:=by simp [Program.fieldsOf,hu]
 have heq:=run_equalIn_struct (P:=P) w 9999 t us vs (by rw[hfo];exact hu) h1;rw[hfo,DS (g:=g) (d:=9998) fs.toList 0 tags xs ys ht (by simpa using k1) (by simpa using k2) hc]at heq;have hg:∀op,(eqGuard op t x y (.agg us) (.agg vs)).run P w= .ok () w:=by
  intro op;cases op<;>simp [eqGuard,h2]
 have h:(do eqGuard (if neq then .neq else .eql) t x y (.agg us) (.agg vs);binOp (if neq then .neq else .eql) t (.agg us) (.agg vs):Sem Value).run P w= .ok (.bool (if neq then !ceqs xs ys else ceqs xs ys)) w:=by
  simp only[Sem.run_bind,hg,Result.andThen_ok];cases neq with
  |false=>simp only[W5,Wf];rw[run_eql_struct,heq];rfl
  |true=>simp only[WB];rw[run_neq_struct,heq];rfl
 exact Yld.pure R h rfl
theorem Fx{d:Nat}{e:TypeId}{kd:IntKind}(hu:P.underlying e=some (.int kd)){xs ys:Array Value}:∀(m o:Nat) (as bs:List Fs),VRels g as (xs.toList.drop o)->VRels g bs (ys.toList.drop o)->cfit (List.replicate m 0) as bs->
  (Op.eqItems (d+1) e 1 xs ys (List.range' o m)).run P w= .ok (ceqs as bs) w
 |0,o,as,bs,hx,hy,hc=>by
  cases as<;>cases bs<;>simp only[List.replicate_zero,cfit]at hc<;>first|exact hc.elim|skip
  simp [Op.eqItems,ceqs]
 |m+1,o,as,bs,hx,hy,hc=>by
  rw[Yo]at hc;cases as with
  |nil=>cases bs<;>exact hc.elim
  |cons a as=>
   cases bs with
   |nil=>cases a<;>exact hc.elim
   |cons b bs=>
    cases a<;>(try exact hc.elim);cases b<;>(try exact hc.elim);obtain⟨rfl,hc⟩:=hc;obtain⟨u,r1,q1,q2,q3⟩:=hx;obtain⟨v,r2,q4,q5,q6⟩:=hy;have h1:xs[o]?=some u:=by have:=congrArg (λl:List Value=>l[0]?) q1;simpa using this
    have h2:ys[o]?=some v:=by have:=congrArg (λl:List Value=>l[0]?) q4;simpa using this
    have h5:VRels g as (xs.toList.drop (o+1)):=by have:=congrArg (λl:List Value=>l.drop 1) q1;simp at this;rw[this];exact q3
    have h6:VRels g bs (ys.toList.drop (o+1)):=by have:=congrArg (λl:List Value=>l.drop 1) q4;simp at this;rw[this];exact q6
    have q2':u= .int _ _:=q2;have q5':v= .int _ _:=q5;subst q2';subst q5';have ha:∀w,(isAgg e).run P w= .ok false w:=λw=>by simp [isAgg,run_underlying hu]
    have ih:=Fx (d:=d) hu m (o+1) as bs h5 h6 hc;rw[List.range'_succ];simp only[Op.eqItems,Sem.run_bind,XC,A3 ha h1,A3 ha h2,Result.andThen_ok,run_equalIn_int w d e _ _ _ _ hu,ceqs,ceq];rename_i k' x y;by_cases q:x=y<;>simp [q,ih]
theorem MW(R:Z2 g H n w){e:TypeId}{kd:IntKind}{m':Nat}{b:Fs}{u:Value}(hx:VRel g a u)(hy:VRel g b v){neq:Bool}(hu:P.underlying t=some (.array m' e))(h2:P.eqGuardType P.depth t=false)(he:P.underlying e=some (.int kd))(hs:szT P e=some 1)
  {xs ys:List Fs} (ha:a= .agg xs) (hb:b= .agg ys) (hc:cfit (List.replicate m' 0) xs ys):
  Yld P m g H n w (do eqGuard (if neq then .neq else .eql) t x y u v;binOp (if neq then .neq else .eql) t u v) (.bool (if neq then !ceqs xs ys else ceqs xs ys)):=by
 subst ha;subst hb;obtain⟨us,rfl,k1,-⟩:=hx;obtain⟨vs,rfl,k2,-⟩:=hy;obtain⟨i,hi,hi1⟩:∃i,P.info? e=some i/\P.cellsOf e=1:=by
  unfold szT at hs;rw[he]at hs;cases hq:P.info? e with
  |none=>rw[hq]at hs;cases hs
  |some i=>rw[hq]at hs;exact⟨i,rfl,by simp only[Program.cellsOf,hq];exact(show ¬i.size=0/\i.size=1 by simpa using hs).2⟩
 have heq:=run_equalIn_array (P:=P) w 9999 us vs hu hi;rw[hi1,List.range_eq_range',Fx (g:=g) (w:=w) (d:=9998) he m' 0 xs ys (by simpa using k1) (by simpa using k2) hc]at heq;have hg:∀op,(eqGuard op t x y (.agg us) (.agg vs)).run P w= .ok () w:=by
  intro op;cases op<;>simp [eqGuard,h2]
 have h:(do eqGuard (if neq then .neq else .eql) t x y (.agg us) (.agg vs);binOp (if neq then .neq else .eql) t (.agg us) (.agg vs):Sem Value).run P w= .ok (.bool (if neq then !ceqs xs ys else ceqs xs ys)) w:=by
  simp only[Sem.run_bind,hg,Result.andThen_ok];cases neq with
  |false=>simp only[W5,Wf];rw[run_eql_struct,heq];rfl
  |true=>simp only[WB];rw[run_neq_struct,heq];rfl
 exact Yld.pure R h rfl
theorem Pb(R:Z2 g H n w){op:BinOp}{yt:TypeId}{x' y':Yy}{k:Z1}{ρ:Operand->Value}{ρ':Yy->Fs}(hx:VRel g (ρ' x') (ρ x))(hy:VRel g (ρ' y') (ρ y))
  (hc:cbin P op t x' y' yt=some k) (hs:(evk H ρ' k).1):Yld P m g H n w (do eqGuard op t x y (ρ x) (ρ y);binOp op t (ρ x) (ρ y)) (evk H ρ' k).2:=by
 unfold cbin at hc;split at hc
 ·rename_i kd hu;split at hc
  ·split at hc<;>cases hc;exact J3 R hx hy (.inl rfl) hs.1 hs.2.1 hs.2.2
  ·split at hc<;>cases hc;exact J3 R hx hy (.inr rfl) hs.1 hs.2.1 hs.2.2
  all_goals cases hc
  case h_9 h1 h2 h3 h4 h5 h6 h7 h8=>exact PY R hx hy ⟨h1,h2,h3,h4,h5,h6,h7,h8⟩ hs.1 hs.2.1 hs.2.2
  all_goals exact Rt R hx hy zw hs.1 hs.2
 ·split at hc
  ·cases hc;exact Rv R hx hy hs.1 hs.2.1 hs.2.2
  all_goals first|(cases hc;done)|(cases hc;exact Ru R hx hy zw hs.1 hs.2)
 ·rename_i hu;split at hc
  ·cases hc;exact PZ (neq:=false) R hx hy hu hs.1 hs.2
  ·cases hc;exact PZ (neq:=true) R hx hy hu hs.1 hs.2
  ·cases hc
 ·rename_i fs hu;split at hc
  ·cases hc
  rename_i hn;have h1:P.stoodInHeld t=false:=by cases h:P.stoodInHeld t<;>simp_all
  have h2:P.eqGuardType P.depth t=false:=by cases h:P.eqGuardType P.depth t<;>simp_all
  have agg:∀(neq:Bool) l,(evk H ρ' (.aeq neq l x' y')).1->∃xs ys,ρ' x'= .agg xs/\ρ' y'= .agg ys/\cfit l xs ys/\(evk H ρ' (.aeq neq l x' y')).2= .bool (if neq then !ceqs xs ys else ceqs xs ys):=by
   intro neq l hs;simp only[evk]at hs⊢;split at hs
   ·rename_i xs ys e1 e2;exact⟨xs,ys,e1,e2,hs,rfl⟩
   ·exact hs.elim
  split at hc
  ·rename_i l hl;cases hc;obtain⟨xs,ys,e1,e2,e3,e4⟩:=agg false l hs;rw[e4];exact Pa (neq:=false) R hx hy hu h1 h2 hl e1 e2 e3
  ·rename_i l hl;cases hc;obtain⟨xs,ys,e1,e2,e3,e4⟩:=agg true l hs;rw[e4];exact Pa (neq:=true) R hx hy hu h1 h2 hl e1 e2 e3
  ·cases hc
 ·rename_i n e hu;split at hc
  ·cases hc
  rename_i hn;have h2:P.eqGuardType P.depth t=false:=by cases h:P.eqGuardType P.depth t<;>simp_all
  have agg:∀(neq:Bool) l,(evk H ρ' (.aeq neq l x' y')).1->∃xs ys,ρ' x'= .agg xs/\ρ' y'= .agg ys/\cfit l xs ys/\(evk H ρ' (.aeq neq l x' y')).2= .bool (if neq then !ceqs xs ys else ceqs xs ys):=by
   intro neq l hs;simp only[evk]at hs⊢;split at hs
   ·rename_i xs ys e1 e2;exact⟨xs,ys,e1,e2,hs,rfl⟩
   ·exact hs.elim
  split at hc
  ·rename_i kd he hz;cases hc;obtain⟨xs,ys,e1,e2,e3,e4⟩:=agg false _ hs;rw[e4];exact MW (neq:=false) R hx hy hu h2 he hz e1 e2 e3
  ·rename_i kd he hz;cases hc;obtain⟨xs,ys,e1,e2,e3,e4⟩:=agg true _ hs;rw[e4];exact MW (neq:=true) R hx hy hu h2 he hz e1 e2 e3
  ·cases hc
 ·cases hc
end
section
variable {P:Program} {g:Yx} {H:AC} {n m:Nat} {w:World}
theorem Fy(R:Z2 g H n w){w':World}{x:Obj}(hx:w'.heap=w.heap.push x)(hos:w'.os=w.os)(htape:w'.tape=w.tape)(hout:w'.output=w.output){c:Array Value}{e:TypeId}{fz:Nat×Nat}(hc:x= .cells c e fz):
  Z2 ⟨g.β,λb o=>if b=w.heap.size then c[o]? else g.σ b o⟩ H n w'/\Yv m g H w ⟨g.β,λb o=>if b=w.heap.size then c[o]? else g.σ b o⟩ H w'/\g.le ⟨g.β,λb o=>if b=w.heap.size then c[o]? else g.σ b o⟩:=by
 subst hc;have hext:HExt w w':=HExt.push hx;have hnew:w'.heap[w.heap.size]?=some (.cells c e fz):=by rw[hx];simp
 have old:∀b o v,g.σ b o=some v->b≠w.heap.size:=by
  intro b o v h e;have:=R.σw b o v h;subst e;simp [World.cell?]at this
 have hσ:∀b o v,g.σ b o=some v->(if b=w.heap.size then c[o]? else g.σ b o)=some v:=λb o v h=>by rw[V5 (old b o v h)];exact h
 refine⟨R.grow hext hσ ?_,Yv.grow hext hos htape hout hσ ?_,⟨λ_ _ h=>h,hσ⟩⟩
 ·intro b o v h;by_cases hb:b=w.heap.size
  ·subst hb;rw[Vv rfl]at h;exact .inr ⟨V4 _,by rw[An hnew];exact h⟩
  ·rw[V5 hb]at h;exact .inl h
 ·grind
variable {a:Fs} {u:Value}
theorem Uu(R:Z2 g H n w)(hx:VRel g a u)(hs:isB a):Yld P m g H n w (Op.unary .not u) (.bool (!toB a)):=by
 obtain⟨b,rfl,rfl⟩:=GW hs hx;exact Yld.pure R (v:=.bool (!b)) (by simp [Op.unary]) rfl
theorem Uv(R:Z2 g H n w){k:IntKind}(hx:VRel g a u)(hs:isI k a):Yld P m g H n w (Op.unary .neg u) (.int k (k.wrap (0-toI a))):=by
 obtain⟨b,rfl,rfl⟩:=Cq hs hx;exact Yld.pure R (v:=.int k (k.wrap (0-b))) (by simp [Op.unary,Op.intArith]) rfl
theorem Uw(R:Z2 g H n w){k:IntKind}(hx:VRel g a u)(hs:isI k a):Yld P m g H n w (Op.unary .xor u) (.int k (C9 .xor k (if k.signed then -1 else k.max) (toI a))):=by
 obtain⟨b,rfl,rfl⟩:=Cq hs hx;exact Yld.pure R (v:=.int k (C9 .xor k (if k.signed then -1 else k.max) b)) (by simp [Op.unary,C9,FT,Op.intBits]) rfl
theorem Nb(R:Z2 g H n w){s d:TypeId}{x':Yy}{k:Z1}{ρ':Yy->Fs}(hx:VRel g (ρ' x') u)(hc:Rn P s d x'=some k)(hs:(evk H ρ' k).1):
  Yld P m g H n w (convert s d u) (evk H ρ' k).2:=by
 unfold Rn at hc;split at hc
 ·rename_i k1 k2 h1 h2;cases hc;obtain⟨kk,i,e1,rfl⟩:=Bj hs hx;refine Yld.pure R (v:=.int k2 (k2.wrap i)) ?_ (by simp only[evk,e1,toI,VRel]);simp [convert,run_underlying h1,run_underlying h2,Conv.intToInt]
 ·rename_i h1 h2;cases hc;obtain⟨l,e1,rfl⟩:=Cr hs hx;refine Yld.pure R (v:=.string ⟨l.toArray⟩) ?_ (by simp only[evk,e1,toS,VRel]);simp [convert,run_underlying h1,run_underlying h2]
 ·rename_i e h1 h2;split at hc
  ·rename_i he;cases hc;simp only[evk]at hs⊢;generalize ha:ρ' x'=a at hs hx⊢;cases a<;>simp only[]at hs⊢ <;>first|exact hs.elim|skip
   case sl tok l=>
    obtain⟨ht,bs,rfl⟩:=hs;have hback:(bs.map λb:UInt8=>Fs.int .u8 b.toNat).map (λv=>UInt8.ofNat (toI v).toNat)=bs:=by
     rw[X2];conv=>rhs;rw[<-Yg bs]
     apply Wz;intro b _;simp [toI]
    rw[hback];rcases hx with⟨hl,rfl,_⟩|⟨htok,b,o,cap,⟨sp,rfl,hsp⟩,hcap,hst,_⟩
    ·have:bs=[]:=by simpa using hl
     subst this;refine Yld.pure R (v:=.string ⟨#[]⟩) ?_ rfl;rw[run_convert_bytes_string w s d e none 0 0 h1 he h2];rfl
    ·by_cases hb0:bs=[]
     ·subst hb0;refine Yld.pure R (v:=.string ⟨#[]⟩) ?_ rfl;exact(run_convert_bytes_string (P:=P) w s d e (some ⟨b,o,sp⟩) 0 cap h1 he h2).trans rfl
     have hsp':sp=none:=hsp.resolve_right λq=>hb0 (by simpa using q.1)
     subst hsp';have h1':tok.esz=1:=by
      rcases ht with rfl|ht
      ·exact htok.elim
      ·exact ht
     rw[h1']at hst;refine Yld.pure R (v:=.string ⟨bs.toArray⟩) ?_ rfl;have:=run_convert_bytes_back (P:=P) w s d e ⟨b,o,none⟩ cap bs h1 he h2 (by
      intro j hj;obtain⟨v,q1,q2,q3⟩:=hst.elem j _ o (by simpa using hj);have:v= .int .u8 (bs[j].toNat:Int):=by grind [List.getElem?_eq_getElem,VRel]
      subst this;rw[BF];have:=q3 0 (.int .u8 (bs[j].toNat:Int)) rfl;simp at this;exact R.σw _ _ _ this)
     simpa using this
  ·cases hc
 ·rename_i e h1 h2;split at hc
  ·rename_i he hsz;cases hc;obtain⟨l,e1,rfl⟩:=Cr hs hx;have hrun:=run_bytes_of_string (P:=P) w s d e ⟨l.toArray⟩ h1 h2 he;obtain⟨r1,r2,r3⟩:=Fy (m:=m) R (w':=(w.drew.alloc (.cells (bytesRow ⟨l.toArray⟩ (grownCap w (ByteArray.size ⟨l.toArray⟩) 0 e)) e ((bytesRow ⟨l.toArray⟩ (grownCap w (ByteArray.size ⟨l.toArray⟩) 0 e)).size,(bytesRow ⟨l.toArray⟩ (grownCap w (ByteArray.size ⟨l.toArray⟩) 0 e)).size+1)))) rfl rfl rfl rfl rfl;refine⟨_,_,_,hrun,?_,r1,r2⟩;simp only[evk,e1,toS];have hszl:ByteArray.size ⟨l.toArray⟩=l.length:=by show l.toArray.size=_;simp
   refine .inr ⟨trivial,w.heap.size,0,grownCap w (ByteArray.size ⟨l.toArray⟩) 0 e,⟨none,by rw[hszl];simp,.inl rfl⟩,?_,?_,trivial⟩
   ·rw[hszl];simpa using grownCap_ge w l.length 0 e
   ·simp only[Zd.esz,WB];have:∀(l1 l2:List UInt8) (r:List Value) (o:Nat) (f:Nat->Option Value),(∀j (x:UInt8),l2[j]?=some x->f (o+j)=some (.int .u8 x.toNat))->Stab ⟨g.β,λb o=>if b=w.heap.size then(bytesRow ⟨l.toArray⟩ (grownCap w (ByteArray.size ⟨l.toArray⟩) 0 e))[o]? else g.σ b o⟩ 1 f o (l2.map λb=>.int .u8 b.toNat):=by
     intro l1 l2;induction l2 with
     |nil=>intro r o f _;trivial
     |cons b l2 ih=>
      intro r o f hf;refine⟨⟨.int .u8 b.toNat,rfl,⟨rfl,by simp [Value.cells,Value.oneCell']⟩,?_⟩,ih r (o+1) f λj x hx=>?_⟩
      ·intro j x hx;cases j with
       |zero=>simp [Value.cells]at hx;subst hx;simpa using hf 0 b rfl
       |succ j=>simp [Value.cells]at hx
      ·have:=hf (j+1) x (by simpa using hx);rwa[show o+(j+1)=o+1+j from by omega]at this
    refine this l l [] 0 _ λj x hx=>?_
    have hj:j<l.length:=(WN.1 hx).1;simp only[Wr,bytesRow];rw[Array.getElem?_append_left (by simpa using hj)];simp [hx]
  ·cases hc
 ·cases hc
end
theorem FZ(off:Nat):∀(l:List Value) (k:Nat) (cells:Array Value),off+k+l.length<=cells.size->
  ((l.zipIdx k).foldl (λcs p=>cs.setIfInBounds (off+p.2) p.1) cells).toList=cells.toList.take (off+k)++l++cells.toList.drop (off+k+l.length)
 |[],k,cells,_=>zw
 |v::rest,k,cells,h=>by
  simp only[Vz]at h;rw[List.zipIdx_cons,X3,FZ off rest (k+1) _ (by simp;omega)];have e:=list_seg_step cells.toList (off+k) v rest (by simp;omega);simpa [Array.toList_setIfInBounds,Nat.add_assoc]using e
def putCells(off:Nat)(v:Value)(cells:Array Value):Array Value:=v.cells.zipIdx.foldl (λcs (c,j)=>cs.setIfInBounds (off+j) c) cells
def J4(off:Nat)(v:Value)(cells:Array Value)(h:off+v.cells.size<=cells.size):
  (putCells off v cells).toList=cells.toList.take off++v.cells.toList++cells.toList.drop (off+v.cells.size):=by
 have:=FZ off v.cells.toList 0 cells (by simpa using h);simp only[Xw,Ws]at this;rw[<-this,putCells,<-Array.toList_zipIdx,Array.foldl_toList]
section
variable {P:Program} {g:Yx} {H:AC} {n m:Nat} {w:World}
variable {z:Fs} {parts:Array (Nat×Operand)} {esz s:Nat} {ρ':Yy->Fs} {ρ:Operand->Value} {t e:TypeId}
theorem MX{place:Nat->Option (Nat×Nat)}:∀(parts:List (Nat×Operand)) (parts':List (Nat×Nat×Yy)) (zs:List Fs) (cells:Array Value),
  FY place parts=some parts'->(∀x x',copd x=some x'->x'∈parts'.map (·.2.2)->VRel g (ρ' x') (ρ x))->
  (∀p∈parts',nT (ρ' p.2.2)/\(ρ' p.2.2).cells.length=p.2.1/\p.1+p.2.1<=zs.length)->VRels g zs cells.toList->(∀x∈cells.toList,x.oneCell'=true)->
  ∃cells',Instr.fill place cells (parts.map λ(i,x)=>(i,ρ x))=some cells'/\VRels g (parts'.foldl (λcs p=>splice cs p.1 (ρ' p.2.2).cells) zs) cells'.toList/\∀x∈cells'.toList,x.oneCell'=true
 |[],parts',zs,cells,hc,_,_,h,h1=>by
  simp only[FY]at hc;cases hc;exact⟨cells,rfl,h,h1⟩
 |(i,x)::parts,parts',zs,cells,hc,hv,hs,h,h1=>by
  simp only[FY]at hc;split at hc
  ·rename_i off size a as e1 e2 e3;cases hc;obtain⟨s0,s1,s2⟩:=hs (off,size,a) zw;dsimp only at s0 s1 s2;have hva:=hv x a e2 zw;have hsz:(ρ x).cells.size=size:=by
    have:=VRels.length _ _ hva.cells;simp only[Ws]at this;omega
   have hzl:=VRels.length _ _ h;simp only[Ws]at hzl;have hfit:off+(ρ x).cells.size<=cells.size:=zo
   have step:=J4 off (ρ x) cells hfit;have hr:VRels g (splice zs off (ρ' a).cells) (cells.toList.take off++(ρ x).cells.toList++cells.toList.drop (off+(ρ x).cells.size)):=by
    have:=VRels.splice (off:=off) h hva.cells;simpa using this
   obtain⟨cells',k1,k2,k3⟩:=MX parts as (splice zs off (ρ' a).cells) (putCells off (ρ x) cells) e3
    (λy y' hy hm=>hv y y' hy (by simp only[W6,Wp];exact .inr hm))
    (λp hp=>by
     obtain⟨t0,t1,t2⟩:=hs p (by simp [hp]);refine⟨t0,t1,?_⟩;have:(splice zs off (ρ' a).cells).length=zs.length:=by
      simp only[splice,V9,W0,Wl];omega
     omega)
    (by rw[step];exact hr)
    (by
     rw[step];intro y hy;rcases WH.1 hy with hy|hy
     ·rcases WH.1 hy with hy|hy
      ·exact h1 y (Y1 hy)
      ·exact hva.one s0 y hy
     ·exact h1 y (Y2 hy))
   refine⟨cells',?_,by simpa using k2,k3⟩;simp only[W6,Instr.fill,e1];rw[V5 (by simp [hsz];omega)];exact k1
  ·cases hc
theorem BC(h:Br P t=some z):∃i zv,P.info? t=some i/\i.zero=some zv/\(∀g,VRel g z zv)/\zv.cells.size=i.size/\z.cells.length=i.size/\i.size≠0/\nT z:=by
 unfold Br at h;split at h
 ·rename_i i hi;split at h
  ·rename_i zv hz;split at h
   ·rename_i a ha;split at h
    ·rename_i hl;cases h;have hr:∀g,VRel g z zv:=λg=>MV ha
     have hsz:zv.cells.size=i.size:=by
      have:=VRels.length _ _ (hr ⟨λ_=>none,λ_ _=>none⟩).cells;simp only[Ws]at this;omega
     refine⟨i,zv,hi,hz,hr,hsz,hl.1,hl.2,?_⟩;unfold cval LE at ha;split at ha
     ·rename_i cs;cases hcs:Gm cs.toList<;>simp [hcs]at ha;subst ha;trivial
     ·split at ha<;>cases ha<;>trivial
    ·cases h
   ·cases h
  ·cases h
 ·cases h
theorem LK(R:Z2 g H n w){mkv:Bool}{k:Z1}(hc:copk P mkv (.build t parts)=some k)
  (hv:∀x x',copd x=some x'->x'∈k.opds->VRel g (ρ' x') (ρ x)) (hs:(evk H ρ' k).1):Yld P m g H n w (Instr.build t (parts.map λ(i,x)=>(i,ρ x))) (evk H ρ' k).2:=by
 have fin:∀(place:Nat->Option (Nat×Nat)) (z:Fs) (zv:Value) ps,Br P t=some z->(∀g,VRel g z zv)->nT z->FY place parts.toList=some ps->k= .build z.cells ps->
   (∀cells,Instr.fill place zv.cells ((parts.map λ(i,x)=>(i,ρ x)).toList)=some cells->(Instr.build t (parts.map λ(i,x)=>(i,ρ x))).run P w= .ok (.agg cells) w)->
   Yld P m g H n w (Instr.build t (parts.map λ(i,x)=>(i,ρ x))) (evk H ρ' k).2:=by
  intro place z zv ps h1 h2 h3 h4 h5 h6;subst h5;obtain⟨cells,q1,q2,q3⟩:=MX (g:=g) (ρ:=ρ) (ρ':=ρ') parts.toList ps z.cells zv.cells h4 (λx x' a b=>hv x x' a b) hs (h2 g).cells ((h2 g).one h3);refine Yld.pure R (h6 cells (by simpa using q1)) ?_;simp only[evk];exact⟨cells,rfl,q2,q3⟩
 simp only[copk]at hc;split at hc
 ·rename_i z fs hz hu;split at hc
  ·rename_i pl r9;cases hcp:FY (λi=>pl[i]?) parts.toList with
   |none=>simp [hcp]at hc
   |some ps=>
    simp [hcp]at hc;obtain⟨i,zv,hi,hzz,hr,hsz,hl,h0,hnt⟩:=BC hz;refine fin (λi=>pl[i]?) z zv ps hz hr hnt hcp hc.symm λcells hf=>run_build w t _ cells ?_
    simp only[Program.built,hi,hu,hzz];have:fs.toList.mapM (λf=>(P.info? f.type).map λi=>(f.offset,i.size))=some pl:=r9;simp only[this];simpa using hf
  ·cases hc
 ·rename_i z nn e hz hu;split at hc
  ·rename_i s hsz';obtain⟨ie,de,hie,hde,rfl,hpos⟩:=CX hsz';cases hcp:FY (λi=>some (i*ie.size,ie.size)) parts.toList with
   |none=>simp [hcp]at hc
   |some ps=>
    simp [hcp]at hc;obtain⟨i,zv,hi,hzz,hr,hsz,hl,h0,hnt⟩:=BC hz;refine fin (λi=>some (i*ie.size,ie.size)) z zv ps hz hr hnt hcp hc.symm λcells hf=>run_build w t _ cells ?_
    simp only[Program.built,hi,hu,hzz,hie];exact hf
  ·cases hc
 ·cases hc
theorem Stab.set{f f':Nat->Option Value}{a:Fs}{v:Value}(hv:VRel g a v)(hsz:EH esz v):∀(i:Nat) (l:List Fs) (o:Nat),i<l.length->
  (∀(j:Nat) x,v.cells[j]?=some x->f' (o+i*esz+j)=some x)->(∀j,(j<o+i*esz\/o+i*esz+esz<=j)->f' j=f j)->Stab g esz f o l->Stab g esz f' o (l.set i a)
 |_,[],_,h,_,_,_=>by simp at h
 |0,e::l,o,_,h1,h2,⟨_,h4⟩=>⟨⟨v,hv,hsz,by simpa using h1⟩,Stab.eq l (o+esz) (λj a b=>h2 j (.inr zo)) h4⟩
 |i+1,e::l,o,h,h1,h2,⟨⟨u,k1,k2,k3⟩,h4⟩=>by
  have he:∀x,o+(i+1)*esz+x=o+esz+i*esz+x:=λx=>by rw[WO];omega
  refine⟨⟨u,k1,k2,λj x hx=>?_⟩,Stab.set hv hsz i l (o+esz) (by simpa using h) (λj x hx=>by rw[<-he];exact h1 j x hx) (λj hj=>h2 j ?_) h4⟩
  ·have hj:j<esz:=by rw[<-k2.1];exact(Wc.1 hx).1
   rw[h2 (o+j) (.inl (by have:=he 0;omega))];exact k3 j x hx
  ·simp_all
theorem Stab.replicate{f:Nat->Option Value}{a:Fs}{v:Value}(hv:VRel g a v)(hsz:EH esz v):∀(k o:Nat),(∀i<k,∀(j:Nat) x,v.cells[j]?=some x->f (o+i*esz+j)=some x)->Stab g esz f o (List.replicate k a)
 |0,_,_=>trivial
 |k+1,o,h=>⟨⟨v,hv,hsz,by simpa using h 0 zo⟩,Stab.replicate hv hsz k (o+esz) λi hi j x hx=>by
   have:=h (i+1) zo j x hx;rwa[show o+(i+1)*esz+j=o+esz+i*esz+j from by rw[WO];omega]at this⟩
theorem Bw{z:Array Value}{k i j:Nat}{x:Value}(hi:i<k)(hj:z[j]?=some x):(madeCells z (k*z.size))[i*z.size+j]?=some x:=by
 have c6:j<z.size:=(Wc.1 hj).1;have j8:i*z.size+j<k*z.size:=by
  have:(i+1)*z.size<=k*z.size:=Xl _ hi;rw[WO]at this;omega
 have hmod:(i*z.size+j) % z.size=j:=by rw[Nat.mul_comm,Nat.mul_add_mod,Xy c6]
 unfold madeCells;rw[Array.getElem?_map,X8 (by simpa using j8)];simp only[Array.getElem_range,Wt,hmod];rw[getElem!_pos z j c6,(Wc.1 hj).2]
theorem Pc(R:Z2 g H n w){i:TypeInfo}{x':Yy}{u:Value}(hu:P.underlying t=some (.slice e))(hi:P.info? e=some i)(hz:Br P e=some z)(hsz:szT P e=some s)
  (hx:VRel g (ρ' x') u) (hs:(evk H ρ' (.mkz s i.bytes z x')).1):Yld P m g H n w (Instr.makeSlice t u u) (evk H ρ' (.mkz s i.bytes z x')).2:=by
 obtain⟨h1,h2,h3,h4,h5⟩:=hs;obtain⟨k,c,e1,rfl⟩:=Bj h1 hx;obtain⟨i',zv,i8,hzz,hr,hzs,hl,h0,hnt⟩:=BC hz;rw[hi]at i8;cases i8;obtain⟨i'',d,hi'',hd,hss,hpos⟩:=CX hsz;rw[hi]at hi'';cases hi'';rw[e1]at h2 h3 h4;simp only[toI]at h2 h3 h4;have hb:(i.bytes:Int)*c<=281474976710656:=by grind [small,Int.toNat_natCast,Nat.mul_comm]
 have hrun:=run_make (P:=P) w t e i zv hu hi hzz k k c c h2 (Y7 _) hb zo;obtain⟨r1,r2,r3⟩:=Fy (m:=m) R (w':=w.alloc (.cells (madeCells zv.cells (c.toNat*i.size)) e)) rfl rfl rfl rfl rfl;refine⟨_,_,_,hrun,?_,r1,r2⟩;simp only[evk,e1,toI];refine .inr ⟨trivial,w.heap.size,0,c.toNat,⟨none,zw,.inl rfl⟩,zw,?_,zw⟩;simp only[Zd.esz,WB];have hzv:EH s zv:=⟨zo,(hr ⟨λ_=>none,λ_ _=>none⟩).one hnt⟩;refine Stab.replicate (hr _) hzv _ _ λa ha j x hx=>?_
 simp only[Wr];have:=Bw (z:=zv.cells) (k:=c.toNat) ha hx;rw[hzs]at this;rw[<-hss];exact this
theorem J5:∀(parts:List (Nat×Operand)) (parts':List (Nat×Yy)) (l:List Fs) (cells:Array Value),
  DZ parts=some parts'->(∀x x',copd x=some x'->x'∈parts'.map (·.2)->VRel g (ρ' x') (ρ x))->
  (∀p∈parts',nT (ρ' p.2)/\(ρ' p.2).cells.length=esz/\p.1<l.length)->cells.size=l.length*esz->Stab g esz (λo=>cells[o]?) 0 l->
  ∃cells',Instr.fill (λi=>some (i*esz,esz)) cells (parts.map λ(i,x)=>(i,ρ x))=some cells'/\cells'.size=cells.size/\Stab g esz (λo=>cells'[o]?) 0 (parts'.foldl (λl p=>l.set p.1 (ρ' p.2)) l)
 |[],parts',l,cells,hc,_,_,hsz,h=>by
  simp only[DZ]at hc;cases hc;exact⟨cells,rfl,rfl,h⟩
 |(i,x)::parts,parts',l,cells,hc,hv,hs,hsz,h=>by
  simp only[DZ]at hc;split at hc
  ·rename_i a as e2 e3;cases hc;obtain⟨s0,s1,s2⟩:=hs (i,a) zw;simp only[]at s1 s2;have hva:=hv x a e2 zw;have hsx:(ρ x).cells.size=esz:=by
    have:=VRels.length _ _ hva.cells;simp only[Ws]at this;omega
   have hfit:i*esz+(ρ x).cells.size<=cells.size:=by
    rw[hsx,hsz];have:(i+1)*esz<=l.length*esz:=Xl _ s2;rw[WO]at this;omega
   have step:=J4 (i*esz) (ρ x) cells hfit;have hsize:(putCells (i*esz) (ρ x) cells).size=cells.size:=by grind [Array.length_toList,List.length_append,List.length_take,List.length_drop]
   have hget:∀o,(putCells (i*esz) (ρ x) cells)[o]?=if i*esz<=o/\o<i*esz+esz then(ρ x).cells[o-i*esz]? else cells[o]?:=by
    intro o;rw[<-WG,step];by_cases h1:o<i*esz
    ·grind
    ·grind
   obtain⟨cells',k1,k2,k3⟩:=J5 parts as (l.set i (ρ' a)) (putCells (i*esz) (ρ x) cells) e3
    (λy y' hy hm=>hv y y' hy (by simp only[W6,Wp];exact .inr hm))
    (λp hp=>by
     obtain⟨t0,t1,t2⟩:=hs p (by simp [hp]);exact⟨t0,t1,by simpa using t2⟩)
    (by rw[hsize,hsz];simp)
    (Stab.set hva ⟨hsx,hva.one s0⟩ i l 0 s2 (λj x' hx'=>by
      have hj:j<esz:=by rw[<-hsx];exact(Wc.1 hx').1
      rw[hget,Vv zo];rw[show 0+i*esz+j-i*esz=j from by omega];exact hx')
     (λj hj=>by rw[hget,V5 zo]) h)
   refine⟨cells',?_,by rw[k2,hsize],by simpa using k3⟩;simp only[W6,Instr.fill];rw[V5 (by simp [hsx];omega)];exact k1
  ·cases hc
theorem TI{w:World}{len:Nat}{ps:List (Nat×Yy)}(hu:P.underlying t=some (.slice e))(hz:Br P e=some z)(hsz:szT P e=some s)
  (hc:DZ parts.toList=some ps) (hv:∀x x',copd x=some x'->x'∈ps.map (·.2)->VRel g (ρ' x') (ρ x)) (h1:∀p∈ps,nT (ρ' p.2)/\(ρ' p.2).cells.length=s/\p.1<len) (h3:len*s<=16777216):
  ∃cells:Array Value,(Instr.buildSlice t len (parts.map λ(i,x)=>(i,ρ x))).run P w= .ok (.slice (some ⟨w.heap.size,0,none⟩) len len) (w.alloc (.cells cells e))/\cells.size=len*s/\
   Stab g s (λo=>cells[o]?) 0 (ps.foldl (λl p=>l.set p.1 (ρ' p.2)) (List.replicate len z)):=by
 obtain⟨i,zv,hi,hzz,hr,hzs,hl,h0,hnt⟩:=BC hz;obtain⟨i'',d,hi'',hd,rfl,hpos⟩:=CX hsz;rw[hi]at hi'';cases hi'';have hmade:Stab g i.size (λo=>(madeCells zv.cells (len*i.size))[o]?) 0 (List.replicate len z):=by
  refine Stab.replicate (hr _) ⟨hzs,(hr ⟨λ_=>none,λ_ _=>none⟩).one hnt⟩ _ _ λa ha j x hx=>?_
  simp only[Wr];have:=Bw (z:=zv.cells) (k:=len) ha hx
  rwa[hzs]at this
 obtain⟨cells,q1,q2,q3⟩:=J5 (g:=g) (ρ:=ρ) (ρ':=ρ') parts.toList ps (List.replicate len z) (madeCells zv.cells (len*i.size)) hc hv
  (λp hp=>by obtain⟨a,b,c⟩:=h1 p hp;exact⟨a,b,by simpa using c⟩) (by rw[size_madeCells];simp) hmade
 have d6:∀(ps:List (Nat×Yy)) (l:List Fs),(ps.foldl (λl p=>l.set p.1 (ρ' p.2)) l).length=l.length:=by
  intro ps;induction ps with
  |nil=>intro l;rfl
  |cons p ps ih=>intro l;simp [ih]
 have hrun:(Instr.buildSlice t len (parts.map λ(i,x)=>(i,ρ x))).run P w= .ok (.slice (some ⟨w.heap.size,0,none⟩) len len) (w.alloc (.cells cells e)):=by
  have hn:¬(16777216<len*i.size):=zo
  have hq:Instr.fill (λi_1=>some (i_1*i.size,i.size)) ((Array.range (len*i.size)).map (zv.cells[· % zv.cells.size]!)) (parts.map λ(i,x)=>(i,ρ x)).toList=some cells:=by simpa [madeCells]using q1
  by_cases h00:len*i.size=0
  ·have hlen0:len=0:=(Nat.mul_eq_zero.1 h00).resolve_right h0;subst hlen0;have hr0:∀(f:Nat->Value),(Array.range 0).map f= #[]:=λf=>by apply X5;simp
   simp only[XD,hr0]at hq;simp at hq;simp [Instr.buildSlice,run_underlying hu,sizeOf,typeInfo,hi,newRow,hr0,hq]
  ·simp_all [Instr.buildSlice,run_underlying,sizeOf,typeInfo,zeroValue,newRow]
 exact⟨cells,hrun,by rw[q2,size_madeCells],q3⟩
theorem E7:∀(ps:List (Nat×Yy)) (l:List Fs),(ps.foldl (λl p=>l.set p.1 (ρ' p.2)) l).length=l.length
 |[],l=>rfl
 |p::ps,l=>by rw[X3,E7 ps];simp
theorem Rw(R:Z2 g H n w){len:Nat}{ps:List (Nat×Yy)}(hu:P.underlying t=some (.slice e))(hz:Br P e=some z)(hsz:szT P e=some s)
  (hc:DZ parts.toList=some ps) (hv:∀x x',copd x=some x'->x'∈ps.map (·.2)->VRel g (ρ' x') (ρ x)) (hs:(evk H ρ' (.bs s len z ps)).1):
  Yld P m g H n w (Instr.buildSlice t len (parts.map λ(i,x)=>(i,ρ x))) (evk H ρ' (.bs s len z ps)).2:=by
 obtain⟨h1,h2,h3⟩:=hs;obtain⟨cells,hrun,_,q3⟩:=TI (w:=w) hu hz hsz hc hv h1 h3;obtain⟨r1,r2,r3⟩:=Fy (m:=m) R (w':=w.alloc (.cells cells e)) rfl rfl rfl rfl rfl;refine⟨_,_,_,hrun,?_,r1,r2⟩;simp only[evk];have hL:(List.foldl (λl p=>l.set p.1 (ρ' p.2)) (List.replicate len z) ps).length=len:=by rw[E7];simp
 refine .inr ⟨trivial,w.heap.size,0,len,⟨none,by rw[hL],.inl rfl⟩,by rw[hL];exact V4 _,?_,hL.symm⟩;simp only[Zd.esz,WB];exact Stab.mono r3 (λ_ _ h=>h) _ _ _ q3
end
section
variable {P:Program} {g:Yx} {H:AC} {n m:Nat} {w:World}
variable {fs:Array Field} {len lo hi:Int} {f off s:Nat} {x' i':Yy} {ρ':Yy->Fs} {x:Operand} {ρ:Operand->Value} {mx:Option Int} {lo' i8:Option Yy} {tok:Zd} {t e:TypeId} {u v:Value}
theorem Gr(h:IB P fs f=some (off,s)):∃fd,fs[f]?=some fd/\fd.offset=off/\szT P fd.type=some s:=by
 unfold IB at h;split at h
 ·simp_all
 ·cases h
theorem MY{sz:Nat}(h:szT P t=some sz){cs:List Fs}{vs:Array Value}(hr:VRels g cs vs.toList)(h1:∀x∈vs.toList,x.oneCell'=true)(hl:off+sz<=cs.length):
  ∃v,(part t vs off).run P w= .ok v w/\VRel g (mk (aggT P t) ((cs.drop off).take sz)) v:=by
 have d6:=VRels.length _ _ hr;obtain⟨_,_,_,_,_,hpos⟩:=CX h;simp only[part,Sem.run_bind,J2 h,Result.andThen_ok];cases hag:aggT P t with
 |true=>
  refine⟨.agg (vs.extract off (off+sz)),by simp [A8 h],⟨_,rfl,?_,?_⟩⟩
  ·have:=(hr.drop off).take sz;rw[Array.toList_extract];simpa [List.extract_eq_take_drop]using this
  ·grind [Array.toList_extract,List.extract_eq_take_drop]
 |false=>
  have c6:off<vs.size:=by simp only[Ws]at d6;omega
  refine⟨vs[off],by simp [c6],?_⟩;have:=VRels.getElem off cs vs.toList hr vs[off] (by simp [c6]);simp only[mk,W5,Wf];have e:((cs.drop off).take sz).headD (.tup [])=cs[off]?.getD (.tup []):=by
   cases sz with
   |zero=>omega
   |succ sz=>
    cases hd:cs.drop off with
    |nil=>have:=congrArg List.length hd;simp at this;omega
    |cons c r=>have:=congrArg (λl:List Fs=>l[0]?) hd;simp at this;simp [this]
  rw[e];exact this
theorem Pd(R:Z2 g H n w){fd:Field}(hu:P.underlying t=some (.struct fs))(hfd:fs[f]?=some fd)(hp:IB P fs f=some (off,s))
  (hx:VRel g (ρ' x') u) (hs:(evk H ρ' (.fld off s (aggT P fd.type) x')).1):Yld P m g H n w (Instr.field t u f) (evk H ρ' (.fld off s (aggT P fd.type) x')).2:=by
 obtain⟨fd',h1,h2,h3⟩:=Gr hp;rw[hfd]at h1;cases h1;simp only[evk]at hs⊢;generalize ρ' x'=a at hs hx⊢;cases a<;>simp only[]at hs⊢ <;>first|exact hs.elim|skip
 obtain⟨vs,rfl,k1,k2⟩:=hx;obtain⟨v,q1,q2⟩:=MY (w:=w) h3 k1 k2 hs;exact Yld.pure R (by simp [Instr.field,run_underlying hu,hfd,asAgg,h2,q1]) q2
theorem I4(R:Z2 g H n w)(hu:P.underlying t=some (.struct fs))(hp:IB P fs f=some (off,s))
  (hx:VRel g (ρ' x') u) (hs:(evk H ρ' (.fa off x')).1):Yld P m g H n w (Instr.fieldAt t u f) (evk H ρ' (.fa off x')).2:=by
 obtain⟨fd,h1,h2,h3⟩:=Gr hp;obtain⟨_,_,_,_,_,hpos⟩:=CX h3;have hrun:∀b o,(Instr.fieldAt t (.pointer (some ⟨b,o,none⟩)) f).run P w= .ok (.pointer (some ⟨b,o+off,none⟩)) w:=by simp_all [Instr.fieldAt,run_underlying,Instr.sureAddr,fieldPlace,A8,BF]<;>omega
 simp only[evk]at hs⊢;generalize ρ' x'=a at hs hx⊢;cases a<;>simp only[]at hs⊢ <;>first|exact hs.elim|skip
 case ptr id o=>obtain⟨L,k1,k2,rfl⟩:=hx;exact Yld.pure R (hrun _ _) ⟨L,k1,k2,rfl⟩
 case ep cs=>obtain⟨b,o,rfl,k1⟩:=hx;exact Yld.pure R (hrun _ _) ⟨b,o+off,rfl,k1.drop off⟩
 case ap id e i o=>obtain⟨L,k1,k2,rfl⟩:=hx;exact Yld.pure R (hrun _ _) ⟨L,k1,k2,by rw[Nat.add_assoc]⟩
theorem ia_yld(R:Z2 g H n w)(hu:P.underlying t=some (.slice e))(hsz:szT P e=some s)
  (hx:VRel g (ρ' x') u) (hi:VRel g (ρ' i') v) (hs:(evk H ρ' (.ia s x' i')).1):Yld P m g H n w (Instr.indexAt t u v) (evk H ρ' (.ia s x' i')).2:=by
 have hrun:∀(b o len cap:Nat) k (i:Int),0<=i->i<len->(Instr.indexAt t (.slice (some ⟨b,o,none⟩) len cap) (.int k i)).run P w= .ok (.pointer (some ⟨b,o+i.toNat*s,none⟩)) w:=by simp_all [Instr.indexAt,run_underlying,asIntOf,A8,BF]
 simp only[evk]at hs⊢;generalize ρ' x'=a at hs hx⊢;cases a<;>simp only[]at hs⊢ <;>first|exact hs.elim|skip
 case sl tok l=>
  obtain⟨h1,h2,h3,h4⟩:=hs;obtain⟨k,i,e1,rfl⟩:=Bj h2 hi;simp only[e1,toI]at h3 h4⊢;rcases hx with⟨rfl,rfl,_⟩|⟨htok,b,o,cap,⟨sp,rfl,hsp⟩,hcap,hst,_⟩
  ·simp at h4;omega
  ·have hsp':sp=none:=hsp.resolve_right λq=>by rw[q.1]at h4;simp at h4;omega
   subst hsp';rw[h1]at hst;obtain⟨v,q1,q2,q3⟩:=hst.elem i.toNat l o zo;exact Yld.pure R (hrun _ _ _ _ _ _ h3 h4) ⟨b,o+i.toNat*s,rfl,PStab.ofElem q1 q3 q2.2⟩
 case ref id e' off len cap=>
  obtain⟨h1,h2,h3,h4⟩:=hs;obtain⟨k,i,e1,rfl⟩:=Bj h2 hi;simp only[e1,toI]at h3 h4⊢;obtain⟨L,k1,k2,rfl⟩:=hx;exact Yld.pure R (hrun _ _ _ _ _ _ h3 h4) ⟨L,k1,k2,by rw[h1,WO,Xw]⟩
theorem Ux(R:Z2 g H n w){len:Nat}(hu:P.underlying t=some (.array len e))(hsz:szT P e=some s)
  (hx:VRel g (ρ' x') u) (hi:VRel g (ρ' i') v) (hs:(evk H ρ' (.iaA len s x' i')).1):Yld P m g H n w (Instr.indexAt t u v) (evk H ρ' (.iaA len s x' i')).2:=by
 have hrun:∀(b o:Nat) k (i:Int),0<=i->i<len->(Instr.indexAt t (.pointer (some ⟨b,o,none⟩)) (.int k i)).run P w= .ok (.pointer (some ⟨b,o+i.toNat*s,none⟩)) w:=by simp_all [Instr.indexAt,run_underlying,asIntOf,Instr.sureAddr,A8,BF]
 simp only[evk]at hs⊢;generalize ρ' x'=a at hs hx⊢;cases a<;>simp only[]at hs⊢ <;>first|exact hs.elim|skip
 case ptr id o=>
  obtain⟨h2,h3,h4⟩:=hs;obtain⟨k,i,e1,rfl⟩:=Bj h2 hi;simp only[e1,toI]at h3 h4⊢;obtain⟨L,k1,k2,rfl⟩:=hx;exact Yld.pure R (hrun _ _ _ _ h3 h4) ⟨L,k1,k2,rfl⟩
 case ep cs=>
  obtain⟨h2,h3,h4⟩:=hs;obtain⟨k,i,e1,rfl⟩:=Bj h2 hi;simp only[e1,toI]at h3 h4⊢;obtain⟨b,o,rfl,k1⟩:=hx;exact Yld.pure R (hrun _ _ _ _ h3 h4) ⟨b,_,rfl,k1.drop _⟩
theorem Uy(R:Z2 g H n w)(hu:P.underlying t=some .string)
  (hx:VRel g (ρ' x') u) (hi:VRel g (ρ' i') v) (hs:(evk H ρ' (.ixS x' i')).1):Yld P m g H n w (Instr.index t u v) (evk H ρ' (.ixS x' i')).2:=by
 obtain⟨h1,h2,h3,h4⟩:=hs;obtain⟨l,e1,rfl⟩:=Cr h1 hx;obtain⟨k,i,e2,rfl⟩:=Bj h2 hi;simp only[evk,e1,e2,toI,toS]at h3 h4⊢;obtain⟨j,rfl⟩:=Int.eq_ofNat_of_zero_le h3;have hj:j<l.length:=zo
 simp only[Vy];have hb:getElem? (ByteArray.mk l.toArray) j=some l[j]:=by
  have hsz:j<(ByteArray.mk l.toArray).size:=by show j<l.toArray.size;simpa using hj
  rw[getElem?_pos (ByteArray.mk l.toArray) j hsz];rfl
 refine Yld.pure R (v:=.int .u8 (l[j].toNat:Int)) ?_ (by simp [VRel,V2 hj]);simp [Instr.index,run_underlying hu,asIntOf,hb]
theorem Uz(R:Z2 g H n w){len:Nat}(hu:P.underlying t=some (.array len e))(hsz:szT P e=some s)
  (hx:VRel g (ρ' x') u) (hi:VRel g (ρ' i') v) (hs:(evk H ρ' (.ixA len s (aggT P e) x' i')).1):Yld P m g H n w (Instr.index t u v) (evk H ρ' (.ixA len s (aggT P e) x' i')).2:=by
 simp only[evk]at hs⊢;generalize ρ' x'=a at hs hx⊢;cases a<;>simp only[]at hs⊢ <;>first|exact hs.elim|skip
 obtain⟨h2,h3,h4,h5⟩:=hs;obtain⟨k,i,e1,rfl⟩:=Bj h2 hi;simp only[e1,toI]at h3 h4 h5⊢;obtain⟨vs,rfl,k1,k2⟩:=hx;obtain⟨v,q1,q2⟩:=MY (w:=w) hsz k1 k2 h5;exact Yld.pure R (by simp [Instr.index,run_underlying hu,asIntOf,h3,h4,A8 hsz,q1]) q2
theorem B7{isSlice:Bool}{len cap:Nat}{lo hi mx:Option Operand}{mx':Option Yy}(hlo:DB lo=some lo')(hhi:DB hi=some i8)(hmx:DB mx=some mx')
  (hv:∀x x',copd x=some x'->(lo'=some x'\/i8=some x'\/mx'=some x')->VRel g (ρ' x') (ρ x))
  (b1:bndI ρ' lo') (b2:bndI ρ' i8) (b3:bndI ρ' mx') (hmh:mx'≠none->i8≠none) (h0:0<=bnd ρ' 0 lo') (h1:bnd ρ' 0 lo'<=bnd ρ' len i8) (h2:bnd ρ' len i8<=bnd ρ' cap mx') (h3:bnd ρ' cap mx'<=cap):
  (Instr.sliceBounds isSlice len cap (lo.map ρ) (hi.map ρ) (mx.map ρ)).run P w= .ok ((bnd ρ' 0 lo').toNat,(bnd ρ' len i8).toNat,(bnd ρ' cap mx').toNat) w:=by
 have bound:∀(x:Operand) (x':Yy) (y:Nat) (c:BoundsCode),VRel g (ρ' x') (ρ x)->CP (ρ' x')->0<=toI (ρ' x')->toI (ρ' x')<=y->(Instr.sliceBound (ρ x) y c).run P w= .ok (toI (ρ' x')).toNat w:=by
  intro x x' y c r s a b;obtain⟨k,i,e1,e2⟩:=Bj s r;rw[e1]at a b⊢;rw[e2];exact run_sliceBound w k i y c a b
 have cases3:∀(x:Option Operand) (x':Option Yy),DB x=some x'->(x=none/\x'=none)\/∃y y',x=some y/\x'=some y'/\copd y=some y':=by
  intro x x' h;cases x with
  |none=>simp [DB]at h;exact .inl ⟨rfl,h.symm⟩
  |some y=>
   simp only[DB]at h;cases hy:copd y with
   |none=>simp [hy]at h
   |some y'=>simp [hy]at h;exact .inr ⟨y,y',rfl,h.symm,hy⟩
 rcases cases3 _ _ hmx with⟨rfl,rfl⟩|⟨z,z',rfl,rfl,hz⟩<;>rcases cases3 _ _ hhi with⟨rfl,rfl⟩|⟨y,y',rfl,rfl,hy⟩<;>rcases cases3 _ _ hlo with⟨rfl,rfl⟩|⟨x,x',rfl,rfl,hx⟩<;>simp only[bnd,bndI,X4,Wt]at*
 ·simp [Instr.sliceBounds]
 ·have e:=bound x x' len .sliceB (hv x x' hx zw) b1 h0 h1;simp [Instr.sliceBounds,e]
 ·have e:=λc=>bound y y' cap c (hv y y' hy zw) b2 zo h2
  simp [Instr.sliceBounds,e]
 ·have e:=λc=>bound y y' cap c (hv y y' hy zw) b2 zo h2
  have e2:=λc=>bound x x' (toI (ρ' y')).toNat c (hv x x' hx zw) b1 h0 zo
  simp [Instr.sliceBounds,e,e2]
 ·simp at hmh
 ·simp at hmh
 ·have e:=λc=>bound z z' cap c (hv z z' hz zw) b3 zo h3
  have e2:=λc=>bound y y' (toI (ρ' z')).toNat c (hv y y' hy zw) b2 zo zo
  simp [Instr.sliceBounds,e,e2]
 ·have e:=λc=>bound z z' cap c (hv z z' hz zw) b3 zo h3
  have e2:=λc=>bound y y' (toI (ρ' z')).toNat c (hv y y' hy zw) b2 zo zo
  have e3:=λc=>bound x x' (toI (ρ' y')).toNat c (hv x x' hx zw) b1 h0 zo
  simp [Instr.sliceBounds,e,e2,e3]
theorem U0(R:Z2 g H n w)(hu:P.underlying t=some .string){lo hi:Option Operand}(hlo:DB lo=some lo')(hhi:DB hi=some i8)
  (hx:VRel g (ρ' x') (ρ x)) (hv:∀y y',copd y=some y'->(lo'=some y'\/i8=some y')->VRel g (ρ' y') (ρ y)) (hs:(evk H ρ' (.slS x' lo' i8)).1):
  Yld P m g H n w (Instr.sliceAt t (ρ x) (lo.map ρ) (hi.map ρ) none) (evk H ρ' (.slS x' lo' i8)).2:=by
 obtain⟨h1,b1,b2,h2,h3,h4⟩:=hs;obtain⟨l,e1,e2⟩:=Cr h1 hx;rw[e2];simp only[evk,e1,toS]at h3 h4⊢;have hsz:ByteArray.size ⟨l.toArray⟩=l.length:=by show l.toArray.size=_;simp
 have hb:=B7 (P:=P) (g:=g) (w:=w) (isSlice:=false) (len:=l.length) (cap:=l.length) (ρ:=ρ) (ρ':=ρ') (mx:=none) (mx':=none) hlo hhi rfl (λy y' a b=>hv y y' a (by simpa using b)) b1 b2 trivial zw h2 h3 (by simpa [bnd]using h4) (by simp [bnd]);refine Yld.pure R (v:=.string (ByteArray.extract ⟨l.toArray⟩ (bnd ρ' 0 lo').toNat (bnd ρ' l.length i8).toNat)) ?_ ?_
 ·simp_all [X4,Instr.sliceAt,Instr.slice,run_underlying]
 ·simp only[VRel];congr 1;apply ByteArray.ext;rw[ByteArray.data_extract];apply X5;simp [List.extract_eq_take_drop,List.drop_take]
theorem J6{id e:Nat}:EB tok len lo hi mx≠ .own id e:=by
 cases tok<;>cases mx<;>simp only[EB]<;>(try split)<;>simp
theorem Pe:(EB tok len lo hi mx).esz=tok.esz:=by
 cases tok<;>cases mx<;>simp only[EB]<;>(try split)<;>rfl
theorem Nc(h:match tok with| .nil=>False|_=>True):match EB tok len lo hi mx with| .nil=>False|_=>True:=by
 cases tok<;>cases mx<;>simp only[EB]at h⊢ <;>first|exact h.elim|(split<;>rename_i heq<;>first|trivial|(split at heq<;>cases heq))
theorem LL{e:Nat}(h:EB tok len lo hi mx= .exact e):(mx=none/\hi=len/\∃e',tok= .exact e')\/mx=some hi:=by
 cases tok<;>cases mx<;>simp only[EB]at h<;>first
  |(cases h;done)
  |(split at h
    ·rename_i heq;subst heq;exact .inr rfl
    ·cases h)
  |(split at h
    ·rename_i heq;exact .inl ⟨rfl,heq,_,rfl⟩
    ·cases h)
theorem Bn{ρ:Yy->Fs}{d:Int}:bnd ρ d none=d:=rfl
theorem GX{ρ:Yy->Fs}{d:Int}{x:Yy}:bnd ρ d (some x)=toI (ρ x):=rfl
theorem sl_yld(R:Z2 g H n w)(hu:P.underlying t=some (.slice e))(hsz:szT P e=some s){lo hi mx:Option Operand}{mx':Option Yy}(hlo:DB lo=some lo')(hhi:DB hi=some i8)(hmx:DB mx=some mx')
  (hx:VRel g (ρ' x') (ρ x)) (hv:∀y y',copd y=some y'->(lo'=some y'\/i8=some y'\/mx'=some y')->VRel g (ρ' y') (ρ y)) (hs:(evk H ρ' (.sl s x' lo' i8 mx')).1):
  Yld P m g H n w (Instr.sliceAt t (ρ x) (lo.map ρ) (hi.map ρ) (mx.map ρ)) (evk H ρ' (.sl s x' lo' i8 mx')).2:=by
 simp only[evk]at hs⊢;generalize hA:ρ' x'=a at hs hx⊢;generalize ρ x=u at hx⊢;cases a<;>simp only[]at hs⊢ <;>first|exact hs.elim|skip
 case sl tok l=>
  obtain⟨ht,b1,b2,b3,hmh,h0,h1,h2,h3⟩:=hs;rcases hx with⟨rfl,rfl,c7⟩|⟨htok,b,o,cap,⟨sp,rfl,hsp⟩,hcap,hst,hk⟩
  ·
   simp only[Wq,Int.natCast_zero]at h1 h2 h3;have hhi0:bnd ρ' (0:Nat) i8=0:=by simp only[Int.natCast_zero];omega
   have hlo0:bnd ρ' 0 lo'=0:=zo
   have hmx0:bnd ρ' (0:Nat) mx'=0:=by
    cases mx' with
    |none=>rfl
    |some z=>have:=h3 z rfl;simp only[bnd];omega
   have hb:=B7 (P:=P) (g:=g) (w:=w) (isSlice:=true) (len:=0) (cap:=0) (ρ:=ρ) (ρ':=ρ') hlo hhi hmx hv b1 b2 b3 hmh h0 zo zo zo;rw[hhi0,hlo0,hmx0]at hb;refine Yld.pure R (v:=.slice none 0 0) (by simp [Instr.sliceAt,Instr.slice,run_underlying hu,hb,A8 hsz]) ?_;refine .inl ⟨zw,rfl,?_⟩;split
   ·rename_i heq;exact absurd heq J6
   ·trivial
  ·have ht':tok.esz=s:=by
    rcases ht with rfl|ht
    ·exact htok.elim
    ·exact ht
   rw[ht']at hst;have hml:bnd ρ' cap mx'<=cap/\bnd ρ' l.length i8<=bnd ρ' cap mx'/\(∀z,mx'=some z->bnd ρ' cap mx'=toI (ρ' z)):=by
    cases mx' with
    |none=>rw[Bn];exact⟨Y7 _,zo,zw⟩
    |some z=>have:=h3 z rfl;rw[GX];exact⟨zo,zo,λ_ h=>by cases h;rfl⟩
   have hb:=B7 (P:=P) (g:=g) (w:=w) (isSlice:=true) (len:=l.length) (cap:=cap) (ρ:=ρ) (ρ':=ρ') hlo hhi hmx hv b1 b2 b3 hmh h0 h1 hml.2.1 hml.1;generalize hLo:(bnd ρ' 0 lo').toNat=L0 at hb⊢;generalize hHi:(bnd ρ' l.length i8).toNat=H0 at hb⊢;generalize hMx:(bnd ρ' cap mx').toNat=M0 at hb⊢;have hLH:L0<=H0:=zo
   have hHM:H0<=M0:=zo
   have hHl:H0<=l.length:=zo
   have hadd:∀k:Nat,(l=[]->k=0)->(⟨b,o,sp⟩:Addr).add k=⟨b,o+k,sp⟩:=λk hk0=>by
    rcases hsp with rfl|⟨q,_⟩
    ·exact BF ..
    ·rw[hk0 q];rfl
   have hL0:l=[]->L0*s=0:=λq=>by
    rw[q]at hHl;simp at hHl;have:L0=0:=zo
    rw[this,XD]
   refine Yld.pure R (v:=.slice (if M0=L0 then some ⟨b,o,sp⟩else some ⟨b,o+L0*s,sp⟩) (H0-L0) (M0-L0)) ?_ ?_
   ·simp only[Instr.sliceAt,Sem.run_bind,run_underlying hu,Result.andThen_ok,Instr.slice,hb,A8 hsz,Sem.run_pure,Wt,hadd _ hL0]
   ·have d6:((l.take H0).drop L0).length=H0-L0:=by rw[Wl,W0];omega
    have hesz:∀mxo,(EB tok l.length (bnd ρ' 0 lo') (bnd ρ' l.length i8) mxo).esz=s:=by
     intro mxo;rw[Pe];exact ht'
    refine .inr ⟨?_,b,if M0=L0 then o else o+L0*s,M0-L0,⟨sp,?_,?_⟩,by rw[d6];omega,?_,?_⟩
    ·exact Nc htok
    ·rw[d6];split<;>rfl
    ·refine hsp.imp id λq=>⟨by rw[q.1];simp,?_⟩
     obtain⟨ql,q⟩:=q;have hH0:H0=0:=by rw[ql]at hHl;simpa using hHl
     rcases q with q|⟨e',rfl⟩
     ·exact .inl zo
     ·cases mx' with
      |none=>exact .inr ⟨e',rfl⟩
      |some z=>
       by_cases hz:toI (ρ' z)=bnd ρ' l.length i8
       ·have:=hml.2.2 z rfl;exact .inl zo
       ·exact .inr ⟨e',by simp only[EB,Wt,V5 hz]⟩
    ·rw[hesz];by_cases hML:M0=L0
     ·rw[Vv hML];have:(l.take H0).drop L0=[]:=by
       apply Wv;rw[d6];omega
      rw[this];trivial
     ·rw[V5 hML];exact(hst.take H0).drop L0
    ·rw[d6];split
     ·rename_i e0 heq;rcases LL heq with⟨hm,hh,e',rfl⟩|hm
      ·have hm':mx'=none:=by cases mx'<;>simp_all
       subst hm';rw[Bn]at hMx;simp only[]at hk;omega
      ·cases mx' with
       |none=>simp at hm
       |some z=>
        have hz:=hml.2.2 z rfl;simp only[Wt,Option.some.injEq]at hm;omega
     ·rename_i heq;exact absurd heq J6
     ·trivial
 case ref id e' off len cap=>
  cases mx' with
  |none=>
   simp only[Eu]at hs⊢;obtain⟨rfl,hcl,b1,b2,h0,h1,h2,h3⟩:=hs;obtain⟨L,k1,k2,rfl⟩:=hx;have hb:=B7 (P:=P) (g:=g) (w:=w) (isSlice:=true) (len:=len) (cap:=cap) (ρ:=ρ) (ρ':=ρ') hlo hhi hmx hv b1 b2 trivial zw h0 h1 (by rw[Bn];omega) (by rw[Bn];exact Y7 _);refine Yld.pure R (v:=.slice (some ⟨L.blk,off*e'+(bnd ρ' 0 lo').toNat*e',none⟩) ((bnd ρ' len i8).toNat-(bnd ρ' 0 lo').toNat) (cap-(bnd ρ' 0 lo').toNat)) ?_ ⟨L,k1,k2,by rw[WO]⟩;have hne:¬cap=(bnd ρ' 0 lo').toNat:=zo
   simp only[Instr.sliceAt,Sem.run_bind,run_underlying hu,Result.andThen_ok,Instr.slice,hb,A8 hsz,Sem.run_pure,Wt,BF];simp only[Bn,Vy,hne,Wf]
  |some z=>
   simp only[Eu]at hs⊢;obtain⟨rfl,hh,b1,b2,b3,h0,h1,h2⟩:=hs;obtain⟨L,k1,k2,rfl⟩:=hx;have hb:=B7 (P:=P) (g:=g) (w:=w) (isSlice:=true) (len:=len) (cap:=cap) (ρ:=ρ) (ρ':=ρ') hlo hhi hmx hv b1 b2 b3 (λ_=>hh) zo zo (by rw[GX];omega) (by rw[GX];omega);refine Yld.pure R (v:=.slice (some ⟨L.blk,off*e',none⟩) 0 0) ?_ (.inr ⟨trivial,L.blk,off*e',0,⟨none,rfl,.inl rfl⟩,V4 _,trivial,rfl⟩);have e1:(bnd ρ' 0 lo').toNat=0:=zo
   have e2:(bnd ρ' len i8).toNat=0:=zo
   have e3:(bnd ρ' cap (some z)).toNat=0:=by rw[GX];omega
   rw[e1,e2,e3]at hb;simp [Instr.sliceAt,Instr.slice,run_underlying hu,hb,A8 hsz]
theorem DD:∀(xs:List Operand) (xs':List Yy),Hj xs=some xs'->(∀x x',copd x=some x'->x'∈xs'->VRel g (ρ' x') (ρ x))->VRels g (xs'.map ρ') (xs.map ρ)
 |[],xs',h,_=>by simp [Hj]at h;subst h;rfl
 |x::xs,xs',h,hv=>by
  simp only[Hj]at h;split at h
  ·rename_i a as h1 h2;cases h;exact⟨ρ x,xs.map ρ,rfl,hv x a h1 zw,DD xs as h2 (λy y' e hm=>hv y y' e (by simp [hm]))⟩
  ·cases h
theorem Rx(R:Z2 g H n w){o:Oper}(ho:o.op= .nilCheck x)(hx:VRel g (ρ' x') (ρ x))(hs:(evk H ρ' (.nilc x')).1):Val P m g H n w (execOp ρ o) (evk H ρ' (.nilc x')).2:=by
 simp only[evk]at hs⊢;generalize ρ' x'=a at hs hx⊢;have plain:∀v:Value,v≠ .pointer none->v≠ .nilIface->v≠ .nilFunc->(∀nm a b,v≠ .func (.method nm) a b)->ρ x=v->(execOp ρ o).run P w= .ok (.value v) w:=by
  intro v h1 h2 h3 h4 e;simp only[execOp,ho,e];simp
 cases a<;>(try simp only[]at hs⊢)<;>first|exact hs.elim|skip
 case ptr id o=>obtain⟨L,k1,k2,e⟩:=hx;exact Val.pure R (plain _ zw zw zw zw e) ⟨L,k1,k2,rfl⟩
 case ep cs=>obtain⟨b,o,e,k1⟩:=hx;exact Val.pure R (plain _ zw zw zw zw e) ⟨b,o,rfl,k1⟩
 case ap id e i o=>obtain⟨L,k1,k2,e⟩:=hx;exact Val.pure R (plain _ zw zw zw zw e) ⟨L,k1,k2,rfl⟩
 case fn f a b=>
  cases f<;>(try simp only[]at hs⊢)<;>first|exact hs.elim|skip
  obtain⟨p,q,e,k1,k2⟩:=hx;exact Val.pure R (plain _ zw zw zw zw e) ⟨p,q,rfl,k1,k2⟩
 case ifc t v=>obtain⟨y,e,k1⟩:=hx;exact Val.pure R (plain _ zw zw zw zw e) ⟨y,rfl,k1⟩
theorem ID{k:IntKind}{mx:Bool}{P:Program}{w:World}:∀(ns:List Int) (a:Int),
  ((ns.map (Value.int k)).foldlM (if mx then Builtin.max2 else Builtin.min2) (.int k a)).run P w= .ok (.int k (ns.foldl (λm y=>if mx then max m y else min m y) a)) w
 |[],a=>zw
 |y::ns,a=>by
  have h:((if mx then Builtin.max2 else Builtin.min2) (.int k a) (.int k y)).run P w= .ok (.int k (if mx then max a y else min a y)) w:=by
   cases mx with
   |true=>simp [Builtin.max2];omega
   |false=>simp [Builtin.min2];omega
  simp only[W6,List.foldlM_cons,Sem.run_bind,h,Result.andThen_ok,ID ns,X3]
theorem MZ(R:Z2 g H n w){ts:Array TypeId}{ty:TypeId}{mx:Bool}{k:IntKind}{xs':List Yy}{vs:Array Value}(hx:VRels g (xs'.map ρ') vs.toList)(hs:(evk H ρ' (.mnmx mx k xs')).1):
  Yld P m g H n w (if mx then Builtin.max_ ts ty vs else Builtin.min_ ts ty vs) (evk H ρ' (.mnmx mx k xs')).2:=by
 obtain⟨h1,h2⟩:=hs;have ints:∀(xs:List Yy) (vs:List Value),(∀x∈xs,isI k (ρ' x))->VRels g (xs.map ρ') vs->vs=(xs.map λx=>toI (ρ' x)).map (Value.int k):=by
  intro xs;induction xs with
  |nil=>intro vs _ h;simp only[Wh,VRels]at h;subst h;rfl
  |cons x xs ih=>
   intro vs hi h;obtain⟨v,r,rfl,q1,q2⟩:=h;obtain⟨i,e1,rfl⟩:=Cq (hi x zw) q1;rw[ih r (λy hy=>hi y (by simp [hy])) q2];simp [e1,toI]
 have hv:=ints xs' _ h1 hx;cases xs' with
 |nil=>exact absurd rfl h2
 |cons x xs=>
  simp only[W6]at hv;have hf:=ID (k:=k) (mx:=mx) (P:=P) (w:=w) (xs.map λx=>toI (ρ' x)) (toI (ρ' x));refine Yld.pure R (v:=.int k ((xs.map λx=>toI (ρ' x)).foldl (λm y=>if mx then max m y else min m y) (toI (ρ' x)))) ?_ ?_
  ·cases mx<;>simp only[Builtin.max_,Builtin.min_,hv,W5,WB,Wf]at hf⊢ <;>exact hf
  ·simp only[evk,evMM,VRel,List.foldl_map]
theorem Nd(R:Z2 g H n w){o:Oper}{mkv:Bool}{k:Z1}(hc:copk P mkv o.op=some k)
  (hv:∀x x',copd x=some x'->x'∈k.opds->VRel g (ρ' x') (ρ x)) (hs:(evk H ρ' k).1):Val P m g H n w (execOp ρ o) (evk H ρ' k).2:=by
 have one:∀{x:Operand} {f:Yy->Z1},(copd x).map f=some k->∃x',copd x=some x'/\k=f x':=by simp_all
 cases ho:o.op<;>simp only[ho]at hc;case move x=>
  obtain⟨x',e,rfl⟩:=one hc;exact Val.pure R (by simp [execOp,ho]) (hv x x' e (by simp [Z1.opds]))
 case assign x=>
  obtain⟨x',e,rfl⟩:=one hc;exact Val.pure R (by simp [execOp,ho]) (hv x x' e (by simp [Z1.opds]))
 case build t parts=>
  have:=(LK (m:=m) R hc hv hs).val;simpa [execOp,ho,Da]using this
 case buildSlice t len parts=>
  simp only[copk]at hc;split at hc
  ·rename_i e hu;split at hc
   ·rename_i z s hz hsz;cases hcp:DZ parts.toList with
    |none=>simp [hcp]at hc
    |some ps=>
     simp [hcp]at hc;subst hc;have:=(Rw (m:=m) R hu hz hsz hcp hv hs).val;simpa [execOp,ho,Da]using this
   ·cases hc
  ·cases hc
 case load t a=>
  simp only[copk]at hc;split at hc
  ·rename_i s a' h1 h2;cases hc;have:=(LJ (m:=m) R h1 (hv a a' h2 (by simp [Z1.opds])) hs).val;simpa [execOp,ho,Da,evk]using this
  ·cases hc
 case nilCheck x=>
  obtain⟨x',e,rfl⟩:=one hc;exact Rx R ho (hv x x' e (by simp [Z1.opds])) hs
 case binOp op t x y yt=>
  simp only[copk]at hc;split at hc
  ·rename_i a b h1 h2;have hmem:a∈k.opds/\b∈k.opds:=by
    unfold cbin at hc;split at hc
    ·grind [Z1.opds]
    ·grind [Z1.opds]
    ·grind [Z1.opds]
    ·grind [Z1.opds]
    ·grind [Z1.opds]
    ·cases hc
   have:=(Pb (m:=m) R (x:=x) (y:=y) (hv x a h1 hmem.1) (hv y b h2 hmem.2) hc hs).val;simpa [execOp,ho,Da]using this
  ·cases hc
 case unOp op t x=>
  cases op<;>simp only[copk]at hc<;>first|(cases hc;done)|skip
  ·split at hc
   ·rename_i kd hu;obtain⟨x',e,rfl⟩:=one hc;have:=(Uv (P:=P) (m:=m) R (hv x x' e (by simp [Z1.opds])) hs).val;simpa [execOp,ho,Da,evk]using this
   ·cases hc
  ·split at hc
   ·rename_i kd hu;obtain⟨x',e,rfl⟩:=one hc;have:=(Uw (P:=P) (m:=m) R (hv x x' e (by simp [Z1.opds])) hs).val;simpa [execOp,ho,Da,evk]using this
   ·cases hc
  ·obtain⟨x',e,rfl⟩:=one hc;have:=(Uu (P:=P) (m:=m) R (hv x x' e (by simp [Z1.opds])) hs).val;simpa [execOp,ho,Da,evk]using this
 case convert s d x=>
  simp only[copk]at hc;split at hc
  ·rename_i a h1;have hmem:a∈k.opds:=by grind [Rn,Z1.opds]
   have:=(Nb (m:=m) R (hv x a h1 hmem) hc hs).val;simpa [execOp,ho,Da]using this
  ·cases hc
 case makeInterface t x=>
  simp only[copk]at hc;split at hc
  ·cases hc
  ·rename_i d hni hu;obtain⟨x',e,rfl⟩:=one hc;have hr:(Instr.makeInterface t (ρ x)).run P w= .ok (.iface t (ρ x)) w:=by
    simp only[Instr.makeInterface,Sem.run_bind,run_underlying hu,Result.andThen_ok];simp
   exact Val.pure R (v:=.iface t (ρ x)) (by simp [execOp,ho,hr]) ⟨_,rfl,hv x x' e (by simp [Z1.opds])⟩
  ·cases hc
 case makeFunc fn first cap=>
  simp only[copk]at hc;split at hc
  ·rename_i a b h1 h2;cases hc;refine Val.pure R (v:=.func fn (first.map ρ) (cap.map ρ)) (by simp [execOp,ho,Instr.makeFunc]) ⟨_,_,rfl,?_,?_⟩
   ·simpa using DD first.toList a h1 (λx x' e hm=>hv x x' e (by simp [Z1.opds,hm]))
   ·simpa using DD cap.toList b h2 (λx x' e hm=>hv x x' e (by simp [Z1.opds,hm]))
  ·cases hc
 case makeSlice t l c=>
  have fin:∀{e:TypeId} {inf:TypeInfo} {z:Fs} {s:Nat} {x:Operand} {x':Yy},P.underlying t=some (.slice e)->P.info? e=some inf->Br P e=some z->szT P e=some s->copd x=some x'->k= .mkz s inf.bytes z x'->l=x->c=x->
    Val P m g H n w (execOp ρ o) (evk H ρ' k).2:=by
   intro e inf z s x x' h1 h2 h3 h4 h5 h6 h7 h8;subst h6;have:=(Pc (m:=m) R h1 h2 h3 h4 (hv x x' h5 (by simp [Z1.opds])) hs).val;simpa [execOp,ho,Da,h7,h8]using this
  cases l<;>cases c<;>(try (simp only[copk]at hc;cases hc;done))
  ·rename_i l c;simp only[copk]at hc;split at hc
   ·rename_i hlc;obtain⟨-,rfl⟩:=hlc;split at hc
    ·rename_i e hu;split at hc
     ·rename_i inf z s h1 h2 h3;cases hc;exact fin hu h1 h2 h3 rfl rfl rfl rfl
     ·cases hc
    ·cases hc
   ·cases hc
  ·rename_i l c;cases l<;>(try (simp only[copk]at hc;cases hc;done));rename_i kl nl;cases kl<;>(try (simp only[copk]at hc;cases hc;done));cases c<;>(try (simp only[copk]at hc;cases hc;done));rename_i kc nc;cases kc<;>(try (simp only[copk]at hc;cases hc;done));simp only[copk]at hc;split at hc
   ·rename_i hlc;obtain⟨-,rfl⟩:=hlc;split at hc
    ·rename_i e hu;split at hc
     ·grind [copd,cval,LE]
     ·cases hc
    ·cases hc
   ·cases hc
 case slice t x lo hi mx=>
  simp only[copk]at hc;split at hc
  ·rename_i a l h hu h1 h2 h3 h4;cases hc;have hm0:mx=none:=by
    cases mx with
    |none=>rfl
    |some z=>simp only[DB]at h4;cases hz:copd z<;>simp [hz]at h4
   subst hm0;have:=(U0 (m:=m) R hu h2 h3 (hv x a h1 (by simp [Z1.opds])) (λy y' e hm=>hv y y' e (by simp only[Z1.opds,Wp,WH];rcases hm with rfl|rfl<;>simp)) hs).val;simpa [execOp,ho,Da]using this
  ·rename_i e a l h mm hu h1 h2 h3 h4;split at hc
   ·rename_i s hsz;cases hc;have:=(sl_yld (m:=m) R hu hsz h2 h3 h4 (hv x a h1 (by simp [Z1.opds])) (λy y' e hm=>hv y y' e (by simp only[Z1.opds,Wp,WH];rcases hm with rfl|rfl|rfl<;>simp)) hs).val;simpa [execOp,ho,Da]using this
   ·cases hc
  ·cases hc
 case fieldAddr t x f=>
  simp only[copk]at hc;split at hc
  ·rename_i fs hu;split at hc
   ·rename_i off s a h1 h2;cases hc;have:=(I4 (m:=m) R hu h1 (hv x a h2 (by simp [Z1.opds])) hs).val;simpa [execOp,ho,Da]using this
   ·cases hc
  ·cases hc
 case field t x f=>
  simp only[copk]at hc;split at hc
  ·rename_i fs hu;split at hc
   ·rename_i fd off s a h1 h2 h3;cases hc;have:=(Pd (m:=m) R hu h1 h2 (hv x a h3 (by simp [Z1.opds])) hs).val;simpa [execOp,ho,Da]using this
   ·cases hc
  ·cases hc
 case indexAddr t x i=>
  simp only[copk]at hc;split at hc
  ·rename_i e a b hu h1 h2;split at hc
   ·rename_i s hsz;cases hc;have:=(ia_yld (m:=m) R hu hsz (hv x a h1 (by simp [Z1.opds])) (hv i b h2 (by simp [Z1.opds])) hs).val;simpa [execOp,ho,Da]using this
   ·cases hc
  ·rename_i nn e a b hu h1 h2;split at hc
   ·rename_i s hsz;cases hc;have:=(Ux (m:=m) R hu hsz (hv x a h1 (by simp [Z1.opds])) (hv i b h2 (by simp [Z1.opds])) hs).val;simpa [execOp,ho,Da]using this
   ·cases hc
  ·cases hc
 case index t x i=>
  simp only[copk]at hc;split at hc
  ·rename_i a b hu h1 h2;cases hc;have:=(Uy (m:=m) R hu (hv x a h1 (by simp [Z1.opds])) (hv i b h2 (by simp [Z1.opds])) hs).val;simpa [execOp,ho,Da]using this
  ·rename_i nn e a b hu h1 h2;split at hc
   ·rename_i s hsz;cases hc;have:=(Uz (m:=m) R hu hsz (hv x a h1 (by simp [Z1.opds])) (hv i b h2 (by simp [Z1.opds])) hs).val;simpa [execOp,ho,Da]using this
   ·cases hc
  ·cases hc
 case extract x i=>
  obtain⟨x',e,rfl⟩:=one hc;have hx:=hv x x' e (by simp [Z1.opds]);simp only[evk]at hs⊢;generalize ρ' x'=a at hs hx⊢;cases a<;>simp only[]at hs⊢ <;>first|exact hs.elim|skip
  rename_i vs';obtain⟨vs,e1,k1⟩:=hx;have hl:=VRels.length _ _ k1;simp only[Ws]at hl;have c6:i<vs.size:=zo
  refine Val.pure R (v:=vs[i]) (by simp [execOp,ho,Instr.extract,e1,c6]) (VRels.getElem i vs' vs.toList k1 vs[i] (by simp [c6]))
 case call c=>
  obtain⟨callee,args,argTypes⟩:=c;cases callee<;>(try (simp only[copk]at hc;cases hc;done));rename_i b;cases b<;>(try (simp only[copk]at hc;cases hc;done))
  ·
   simp only[copk]at hc;split at hc
   ·rename_i t x h1 h2;have e1:argTypes= #[t]:=by apply X5;simpa using h1
    have e2:args= #[x]:=by apply X5;simpa using h2
    subst e1;subst e2;split at hc
    ·rename_i e a hu ha;cases hc;have hx:=hv x a ha (by simp [Z1.opds]);simp only[evk]at hs⊢;generalize ρ' a=b at hs hx⊢;split at hs
     ·rcases hx with⟨-,e2,-⟩|⟨h,-⟩
      ·refine Val.pure R (v:=.int .i64 0) ?_ rfl;simp [execOp,ho,resolve,invoke,builtin,Builtin.cap_,run_underlying hu,e2,goInt]
      ·exact h.elim
     ·rename_i id esz off len cap;obtain⟨L,_,_,e2⟩:=hx;refine Val.pure R (v:=.int .i64 cap) ?_ rfl;simp [execOp,ho,resolve,invoke,builtin,Builtin.cap_,run_underlying hu,e2,goInt]
     ·exact hs.elim
    ·cases hc
   ·cases hc
  ·
   simp only[copk]at hc;split at hc
   ·rename_i t x h1 h2;have e1:argTypes= #[t]:=by apply X5;simpa using h1
    have e2:args= #[x]:=by apply X5;simpa using h2
    subst e1;subst e2;split at hc
    ·rename_i a hu ha;cases hc;obtain⟨l,e1,e2⟩:=Cr hs (hv x a ha (by simp [Z1.opds]));have hsz:ByteArray.size ⟨l.toArray⟩=l.length:=by show l.toArray.size=_;simp
     refine Val.pure R (v:=.int .i64 l.length) ?_ (by simp only[evk,e1,toS,VRel]);simp [execOp,ho,resolve,invoke,builtin,Builtin.len_,run_underlying hu,e2,hsz,goInt]
    ·rename_i e a hu ha;cases hc;have hx:=hv x a ha (by simp [Z1.opds]);simp only[evk]at hs⊢;generalize ρ' a=b at hs hx⊢;cases b<;>simp only[]at hs⊢ <;>first|exact hs.elim|skip
     case sl tok l=>
      have:∃ad cap,ρ x= .slice ad l.length cap:=by
       rcases hx with⟨rfl,h,_⟩|⟨_,b,o,cap,⟨_,h,_⟩,_⟩
       ·exact⟨none,0,h⟩
       ·exact⟨_,cap,h⟩
      obtain⟨ad,cap,e2⟩:=this;refine Val.pure R (v:=.int .i64 l.length) ?_ rfl;simp [execOp,ho,resolve,invoke,builtin,Builtin.len_,run_underlying hu,e2,goInt]
     case ref id esz off len cap=>
      obtain⟨L,_,_,e2⟩:=hx;refine Val.pure R (v:=.int .i64 len) ?_ rfl;simp [execOp,ho,resolve,invoke,builtin,Builtin.len_,run_underlying hu,e2,goInt]
    ·cases hc
   ·cases hc
  ·
   simp only[copk]at hc;split at hc
   ·split at hc
    ·rename_i kd xs hu hxs;cases hc;have hr:VRels g (xs.map ρ') (args.map ρ).toList:=by simpa using DD args.toList xs hxs (λx x' e hm=>hv x x' e (by simpa [Z1.opds]using hm))
     have:=(MZ (P:=P) (m:=m) (ts:=argTypes) (ty:=o.type) (mx:=true) R hr hs).val;simpa [execOp,ho,resolve,invoke,builtin,Da]using this
    ·cases hc
   ·cases hc
  ·
   simp only[copk]at hc;split at hc
   ·split at hc
    ·rename_i kd xs hu hxs;cases hc;have hr:VRels g (xs.map ρ') (args.map ρ).toList:=by simpa using DD args.toList xs hxs (λx x' e hm=>hv x x' e (by simpa [Z1.opds]using hm))
     have:=(MZ (P:=P) (m:=m) (ts:=argTypes) (ty:=o.type) (mx:=false) R hr hs).val;simpa [execOp,ho,resolve,invoke,builtin,Da]using this
    ·cases hc
   ·cases hc
 all_goals (simp only[copk]at hc;cases hc)
end
end Go.AM
