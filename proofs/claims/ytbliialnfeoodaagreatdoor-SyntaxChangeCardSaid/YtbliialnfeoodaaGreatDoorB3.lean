/-
  The abstract machine, part L: operations that make or change objects, and calls; one step of a region · The abstract machine, part M: append, and make of a slice that is written to · The abstract machine, part Mx: maps, a walk through a string, appends to slices that are written to · The abstract machine, part My: appends to slices that are written to; their elements fixed, the room kept · The abstract machine, part N: one operation of a region, as the model carries it out · The abstract machine, part O: operations that may come in either order · The abstract machine, part P: two operations change places · The abstract machine, part Q: an operation is taken first · The abstract machine, part R: an operation is taken ahead of others · The abstract machine, part S: a region, in any order that it may draw · The abstract machine, part Sx: loads from old objects and stores into new ones chang.
  Conditions: none beyond those of its parts.
-/
import Derived.Test.YtbliialnfeoodaaGreatDoorB2
import Derived.MapKept
import Derived.Lib.OthersKept
import Derived.Laws.Runes
import Derived.Laws.IdiomRangeMap
import Derived.Carry
import Derived.ControlIn
import Derived.RangeFuncRecord
import Derived.RangeFuncIn

section
set_option maxRecDepth 20000
set_option linter.all false
namespace Go.AM
section
variable {P:Program} {g:Ghost} {H:AHeap} {n m:Nat} {w:World}
theorem newBox (R:Rel g H n w) {id:Nat} (h0:hget H id=none) (hid:id<n) (hm:m≤id) {a:AVal} {v:Value} {t:TypeId} (hv:VRel g a v) (hn:nT a):
  ∃g',Rel g' (hset H id (.box a.cells)) n (w.alloc (.cells v.cells t))∧Trans m g H w g' (hset H id (.box a.cells)) (w.alloc (.cells v.cells t))∧g.le g'∧VRel g' (.ptr id 0) (.pointer (some ⟨w.heap.size,0,none⟩)):=by
 have hlen:=VRels.length _ _ hv.cells
 simp only[Array.length_toList]at hlen
 have hnew:(w.alloc (.cells v.cells t)).heap[w.heap.size]?=some (.cells v.cells t (0,0)):=by show(w.heap.push _)[w.heap.size]?=_;simp
 have hle0:g.β id=none:=by
  cases hb:g.β id with
  |none=>rfl
  |some L'=>exact absurd h0 (R.dom id L' hb).1
 obtain⟨r1,r2,r3⟩:=R.new (m:=m) (w':=w.alloc (.cells v.cells t)) rfl rfl rfl rfl h0 hid hm (L:=⟨w.heap.size,0,a.cells.length⟩) rfl (ob:=.box a.cells) (by
  have hle:g.le ⟨fun i=>if i=id then some ⟨w.heap.size,0,a.cells.length⟩else g.β i,g.σ⟩:=⟨fun i L h=>by
   show(if i=id then _ else g.β i)=some L
   rw[if_neg (by rintro rfl;rw[hle0]at h;cases h)];exact h,fun _ _ _ h=>h⟩
  refine⟨⟨w.heap.size,0,a.cells.length⟩,v.cells,t,by simp,rfl,rfl,hnew,hlen,?_⟩
  exact PStab.of _ v.cells.toList 0 (VRels.mono hle _ _ hv.cells) (fun j x hx=>by simpa using hx) (hv.one hn))
 exact⟨_,r1,r2,r3,⟨_,by simp;rfl,rfl,rfl⟩⟩
theorem box_sound (R:Rel g H n w) {id:Nat} (h0:hget H id=none) (hid:id<n) (hm:m≤id) {a:AVal} {v:Value} {t:TypeId} (hv:VRel g a v) (hn:nT a):
  ∃w' g',(Instr.box t v).run P w= .ok (.pointer (some ⟨w.heap.size,0,none⟩)) w'∧Rel g' (hset H id (.box a.cells)) n w'∧Trans m g H w g' (hset H id (.box a.cells)) w'∧g.le g'∧VRel g' (.ptr id 0) (.pointer (some ⟨w.heap.size,0,none⟩)):=by
 obtain⟨g',r1,r2,r3,r4⟩:=newBox (m:=m) (t:=t) R h0 hid hm hv hn
 exact⟨_,g',by simp [Instr.box,newVar,newRow],r1,r2,r3,r4⟩
theorem alloc_sound (R:Rel g H n w) {id:Nat} (h0:hget H id=none) (hid:id<n) (hm:m≤id) {t:TypeId} {z:AVal} (hz:zeroT P t=some z):
  ∃w' g',(Instr.alloc t true (.tuple #[])).run P w= .ok (.pointer (some ⟨w.heap.size,0,none⟩)) w'∧Rel g' (hset H id (.box z.cells)) n w'∧Trans m g H w g' (hset H id (.box z.cells)) w'∧g.le g'∧VRel g' (.ptr id 0) (.pointer (some ⟨w.heap.size,0,none⟩)):=by
 obtain⟨i,zv,hi,hzz,hr,hzs,hl,h0',hnt⟩:=zeroT_spec hz
 obtain⟨g',r1,r2,r3,r4⟩:=newBox (m:=m) (t:=t) R h0 hid hm (hr g) hnt
 exact⟨_,g',by simp [Instr.alloc,zeroValue,typeInfo,hi,hzz,newVar,newRow],r1,r2,r3,r4⟩
theorem storeVar_run {t:TypeId} {sz b o:Nat} {v:Value} {c:Array Value} {e:TypeId} (hs:szT P t=some sz) (hv:v.cells.size=sz) (h1:∀x∈v.cells.toList,x.oneCell'=true) (hb:w.heap[b]?=some (.cells c e (0,0))) (hfit:o+sz≤c.size):
  (Instr.storeAt t (.pointer (some ⟨b,o,none⟩)) v).run P w= .ok () (w.setRow b (c.toList.take o++v.cells.toList++c.toList.drop (o+sz)).toArray):=by
 have hst:=run_storeCells_at (P:=P) b o e v.cells.toList 0 c w hb (by simp;omega) h1
 simp only[Nat.add_zero,Array.length_toList,hv]at hst
 simp [Instr.storeAt,Instr.sureAddr,storeVar,run_sizeOf hs,hv,hst]
theorem upd_row (R:Rel g H n w) {id:Nat} {ob ob':AObj} {L:Loc} (h0:hget H id=some ob) (hown:ob.owns=true) (hL:g.β id=some L) {c c':Array Value} {e:TypeId} (hb:w.heap[L.blk]?=some (.cells c e (0,0)))
  (hsz:c'.size=c.size) (hout:∀o,(o<L.lo∨L.hi≤o)→c'[o]?=c[o]?) (hob:ORel g (w.setRow L.blk c') id ob'):
  Rel g (hset H id ob') n (w.setRow L.blk c')∧Trans m g H w g (hset H id ob') (w.setRow L.blk c'):=
 R.upd h0 hown hL rfl rfl rfl (by simp) (fun b hne=>setRow_other w L.blk b c' hne) (.inl ⟨c,e,(0,0),c',hb,setRow_heap w L.blk c c' e (0,0) hb,hsz,hout⟩) hob
theorem splice_get {c vc:Array Value} {p sz:Nat} (hs:vc.size=sz) (hfit:p+sz≤c.size) (o:Nat):(c.toList.take p++vc.toList++c.toList.drop (p+sz)).toArray[o]?=if p≤o∧o<p+sz then vc[o-p]? else c[o]?:=by
 rw[←Array.getElem?_toList]
 simp only[]
 by_cases q1:o<p
 ·rw[if_neg (by omega),List.append_assoc,List.getElem?_append_left (by simp;omega),List.getElem?_take_of_lt q1,Array.getElem?_toList]
 ·by_cases q2:o<p+sz
  ·rw[if_pos ⟨by omega,q2⟩,List.append_assoc,List.getElem?_append_right (by simp;omega),List.getElem?_append_left (by simp [hs];omega)]
   simp only[List.length_take,Array.length_toList,Array.getElem?_toList]
   congr 1;omega
  ·rw[if_neg (by omega),List.getElem?_append_right (by simp [hs];omega),List.getElem?_drop,Array.getElem?_toList]
   congr 1
   simp only[List.length_append,List.length_take,Array.length_toList,hs];omega
theorem splice_size {c vc:Array Value} {p sz:Nat} (hs:vc.size=sz) (hfit:p+sz≤c.size):(c.toList.take p++vc.toList++c.toList.drop (p+sz)).toArray.size=c.size:=by simp;omega
theorem st_sound (R:Rel g H n w) {t:TypeId} {sz:Nat} {ad x:AVal} {u v:Value} {K:AHeap→Prop} (hs:szT P t=some sz) (hu:VRel g ad u) (hv:VRel g x v) (hn:nT x) (hl:x.cells.length=sz) (h:stAt H sz x K ad):
  ∃H' w',(Instr.storeAt t u v).run P w= .ok () w'∧K H'∧Rel g H' n w'∧Trans m g H w g H' w':=by
 have hvl:=VRels.length _ _ hv.cells
 simp only[Array.length_toList]at hvl
 have hvs:v.cells.size=sz:=by omega
 cases ad<;>simp only[stAt]at h<;>first|exact h.elim|skip
 case ptr id off=>
  obtain⟨L,h1,h2,rfl⟩:=hu
  cases ho:hget H id with
  |none=>simp [ho]at h
  |some ob=>
   cases ob<;>simp only[ho]at h<;>first|exact h.elim|skip
   case box cs=>
    obtain⟨hfit,hK⟩:=h
    obtain⟨L',c,e,k1,k2,k3,k4,k5,k6⟩:=R.obj id _ ho
    rw[h1]at k1;cases k1
    have hrun:=storeVar_run (w:=w) (o:=off) hs hvs (hv.one hn) k4 (by omega)
    generalize hc':(c.toList.take off++v.cells.toList++c.toList.drop (off+sz)).toArray=c' at hrun
    have hsz':c'.size=c.size:=by subst hc';simp;omega
    have hnew:=setRow_heap w L.blk c c' e (0,0) k4
    obtain⟨vs,q1,q2,q3⟩:=k6.list
    have hvs':vs=c.toList:=by
     apply List.ext_getElem?
     intro j
     have hl1:=VRels.length _ _ q1
     by_cases hj:j<vs.length
     ·have:=q2 j vs[j] (by simp [hj])
      simp only[Nat.zero_add]at this
      rw[List.getElem?_eq_getElem hj,Array.getElem?_toList,this]
     ·rw[List.getElem?_eq_none (by omega),List.getElem?_eq_none (by simp;omega)]
    subst hvs'
    have hsp:VRels g (splice cs off x.cells) c'.toList:=by
     subst hc'
     have:=VRels.splice (off:=off) q1 hv.cells
     simpa [hvs]using this
    obtain⟨r1,r2⟩:=upd_row (m:=m) R ho rfl h1 k4 hsz' (fun o ho'=>by
     have:c.size≤o:=by omega
     rw[Array.getElem?_eq_none (by omega),Array.getElem?_eq_none (by omega)]) (ob':=.box (splice cs off x.cells)) (by
      have hlen:=VRels.length _ _ hsp
      simp only[Array.length_toList]at hlen
      refine⟨L,c',e,h1,h2,by omega,hnew,by omega,PStab.of _ _ 0 hsp (fun j y hy=>by simpa using hy) ?_⟩
      subst hc'
      intro y hy
      simp only[List.mem_append]at hy
      rcases hy with(hy|hy)|hy
      ·exact q3 y (List.mem_of_mem_take hy)
      ·exact hv.one hn y hy
      ·exact q3 y (List.mem_of_mem_drop hy))
    exact⟨_,_,hrun,hK,r1,r2⟩
 case ap id esz i off=>
  obtain⟨L,h1,h2,rfl⟩:=hu
  cases ho:hget H id with
  |none=>simp [ho]at h
  |some ob=>
   cases ob<;>simp only[ho]at h<;>first|exact h.elim|skip
   case arr e' l=>
    obtain⟨rfl,hi,hap,hK⟩:=h
    obtain⟨L',c,e,k1,k2,k3,k4,k5,k6⟩:=R.obj id _ ho
    rw[h1]at k1;cases k1
    obtain⟨old,o1,o2,o3⟩:=Stab.elem i l 0 k6 hi
    simp only[Nat.zero_add]at o3
    obtain⟨z,z1,z2,z3,z4⟩:∃z:Value,VRel g (apSet (l[i]?.getD (.tup [])) off sz e' x).2 z∧ECells e' z∧off+sz≤e'∧∀j,j<e'→z.cells[j]?=if off≤j∧j<off+sz then v.cells[j-off]? else old.cells[j]?:=by
     by_cases hall:off=0∧sz=e'
     ·obtain⟨rfl,rfl⟩:=hall
      rw[apSet_all]at hap⊢
      exact⟨v,hv,⟨hvs,hv.one hn⟩,by omega,fun j hj=>by rw[if_pos ⟨by omega,by omega⟩];congr 1⟩
     ·rw[List.getElem?_eq_getElem hi,Option.getD_some]at hap⊢
      have o1':VRel g l[i] old:=by simpa [List.getElem?_eq_getElem hi]using o1
      cases hli:l[i]<;>simp only[apSet,hall,hli,if_false]at hap<;>first|exact hap.elim|skip
      rename_i cs
      obtain⟨hcl,hfit⟩:=hap
      rw[hli]at o1'
      obtain⟨vs,rfl,p1,p2⟩:=o1'
      simp only[apSet,hall,if_false]
      have hsp:=VRels.splice (off:=off) p1 hv.cells
      have hvl2:=VRels.length _ _ p1
      simp only[Array.length_toList]at hvl2 hsp
      have hone:=hv.one hn
      rw[hvs]at hsp
      generalize v.cells=vc at hvs hone hsp⊢
      have hmem:∀y∈(vs.toList.take off++vc.toList++vs.toList.drop (off+sz)),y.oneCell'=true:=by
       intro y hy
       simp only[List.mem_append]at hy
       rcases hy with(hy|hy)|hy
       ·exact p2 y (List.mem_of_mem_take hy)
       ·exact hone y hy
       ·exact p2 y (List.mem_of_mem_drop hy)
      refine⟨.agg (vs.toList.take off++vc.toList++vs.toList.drop (off+sz)).toArray,⟨_,rfl,by simpa using hsp,hmem⟩,⟨?_,hmem⟩,hfit,fun j hj=>?_⟩
      ·show(vs.toList.take off++vc.toList++vs.toList.drop (off+sz)).toArray.size=e'
       rw[splice_size hvs (by omega)];omega
      ·exact splice_get hvs (by omega) j
    have hfit:i*e'+e'≤c.size:=by
     rw[←k5]
     have:(i+1)*e'≤l.length*e':=Nat.mul_le_mul_right _ hi
     rw[Nat.add_mul]at this;omega
    have hrun:=storeVar_run (w:=w) (o:=i*e'+off) hs hvs (hv.one hn) k4 (by omega)
    generalize hc':(c.toList.take (i*e'+off)++v.cells.toList++c.toList.drop (i*e'+off+sz)).toArray=c' at hrun
    have hsz':c'.size=c.size:=by subst hc';simp;omega
    have hnew:=setRow_heap w L.blk c c' e (0,0) k4
    have hget:∀o,c'[o]?=if i*e'+off≤o∧o<i*e'+off+sz then v.cells[o-(i*e'+off)]? else c[o]?:=by
     intro o
     subst hc'
     exact splice_get hvs (by omega) o
    obtain⟨r1,r2⟩:=upd_row (m:=m) R ho rfl h1 k4 hsz' (fun o ho'=>by
     have:c.size≤o:=by omega
     rw[Array.getElem?_eq_none (by omega),Array.getElem?_eq_none (by omega)]) (ob':=.arr e' (l.set i (apSet (l[i]?.getD (.tup [])) off sz e' x).2)) (by
      refine⟨L,c',e,h1,h2,by omega,hnew,by rw[List.length_set];omega,?_⟩
      refine Stab.set z1 z2 i l 0 hi (fun j y hy=>?_) (fun j hj=>?_) k6
      ·have hj:j<e':=by rw[←z2.1];exact(Array.getElem?_eq_some_iff.1 hy).1
       rw[z4 j hj]at hy
       rw[Nat.zero_add,hget]
       by_cases q:off≤j∧j<off+sz
       ·rw[if_pos (by omega),show i*e'+j-(i*e'+off)=j-off from by omega]
        rw[if_pos q]at hy;exact hy
       ·rw[if_neg (by omega)]
        rw[if_neg q]at hy;exact o3 j y hy
      ·rw[hget,if_neg (by omega)])
    exact⟨_,_,hrun,hK,r1,r2⟩
end
end Go.AM
end
section
set_option maxRecDepth 20000
set_option linter.all false
namespace Go.AM
section
variable {P:Program} {g:Ghost} {H:AHeap} {n m:Nat} {w:World}
theorem Stab.list {esz:Nat} {f:Nat→Option Value}:∀(l:List AVal) (o:Nat),Stab g esz f o l→
  ∃vs:List Value,vs.length=l.length*esz∧(∀(j:Nat) x,vs[j]?=some x→f (o+j)=some x)∧(∀x∈vs,x.oneCell'=true)∧Stab g esz (fun j=>vs[j]?) 0 l
 |[],o,_=>⟨[],by simp,by simp,by simp,trivial⟩
 |e::l,o,⟨⟨v,h1,h2,h3⟩,h4⟩=>by
  obtain⟨vs,k1,k2,k3,k4⟩:=Stab.list l (o+esz) h4
  have hl:v.cells.toList.length=esz:=by simpa using h2.1
  refine⟨v.cells.toList++vs,by rw[List.length_append,hl,k1,List.length_cons,Nat.add_mul];omega,?_,?_,?_⟩
  ·intro j x hx
   by_cases hj:j<esz
   ·rw[List.getElem?_append_left (by omega)]at hx
    exact h3 j x (by simpa using hx)
   ·rw[List.getElem?_append_right (by omega),hl]at hx
    have:=k2 _ x hx
    rwa[show o+esz+(j-esz)=o+j from by omega]at this
  ·intro x hx
   rcases List.mem_append.1 hx with hx|hx
   ·exact h2.2 x hx
   ·exact k3 x hx
  ·refine⟨⟨v,h1,h2,fun j x hx=>?_⟩,?_⟩
   ·have hj:j<esz:=by rw[←h2.1];exact(Array.getElem?_eq_some_iff.1 hx).1
    show(v.cells.toList++vs)[0+j]?=some x
    rw[Nat.zero_add,List.getElem?_append_left (by omega)];simpa using hx
   ·have shift:∀(l:List AVal) (o:Nat),Stab g esz (fun j=>vs[j]?) o l→Stab g esz (fun j=>(v.cells.toList++vs)[j]?) (o+esz) l:=by
     intro l
     induction l with
     |nil=>intro o _;trivial
     |cons e' l ih=>
      rintro o ⟨⟨u,q1,q2,q3⟩,q4⟩
      refine⟨⟨u,q1,q2,fun j x hx=>?_⟩,?_⟩
      ·show(v.cells.toList++vs)[o+esz+j]?=some x
       rw[List.getElem?_append_right (by omega),hl,show o+esz+j-esz=o+j from by omega];exact q3 j x hx
      ·have:=ih (o+esz) q4;exact this
    have:=shift l 0 k4;exact this
def Src (P:Program) (g:Ghost) (w:World) (esz:Nat) (l':List AVal) (y:Value):Prop:=
 ∃news:List Value,news.length=l'.length*esz∧(∀v∈news,v.oneCell'=true)∧Stab g esz (fun o=>news[o]?) 0 l'∧
  ∀w':World,w'.heap=w.heap→(Builtin.lenOf y).run P w'= .ok l'.length w'∧(Builtin.firstCells esz l'.length y).run P w'= .ok news.toArray w'
theorem cell_heap {w w':World} (h:w'.heap=w.heap) (a:Addr):w'.cell? a=w.cell? a:=by simp [World.cell?,h]
theorem src_sl (R:Rel g H n w) {esz:Nat} {tok:Tok} {l:List AVal} {y:Value} (h:VRel g (.sl tok l) y) (he:tok.esz=esz∨l.length=0):Src P g w esz l y:=by
 rcases h with⟨rfl,rfl,_⟩|⟨_,b,o,cap,⟨sp,rfl,hsp⟩,_,hst,_⟩
 ·exact⟨[],by simp,by simp,trivial,fun w' _=>⟨by simp [Builtin.lenOf],by simp [Builtin.firstCells]⟩⟩
 ·by_cases hl:l=[]
  ·subst hl
   refine⟨[],by simp,by simp,trivial,fun w' _=>⟨by simp [Builtin.lenOf],?_⟩⟩
   have:=run_firstCells_some (P:=P) w' esz 0 ⟨b,o,sp⟩ 0 cap [] (by simp) (by simp)
   simpa using this
  ·obtain rfl:sp=none:=hsp.resolve_right fun q=>hl q.1
   have he':tok.esz=esz:=he.resolve_right (by simpa using hl)
   rw[he']at hst
   obtain⟨vs,k1,k2,k3,k4⟩:=hst.list
   refine⟨vs,k1,k3,k4,fun w' hw=>⟨by simp [Builtin.lenOf],?_⟩⟩
   exact run_firstCells_some (P:=P) w' esz l.length ⟨b,o,none⟩ l.length cap vs k1 (fun j v hv=>by rw[addr_add,cell_heap hw];exact R.σw _ _ _ (k2 j v hv))
theorem src_ref (R:Rel g H n w) {esz id off len cap:Nat} {l:List AVal} {y:Value} (h:VRel g (.ref id esz off len cap) y) (ho:hget H id=some (.arr esz l)) (hl:off+len≤l.length):Src P g w esz ((l.drop off).take len) y:=by
 obtain⟨L,k1,k2,rfl⟩:=h
 obtain⟨L',c,e,j1,j2,j3,j4,j5,j6⟩:=R.obj id _ ho
 rw[k1]at j1;cases j1
 have hlen:((l.drop off).take len).length=len:=by simp;omega
 have hst:=Stab.take len _ _ (Stab.drop off _ _ j6)
 rw[Nat.zero_add]at hst
 obtain⟨vs,p1,p2,p3,p4⟩:=hst.list
 rw[hlen]at p1
 refine⟨vs,by rw[hlen];exact p1,p3,p4,fun w' hw=>⟨by simp [Builtin.lenOf,hlen],?_⟩⟩
 rw[hlen]
 refine run_firstCells_some (P:=P) w' esz len ⟨L.blk,off*esz,none⟩ len cap vs p1 (fun j v hv=>?_)
 rw[addr_add,cell_heap hw,cell_of_block j4]
 exact p2 j v hv
theorem src_str {s:List UInt8} {y:Value} (h:VRel g (.str s) y):Src P g w 1 (s.map fun b=>.int .u8 b.toNat) y:=by
 have hy:y= .string ⟨s.toArray⟩:=h
 subst hy
 have hsz:ByteArray.size ⟨s.toArray⟩=s.length:=by show s.toArray.size=_;simp
 refine⟨s.map fun b=>.int .u8 b.toNat,by simp,?_,?_,fun w' _=>⟨by simp [Builtin.lenOf,hsz],?_⟩⟩
 ·intro v hv
  obtain⟨b,_,rfl⟩:=List.mem_map.1 hv
  rfl
 ·have:∀(t:List UInt8) (o:Nat) (f:Nat→Option Value),(∀j (x:UInt8),t[j]?=some x→f (o+j)=some (.int .u8 x.toNat))→Stab g 1 f o (t.map fun b=>.int .u8 b.toNat):=by
   intro t
   induction t with
   |nil=>intro o f _;trivial
   |cons b t ih=>
    intro o f hf
    refine⟨⟨.int .u8 b.toNat,rfl,⟨rfl,by simp [Value.cells,Value.oneCell']⟩,?_⟩,ih (o+1) f fun j x hx=>?_⟩
    ·intro j x hx
     cases j with
     |zero=>simp [Value.cells]at hx;subst hx;simpa using hf 0 b rfl
     |succ j=>simp [Value.cells]at hx
    ·have:=hf (j+1) x (by simpa using hx);rwa[show o+(j+1)=o+1+j from by omega]at this
  exact this s 0 _ fun j x hx=>by simp [hx]
 ·have hex:(ByteArray.extract ⟨s.toArray⟩ 0 s.length).data=s.toArray:=by
   rw[ByteArray.data_extract];simp
  simp [Builtin.firstCells,hex]
section
variable {t u ty e:TypeId} {i:TypeInfo} {z:Value} {du:TypeDesc} (ht:P.underlying t=some (.slice e)) (hu:P.underlying u=some du) (hdu:∀k,du≠ .int k) (hi:P.info? e=some i) (hz:i.zero=some z)
include ht hu hdu hi hz
theorem run_app_room {base:Option Addr} {sLen sCap k:Nat} {y:Value} {news:Array Value} (hlen:(Builtin.lenOf y).run P w= .ok k w) (hnew:(Builtin.firstCells i.size k y).run P w= .ok news w) (hr:sLen+k≤sCap):
  (Builtin.append_ #[t,u] ty #[.slice base sLen sCap,y]).run P w=match base with
   |none=>.ok (.slice none (sLen+k) sCap) w
   |some a=>((storeCells (a.add (sLen*i.size)) news.toList).run P w).andThen fun _ w'=>.ok (.slice (some a) (sLen+k) sCap) w':=by
 have hz0:(match du with| .int _=>true|_=>false)=false:=by cases du<;>first|rfl|exact absurd rfl (hdu _)
 cases base with
 |none=>simp [Builtin.append_,run_underlying ht,run_underlying hu,hz0,sizeOf,typeInfo,hi,hlen,hnew,hr]
 |some a=>simp [Builtin.append_,run_underlying ht,run_underlying hu,hz0,sizeOf,typeInfo,hi,hlen,hnew,hr]
theorem run_app_grow {base:Option Addr} {sLen sCap k:Nat} {y:Value} {olds news:Array Value} (hlen:(Builtin.lenOf y).run P w= .ok k w) (hold:(Builtin.firstCells i.size sLen (.slice base sLen sCap)).run P w.drew= .ok olds w.drew)
  (hnew:(Builtin.firstCells i.size k y).run P w.drew= .ok news w.drew) (hr:sCap<sLen+k) (hfit:Builtin.nextslicecap (sLen+k) sCap*i.bytes≤281474976710656) (h63:sLen+k≤9223372036854775807):
  (Builtin.append_ #[t,u] ty #[.slice base sLen sCap,y]).run P w=
   .ok (.slice (some ⟨w.heap.size,0,none⟩) (sLen+k) (grownCap w (sLen+k) sCap e)) (w.drew.alloc (.cells (olds++news++Builtin.zeroCells z.cells (grownCap w (sLen+k) sCap e-(sLen+k))) e)):=by
 have hz0:(match du with| .int _=>true|_=>false)=false:=by cases du<;>first|rfl|exact absurd rfl (hdu _)
 have hn:¬(sLen+k≤sCap):=by omega
 have h63':¬(9223372036854775807<((sLen:Int)+(k:Int))):=by omega
 have h48':¬(281474976710656<Builtin.nextslicecap (sLen+k) sCap*i.bytes):=by omega
 simp [Builtin.append_,run_underlying ht,run_underlying hu,hz0,sizeOf,typeInfo,zeroValue,hi,hz,hlen,hn,h63',h48',Question.forced,hold,hnew,newRow,grownCap]
end
theorem app_sound (R:Rel g H n w) {t u ty e:TypeId} {i:TypeInfo} {du:TypeDesc} {za:AVal} (ht:P.underlying t=some (.slice e)) (hu:P.underlying u=some du) (hdu:∀k,du≠ .int k) (hi:P.info? e=some i) (hza:zeroT P e=some za)
  {tok:Tok} {l l':List AVal} {x y:Value} (hx:VRel g (.sl tok l) x) (hsrc:Src P g w i.size l' y) {id:Nat} (h0:hget H id=none) (hid:id<n) (hm:m≤id) (hok:appOK H i.size tok) (hsm:small (l.length+l'.length) i.bytes) (hln:l.length+l'.length≤35184372088832):
  ∃v w' g',(Builtin.append_ #[t,u] ty #[x,y]).run P w= .ok v w'∧VRel g' (.sl (.own id i.size) (l++l')) v∧Rel g' (hset (killTok H tok) id .tok) n w'∧Trans m g H w g' (hset (killTok H tok) id .tok) w'∧g.le g':=by
 obtain⟨i',z,hi',hzz,hr,hzs,hl,hpos,hnt⟩:=zeroT_spec hza
 rw[hi]at hi';cases hi'
 obtain⟨news,s1,s2,s3,s4⟩:=hsrc
 obtain⟨c1,c2⟩:=s4 w rfl
 obtain⟨d1,d2⟩:=s4 w.drew rfl
 have hlo:(l++l').length=l.length+l'.length:=by simp
 have grow:∀(base:Option Addr) (sCap:Nat) (olds:List Value),x= .slice base l.length sCap→olds.length=l.length*i.size→(∀v∈olds,v.oneCell'=true)→Stab g i.size (fun o=>olds[o]?) 0 l→
   (Builtin.firstCells i.size l.length (.slice base l.length sCap)).run P w.drew= .ok olds.toArray w.drew→sCap<l.length+l'.length→
   ∃v w' g',(Builtin.append_ #[t,u] ty #[x,y]).run P w= .ok v w'∧VRel g' (.sl (.own id i.size) (l++l')) v∧Rel g' (hset (killTok H tok) id .tok) n w'∧Trans m g H w g' (hset (killTok H tok) id .tok) w'∧g.le g':=by
  intro base sCap olds hxe o1 o2 o3 o4 hgt
  subst hxe
  have hfit:Builtin.nextslicecap (l.length+l'.length) sCap*i.bytes≤281474976710656:=growslice_fits hgt (by simp only[small]at hsm;omega)
  have hrun:=run_app_grow (ty:=ty) ht hu hdu hi hzz c1 o4 d2 hgt hfit (by omega)
  generalize hcap:grownCap w (l.length+l'.length) sCap e=cap at hrun
  have hge:l.length+l'.length≤cap:=by rw[←hcap];exact grownCap_ge _ _ _ _
  generalize hcs:(olds.toArray++news.toArray++Builtin.zeroCells z.cells (cap-(l.length+l'.length)):Array Value)=cs at hrun
  have hcsz:cs.size=cap*i.size:=by
   subst hcs
   simp only[Array.size_append,List.size_toArray,size_zeroCells,hzs,o1,s1,←Nat.add_mul]
   congr 1;omega
  have hcsget:∀o,o<(l.length+l'.length)*i.size→cs[o]?=(olds++news)[o]?:=by
   intro o ho
   subst hcs
   rw[←Array.getElem?_toList]
   simp only[Array.toList_append]
   rw[List.getElem?_append_left (by simp [o1,s1,←Nat.add_mul];exact ho)]
  have hk:∃Hk,killTok H tok=Hk∧Rel g Hk n w∧Trans m g H w g Hk w∧hget Hk id=none:=by
   cases tok with
   |own i0 e0=>
    obtain⟨_,h1⟩:=hok
    obtain⟨r1,r2⟩:=R.kill (m:=m) h1
    refine⟨_,rfl,r1,r2,?_⟩
    simp only[killTok]
    rw[hget_hset,if_neg (by rintro rfl;rw[h0]at h1;cases h1)];exact h0
   |nil=>exact⟨_,rfl,R,Trans.refl _ _ _ _,h0⟩
   |none e0=>exact⟨_,rfl,R,Trans.refl _ _ _ _,h0⟩
   |exact e0=>exact⟨_,rfl,R,Trans.refl _ _ _ _,h0⟩
  obtain⟨Hk,hHk,rk,tk,h0k⟩:=hk
  rw[hHk]
  have hnewb:(w.drew.alloc (.cells cs e)).heap[w.heap.size]?=some (.cells cs e (0,0)):=by show(w.heap.push _)[w.heap.size]?=_;simp
  obtain⟨r1,r2,r3⟩:=rk.new' (m:=m) (w':=w.drew.alloc (.cells cs e)) (x:=.cells cs e) rfl rfl rfl rfl h0k hid hm (L:=⟨w.heap.size,(l.length+l'.length)*i.size,cap*i.size⟩) rfl (ob:=.tok)
   (σ':=fun b o=>if b=w.heap.size∧o<(l.length+l'.length)*i.size then cs[o]? else g.σ b o)
   (fun b o v h=>by
    have hb:b≠w.heap.size:=by
     rintro rfl
     have:=R.σw _ _ _ h
     simp [World.cell?]at this
    show(if b=w.heap.size∧o<(l.length+l'.length)*i.size then cs[o]? else g.σ b o)=some v
    rw[if_neg (by simp [hb])];exact h)
   (fun b o v h=>by
    by_cases hb:b=w.heap.size∧o<(l.length+l'.length)*i.size
    ·rw[if_pos hb]at h
     obtain⟨rfl,hb2⟩:=hb
     exact .inr ⟨rfl,by rw[cell_of_block hnewb];exact h,.inl hb2⟩
    ·rw[if_neg hb]at h;exact .inl h)
   ⟨_,by simp;rfl,fun _=>⟨cs,e,hnewb,by rw[hcsz];exact Nat.le_refl _⟩⟩
  refine⟨_,_,_,hrun,?_,r1,tk.trans r2,r3⟩
  refine .inr ⟨trivial,w.heap.size,0,cap,⟨none,by rw[hlo],.inl rfl⟩,by rw[hlo];exact hge,?_,by simp [hlo]⟩
  simp only[Tok.esz]
  have hst:Stab g i.size (fun o=>(olds++news)[o]?) 0 (l++l'):=by
   refine Stab.append l l' 0 (Stab.mono (.refl g) (fun o v hv=>?_) _ _ _ o3) ?_
   ·show(olds++news)[o]?=some v
    rw[List.getElem?_append_left (List.getElem?_eq_some_iff.1 hv).1];exact hv
   ·have shift:∀(l2:List AVal) (o:Nat),Stab g i.size (fun o=>news[o]?) o l2→Stab g i.size (fun o=>(olds++news)[o]?) (o+l.length*i.size) l2:=by
     intro l2
     induction l2 with
     |nil=>intro o _;trivial
     |cons e' l2 ih=>
      rintro o ⟨⟨q,q1,q2,q3⟩,q4⟩
      refine⟨⟨q,q1,q2,fun j x hx=>?_⟩,?_⟩
      ·show(olds++news)[o+l.length*i.size+j]?=some x
       rw[List.getElem?_append_right (by omega),o1,show o+l.length*i.size+j-l.length*i.size=o+j from by omega];exact q3 j x hx
      ·have:=ih (o+i.size) q4
       rwa[show o+i.size+l.length*i.size=o+l.length*i.size+i.size from by omega]at this
    have:=shift l' 0 s3
    simpa using this
  refine Stab.eq (l++l') 0 (fun j _ hj=>?_) (Stab.mono r3 (fun _ _ h=>h) _ _ _ hst)
  rw[hlo,Nat.zero_add]at hj
  simp only[hj,and_self,if_true]
  exact hcsget j hj
 rcases hx with⟨rfl,rfl,htk⟩|⟨htok,b,o,cap,⟨sp,rfl,hsp⟩,hcap,hst,hk⟩
 ·
  by_cases hl0:l'=[]
  ·subst hl0
   have hrun:=run_app_room (ty:=ty) (w:=w) (base:=none) (sLen:=0) (sCap:=0) ht hu hdu hi hzz c1 c2 (by simp)
   have hsp:∃Hk,killTok H tok=Hk∧((Hk=H∧True)∨∃i0 e0,tok= .own i0 e0∧Hk=hset H i0 .dead∧hget H i0=some .tok):=by
    cases tok with
    |own i0 e0=>exact⟨_,rfl,.inr ⟨i0,e0,rfl,rfl,hok.2⟩⟩
    |nil=>exact⟨_,rfl,.inl ⟨rfl,trivial⟩⟩
    |none e0=>exact⟨_,rfl,.inl ⟨rfl,trivial⟩⟩
    |exact e0=>exact⟨_,rfl,.inl ⟨rfl,trivial⟩⟩
   obtain⟨Hk,hHk,hcase⟩:=hsp
   have hR:Rel g Hk n w∧Trans m g H w g Hk w∧hget Hk id=none:=by
    rcases hcase with⟨rfl,_⟩|⟨i0,e0,_,rfl,h1⟩
    ·exact⟨R,Trans.refl _ _ _ _,h0⟩
    ·obtain⟨r1,r2⟩:=R.kill (m:=m) h1
     exact⟨r1,r2,by rw[hget_hset,if_neg (by rintro rfl;rw[h0]at h1;cases h1)];exact h0⟩
   rw[hHk]
   obtain⟨r1,r2,r3⟩:=hR.1.split (m:=m) hR.2.2 hid hm (L:=⟨0,0,0⟩) (H':=Hk) (.inl ⟨rfl,Nat.le_refl _⟩) (σ':=g.σ) (fun _ _ _ h=>h) (fun _ _ _ h=>.inl h)
   exact⟨_,_,_,hrun,.inl ⟨rfl,rfl,_,by simp;rfl⟩,r1,hR.2.1.trans r2,r3⟩
  ·have hpos':0<l'.length:=by cases l' with|nil=>exact absurd rfl hl0|cons _ _=>simp
   exact grow none 0 [] rfl (by simp) (by simp) trivial (by simp [Builtin.firstCells]) (by simpa using hpos')
 ·by_cases hodd:sp=none
  case neg=>
   obtain⟨rfl,hq⟩:=hsp.resolve_left hodd
   have hc0:cap=0:=by
    rcases hq with q|⟨e',rfl⟩
    ·exact q
    ·exact hok.elim
   subst hc0
   by_cases hl0:l'=[]
   ·subst hl0
    have hrun:=run_app_room (ty:=ty) (w:=w) (base:=some ⟨b,o,sp⟩) (sLen:=0) (sCap:=0) ht hu hdu hi hzz c1 c2 (by simp)
    have hn0:news=[]:=List.eq_nil_of_length_eq_zero (by rw[s1];simp)
    subst hn0
    have hadd0:(⟨b,o,sp⟩:Addr).add (0*i.size)=⟨b,o,sp⟩:=by rw[Nat.zero_mul];rfl
    simp only[storeCells,Sem.run_pure,Result.andThen_ok]at hrun
    have hsp2:∃Hk,killTok H tok=Hk∧((Hk=H∧True)∨∃i0 e0,tok= .own i0 e0∧Hk=hset H i0 .dead∧hget H i0=some .tok):=by
     cases tok with
     |own i0 e0=>exact⟨_,rfl,.inr ⟨i0,e0,rfl,rfl,hok.2⟩⟩
     |nil=>exact⟨_,rfl,.inl ⟨rfl,trivial⟩⟩
     |none e0=>exact⟨_,rfl,.inl ⟨rfl,trivial⟩⟩
     |exact e0=>exact⟨_,rfl,.inl ⟨rfl,trivial⟩⟩
    obtain⟨Hk,hHk,hcase⟩:=hsp2
    have hR:Rel g Hk n w∧Trans m g H w g Hk w∧hget Hk id=none:=by
     rcases hcase with⟨rfl,_⟩|⟨i0,e0,_,rfl,h1⟩
     ·exact⟨R,Trans.refl _ _ _ _,h0⟩
     ·obtain⟨r1,r2⟩:=R.kill (m:=m) h1
      exact⟨r1,r2,by rw[hget_hset,if_neg (by rintro rfl;rw[h0]at h1;cases h1)];exact h0⟩
    rw[hHk]
    obtain⟨r1,r2,r3⟩:=hR.1.split (m:=m) hR.2.2 hid hm (L:=⟨b,o,o⟩) (H':=Hk) (.inl ⟨rfl,Nat.le_refl _⟩) (σ':=g.σ) (fun _ _ _ h=>h) (fun _ _ _ h=>.inl h)
    refine⟨_,_,_,hrun,.inr ⟨trivial,b,o,0,⟨sp,by simp,.inr ⟨rfl,.inl rfl⟩⟩,by simp,trivial,by simp⟩,r1,hR.2.1.trans r2,r3⟩
   ·have hpos':0<l'.length:=by cases l' with|nil=>exact absurd rfl hl0|cons _ _=>simp
    refine grow (some ⟨b,o,sp⟩) 0 [] rfl (by simp) (by simp) trivial ?_ (by simpa using hpos')
    simpa using run_firstCells_some (P:=P) w.drew i.size 0 ⟨b,o,sp⟩ 0 0 [] (by simp) (by simp)
  subst hodd
  have hte:tok.esz=i.size:=by
   cases tok with
   |nil=>exact htok.elim
   |none e0=>exact hok.elim
   |exact e0=>exact hok
   |own i0 e0=>exact hok.1
  rw[hte]at hst
  by_cases hroom:l.length+l'.length≤cap
  ·have hrun:=run_app_room (ty:=ty) (w:=w) (base:=some ⟨b,o,none⟩) (sLen:=l.length) (sCap:=cap) ht hu hdu hi hzz c1 c2 hroom
   simp only[addr_add]at hrun
   cases tok with
   |nil=>exact htok.elim
   |none e0=>exact hok.elim
   |exact e0=>
    simp only[]at hk
    have hl0:l'=[]:=List.eq_nil_of_length_eq_zero (by omega)
    subst hl0
    have hn0:news=[]:=List.eq_nil_of_length_eq_zero (by rw[s1];simp)
    subst hn0
    simp only[storeCells,Sem.run_pure,Result.andThen_ok]at hrun
    obtain⟨r1,r2,r3⟩:=R.split (m:=m) h0 hid hm (L:=⟨b,o+l.length*i.size,o+cap*i.size⟩) (H':=H) (.inl ⟨rfl,by simp only[];rw[hk];exact Nat.le_refl _⟩) (σ':=g.σ) (fun _ _ _ h=>h) (fun _ _ _ h=>.inl h)
    refine⟨_,_,_,hrun,.inr ⟨trivial,b,o,cap,⟨none,by simp,.inl rfl⟩,by simpa using hcap,?_,?_⟩,r1,r2,r3⟩
    ·simp only[List.append_nil,Tok.esz];exact Stab.mono r3 (fun _ _ h=>h) _ _ _ hst
    ·simp
   |own i0 e0=>
    obtain⟨he0,htok0⟩:=hok
    subst he0
    simp only[]at hk
    obtain⟨L',k1,k2⟩:=R.obj i0 .tok htok0
    rw[hk]at k1;cases k1
    simp only[]at k2
    have hstore:∃w1,(storeCells ⟨b,o+l.length*i.size,none⟩ news).run P w= .ok () w1∧Rel g (hset H i0 .tok) n w1∧Trans m g H w g (hset H i0 .tok) w1∧
      (∀j v,news[j]?=some v→w1.cell? ⟨b,o+l.length*i.size+j,none⟩=some v):=by
     by_cases hn0:news=[]
     ·subst hn0
      have hsame:hset H i0 .tok=H:=by
       funext k
       show(if i0=k then some AObj.tok else H k)=H k
       by_cases hk':i0=k
       ·subst hk';rw[if_pos rfl];exact htok0.symm
       ·rw[if_neg hk']
      exact⟨w,by simp [storeCells],by rw[hsame];exact R,by rw[hsame];exact Trans.refl _ _ _ _,by simp⟩
     ·have hl1:0<l'.length:=by
       rcases Nat.eq_zero_or_pos l'.length with h|h
       ·exact absurd (List.eq_nil_of_length_eq_zero (by rw[s1,h];simp)) hn0
       ·exact h
      have hmul:l.length*i.size+l'.length*i.size≤cap*i.size:=by rw[←Nat.add_mul];exact Nat.mul_le_mul_right _ hroom
      have hlpos:0<l'.length*i.size:=Nat.mul_pos hl1 (Nat.pos_of_ne_zero hpos)
      obtain⟨c,ee,q1,q2⟩:=k2 (by omega)
      have hst:=run_storeCells_at (P:=P) b (o+l.length*i.size) ee news 0 c w q1 (by rw[s1];omega) s2
      simp only[Nat.add_zero]at hst
      generalize hc':(c.toList.take (o+l.length*i.size)++news++c.toList.drop (o+l.length*i.size+news.length)).toArray=c' at hst
      have hsz':c'.size=c.size:=by subst hc';simp;omega
      have hget:∀p,c'[p]?=if o+l.length*i.size≤p∧p<o+l.length*i.size+news.length then news[p-(o+l.length*i.size)]? else c[p]?:=by
       intro p
       subst hc'
       rw[←Array.getElem?_toList]
       simp only[]
       by_cases p1:p<o+l.length*i.size
       ·rw[if_neg (by omega),List.append_assoc,List.getElem?_append_left (by simp;omega),List.getElem?_take_of_lt p1,Array.getElem?_toList]
       ·by_cases p2:p<o+l.length*i.size+news.length
        ·rw[if_pos ⟨by omega,p2⟩,List.append_assoc,List.getElem?_append_right (by simp;omega),List.getElem?_append_left (by simp;omega)]
         simp only[List.length_take,Array.length_toList]
         congr 1;omega
        ·rw[if_neg (by omega),List.getElem?_append_right (by simp;omega),List.getElem?_drop,Array.getElem?_toList]
         congr 1
         simp only[List.length_append,List.length_take,Array.length_toList];omega
      have hnb:=setRow_heap w b c c' ee (0,0) q1
      obtain⟨r1,r2⟩:=upd_row (m:=m) R htok0 rfl hk q1 hsz' (fun p hp=>by
       rw[hget,if_neg]
       simp only[]at hp
       rw[s1];omega) (ob':=.tok) ⟨_,hk,fun _=>⟨c',ee,hnb,by rw[hsz'];exact q2⟩⟩
      refine⟨_,hst,r1,r2,fun j v hj=>?_⟩
      have hjl:=(List.getElem?_eq_some_iff.1 hj).1
      rw[cell_of_block hnb,hget,if_pos (by omega),show o+l.length*i.size+j-(o+l.length*i.size)=j from by omega];exact hj
    obtain⟨w1,hst1,rr1,tt1,hcell⟩:=hstore
    simp only[hst1,Result.andThen_ok]at hrun
    have h0':hget (hset H i0 .tok) id=none:=by
     rw[hget_hset,if_neg (by rintro rfl;rw[h0]at htok0;cases htok0)];exact h0
    have hmul:l.length*i.size+l'.length*i.size≤cap*i.size:=by rw[←Nat.add_mul];exact Nat.mul_le_mul_right _ hroom
    obtain⟨r1,r2,r3⟩:=rr1.split (m:=m) h0' hid hm (L:=⟨b,o+(l.length+l'.length)*i.size,o+cap*i.size⟩) (H':=hset (hset H i0 .tok) i0 .dead)
     (.inr ⟨i0,_,rfl,hget_hset_eq _ _ _,hk,by simp only[Nat.add_mul];omega⟩)
     (σ':=fun b' p=>if b'=b∧o+l.length*i.size≤p∧p<o+(l.length+l'.length)*i.size then w1.cell? ⟨b,p,none⟩else g.σ b' p)
     (fun b' p v h=>by
      show(if b'=b∧o+l.length*i.size≤p∧p<o+(l.length+l'.length)*i.size then w1.cell? ⟨b,p,none⟩else g.σ b' p)=some v
      by_cases hb:b'=b∧o+l.length*i.size≤p∧p<o+(l.length+l'.length)*i.size
      ·obtain⟨rfl,hb2,hb3⟩:=hb
       rw[if_pos ⟨rfl,hb2,hb3⟩];exact rr1.σw _ _ _ h
      ·rw[if_neg hb];exact h)
     (fun b' p v h=>by
      by_cases hb:b'=b∧o+l.length*i.size≤p∧p<o+(l.length+l'.length)*i.size
      ·rw[if_pos hb]at h
       obtain⟨rfl,hb2,hb3⟩:=hb
       refine .inr ⟨rfl,hb3,h,i0,_,rfl,hget_hset_eq _ _ _,hk,hb2,?_⟩
       simp only[Nat.add_mul]at hb3
       simp only[]
       omega
      ·rw[if_neg hb]at h;exact .inl h)
    have hkill:hset (hset (hset H i0 .tok) i0 .dead) id .tok=hset (killTok H (.own i0 i.size)) id .tok:=by rw[hset_hset];rfl
    rw[hkill]at r1 r2
    refine⟨_,_,_,hrun,.inr ⟨trivial,b,o,cap,⟨none,by rw[hlo],.inl rfl⟩,by rw[hlo];exact hroom,?_,by simp [hlo]⟩,r1,tt1.trans r2,r3⟩
    refine Stab.append (esz:=i.size) l l' o (Stab.mono r3 (fun p v hv=>r3.σ b p v hv) _ _ _ hst) ?_
    have shift:∀(l2:List AVal) (p:Nat),p+l2.length*i.size≤l'.length*i.size→Stab g i.size (fun o=>news[o]?) p l2→
      Stab ⟨fun k=>if k=id then some ⟨b,o+(l.length+l'.length)*i.size,o+cap*i.size⟩else g.β k,fun b' p=>if b'=b∧o+l.length*i.size≤p∧p<o+(l.length+l'.length)*i.size then w1.cell? ⟨b,p,none⟩else g.σ b' p⟩ i.size
       ((fun b' p=>if b'=b∧o+l.length*i.size≤p∧p<o+(l.length+l'.length)*i.size then w1.cell? ⟨b,p,none⟩else g.σ b' p) b) (o+l.length*i.size+p) l2:=by
     intro l2
     induction l2 with
     |nil=>intro p _ _;trivial
     |cons e' l2 ih=>
      rintro p hp ⟨⟨q,q1,q2,q3⟩,q4⟩
      rw[List.length_cons,Nat.add_mul]at hp
      refine⟨⟨q,VRel.mono r3 _ _ q1,q2,fun j v hv=>?_⟩,?_⟩
      ·have hj:j<i.size:=by rw[←q2.1];exact(Array.getElem?_eq_some_iff.1 hv).1
       show(if b=b∧o+l.length*i.size≤o+l.length*i.size+p+j∧o+l.length*i.size+p+j<o+(l.length+l'.length)*i.size then w1.cell? ⟨b,o+l.length*i.size+p+j,none⟩else g.σ b (o+l.length*i.size+p+j))=some v
       rw[if_pos ⟨rfl,by omega,by rw[Nat.add_mul];omega⟩,Nat.add_assoc]
       exact hcell _ _ (q3 j v hv)
      ·have:=ih (p+i.size) (by omega) q4
       rwa[show o+l.length*i.size+(p+i.size)=o+l.length*i.size+p+i.size from by omega]at this
    have:=shift l' 0 (by omega) s3
    simpa using this
  ·obtain⟨vs,v1,v2,v3,v4⟩:=hst.list
   exact grow (some ⟨b,o,none⟩) cap vs rfl v1 v3 v4 (run_firstCells_some (P:=P) w.drew i.size l.length ⟨b,o,none⟩ l.length cap vs v1 (fun j v hv=>by rw[addr_add];exact R.σw _ _ _ (v2 j v hv))) (by omega)
theorem mks_sound (R:Rel g H n w) {t e:TypeId} {i:TypeInfo} {z:AVal} {s:Nat} {a:AVal} {u:Value} (hu:P.underlying t=some (.slice e)) (hi:P.info? e=some i) (hz:zeroT P e=some z) (hsz:szT P e=some s)
  (hx:VRel g a u) {id:Nat} (h0:hget H id=none) (hid:id<n) (hm:m≤id) (h1:isInt a) (h2:0≤toI a) (h3:small (toI a).toNat i.bytes) (h4:toI a≤35184372088832):
  ∃v w' g',(Instr.makeSlice t u u).run P w= .ok v w'∧VRel g' (.ref id s 0 (toI a).toNat (toI a).toNat) v∧Rel g' (hset H id (.arr s (List.replicate (toI a).toNat z))) n w'∧Trans m g H w g' (hset H id (.arr s (List.replicate (toI a).toNat z))) w'∧g.le g':=by
 obtain⟨k,c,rfl,rfl⟩:=isInt_spec h1 hx
 obtain⟨i',zv,hi',hzz,hr,hzs,hl,hp0,hnt⟩:=zeroT_spec hz
 rw[hi]at hi';cases hi'
 obtain⟨i'',d,hi'',hd,hss,hpos⟩:=szT_info hsz
 rw[hi]at hi'';cases hi''
 subst hss
 simp only[toI]at h2 h3 h4⊢
 have hb:(i.bytes:Int)*c≤281474976710656:=by
  obtain⟨cn,rfl⟩:=Int.eq_ofNat_of_zero_le h2
  simp only[small,Int.toNat_natCast]at h3
  have:((i.bytes*cn:Nat):Int)≤281474976710656:=by rw[Nat.mul_comm];omega
  simpa using this
 have hrun:=run_make (P:=P) w t e i zv hu hi hzz k k c c h2 (Int.le_refl _) hb (by omega)
 have hnewb:(w.alloc (.cells (madeCells zv.cells (c.toNat*i.size)) e)).heap[w.heap.size]?=some (.cells (madeCells zv.cells (c.toNat*i.size)) e (0,0)):=by show(w.heap.push _)[w.heap.size]?=_;simp
 have hb0:g.β id=none:=by
  cases hb:g.β id with
  |none=>rfl
  |some L'=>exact absurd h0 (R.dom id L' hb).1
 obtain⟨r1,r2,r3⟩:=R.new (m:=m) (w':=w.alloc (.cells (madeCells zv.cells (c.toNat*i.size)) e)) rfl rfl rfl rfl h0 hid hm (L:=⟨w.heap.size,0,c.toNat*i.size⟩) rfl (ob:=.arr i.size (List.replicate c.toNat z)) (by
  refine⟨⟨w.heap.size,0,c.toNat*i.size⟩,_,e,by simp,rfl,by rw[size_madeCells],hnewb,by rw[size_madeCells];simp,?_⟩
  refine Stab.replicate (hr _) ⟨hzs,(hr ⟨fun _=>none,fun _ _=>none⟩).one hnt⟩ _ _ fun a ha j x hx=>?_
  simp only[Nat.zero_add]
  have:=madeCells_get (z:=zv.cells) (k:=c.toNat) ha hx
  rwa[hzs]at this)
 exact⟨_,_,_,hrun,⟨_,by simp;rfl,rfl,by simp⟩,r1,r2,r3⟩
end
theorem one_ecells {x:Value} (h:x.oneCell'=true):ECells 1 x∧∀(j:Nat) y,x.cells[j]?=some y→j=0∧y=x:=by
 cases x<;>simp [Value.oneCell']at h<;>refine⟨⟨rfl,by simp [Value.cells,Value.oneCell']⟩,fun j y e=>?_⟩<;>(cases j with
  |zero=>simp [Value.cells]at e;exact⟨rfl,e.symm⟩
  |succ j=>simp [Value.cells]at e)
theorem PStab.stab1 {g:Ghost} {f:Nat→Option Value}:∀(cs:List AVal) (o:Nat),PStab g f o cs→Stab g 1 f o cs
 |[],_,_=>trivial
 |c::cs,o,⟨⟨x,h1,h2,h3⟩,h⟩=>⟨⟨x,h2,(one_ecells h3).1,fun j y e=>by
   obtain⟨rfl,rfl⟩:=(one_ecells h3).2 j y e;exact h1⟩,PStab.stab1 cs (o+1) h⟩
theorem slA_sound {P:Program} {g:Ghost} {H:AHeap} {n m:Nat} {w:World} (R:Rel g H n w) {t e:TypeId} {nn:Nat} {x:Operand} {lo hi:Option Operand} {x':Opd} {l' h':Option Opd} {ρ:Operand→Value} {ρ':Opd→AVal} {K:AHeap→AVal→Prop}
  (hu:P.underlying t=some (.array nn e)) (hsz:szT P e=some 1) (hlo:copdo lo=some l') (hhi:copdo hi=some h') (hx:VRel g (ρ' x') (ρ x))
  (hv:∀y y',copd y=some y'→(l'=some y'∨h'=some y')→VRel g (ρ' y') (ρ y)) (b1:bndI ρ' l') (b2:bndI ρ' h') (h:slAat H nn (bnd ρ' 0 l') (bnd ρ' nn h') K (ρ' x')):
  ∃v H' v',(Instr.sliceAt t (ρ x) (lo.map ρ) (hi.map ρ) none).run P w= .ok v w∧VRel g v' v∧Rel g H' n w∧Trans m g H w g H' w∧K H' v':=by
 generalize ρ' x'=av at h hx
 unfold slAat at h
 split at h
 case h_2=>exact h.elim
 rename_i id
 obtain⟨L,k1,k2,k3⟩:=hx
 have main:∀lo0 hi0:Int,bnd ρ' 0 l'=lo0→bnd ρ' nn h'=hi0→0≤lo0→lo0≤hi0→hi0≤nn→lo0<nn→
   (Instr.sliceAt t (ρ x) (lo.map ρ) (hi.map ρ) none).run P w= .ok (.slice (some ⟨L.blk,lo0.toNat*1,none⟩) (hi0.toNat-lo0.toNat) (nn-lo0.toNat)) w:=by
  intro lo0 hi0 e1 e2 c1 c2 c3 c4
  have hb:=run_bounds (P:=P) (g:=g) (w:=w) (isSlice:=false) (len:=nn) (cap:=nn) (ρ:=ρ) (ρ':=ρ') (mx:=none) (mx':=none) hlo hhi rfl (fun y y' a b=>hv y y' a (by simpa using b)) b1 b2 trivial (by simp) (by omega) (by omega) (by rw[bnd_none];omega) (by rw[bnd_none];exact Int.le_refl _)
  rw[e1,e2,bnd_none]at hb
  have hne:¬nn=lo0.toNat:=by omega
  rw[k3]
  simp only[Option.map_none]at hb
  simp only[Instr.sliceAt,Sem.run_bind,run_underlying hu,Result.andThen_ok,Instr.sureAddr,Sem.run_pure,hb,run_sizeOf hsz,addr_add,Int.toNat_natCast,hne,if_false]
  simp
 split at h
 ·rename_i cs ho
  obtain⟨c0,c1,c2,c3,c4,hK⟩:=h
  obtain⟨L',c,e0,j1,j2,j3,j4,j5,j6⟩:=R.obj id _ ho
  rw[k1]at j1;cases j1
  obtain⟨r1,t1⟩:=R.upd (m:=m) (w':=w) (ob':=.arr 1 cs) ho rfl k1 rfl rfl rfl rfl (fun _ _=>rfl) (.inl ⟨c,e0,(0,0),c,j4,j4,rfl,fun _ _=>rfl⟩)
   ⟨L,c,e0,k1,j2,by rw[j3,j5],j4,by rw[j5];simp,PStab.stab1 cs 0 j6⟩
  exact⟨_,_,.ref id 1 _ _ _,main _ _ rfl rfl c1 c2 c3 c4,⟨L,k1,k2,rfl⟩,r1,t1,hK⟩
 ·rename_i e' cs ho
  obtain⟨rfl,c0,c1,c2,c3,c4,hK⟩:=h
  exact⟨_,_,.ref id 1 _ _ _,main _ _ rfl rfl c1 c2 c3 c4,⟨L,k1,k2,rfl⟩,R,Trans.refl _ _ _ _,hK⟩
 ·exact h.elim
theorem Rel.freeze {g:Ghost} {H:AHeap} {n m:Nat} {w:World} (r:Rel g H n w) {id e:Nat} {l:List AVal} (h0:hget H id=some (.arr e l)):
  ∃σ',Rel ⟨g.β,σ'⟩ (hset H id (.frz e l)) n w∧Trans m g H w ⟨g.β,σ'⟩ (hset H id (.frz e l)) w:=by
 obtain⟨L,c,t,j1,j2,j3,j4,j5,j6⟩:=r.obj id _ h0
 let σ':Nat→Nat→Option Value:=fun b o=>if b=L.blk∧o<c.size then c[o]? else g.σ b o
 have hcell:∀o,w.cell? ⟨L.blk,o,none⟩=c[o]?:=fun o=>cell_of_block j4 o
 have hσ:∀b o v,g.σ b o=some v→σ' b o=some v:=by
  intro b o v h
  show(if b=L.blk∧o<c.size then c[o]? else g.σ b o)=some v
  split
  ·rename_i q
   have:=r.σw b o v h
   rw[q.1,hcell]at this;exact this
  ·exact h
 have hnew:∀b o v,σ' b o=some v→g.σ b o=some v∨(b=L.blk∧o<c.size):=by
  intro b o v h
  by_cases q:b=L.blk∧o<c.size
  ·exact .inr q
  ·left;have h':(if b=L.blk∧o<c.size then c[o]? else g.σ b o)=some v:=h
   rw[if_neg q]at h';exact h'
 have hle:g.le ⟨g.β,σ'⟩:=⟨fun _ _ h=>h,hσ⟩
 have low:∀i oi,hget (hset H id (.frz e l)) i=some oi→oi.owns=true→i≠id∧hget H i=some oi:=by
  intro i oi q1 q2
  rw[hget_hset]at q1
  by_cases e:id=i
  ·rw[if_pos e]at q1;cases q1;simp [AObj.owns]at q2
  ·rw[if_neg e]at q1;exact⟨Ne.symm e,q1⟩
 refine⟨σ',⟨?_,?_,?_,?_,?_,?_,GlobOK.mono (g:=g) (g':=⟨g.β,σ'⟩) hle r.gl,r.gz⟩,⟨hle,fun _ _ h=>.inl h,rfl,rfl,rfl,Nat.le_refl _,fun b ob hb=>by rw[hb];exact Kept.same _ _,?_,?_⟩⟩
 ·intro b o v h
  have h':(if b=L.blk∧o<c.size then c[o]? else g.σ b o)=some v:=h
  split at h'
  ·rename_i q;rw[q.1,hcell];exact h'
  ·exact r.σw b o v h'
 ·intro i oi h
  rw[hget_hset]at h
  by_cases e1:id=i
  ·rw[if_pos e1]at h;cases h;subst e1
   refine⟨L,j1,j2,?_⟩
   refine Stab.mono (g:=g) (g':=⟨g.β,σ'⟩) hle (fun o x q=>?_) e l 0 j6
   show(if L.blk=L.blk∧o<c.size then c[o]? else g.σ L.blk o)=some x
   rw[if_pos ⟨rfl,(Array.getElem?_eq_some_iff.1 q).1⟩];exact q
  ·rw[if_neg e1]at h
   exact ORel.ext (w:=w) (w':=w) (fun _ _ x=>x) hle oi (r.obj i oi h)
 ·intro i L' h
  refine⟨?_,(r.dom i L' h).2⟩
  rw[hget_hset]
  by_cases e:id=i
  ·simp [e]
  ·rw[if_neg e];exact(r.dom i L' h).1
 ·intro i oi h
  rw[hget_hset]at h
  by_cases e:id=i
  ·subst e;exact r.hd id _ h0
  ·rw[if_neg e]at h;exact r.hd i oi h
 ·intro i j oi oj Li Lj hne q1 q2 q3 q4 q5 q6 hb
  exact r.ap i j oi oj Li Lj hne (low i oi q1 q3).2 (low j oj q2 q4).2 q3 q4 q5 q6 hb
 ·intro i oi L' o q1 q2 q3 q4 q5
  obtain⟨p1,p2⟩:=low i oi q1 q2
  have hn:=r.un i oi L' o p2 q2 q3 q4 q5
  cases hs:σ' L'.blk o with
  |none=>exact hs
  |some v=>
   rcases hnew _ _ _ hs with h|⟨h1,h2⟩
   ·rw[hn]at h;cases h
   ·exfalso
    rcases r.ap i id oi _ L' L p1 p2 h0 q2 rfl q3 j1 h1 with k|k|k|k<;>omega
 ·rintro b o hb ⟨i,oi,Li,q1,q2,q3,q4,q5,q6⟩
  exact⟨i,oi,Li,(low i oi q1 q2).2,q2,q3,q4,q5,q6⟩
 ·intro b o v hb h
  rcases hnew b o v h with h|⟨h1,h2⟩
  ·exact .inl h
  ·exact .inr ⟨id,_,L,h0,rfl,j1,h1.symm,by omega,by omega⟩
end Go.AM
end
section
set_option maxRecDepth 20000
set_option linter.all false
namespace Go.AM
open Go.MapKept Go.Lib Go.RowKit
section
variable {P:Program} {g:Ghost} {H:AHeap} {n m:Nat} {w:World}
theorem key_is {t:TypeId} {kt:KT} (h:ktT P t=some kt):∃d,P.underlying t=some d∧∀k x,kt.is k→VRel g k x→IsKey d x:=by
 unfold ktT at h
 split at h
 case h_4=>cases h
 all_goals
  rename_i hu
  cases h
  refine⟨_,hu,fun k x hk hx=>?_⟩
  cases k<;>simp only[KT.is]at hk<;>first|exact hk.elim|skip
  have hx':=hx
  simp only[VRel]at hx'
  subst hx'
  first|exact hk|(subst hk;rfl)|trivial|(simp [IsKey];done)|(simp [IsKey,hk];done)
theorem str_inj {a b:List UInt8} (h:(⟨a.toArray⟩:ByteArray)=⟨b.toArray⟩):a=b:=by
 have:=congrArg (fun x:ByteArray=>x.data.toList) h
 simpa using this
theorem ceq_rel {kt:KT} {a b:AVal} {x y:Value} (ha:kt.is a) (hb:kt.is b) (hx:VRel g a x) (hy:VRel g b y):(ceq a b=true↔x=y):=by
 cases kt<;>cases a<;>simp only[KT.is]at ha<;>(try exact ha.elim)<;>cases b<;>simp only[KT.is]at hb<;>(try exact hb.elim)<;>simp only[VRel]at hx hy<;>subst hx<;>subst hy
 ·subst ha;subst hb;simp [ceq]
 ·simp [ceq]
 ·simp only[ceq,decide_eq_true_eq,Value.string.injEq]
  exact⟨fun e=>by rw[e],str_inj⟩
theorem find_rel {d:TypeDesc} {kt:KT} {k:AVal} {x:Value} (hd:∀k x,kt.is k→VRel g k x→IsKey d x) (hk:kt.is k) (hx:VRel g k x):∀(es:List (AVal×AVal×Nat)) (es':List MapEntry) (i:Nat),mkfit kt es→MRel g es es'→
  (mfind k es=none∧Instr.findNow d x es' i=some none∧∀v y c,VRel g v y→MRel g (mset k v c es) (es'++[{key:=x,val:=y,born:=c}]))∨
  (∃j e v0,mfind k es=some v0∧es'[j]?=some e∧Instr.findNow d x es' i=some (some (i+j,e.val))∧VRel g v0 e.val∧e.key=x∧∀v y c,VRel g v y→MRel g (mset k v c es) (es'.set j {e with key:=x,val:=y}))
 |[],es',i,_,h=>by
  have h0:es'=[]:=h
  subst h0
  exact .inl ⟨rfl,rfl,fun v y c hv=>⟨_,_,rfl,hx,hv,rfl,rfl⟩⟩
 |(k',v',b)::r,es',i,hf,h=>by
  obtain⟨e,es2,rfl,h1,h2,h3,h4⟩:=h
  obtain⟨f1,f2⟩:=hf
  obtain⟨q,hq,hiff⟩:=sameNow_of_keys (hd k x hk hx) (hd k' e.key f1 h1)
  have hc:=ceq_rel hk f1 hx h1
  by_cases hxe:x=e.key
  ·have hq1:q=true:=hiff.2 hxe
   have hc1:ceq k k'=true:=hc.2 hxe
   refine .inr ⟨0,e,v',by simp [mfind,hc1],rfl,by simp [Instr.findNow,hq,hq1],h2,hxe.symm,fun v y c hv=>?_⟩
   simp only[mset,hc1,if_true,List.set_cons_zero]
   exact⟨_,_,rfl,by rw[hxe];exact h1,hv,h3,h4⟩
  ·have hq1:q=false:=by cases q with
    |true=>exact absurd (hiff.1 rfl) hxe
    |false=>rfl
   have hc1:¬ceq k k'=true:=fun z=>hxe (hc.1 z)
   rcases find_rel hd hk hx r es2 (i+1) f2 h4 with⟨p1,p2,p3⟩|⟨j,e2,v0,p1,p2,p3,p4,p5,p6⟩
   ·refine .inl ⟨by simp [mfind,hc1,p1],by simp [Instr.findNow,hq,hq1,p2],fun v y c hv=>?_⟩
    simp only[mset,hc1,if_false,List.cons_append]
    exact⟨_,_,rfl,h1,h2,h3,p3 v y c hv⟩
   ·refine .inr ⟨j+1,e2,v0,by simp [mfind,hc1,p1],by simpa using p2,by simp [Instr.findNow,hq,hq1,p3];omega,p4,p5,fun v y c hv=>?_⟩
    simp only[mset,hc1,if_false,List.set_cons_succ]
    exact⟨_,_,rfl,h1,h2,h3,p6 v y c hv⟩
theorem mrel_mem:∀(es:List (AVal×AVal×Nat)) (es':List MapEntry),MRel g es es'→∀e'∈es',∃e∈es,VRel g e.1 e'.key∧VRel g e.2.1 e'.val∧e'.born=e.2.2
 |[],es',h,e',he=>by have h0:es'=[]:=h;subst h0;cases he
 |(k,v,b)::r,es',h,e',he=>by
  obtain⟨e,es2,rfl,h1,h2,h3,h4⟩:=h
  rcases List.mem_cons.1 he with rfl|he
  ·exact⟨(k,v,b),List.mem_cons_self,h1,h2,h3⟩
  ·obtain⟨x,hx,hh⟩:=mrel_mem r es2 h4 e' he
   exact⟨x,List.mem_cons_of_mem _ hx,hh⟩
theorem mrel_mem':∀(es:List (AVal×AVal×Nat)) (es':List MapEntry),MRel g es es'→∀e∈es,∃e'∈es',e'.born=e.2.2
 |(k,v,b)::r,es',h,e,he=>by
  obtain⟨x,es2,rfl,h1,h2,h3,h4⟩:=h
  rcases List.mem_cons.1 he with rfl|he
  ·exact⟨x,List.mem_cons_self,h3⟩
  ·obtain⟨y,hy,hh⟩:=mrel_mem' r es2 h4 e he
   exact⟨y,List.mem_cons_of_mem _ hy,hh⟩
theorem run_next_map_at (w:World) (ty:TypeId) (bi bm since c0:Nat) (seen:Array Nat) (es:Array MapEntry) (clock:Nat) (hi:w.heap[bi]?=some (.mapIter (some bm) since seen c0)) (hb:w.heap[bm]?=some (.map es clock)) (hold:∀x∈es.toList,x.born<since) (hsc:since≤c0):
  ((leftOf es seen).size=0∧(Instr.next (.pointer (some ⟨bi,0,none⟩)) false ty).run P w= .ok (.tuple #[.bool false]) w)∨
  ∃e∈(leftOf es seen).toList,∃w1:World,(w1=w∨w1=w.drew)∧(Instr.next (.pointer (some ⟨bi,0,none⟩)) false ty).run P w= .ok (.tuple #[.bool true,e.key,e.val]) {w1 with heap:=w1.heap.setIfInBounds bi (.mapIter (some bm) since (seen.push e.born) clock)}:=by
 simp only[Instr.next,getObj,Sem.run_bind,Sem.run,hi,hb,Result.andThen,next_test_false seen es since c0 hold hsc,Bool.false_eq_true,if_false]
 unfold leftOf
 have hmem:∀x∈(Array.filter (fun e=>!seen.contains e.born) es).toList,x.born<since:=fun x hx=>hold x (by simp at hx⊢;exact hx.1)
 generalize Array.filter (fun e=>!seen.contains e.born) es=L at hmem⊢
 have e1:L.filter (fun x=>decide (x.born<since))=L:=Array.filter_eq_self.2 (fun x hx=>by simpa using hmem x (by simpa using hx))
 have e2:L.filter (fun x=>decide (x.born≥since))= #[]:=by
  rw[Array.filter_eq_empty_iff]
  intro x hx
  have:=hmem x (by simpa using hx)
  simp
  omega
 simp only[e1,e2,Array.append_empty]
 by_cases h0:L.size=0
 ·left
  have:L= #[]:=Array.eq_empty_of_size_eq_zero h0
  subst this
  refine⟨rfl,?_⟩
  simp [choose,Sem.run,Question.forced]
 ·right
  have hne:L.isEmpty=false:=by simp [Array.isEmpty,h0]
  simp only[hne,Bool.false_eq_true,if_false,Array.empty_append,Array.size_map]
  have hch:∃(j:Nat) (w1:World),j<L.size∧(w1=w∨w1=w.drew)∧(choose (Question.mapNext L.size)).run P w= .ok j w1:=by
   by_cases hf:L.size≤1
   ·exact⟨0,w,by omega,.inl rfl,by simp [choose,Sem.run,Question.forced,hf]⟩
   ·exact⟨_,w.drew,Nat.mod_lt _ (by omega),.inr rfl,by
     simp only[choose,Sem.run,Question.forced,decide_eq_true_eq,hf,if_false,Question.cut]
     rfl⟩
  obtain⟨j,w1,hj,hal,hrun⟩:=hch
  refine⟨L[j],by simp,w1,hal,?_⟩
  have hh:w1.heap=w.heap:=by rcases hal with rfl|rfl<;>rfl
  have hset:∀o':Obj,(setObj bi o').run P w1= .ok () {w1 with heap:=w1.heap.setIfInBounds bi o'}:=fun o'=>by
   simp only[setObj,Sem.run]
   rw[hh,hi]
  simp only[hrun,Array.getElem?_map,Array.getElem?_eq_getElem hj,Option.map_some,Sem.run_bind,hset,Result.andThen]
  rfl
theorem new_obj (R:Rel g H n w) {id:Nat} (h0:hget H id=none) (hid:id<n) (hm:m≤id) (o:Obj) (ob:AObj) (hob:∀g':Ghost,g'.β id=some ⟨w.heap.size,0,1⟩→ORel g' (w.alloc o) id ob):
  ∃g',Rel g' (hset H id ob) n (w.alloc o)∧Trans m g H w g' (hset H id ob) (w.alloc o)∧g.le g'∧g'.β id=some ⟨w.heap.size,0,1⟩:=by
 obtain⟨r1,r2,r3⟩:=R.new (m:=m) (w':=w.alloc o) (x:=o) rfl rfl rfl rfl h0 hid hm (L:=⟨w.heap.size,0,1⟩) rfl (ob:=ob) (hob _ (by simp))
 exact⟨_,r1,r2,r3,by simp⟩
theorem upd_obj (R:Rel g H n w) {id:Nat} {ob ob':AObj} {L:Loc} {o o':Obj} (h0:hget H id=some ob) (hown:ob.owns=true) (hL:g.β id=some L) (hl:L.lo=0) (hh:L.hi=1) (hb:w.heap[L.blk]?=some o) (hnc:∀c e fz,o≠ .cells c e fz)
  (hob:ORel g {w with heap:=w.heap.setIfInBounds L.blk o'} id ob'):
  Rel g (hset H id ob') n {w with heap:=w.heap.setIfInBounds L.blk o'}∧Trans m g H w g (hset H id ob') {w with heap:=w.heap.setIfInBounds L.blk o'}:=
 R.upd (m:=m) h0 hown hL rfl rfl rfl (by simp) (fun b hbl=>(heap_set hb).2 b hbl) (.inr ⟨hl,hh,o,hb,hnc⟩) hob
theorem mkm_sound (R:Rel g H n w) {id:Nat} (h0:hget H id=none) (hid:id<n) (hm:m≤id) (t:TypeId):
  ∃v w' g',(Instr.makeMap t none).run P w= .ok v w'∧VRel g' (.mp id) v∧Rel g' (hset H id (.map [] 0)) n w'∧Trans m g H w g' (hset H id (.map [] 0)) w':=by
 obtain⟨g',r1,r2,r3,hb⟩:=new_obj (m:=m) R h0 hid hm (.map #[] 0) (.map [] 0) fun g' hb=>⟨_, #[],hb,rfl,rfl,(heap_alloc w _).1,rfl⟩
 exact⟨_,_,g',run_makeMap t w,⟨_,hb,rfl⟩,r1,r2⟩
theorem srng_sound (R:Rel g H n w) {id:Nat} (h0:hget H id=none) (hid:id<n) (hm:m≤id) {t:TypeId} (ht:P.underlying t=some .string) (s:List UInt8):
  ∃v w' g',(Instr.range t (.string ⟨s.toArray⟩)).run P w= .ok v w'∧VRel g' (.ptr id 0) v∧Rel g' (hset H id (.sit s 0)) n w'∧Trans m g H w g' (hset H id (.sit s 0)) w':=by
 obtain⟨g',r1,r2,r3,hb⟩:=new_obj (m:=m) R h0 hid hm (.stringIter ⟨s.toArray⟩ 0) (.sit s 0) fun g' hb=>⟨_,hb,rfl,rfl,(heap_alloc w _).1⟩
 exact⟨_,_,g',run_range_string w t _ ht,⟨_,hb,rfl,rfl⟩,r1,r2⟩
theorem snext_sound (R:Rel g H n w) {id:Nat} {s:List UInt8} {pos:Nat} (h0:hget H id=some (.sit s pos)) {x:Value} (hx:VRel g (.ptr id 0) x) (ty:TypeId):
  ∃v w',(Instr.next x true ty).run P w= .ok v w'∧VRel g (if pos<s.length then .tup [.bool true,.int .i64 pos,.int .i32 (Utf8.decode ⟨s.toArray⟩ pos).1]else .tup [.bool false]) v∧
   Rel g (if pos<s.length then hset H id (.sit s (pos+(Utf8.decode ⟨s.toArray⟩ pos).2))else H) n w'∧Trans m g H w g (if pos<s.length then hset H id (.sit s (pos+(Utf8.decode ⟨s.toArray⟩ pos).2))else H) w':=by
 obtain⟨L,hL,hl,rfl⟩:=hx
 obtain⟨L',hL',hl',hh',hb⟩:=R.obj id _ h0
 rw[hL]at hL';cases hL'
 by_cases hp:pos<s.length
 ·have hp':pos<(⟨s.toArray⟩:ByteArray).size:=by show pos<s.toArray.size;simpa using hp
  rw[if_pos hp,if_pos hp]
  obtain⟨r1,r2⟩:=upd_obj (m:=m) (ob':=.sit s (pos+(Utf8.decode ⟨s.toArray⟩ pos).2)) (o':=.stringIter ⟨s.toArray⟩ (pos+(Utf8.decode ⟨s.toArray⟩ pos).2)) R h0 rfl hL hl hh' hb (by simp) ⟨L,hL,hl,hh',(heap_set hb).1⟩
  exact⟨_,_,run_next_any_at w L.blk _ pos ty hb hp',⟨_,rfl,_,_,rfl,rfl,_,_,rfl,rfl,_,_,rfl,rfl,rfl⟩,r1,r2⟩
 ·have hp':¬pos<(⟨s.toArray⟩:ByteArray).size:=by show ¬pos<s.toArray.size;simpa using hp
  rw[if_neg hp,if_neg hp]
  exact⟨_,_,run_next_end_at w L.blk _ pos ty hb hp',⟨_,rfl,_,_,rfl,rfl,rfl⟩,R,Trans.refl _ _ _ _⟩
theorem mrng_sound (R:Rel g H n w) {id:Nat} (h0:hget H id=none) (hid:id<n) (hm:m≤id) {t kt e:TypeId} (ht:P.underlying t=some (.map kt e)) {mi c:Nat} {es:List (AVal×AVal×Nat)} (ho:hget H mi=some (.map es c)) {x:Value} (hx:VRel g (.mp mi) x):
  ∃v w' g',(Instr.range t x).run P w= .ok v w'∧VRel g' (.ptr id 0) v∧Rel g' (hset H id (.mit mi c [] c)) n w'∧Trans m g H w g' (hset H id (.mit mi c [] c)) w':=by
 obtain⟨L,hL,rfl⟩:=hx
 obtain⟨L',es',hL',hl',hh',hb,hm'⟩:=R.obj mi _ ho
 rw[hL]at hL';cases hL'
 have hne:mi≠id:=fun e=>by rw[e,h0]at ho;cases ho
 obtain⟨r1,r2,r3⟩:=R.new (m:=m) (w':=w.alloc (.mapIter (some L.blk) c #[] c)) (x:=.mapIter (some L.blk) c #[] c) rfl rfl rfl rfl h0 hid hm (L:=⟨w.heap.size,0,1⟩) rfl (ob:=.mit mi c [] c) ⟨⟨w.heap.size,0,1⟩,L,by simp,rfl,rfl,(heap_alloc w _).1,by simp [hne,hL],Nat.le_refl _⟩
 exact⟨_,_,_,run_range_map w t kt e L.blk es' c ht hb,⟨⟨w.heap.size,0,1⟩,by simp,rfl,rfl⟩,r1,r2⟩
theorem mnx_sound (R:Rel g H n w) {ty:TypeId} {av:AVal} {x:Value} {K:AHeap→AVal→Prop} (hx:VRel g av x) (h:mnxAt H K av):
  ∃v w' g' H' v',(Instr.next x false ty).run P w= .ok v w'∧VRel g' v' v∧Rel g' H' n w'∧Trans m g H w g' H' w'∧K H' v':=by
 unfold mnxAt at h
 split at h
 case h_2=>exact h.elim
 rename_i id
 split at h
 case h_2=>exact h.elim
 rename_i mi c seen la hid
 split at h
 case h_2=>exact h.elim
 rename_i es clk hm
 obtain⟨hclk,k1,k2,k3⟩:=h
 obtain⟨L,hL,hl,rfl⟩:=hx
 obtain⟨L',Lm,hL',hl',hh',hb,hLm,hc⟩:=R.obj id _ hid
 rw[hL]at hL';cases hL'
 obtain⟨Lm',es',hm1,hm2,hm3,hm4,hm5⟩:=R.obj mi _ hm
 rw[hLm]at hm1;cases hm1
 have hold:∀y∈es'.toList,y.born<c:=fun y hy=>by
  obtain⟨e,he,_,_,q⟩:=mrel_mem es _ hm5 y hy
  rw[q];exact k1 e he
 rcases run_next_map_at (P:=P) w ty L.blk Lm.blk c la seen.toArray es' clk hb hm4 hold hc with⟨p1,p2⟩|⟨e',he',w1,hw1,p2⟩
 ·refine⟨_,w,g,H,.tup [.bool false],p2,⟨_,rfl,_,_,rfl,rfl,rfl⟩,R,Trans.refl _ _ _ _,k2 ?_⟩
  refine List.filter_eq_nil_iff.2 fun e he hs=>?_
  obtain⟨y,hy,q⟩:=mrel_mem' es _ hm5 e he
  have:y∈(leftOf es' seen.toArray).toList:=by
   unfold leftOf
   rw[Array.toList_filter,List.mem_filter]
   refine⟨hy,?_⟩
   rw[q];simpa using hs
  have h0:(leftOf es' seen.toArray)= #[]:=Array.eq_empty_of_size_eq_zero p1
  rw[h0]at this;simp at this
 ·have hmem:e'∈es'.toList∧¬e'.born∈seen:=by
   unfold leftOf at he'
   rw[Array.toList_filter,List.mem_filter]at he'
   exact⟨he'.1,by simpa using he'.2⟩
  obtain⟨e,he,q1,q2,q3⟩:=mrel_mem es _ hm5 e' hmem.1
  have hk:=k3 e (List.mem_filter.2 ⟨he,by rw[←q3];simpa using hmem.2⟩)
  have hww:w1.heap=w.heap∧w1.os=w.os∧w1.tape=w.tape∧w1.output=w.output:=by rcases hw1 with rfl|rfl<;>exact⟨rfl,rfl,rfl,rfl⟩
  have hset:(w1.heap.setIfInBounds L.blk (.mapIter (some Lm.blk) c (seen.toArray.push e'.born) clk))[L.blk]?=some (.mapIter (some Lm.blk) c (seen++[e.2.2]).toArray clk):=by
   rw[hww.1,(heap_set hb).1,q3];simp
  obtain⟨r1,r2⟩:=R.upd (m:=m) (w':={w1 with heap:=w1.heap.setIfInBounds L.blk (.mapIter (some Lm.blk) c (seen.toArray.push e'.born) clk)}) (ob':=.mit mi c (seen++[e.2.2]) clk) hid rfl hL hww.2.1 hww.2.2.1 hww.2.2.2 (by simp [hww.1]) (fun b hbl=>by rw[show({w1 with heap:=w1.heap.setIfInBounds L.blk (.mapIter (some Lm.blk) c (seen.toArray.push e'.born) clk)}:World).heap=w.heap.setIfInBounds L.blk (.mapIter (some Lm.blk) c (seen.toArray.push e'.born) clk)by rw[←hww.1]];exact(heap_set hb).2 b hbl) (.inr ⟨hl,hh',_,hb,by simp⟩)
   ⟨L,Lm,hL,hl,hh',hset,hLm,hclk⟩
  exact⟨_,_,g,_,.tup [.bool true,e.1,e.2.1],p2,⟨_,rfl,_,_,rfl,rfl,_,_,rfl,q1,_,_,rfl,q2,rfl⟩,r1,r2,hk⟩
theorem mrel_born (s:Nat):∀(es:List (AVal×AVal×Nat)) (es':List MapEntry),MRel g es es'→∀k v,mborn s es=some (k,v)→∃e,es'.find? (·.born==s)=some e∧VRel g k e.key∧VRel g v e.val
 |[],es',h,k,v,hm=>by cases hm
 |(k0,v0,b)::r,es',h,k,v,hm=>by
  obtain⟨e,es2,rfl,h1,h2,h3,h4⟩:=h
  rw[mborn]at hm
  by_cases hb:b=s
  ·rw[if_pos hb]at hm
   cases hm
   exact⟨e,by simp [h3,hb],h1,h2⟩
  ·rw[if_neg hb]at hm
   obtain⟨e2,q1,q2,q3⟩:=mrel_born s r es2 h4 k v hm
   exact⟨e2,by rw[List.find?_cons];have:(e.born==s)=false:=by simpa [h3]using hb
               rw[this];exact q1,q2,q3⟩
theorem ment_sound {base:Nat} (R:Rel g H n w) {av:AVal} {x:Value} (hx:VRel g av x) (h:(xE base .ment H [av]).1):
  (xE base .ment H [av]).2.1=H∧∃v,(Instr.entry x).run P w= .ok v w∧VRel g (xE base .ment H [av]).2.2 v:=by
 cases av<;>simp only[xE]at h<;>(try exact h.elim)
 rename_i id off
 cases off with
 |succ o=>simp [xE]at h
 |zero=>
  simp only[xE]at h⊢
  cases ho:hget H id with
  |none=>rw[ho]at h;exact h.elim
  |some ob=>
   rw[ho]at h
   cases ob<;>simp only[]at h<;>(try exact h.elim)
   rename_i mi c seen last
   try simp only[]
   cases hs:mstamp H mi seen with
   |none=>
    rw[hs]at h
    cases hm:hget H mi with
    |none=>rw[hm]at h;exact h.elim
    |some om=>rw[hm]at h;cases om<;>exact h.elim
   |some kv=>
    obtain⟨k,v⟩:=kv
    rw[hs]at h
    cases hm:hget H mi with
    |none=>rw[hm]at h;exact h.elim
    |some om=>
     rw[hm]at h
     cases om<;>(try exact h.elim)
     rename_i es clk
     have h:clk=last:=h
     subst h
     refine⟨rfl,?_⟩
     unfold mstamp at hs
     rw[hm]at hs
     try simp only[]at hs
     cases hl:seen.getLast? with
     |none=>rw[hl]at hs;cases hs
     |some s=>
      rw[hl]at hs
      obtain⟨L,hL,hl0,rfl⟩:=hx
      obtain⟨L',Lm,hL',hl',hh',hb,hLm,hc⟩:=R.obj id _ ho
      rw[hL]at hL';cases hL'
      obtain⟨Lm',es',hm1,hm2,hm3,hm4,hm5⟩:=R.obj mi _ hm
      rw[hLm]at hm1;cases hm1
      obtain⟨e,q1,q2,q3⟩:=mrel_born s es _ hm5 k v hs
      refine⟨.tuple #[e.key,e.val],?_,⟨_,rfl,_,_,rfl,q2,_,_,rfl,q3,rfl⟩⟩
      have hback:seen.toArray.back?=some s:=by rw[Array.back?_eq_getElem?];simpa [List.getLast?_eq_getElem?]using hl
      have hfind:es'.find? (·.born==s)=some e:=by rw[←Array.find?_toList];exact q1
      simp only[Instr.entry,getObj,Sem.run_bind,Sem.run,hb,hm4,Result.andThen,hback,bne_self_eq_false,Bool.false_eq_true,if_false,hfind]
      rfl
theorem look_val {zero:AVal} {ok:Bool} {o:Option AVal} {x z:Value} {b:Bool} (hz:VRel g zero z) (h:o=none∧x=z∧b=false∨∃v,o=some v∧VRel g v x∧b=true):
  VRel g (lookV zero ok o) (if ok=true then .tuple #[x,.bool b]else x):=by
 unfold lookV
 rcases h with⟨rfl,rfl,rfl⟩|⟨v,rfl,hv,rfl⟩
 ·cases ok with
  |true=>exact⟨_,rfl,_,_,rfl,hz,_,_,rfl,rfl,rfl⟩
  |false=>exact hz
 ·cases ok with
  |true=>exact⟨_,rfl,_,_,rfl,hv,_,_,rfl,rfl,rfl⟩
  |false=>exact hv
theorem look_sound {base:Nat} (R:Rel g H n w) {t kt e:TypeId} {kk:KT} {z:AVal} {ok:Bool} {mv k:AVal} {x y:Value} (hu:P.underlying t=some (.map kt e)) (hk:ktT P kt=some kk) (hz:zeroT P e=some z) (hx:VRel g mv x) (hy:VRel g k y)
  (h:(xE base (.look kk z ok) H [mv,k]).1):(xE base (.look kk z ok) H [mv,k]).2.1=H∧∃v,(Instr.lookup t x y ok).run P w= .ok v w∧VRel g (xE base (.look kk z ok) H [mv,k]).2.2 v:=by
 obtain⟨d,hd,hkey⟩:=key_is (g:=g) hk
 obtain⟨i,zv,hi,hzz,hr,hzs,hl,hp0,hnt⟩:=zeroT_spec hz
 have hzrun:(zeroValue e).run P w= .ok zv w:=by simp [zeroValue,typeInfo,hi,hzz,Result.andThen]
 cases mv<;>simp only[xE]at h<;>(try exact h.elim)
 case mp id=>
  simp only[xE]
  cases ho:hget H id with
  |none=>rw[ho]at h;exact h.elim
  |some ob=>
   rw[ho]at h
   cases ob<;>simp only[]at h<;>(try exact h.elim)
   rename_i es clock
   obtain⟨h1,h2⟩:=h
   obtain⟨L,hL,rfl⟩:=hx
   obtain⟨L',es',hL',hl',hh',hb,hm'⟩:=R.obj id _ ho
   rw[hL]at hL';cases hL'
   refine⟨rfl,?_⟩
   have hkx:=hkey k y h1 hy
   rcases find_rel hkey h1 hy es es'.toList 0 h2 hm' with⟨p1,p2,p3⟩|⟨j,e2,v0,p1,p2,p3,p4,p5,p6⟩
   ·refine⟨if ok=true then .tuple #[zv,.bool false]else zv,?_,look_val (hr g) (.inl ⟨p1,rfl,rfl⟩)⟩
    simp only[Instr.lookup,Sem.run_bind,run_underlying hu,Result.andThen_ok,MapKept.run_getObj_map hb,Sem.run_pure,run_checkKey hd hkx,run_findKey hd p2,hzrun]
   ·refine⟨if ok=true then .tuple #[e2.val,.bool true]else e2.val,?_,look_val (hr g) (.inr ⟨v0,p1,p4,rfl⟩)⟩
    simp only[Instr.lookup,Sem.run_bind,run_underlying hu,Result.andThen_ok,MapKept.run_getObj_map hb,Sem.run_pure,run_checkKey hd hkx,run_findKey hd p3]
 case nilmp=>
  simp only[xE]
  have hx':x= .map none:=hx
  subst hx'
  refine⟨trivial,if ok=true then .tuple #[zv,.bool false]else zv,?_,look_val (hr g) (.inl ⟨rfl,rfl,rfl⟩)⟩
  have hkx:=hkey k y h hy
  have hf:Instr.findNow d y ([]:List MapEntry) 0=some none:=rfl
  simp only[Instr.lookup,Sem.run_bind,run_underlying hu,Result.andThen_ok,Sem.run_pure,run_checkKey hd hkx,run_findKey hd hf,hzrun]
theorem mput_sound {base:Nat} (R:Rel g H n w) {t kt e:TypeId} {kk:KT} {mv k v:AVal} {x y z:Value} (hu:P.underlying t=some (.map kt e)) (hk:ktT P kt=some kk) (hx:VRel g mv x) (hy:VRel g k y) (hv:VRel g v z)
  (h:(xE base (.mput kk) H [mv,k,v]).1):∃w',(Instr.mapUpdate t x y z).run P w= .ok () w'∧(xE base (.mput kk) H [mv,k,v]).2.2= .tup []∧Rel g (xE base (.mput kk) H [mv,k,v]).2.1 n w'∧Trans m g H w g (xE base (.mput kk) H [mv,k,v]).2.1 w':=by
 obtain⟨d,hd,hkey⟩:=key_is (g:=g) hk
 cases mv<;>simp only[xE]at h<;>(try exact h.elim)
 rename_i id
 simp only[xE]
 cases ho:hget H id with
 |none=>rw[ho]at h;exact h.elim
 |some ob=>
  rw[ho]at h
  cases ob<;>simp only[]at h<;>(try exact h.elim)
  rename_i es clock
  obtain⟨h1,h2,-⟩:=h
  obtain⟨L,hL,rfl⟩:=hx
  obtain⟨L',es',hL',hl',hh',hb,hm'⟩:=R.obj id _ ho
  rw[hL]at hL';cases hL'
  have hkx:=hkey k y h1 hy
  rcases find_rel hkey h1 hy es es'.toList 0 h2 hm' with⟨p1,p2,p3⟩|⟨j,e2,v0,p1,p2,p3,p4,p5,p6⟩
  ·obtain⟨r1,r2⟩:=upd_obj (m:=m) (ob':=.map (mset k v clock es) (clock+1)) (o':=.map (es'.push {key:=y,val:=z,born:=clock}) (clock+1)) R ho rfl hL hl' hh' hb (by simp)
    ⟨L,_,hL,hl',hh',(heap_set hb).1,by rw[Array.toList_push];exact p3 v z clock hv⟩
   refine⟨_,?_,rfl,by simpa [p1]using r1,by simpa [p1]using r2⟩
   simp only[Instr.mapUpdate,Sem.run_bind,run_underlying hu,Result.andThen_ok,MapKept.run_getObj_map hb,run_checkKey hd hkx,run_findKey hd p2,run_setObj_map _ hb]
  ·have hj:es'[j]?=some e2:=by rw[←Array.getElem?_toList];exact p2
   have hmod:(es'.modify j fun e=>{e with key:=y,val:=z}).toList=es'.toList.set j {e2 with key:=y,val:=z}:=by
    have hj2:j<es'.toList.length:=(List.getElem?_eq_some_iff.1 p2).1
    rw[Array.toList_modify,List.modify_eq_set,p2];rfl
   obtain⟨r1,r2⟩:=upd_obj (m:=m) (ob':=.map (mset k v clock es) clock) (o':=.map (es'.modify j fun e=>{e with key:=y,val:=z}) clock) R ho rfl hL hl' hh' hb (by simp)
    ⟨L,_,hL,hl',hh',(heap_set hb).1,by rw[hmod];exact p6 v z clock hv⟩
   refine⟨_,?_,rfl,by simpa [p1]using r1,by simpa [p1]using r2⟩
   rw[Nat.zero_add]at p3
   have hkk:((es'[j]?).map (·.key)).getD y=y:=by rw[hj];exact p5
   simp only[Instr.mapUpdate,Sem.run_bind,run_underlying hu,Result.andThen_ok,MapKept.run_getObj_map hb,run_checkKey hd hkx,run_findKey hd p3,hkk,run_keyThatStays hkx,run_setObj_map _ hb]
theorem run_equal_nil {t:TypeId} {d:TypeDesc} (hu:P.underlying t=some d) (x c:Value) (r:Bool) (h:match d,x,c with
   | .interface _,.nilIface,.nilIface=>r=true
   | .interface _,.iface _ _,.nilIface=>r=false
   | .pointer _,.pointer none,.pointer none=>r=true
   | .pointer _,.pointer (some _),.pointer none=>r=false
   | .func ..,.nilFunc,.nilFunc=>r=true
   | .func ..,.func ..,.nilFunc=>r=false
   |_,_,_=>False):(Op.equal t x c).run P w= .ok r w:=by
 rw[Op.equal,show Op.maxDepth=9999+1 from rfl,Op.equalIn]
 simp only[Sem.run_bind,run_underlying hu,Result.andThen_ok]
 split at h<;>first|exact h.elim|(subst h;rfl)
theorem run_nileq {op:BinOp} {t:TypeId} {x c:Value} {X:Operand} {r:Bool} (hop:op= .eql∨op= .neq) (h1:eqGuard op t X (.const c) x c=pure ()) (hx:∀k n,x≠ .int k n) (hf:∀k n,x≠ .float k n) (hc:∀k n m,x≠ .complex k n m) (hs:∀b,x≠ .string b)
  (h2:(Op.equal t x c).run P w= .ok r w):(do eqGuard op t X (.const c) x c;binOp op t x c:Sem Value).run P w= .ok (.bool (if op= .neq then !r else r)) w:=by
 rw[Sem.run_bind,h1]
 simp only[Sem.run_pure,Result.andThen_ok]
 rcases hop with rfl|rfl
 ·cases x<;>first|exact absurd rfl (hx _ _)|exact absurd rfl (hf _ _)|exact absurd rfl (hc _ _ _)|exact absurd rfl (hs _)|simp [binOp,h2,Result.andThen]
 ·cases x<;>first|exact absurd rfl (hx _ _)|exact absurd rfl (hf _ _)|exact absurd rfl (hc _ _ _)|exact absurd rfl (hs _)|simp [binOp,h2,Result.andThen]
theorem nils_sound {op:BinOp} {t:TypeId} {c:Value} {X:Operand} {av:AVal} {x:Value} {nq:Bool} {K:Bool→Prop} (hop:(op= .eql∧nq=false)∨(op= .neq∧nq=true)) (hn:nilsT P t c=true) (hx:VRel g av x) (h:nilsAt K nq av):
  ∃b,(do eqGuard op t X (.const c) x c;binOp op t x c:Sem Value).run P w= .ok (.bool b) w∧K b:=by
 have hop':op= .eql∨op= .neq:=hop.imp (·.1) (·.1)
 unfold nilsT at hn
 split at hn
 case h_2=>cases hn
 rename_i e cl cc hu
 have fin:∀(r:Bool),(if op= .neq then !r else r)=(if nq=true then !r else r):=by
  intro r
  rcases hop with⟨rfl,rfl⟩|⟨rfl,rfl⟩<;>simp
 have key:∀a n m,x= .slice a n m→(do eqGuard op t X (.const (.slice none cl cc)) x (.slice none cl cc);binOp op t x (.slice none cl cc):Sem Value).run P w= .ok (.bool (if nq=true then !a.isNone else a.isNone)) w:=by
  rintro a n m rfl
  have he:(Op.equal t (.slice a n m) (.slice none cl cc)).run P w= .ok a.isNone w:=by
   rw[Op.equal,show Op.maxDepth=9999+1 from rfl,Op.equalIn]
   simp only[Sem.run_bind,run_underlying hu,Result.andThen_ok]
   cases a<;>rfl
  have:=run_nileq (X:=X) hop' (eqGuard_at_slice ..) (by simp) (by simp) (by simp) (by simp) he
  rw[fin]at this;exact this
 unfold nilsAt at h
 split at h
 ·rename_i s0
  rcases hx with⟨_,rfl,_⟩|⟨hf,_⟩
  ·exact⟨_,key none 0 0 rfl,by cases nq<;>exact h⟩
  ·exact hf.elim
 ·rcases hx with⟨_,rfl,_⟩|⟨_,b,o,cap,⟨sp,rfl,_⟩,_⟩
  ·exact⟨_,key none 0 0 rfl,by cases nq<;>first|exact h.1|exact h.2⟩
  ·exact⟨_,key _ _ _ rfl,by cases nq<;>first|exact h.1|exact h.2⟩
 ·rcases hx with⟨q,_⟩|⟨_,b,o,cap,⟨sp,rfl,_⟩,_⟩
  ·cases q
  ·exact⟨_,key _ _ _ rfl,by cases nq<;>exact h⟩
 ·obtain⟨L,_,_,rfl⟩:=hx
  exact⟨_,key _ _ _ rfl,by cases nq<;>exact h⟩
 ·exact h.elim
theorem nileq_sound {base:Nat} {op:BinOp} {t:TypeId} {c:Value} {X:Operand} {av:AVal} {x:Value} {nq:Bool} {kd:Nat} (hop:(op= .eql∧nq=false)∨(op= .neq∧nq=true)) (hn:nilT P t c=some kd) (hx:VRel g av x) (h:(xE base (.nileq kd nq) H [av]).1):
  (xE base (.nileq kd nq) H [av]).2.1=H∧∃v,(do eqGuard op t X (.const c) x c;binOp op t x c:Sem Value).run P w= .ok v w∧VRel g (xE base (.nileq kd nq) H [av]).2.2 v:=by
 have hop':op= .eql∨op= .neq:=hop.imp (·.1) (·.1)
 have fin:∀(r:Bool),(if op= .neq then !r else r)=(if nq=true then !r else r):=by
  intro r
  rcases hop with⟨rfl,rfl⟩|⟨rfl,rfl⟩<;>simp
 unfold nilT at hn
 split at hn
 ·rename_i ms hu
  cases hn
  cases av<;>simp only[xE]at h<;>(try exact h.elim)
  ·obtain⟨z,rfl,_⟩:=hx
   exact⟨rfl,_,run_nileq (r:=false) hop' (eqGuard_at_iface ..) (by simp) (by simp) (by simp) (by simp) (run_equal_nil hu _ _ _ rfl),by rw[fin];simp [xE,VRel]⟩
  ·have hx':x= .nilIface:=hx
   subst hx'
   exact⟨rfl,_,run_nileq (r:=true) hop' (eqGuard_nil_constR ..) (by simp) (by simp) (by simp) (by simp) (run_equal_nil hu _ _ _ rfl),by rw[fin];cases nq<;>simp [xE,VRel]⟩
 ·rename_i e hu
  cases hn
  have hp:∃a,x= .pointer a∧(xE base (.nileq 1 nq) H [av])=(True,H,.bool (if nq=true then !a.isNone else a.isNone)):=by
   cases av<;>simp only[xE]at h<;>(try exact h.elim)<;>simp only[VRel]at hx
   ·exact⟨_,hx,by cases nq<;>simp [xE]⟩
   ·obtain⟨L,_,_,hx⟩:=hx;exact⟨_,hx,by cases nq<;>simp [xE]⟩
   ·obtain⟨b,o,hx,_⟩:=hx;exact⟨_,hx,by cases nq<;>simp [xE]⟩
   ·exact⟨_,hx,by cases nq<;>simp [xE]⟩
   ·obtain⟨L,_,_,hx⟩:=hx;exact⟨_,hx,by cases nq<;>simp [xE]⟩
   ·obtain⟨a,hx⟩:=hx;exact⟨_,hx,by cases nq<;>simp [xE]⟩
  obtain⟨a,rfl,he⟩:=hp
  rw[he]
  cases a with
  |none=>exact⟨rfl,_,run_nileq (r:=true) hop' (eqGuard_at_pointer ..) (by simp) (by simp) (by simp) (by simp) (run_equal_nil hu _ _ _ rfl),by rw[fin];cases nq<;>simp [VRel]⟩
  |some a=>exact⟨rfl,_,run_nileq (r:=false) hop' (eqGuard_at_pointer ..) (by simp) (by simp) (by simp) (by simp) (run_equal_nil hu _ _ _ rfl),by rw[fin];cases nq<;>simp [VRel]⟩
 ·rename_i ps rs vd hu
  cases hn
  cases av<;>simp only[xE]at h<;>(try exact h.elim)
  ·obtain⟨x',c',rfl,_,_⟩:=hx
   exact⟨rfl,_,run_nileq (r:=false) hop' (eqGuard_at_func ..) (by simp) (by simp) (by simp) (by simp) (run_equal_nil hu _ _ _ rfl),by rw[fin];cases nq<;>simp [xE,VRel]⟩
  ·have hx':x= .nilFunc:=hx
   subst hx'
   exact⟨rfl,_,run_nileq (r:=true) hop' (eqGuard_at_nilFunc ..) (by simp) (by simp) (by simp) (by simp) (run_equal_nil hu _ _ _ rfl),by rw[fin];cases nq<;>simp [xE,VRel]⟩
 ·cases hn
theorem tas_sound {base:Nat} {xt t:TypeId} {ok:Bool} {z:AVal} {av:AVal} {x:Value} (hi:ifaceT P t=false) (hz:zeroT P t=some z) (hx:VRel g av x) (h:(xE base (.tas t ok z) H [av]).1):
  (xE base (.tas t ok z) H [av]).2.1=H∧∃v,(Instr.typeAssert x xt t ok).run P w= .ok v w∧VRel g (xE base (.tas t ok z) H [av]).2.2 v:=by
 obtain⟨i,zv,hinf,hzz,hr,hzs,hl,hp0,hnt⟩:=zeroT_spec hz
 have hzrun:(zeroValue t).run P w= .ok zv w:=by simp [zeroValue,typeInfo,hinf,hzz,Result.andThen]
 unfold ifaceT at hi
 split at hi
 ·cases hi
 ·cases hi
 rename_i hne1 hne2
 obtain⟨d,hu⟩:∃d,P.underlying t=some d:=by
  cases hh:P.underlying t with
  |none=>exact absurd hh hne2
  |some d=>exact⟨d,rfl⟩
 have hd:∀ms,d≠ .interface ms:=fun ms e=>by subst e;exact hne1 ms hu
 cases av<;>cases ok<;>simp only[xE]at h⊢ <;>(try exact h.elim)
 ·obtain⟨y,rfl,hy⟩:=hx
  subst h
  refine⟨trivial,y,?_,hy⟩
  cases d<;>first|exact absurd rfl (hd _)|simp [Instr.typeAssert,run_underlying hu,Result.andThen]
 ·obtain⟨y,rfl,hy⟩:=hx
  rename_i t' v'
  by_cases e:t'=t
  ·subst e
   refine⟨trivial,.tuple #[y,.bool true],?_,by simp only[if_true];exact⟨_,rfl,_,_,rfl,hy,_,_,rfl,rfl,rfl⟩⟩
   cases d<;>first|exact absurd rfl (hd _)|simp [Instr.typeAssert,run_underlying hu,Result.andThen]
  ·refine⟨trivial,.tuple #[zv,.bool false],?_,by simp only[e,if_false];exact⟨_,rfl,_,_,rfl,hr g,_,_,rfl,rfl,rfl⟩⟩
   cases d<;>first|exact absurd rfl (hd _)|simp [Instr.typeAssert,run_underlying hu,Result.andThen,e,hzrun]
 ·have hx':x= .nilIface:=hx
  subst hx'
  refine⟨trivial,.tuple #[zv,.bool false],?_,⟨_,rfl,_,_,rfl,hr g,_,_,rfl,rfl,rfl⟩⟩
  cases d<;>first|exact absurd rfl (hd _)|simp [Instr.typeAssert,run_underlying hu,Result.andThen,hzrun]
theorem mrel_length:∀(es:List (AVal×AVal×Nat)) (es':List MapEntry),MRel g es es'→es'.length=es.length
 |[],es',h=>by have h0:es'=[]:=h;subst h0;rfl
 |(k,v,b)::r,es',h=>by
  obtain⟨e,es2,rfl,_,_,_,h4⟩:=h
  simp [mrel_length r es2 h4]
theorem mlen_sound {base:Nat} (R:Rel g H n w) {t kt e:TypeId} {mv:AVal} {x:Value} {ty:TypeId} (hu:P.underlying t=some (.map kt e)) (hx:VRel g mv x) (h:(xE base .mlen H [mv]).1):
  (xE base .mlen H [mv]).2.1=H∧∃v,(Builtin.len_ #[t] ty #[x]).run P w= .ok v w∧VRel g (xE base .mlen H [mv]).2.2 v:=by
 cases mv<;>simp only[xE]at h<;>(try exact h.elim)
 case mp id=>
  simp only[xE]
  cases ho:hget H id with
  |none=>rw[ho]at h;exact h.elim
  |some ob=>
   rw[ho]at h
   cases ob<;>simp only[]at h<;>(try exact h.elim)
   rename_i es clock
   obtain⟨L,hL,rfl⟩:=hx
   obtain⟨L',es',hL',hl',hh',hb,hm'⟩:=R.obj id _ ho
   rw[hL]at hL';cases hL'
   have hlen:=mrel_length es _ hm'
   simp only[Array.length_toList]at hlen
   refine⟨rfl,_,by simp only[Builtin.len_,List.getElem?_toArray,List.getElem?_cons_zero,Sem.run_bind,run_underlying hu,Result.andThen_ok,MapKept.run_getObj_map hb,Sem.run_pure];rfl,?_⟩
   simp [VRel,goInt,hlen]
 case nilmp=>
  simp only[xE]
  have hx':x= .map none:=hx
  subst hx'
  refine⟨trivial,_,by simp only[Builtin.len_,List.getElem?_toArray,List.getElem?_cons_zero,Sem.run_bind,run_underlying hu,Result.andThen_ok,Sem.run_pure];rfl,?_⟩
  simp [VRel,goInt]
end
end Go.AM
end
section
set_option maxRecDepth 20000
set_option linter.all false
namespace Go.AM
theorem Stab.place {g:Ghost} {esz:Nat} {vs:List Value} {f:Nat→Option Value} {o:Nat} (h:∀(j:Nat) x,vs[j]?=some x→f (o+j)=some x):∀(l:List AVal) (p:Nat),Stab g esz (fun j=>vs[j]?) p l→Stab g esz f (o+p) l
 |[],_,_=>trivial
 |e::l,p,⟨⟨u,q1,q2,q3⟩,q4⟩=>⟨⟨u,q1,q2,fun j x hx=>by rw[Nat.add_assoc];exact h _ _ (q3 j x hx)⟩,by
   have:=Stab.place h l (p+esz) q4
   rwa[←Nat.add_assoc]at this⟩
section
variable {P:Program} {g:Ghost} {H:AHeap} {n m:Nat} {w:World}
theorem grow_sound (R:Rel g H n w) {t u ty e:TypeId} {i:TypeInfo} {du:TypeDesc} {za:AVal} (ht:P.underlying t=some (.slice e)) (hu:P.underlying u=some du) (hdu:∀k,du≠ .int k) (hi:P.info? e=some i) (hza:zeroT P e=some za)
  {lo l':List AVal} {y:Value} {sCap:Nat} {base:Option Addr} {olds:List Value} (hsrc:Src P g w i.size l' y) {id:Nat} (h0:hget H id=none) (hid:id<n) (hm:m≤id) (hsm:small (lo.length+l'.length) i.bytes) (hln:lo.length+l'.length≤35184372088832)
  (o2:olds.length=lo.length*i.size) (o3:Stab g i.size (fun o=>olds[o]?) 0 lo) (o4:(Builtin.firstCells i.size lo.length (.slice base lo.length sCap)).run P w.drew= .ok olds.toArray w.drew) (hgt:sCap<lo.length+l'.length):
  ∃cap v w' g',lo.length+l'.length≤cap∧(Builtin.append_ #[t,u] ty #[.slice base lo.length sCap,y]).run P w= .ok v w'∧VRel g' (.ref id i.size 0 (lo.length+l'.length) cap) v∧
   Rel g' (hset H id (.arr i.size (lo++l'++List.replicate (cap-(lo.length+l'.length)) za))) n w'∧Trans m g H w g' (hset H id (.arr i.size (lo++l'++List.replicate (cap-(lo.length+l'.length)) za))) w':=by
 obtain⟨i',z,hi',hzz,hr,hzs,hl,hpos,hnt⟩:=zeroT_spec hza
 rw[hi]at hi';cases hi'
 obtain⟨news,s1,s2,s3,s4⟩:=hsrc
 obtain⟨c1,c2⟩:=s4 w rfl
 obtain⟨d1,d2⟩:=s4 w.drew rfl
 have hfit:Builtin.nextslicecap (lo.length+l'.length) sCap*i.bytes≤281474976710656:=growslice_fits hgt (by simp only[small]at hsm;omega)
 have hrun:=run_app_grow (ty:=ty) ht hu hdu hi hzz c1 o4 d2 hgt hfit (by omega)
 generalize hcap:grownCap w (lo.length+l'.length) sCap e=cap at hrun
 have hge:lo.length+l'.length≤cap:=by rw[←hcap];exact grownCap_ge _ _ _ _
 generalize hcs:(olds.toArray++news.toArray++Builtin.zeroCells z.cells (cap-(lo.length+l'.length)):Array Value)=cs at hrun
 have hmul:(lo.length+l'.length)*i.size+(cap-(lo.length+l'.length))*i.size=cap*i.size:=by rw[←Nat.add_mul];congr 1;omega
 have hcsz:cs.size=cap*i.size:=by
  subst hcs
  simp only[Array.size_append,List.size_toArray,size_zeroCells,hzs,o2,s1,←Nat.add_mul]
  congr 1;omega
 have ecs:cs.toList=olds++(news++(madeCells z.cells ((cap-(lo.length+l'.length))*z.cells.size)).toList):=by
  subst hcs
  simp only[Array.toList_append,List.append_assoc];rfl
 have q1:∀(j:Nat) x,olds[j]?=some x→cs[0+j]?=some x:=by
  intro j x hx
  have hj:=(List.getElem?_eq_some_iff.1 hx).1
  rw[Nat.zero_add,←Array.getElem?_toList,ecs,List.getElem?_append_left hj];exact hx
 have q2:∀(j:Nat) x,news[j]?=some x→cs[lo.length*i.size+j]?=some x:=by
  intro j x hx
  have hj:=(List.getElem?_eq_some_iff.1 hx).1
  rw[←Array.getElem?_toList,ecs,←o2,List.getElem?_append_right (Nat.le_add_right _ _),Nat.add_sub_cancel_left,List.getElem?_append_left hj];exact hx
 have q3:∀a,a<cap-(lo.length+l'.length)→∀(j:Nat) x,z.cells[j]?=some x→cs[(lo.length+l'.length)*i.size+a*i.size+j]?=some x:=by
  intro a ha j x hx
  have h1:=madeCells_get (z:=z.cells) (k:=cap-(lo.length+l'.length)) ha hx
  have e2:(lo.length+l'.length)*i.size+a*i.size+j=olds.length+(news.length+(a*i.size+j)):=by rw[o2,s1,Nat.add_mul];omega
  rw[←Array.getElem?_toList,ecs,e2,List.getElem?_append_right (Nat.le_add_right _ _),Nat.add_sub_cancel_left,List.getElem?_append_right (Nat.le_add_right _ _),Nat.add_sub_cancel_left,Array.getElem?_toList]
  rw[hzs]at h1⊢
  exact h1
 have hnewb:(w.drew.alloc (.cells cs e)).heap[w.heap.size]?=some (.cells cs e (0,0)):=by show(w.heap.push _)[w.heap.size]?=_;simp
 obtain⟨r1,r2,r3⟩:=R.new (m:=m) (w':=w.drew.alloc (.cells cs e)) (x:=.cells cs e) rfl rfl rfl rfl h0 hid hm (L:=⟨w.heap.size,0,cap*i.size⟩) rfl (ob:=.arr i.size (lo++l'++List.replicate (cap-(lo.length+l'.length)) za)) (by
  have hb0:g.β id=none:=by
   cases hb:g.β id with
   |none=>rfl
   |some L'=>exact absurd h0 (R.dom id L' hb).1
  have hle:g.le ⟨fun k=>if k=id then some ⟨w.heap.size,0,cap*i.size⟩else g.β k,g.σ⟩:=⟨fun k L' h=>by
   show(if k=id then _ else g.β k)=some L'
   rw[if_neg (by rintro rfl;rw[hb0]at h;cases h)];exact h,fun _ _ _ h=>h⟩
  refine⟨⟨w.heap.size,0,cap*i.size⟩,cs,e,by simp,rfl,hcsz.symm,hnewb,?_,?_⟩
  ·rw[hcsz];simp only[List.length_append,List.length_replicate];congr 1;omega
  ·refine Stab.mono (f:=fun j=>cs[j]?) hle (fun _ _ h=>h) _ _ _ ?_
   refine Stab.append _ _ 0 (Stab.append _ _ 0 ?_ ?_) ?_
   ·exact Stab.place (o:=0) q1 lo 0 o3
   ·have:=Stab.place (f:=fun j=>cs[j]?) (o:=lo.length*i.size) q2 l' 0 s3
    rwa[Nat.add_zero,←Nat.zero_add (lo.length*i.size)]at this
   ·refine Stab.replicate (hr _) ⟨hzs,(hr ⟨fun _=>none,fun _ _=>none⟩).one hnt⟩ _ _ fun a ha j x hx=>?_
    have:=q3 a ha j x hx
    simpa using this)
 exact⟨cap,_,_,_,hge,hrun,⟨⟨w.heap.size,0,cap*i.size⟩,by simp,rfl,by simp⟩,r1,r2⟩
theorem ref_olds {esz:Nat} {b:Nat} {c:Array Value} {e:TypeId} {l:List AVal} {len cap:Nat} (hb:w.heap[b]?=some (.cells c e (0,0))) (hst:Stab g esz (fun o=>c[o]?) 0 l) (hl:len≤l.length):
  ∃olds:List Value,olds.length=(l.take len).length*esz∧Stab g esz (fun o=>olds[o]?) 0 (l.take len)∧(Builtin.firstCells esz (l.take len).length (.slice (some ⟨b,0,none⟩) (l.take len).length cap)).run P w.drew= .ok olds.toArray w.drew:=by
 obtain⟨vs,v1,v2,v3,v4⟩:=(Stab.take len _ _ hst).list
 refine⟨vs,v1,v4,run_firstCells_some (P:=P) w.drew esz _ ⟨b,0,none⟩ _ cap vs v1 fun j v hv=>?_⟩
 rw[addr_add]
 have hb':w.drew.heap[b]?=some (.cells c e (0,0)):=hb
 rw[cell_of_block hb']
 exact v2 j v hv
theorem appR_sound (R:Rel g H n w) {t u ty e:TypeId} {i:TypeInfo} {du:TypeDesc} {za:AVal} (ht:P.underlying t=some (.slice e)) (hu:P.underlying u=some du) (hdu:∀k,du≠ .int k) (hi:P.info? e=some i) (hza:zeroT P e=some za)
  {av:AVal} {bv:Option (List AVal)} {x y:Value} {K:AHeap→AVal→Prop} (hx:VRel g av x) (hsrc:∀l',bv=some l'→Src P g w i.size l' y) {id:Nat} (hid:id<n) (hm:m≤id) (h:appRAt H id i.size i.bytes za K av bv):
  ∃v w' g' H' v',(Builtin.append_ #[t,u] ty #[x,y]).run P w= .ok v w'∧VRel g' v' v∧Rel g' H' n w'∧Trans m g H w g' H' w'∧K H' v':=by
 obtain⟨i',z,hi',hzz,hr,hzs,hl,hpos,hnt⟩:=zeroT_spec hza
 rw[hi]at hi';cases hi'
 unfold appRAt at h
 split at h
 case h_3=>exact h.elim
 case h_1 tok l l'=>
  obtain⟨h0,h1,h2,htk,hsm,hln,k1,k2⟩:=h
  have hs:=hsrc l' rfl
  by_cases hl0:l'=[]
  ·subst hl0
   obtain⟨news,s1,s2,s3,s4⟩:=hs
   obtain⟨c1,c2⟩:=s4 w rfl
   have hn0:news=[]:=List.eq_nil_of_length_eq_zero (by rw[s1];simp)
   subst hn0
   have hx':=hx
   rcases hx with⟨rfl,rfl,htk2⟩|⟨htok,b,o,cap,⟨sp,rfl,hsp⟩,hcap,hst,hk⟩
   ·have hrun:=run_app_room (ty:=ty) (w:=w) (base:=none) (sLen:=0) (sCap:=0) ht hu hdu hi hzz c1 c2 (by simp)
    exact⟨_,_,g,H,_,hrun,hx',R,Trans.refl _ _ _ _,k1 rfl⟩
   ·have hrun:=run_app_room (ty:=ty) (w:=w) (base:=some ⟨b,o,sp⟩) (sLen:=l.length) (sCap:=cap) ht hu hdu hi hzz c1 c2 (by simpa using hcap)
    simp only[addr_add,storeCells,Sem.run_pure,Result.andThen_ok,List.length_nil,Nat.add_zero]at hrun
    exact⟨_,_,g,H,_,hrun,hx',R,Trans.refl _ _ _ _,k1 rfl⟩
  ·have hpos':0<l'.length:=by cases l' with|nil=>exact absurd rfl hl0|cons _ _=>simp
   rcases hx with⟨rfl,rfl,htk2⟩|⟨htok,b,o,cap,⟨sp,rfl,hsp⟩,hcap,hst,hk⟩
   ·obtain⟨cap,v,w',g',e1,e2,e3,e4,e5⟩:=grow_sound (m:=m) (ty:=ty) (lo:=[]) (base:=none) (sCap:=0) (olds:=[]) R ht hu hdu hi hza hs h0 hid hm hsm hln (by simp) trivial (by simp [Builtin.firstCells]) (by simpa using hpos')
    exact⟨v,w',g',_,_,e2,e3,e4,e5,k2 hl0 cap e1⟩
   ·have htk2:tok= .exact i.size:=by
     rcases htk with rfl|rfl
     ·exact htok.elim
     ·rfl
    subst htk2
    by_cases hodd:sp=none
    case neg=>
     obtain⟨rfl,hq⟩:=hsp.resolve_left hodd
     have hc0:cap=0:=by
      rcases hq with q|⟨e',q⟩
      ·exact q
      ·cases q
     subst hc0
     obtain⟨cap',v,w',g',e1,e2,e3,e4,e5⟩:=grow_sound (m:=m) (ty:=ty) (lo:=[]) (base:=some ⟨b,o,sp⟩) (sCap:=0) (olds:=[]) R ht hu hdu hi hza hs h0 hid hm hsm hln (by simp) trivial (by simpa using run_firstCells_some (P:=P) w.drew i.size 0 ⟨b,o,sp⟩ 0 0 [] (by simp) (by simp)) (by simpa using hpos')
     exact⟨v,w',g',_,_,e2,e3,e4,e5,k2 hl0 cap' e1⟩
    subst hodd
    simp only[Tok.esz]at hst
    simp only[]at hk
    obtain⟨vs,v1,v2,v3,v4⟩:=hst.list
    obtain⟨cap',v,w',g',e1,e2,e3,e4,e5⟩:=grow_sound (m:=m) (ty:=ty) (lo:=l) (base:=some ⟨b,o,none⟩) (sCap:=cap) (olds:=vs) R ht hu hdu hi hza hs h0 hid hm hsm hln v1 v4
     (run_firstCells_some (P:=P) w.drew i.size l.length ⟨b,o,none⟩ l.length cap vs v1 (fun j v hv=>by rw[addr_add];exact R.σw _ _ _ (v2 j v hv))) (by omega)
    exact⟨v,w',g',_,_,e2,e3,e4,e5,k2 hl0 cap' e1⟩
 case h_2 i0 e0 off len cap l'=>
  obtain⟨h0,h1,h2,rfl,rfl,hsm,hln,hmt⟩:=h
  split at hmt
  case h_2=>exact hmt.elim
  rename_i e' l ho
  obtain⟨rfl,hlc,hle,k1,k2⟩:=hmt
  have hs:=hsrc l' rfl
  obtain⟨L,hL,hl0,rfl⟩:=hx
  obtain⟨L',c,ee,j1,j2,j3,j4,j5,j6⟩:=R.obj i0 _ ho
  rw[hL]at j1;cases j1
  have htl:(l.take len).length=len:=by simp;omega
  simp only[Nat.zero_mul]
  by_cases hroom:len+l'.length≤cap
  ·obtain⟨news,s1,s2,s3,s4⟩:=hs
   obtain⟨c1,c2⟩:=s4 w rfl
   have hrun:=run_app_room (ty:=ty) (w:=w) (base:=some ⟨L.blk,0,none⟩) (sLen:=len) (sCap:=cap) ht hu hdu hi hzz c1 c2 hroom
   simp only[addr_add,Nat.zero_add]at hrun
   have hmul:len*i.size+l'.length*i.size≤cap*i.size:=by rw[←Nat.add_mul];exact Nat.mul_le_mul_right _ hroom
   have hcsz:c.size=cap*i.size:=by rw[←j5,hlc]
   have hst:=run_storeCells_at (P:=P) L.blk (len*i.size) ee news 0 c w j4 (by rw[s1];omega) s2
   simp only[Nat.add_zero]at hst
   generalize hc':(c.toList.take (len*i.size)++news++c.toList.drop (len*i.size+news.length)).toArray=c' at hst
   have hsz':c'.size=c.size:=by subst hc';simp;omega
   have q1:∀j,j<len*i.size→c'[j]?=c[j]?:=by
    intro j hj
    subst hc'
    rw[←Array.getElem?_toList]
    simp only[]
    rw[List.append_assoc,List.getElem?_append_left (by simp;omega),List.getElem?_take_of_lt hj,Array.getElem?_toList]
   have q2:∀(j:Nat) x,news[j]?=some x→c'[len*i.size+j]?=some x:=by
    intro j x hx
    have hj:=(List.getElem?_eq_some_iff.1 hx).1
    subst hc'
    rw[←Array.getElem?_toList]
    simp only[]
    rw[List.append_assoc,List.getElem?_append_right (by simp;omega),List.getElem?_append_left (by simp;omega)]
    rw[←hx];congr 1;simp;omega
   have q3:∀j,(len+l'.length)*i.size≤j→c'[j]?=c[j]?:=by
    intro j hj
    rw[Nat.add_mul]at hj
    subst hc'
    rw[←Array.getElem?_toList]
    simp only[]
    rw[List.getElem?_append_right (by simp;omega),List.getElem?_drop,Array.getElem?_toList]
    congr 1;simp;omega
   have hob:ORel g (w.setRow L.blk c') i0 (.arr i.size (l.take len++l'++l.drop (len+l'.length))):=by
    refine⟨L,c',ee,hL,hl0,by rw[j3,hsz'],setRow_heap w L.blk c c' ee (0,0) j4,?_,?_⟩
    ·rw[hsz',hcsz]
     simp only[List.length_append,htl,List.length_drop,hlc]
     congr 1;omega
    ·refine Stab.append _ _ 0 (Stab.append _ _ 0 ?_ ?_) ?_
     ·refine Stab.eq _ 0 (fun j _ hj=>?_) (Stab.take len _ _ j6)
      rw[htl,Nat.zero_add]at hj
      exact q1 j hj
     ·have:=Stab.place (f:=fun j=>c'[j]?) (o:=len*i.size) q2 l' 0 s3
      rwa[Nat.add_zero,←Nat.zero_add (len*i.size),←htl]at this
     ·have hd:=Stab.drop (len+l'.length) _ _ j6
      simp only[List.length_append,htl,Nat.zero_add]at hd⊢
      exact Stab.eq _ _ (fun j hj _=>q3 j hj) hd
   obtain⟨r1,r2⟩:=upd_row (m:=m) R ho rfl hL j4 hsz' (fun o ho'=>by
    rcases ho' with h|h
    ·rw[hl0]at h;omega
    ·rw[j3]at h
     rw[Array.getElem?_eq_none (by omega),Array.getElem?_eq_none (by omega)]) hob
   simp only[hst,Result.andThen_ok]at hrun
   exact⟨_,_,g,_,.ref i0 i.size 0 (len+l'.length) cap,hrun,⟨L,hL,hl0,by simp⟩,r1,r2,k1 hroom⟩
  ·obtain⟨olds,o2,o3,o4⟩:=ref_olds (P:=P) (cap:=cap) j4 j6 (len:=len) (by omega)
   rw[htl]at o4
   obtain⟨cap',v,w',g',e1,e2,e3,e4,e5⟩:=grow_sound (m:=m) (ty:=ty) (lo:=l.take len) (base:=some ⟨L.blk,0,none⟩) (sCap:=cap) (olds:=olds) R ht hu hdu hi hza hs h0 hid hm (by rw[htl];exact hsm) (by rw[htl];exact hln) o2 o3 (by rw[htl];exact o4) (by rw[htl];omega)
   rw[htl]at e1 e2 e3 e4 e5
   exact⟨v,w',g',_,_,e2,e3,e4,e5,k2 (by omega) cap' e1⟩
theorem Rel.own {g:Ghost} {H:AHeap} {n m:Nat} {w:World} (r:Rel g H n w) {id e:Nat} {l:List AVal} {len cap:Nat} (h0:hget H id=some (.arr e l)) (hm:m≤n) (hlc:l.length=cap) (hle:len≤cap) {v:Value} (hv:VRel g (.ref id e 0 len cap) v):
  ∃g',VRel g' (.sl (.own n e) (l.take len)) v∧Rel g' (hset (hset H id .dead) n .tok) (n+1) w∧Trans m g H w g' (hset (hset H id .dead) n .tok) w:=by
 obtain⟨L,c,t,j1,j2,j3,j4,j5,j6⟩:=r.obj id _ h0
 obtain⟨L',k1,k2,rfl⟩:=hv
 rw[j1]at k1;cases k1
 have hcsz:c.size=cap*e:=by rw[←j5,hlc]
 obtain⟨r1,t1⟩:=r.upd (m:=m) (w':=w) (ob':=.tok) h0 rfl j1 rfl rfl rfl rfl (fun _ _=>rfl) (.inl ⟨c,t,(0,0),c,j4,j4,rfl,fun _ _=>rfl⟩) ⟨L,j1,fun _=>⟨c,t,j4,by rw[j3];exact Nat.le_refl _⟩⟩
 have r1':Rel g (hset H id .tok) (n+1) w:=⟨r1.σw,r1.obj,r1.dom,fun i ob h=>Nat.lt_succ_of_lt (r1.hd i ob h),r1.ap,r1.un,r1.gl,r1.gz⟩
 have hn:hget (hset H id .tok) n=none:=by
  cases hh:hget (hset H id .tok) n with
  |none=>rfl
  |some ob=>exact absurd (r1.hd n ob hh) (Nat.lt_irrefl _)
 have hcell:∀o,w.cell? ⟨L.blk,o,none⟩=c[o]?:=fun o=>cell_of_block j4 o
 have hlt:len*e≤cap*e:=Nat.mul_le_mul_right _ hle
 obtain⟨q1,q2,q3⟩:=r1'.split (m:=m) hn (Nat.lt_succ_self n) hm (L:=⟨L.blk,len*e,cap*e⟩) (H':=hset (hset H id .tok) id .dead)
  (.inr ⟨id,0,rfl,hget_hset_eq _ _ _,by rw[j1];congr 1;cases L;simp only[]at j2 j3⊢;rw[j2,j3,hcsz],Nat.zero_le _⟩)
  (σ':=fun b o=>if b=L.blk∧o<len*e then c[o]? else g.σ b o)
  (fun b o v h=>by
   show(if b=L.blk∧o<len*e then c[o]? else g.σ b o)=some v
   split
   ·rename_i q
    have:=r.σw b o v h
    rw[q.1,hcell]at this;exact this
   ·exact h)
  (fun b o v h=>by
   by_cases q:b=L.blk∧o<len*e
   ·rw[if_pos q]at h
    refine .inr ⟨q.1,q.2,by rw[q.1,hcell];exact h,id,0,rfl,hget_hset_eq _ _ _,by rw[j1];congr 1;cases L;simp only[]at j2 j3⊢;rw[j2,j3,hcsz],Nat.zero_le _,?_⟩
    simp only[];omega
   ·rw[if_neg q]at h;exact .inl h)
 rw[hset_hset]at q1 q2
 refine⟨_,?_,q1,t1.trans q2⟩
 have htl:(l.take len).length=len:=by simp;omega
 refine .inr ⟨trivial,L.blk,0,cap,⟨none,by rw[htl];simp,.inl rfl⟩,by rw[htl];exact hle,?_,?_⟩
 ·simp only[Tok.esz]
  refine Stab.eq (f:=fun o=>c[o]?) _ 0 (fun j _ hj=>?_) (Stab.mono q3 (fun _ _ h=>h) _ _ _ (Stab.take len _ _ j6))
  rw[htl,Nat.zero_add]at hj
  simp only[hj,and_self,if_true]
 ·simp [htl]
end
end Go.AM
end
section
set_option maxRecDepth 20000
set_option linter.all false
namespace Go.AM
def Sim (m:Nat) (g0:Ghost) (H0:AHeap) (w0:World) (N:Nat) (D:DP) (s:AS) (a:Act) (w:World):Prop:=
 ∃g,Rel g s.H s.n w∧EnvRel g s.env a.tmps∧Trans m g0 H0 w0 g s.H w∧m≤s.n∧N≤a.tmps.size∧DOK D g s.H a.defers a.tmps w
def PSim (m:Nat) (g0:Ghost) (H0:AHeap) (w0:World) (D:DP) (ds:List Deferred) (tm:Array Value) (v:AVal) (H:AHeap) (n:Nat) (chain:List PanicEntry) (w:World):Prop:=
 ∃g x,Rel g H n w∧Trans m g0 H0 w0 g H w∧m≤n∧chain=[{v:=x,recovered:=false}]∧VRel g v x∧DOK D g H ds tm w
theorem copd_rel {g:Ghost} {env:List (Nat×Bool×AVal)} {a:Act} (hgl:GlobOK g) (he:EnvRel g env a.tmps) {x:Operand} {x':Opd} (h:copd x=some x') (hok:(lk env x').1=true):VRel g (lkv env x') (a.eval x):=by
 cases x with
 |tmp t=>
  simp only[copd]at h;cases h
  simp only[lk,lkv]at hok⊢
  cases hg:eget env t with
  |none=>simp [hg]at hok
  |some gv=>
   obtain⟨gd,v⟩:=gv
   simp only[hg]at hok⊢
   obtain⟨x,h1,h2,_⟩:=he t gd v hg
   have:a.eval (.tmp t)=x:=by simp [Act.eval,Array.getD_eq_getD_getElem?,h1]
   rw[this];exact h2 hok
 |const v=>
  simp only[copd]at h
  cases hc:cval v with
  |none=>simp [hc]at h
  |some av=>simp [hc]at h;subst h;exact cval_rel hc
 |global i=>
  simp only[copd]at h;cases h
  simp only[lkv,lk]
  cases hi:glob i with
  |none=>rfl
  |some cs=>exact⟨i,0,rfl,hgl i cs hi⟩
 |func f=>simp only[copd]at h;cases h;exact⟨#[], #[],rfl,rfl,rfl⟩
theorem oks_mem {env:List (Nat×Bool×AVal)}:∀{l:List Opd},oks env l→∀x∈l,(lk env x).1=true
 |[],_,_,h=>by cases h
 |y::l,⟨h1,h2⟩,x,h=>by
  rcases List.mem_cons.1 h with rfl|h
  ·exact h1
  ·exact oks_mem h2 x h
theorem eget_cons (t i:Nat) (gv:Bool×AVal) (r:List (Nat×Bool×AVal)):eget ((t,gv)::r) i=if t=i then some gv else eget r i:=rfl
theorem EnvRel.put {g:Ghost} {s:AS} {a:Act} (e:EnvRel g s.env a.tmps) {dst:Option Nat} {gd:Bool} {v:AVal} {x:Value} (hd:∀d,dst=some d→d<a.tmps.size) (h1:gd=true→VRel g v x) (h2:gd=false→x=undef):
  EnvRel g (s.put dst gd v).env (a.put dst x).tmps:=by
 cases dst with
 |none=>exact e
 |some d=>
  intro t gd' v' h
  simp only[AS.put,eget_cons]at h
  simp only[Act.put]
  by_cases ht:d=t
  ·subst ht
   rw[if_pos rfl]at h;cases h
   exact⟨x,by rw[Array.getElem?_setIfInBounds_self_of_lt (hd d rfl)],h1,h2⟩
  ·rw[if_neg ht]at h
   obtain⟨y,k1,k2,k3⟩:=e t gd' v' h
   exact⟨y,by rw[Array.getElem?_setIfInBounds_ne ht];exact k1,k2,k3⟩
theorem put_size (a:Act) (dst:Option Tmp) (x:Value):(a.put dst x).tmps.size=a.tmps.size:=by cases dst<;>simp [Act.put]
theorem put_defers (a:Act) (dst:Option Tmp) (x:Value):(a.put dst x).defers=a.defers:=by cases dst<;>rfl
theorem sput_H (s:AS) (dst:Option Nat) (gd:Bool) (v:AVal):(s.put dst gd v).H=s.H:=by cases dst<;>rfl
theorem sput_n (s:AS) (dst:Option Nat) (gd:Bool) (v:AVal):(s.put dst gd v).n=s.n:=by cases dst<;>rfl
theorem guard_rel {g:Ghost} {env:List (Nat×Bool×AVal)} {a:Act} {ops:Array Oper} {o:Oper} {gd:Option (Nat×Bool)} (he:EnvRel g env a.tmps) (hc:cguard ops o.guard=some gd) (hok:gok env gd):
  Region.wanted o (yielded ops a.tmps)=gvb env gd:=by
 unfold cguard at hc
 unfold Region.wanted
 split at hc
 ·rename_i hg
  cases hc
  simp [hg,gvb]
 ·rename_i j wt hg
  split at hc
  ·rename_i d hd
   cases hc
   simp only[hg,gok,lkv,lk,gvb,yielded,hd,Option.bind_some]at hok⊢
   cases hge:eget env d with
   |none=>simp [hge]at hok
   |some gv=>
    obtain⟨g0,v⟩:=gv
    simp only[hge]at hok⊢
    obtain⟨x,h1,h2,h3⟩:=he d g0 v hge
    rw[h1]
    cases g0 with
    |true=>
     have hok:=hok rfl
     cases v<;>simp only[isB]at hok<;>first|exact hok.elim|skip
     have:=h2 rfl;simp only[VRel]at this;subst this;simp [toB]
    |false=>have:=h3 rfl;subst this;simp [undef]
  ·cases hc
section
variable {P:Program} {r:Option Nat} {m N:Nat} {g0:Ghost} {H0:AHeap} {w0:World} {D:DP} {ops:Array Oper}
theorem dok_put {g:Ghost} {H:AHeap} {a:Act} {w:World} {dst:Option Nat} {x:Value} (hD:DOK D g H a.defers a.tmps w) (hd:∀d,dst=some d→d<N∧D.lo≤d):DOK D g H a.defers (a.put dst x).tmps w:=by
 cases dst with
 |none=>exact hD
 |some d=>exact hD.put (hd d rfl).2
theorem sim_put {s s1:AS} {a:Act} {g:Ghost} {w w':World} {base:Nat} {dst:Option Nat} {gd:Bool} {v:AVal} {x:Value} (hR0:Trans m g0 H0 w0 g s.H w) (hn:m≤s1.n) (hb:m≤base) (he:EnvRel g s.env a.tmps) (henv:s1.env=s.env) (hN:N≤a.tmps.size) (hD:DOK D g s.H a.defers a.tmps w)
  (hd:∀d,dst=some d→d<N∧D.lo≤d) {g':Ghost} (r1:Rel g' s1.H s1.n w') (t1:Trans base g s.H w g' s1.H w') (hv:gd=true→VRel g' v x) (hu:gd=false→x=undef):
  Sim m g0 H0 w0 N D (s1.put dst gd v) (a.put dst x) w':=
 ⟨g',by rw[sput_H,sput_n];exact r1,by
  have he':EnvRel g' s1.env a.tmps:=by rw[henv];exact he.mono t1.le
  exact he'.put (fun d h=>Nat.lt_of_lt_of_le (hd d h).1 hN) hv hu,by rw[sput_H];exact hR0.trans (t1.floor hb),by rw[sput_n];exact hn,by rw[put_size];exact hN,by rw[put_defers,sput_H];exact(dok_put hD hd).step t1⟩
theorem semAt_exec {o:Oper} (h:∀c,o.op≠ .defer c) (ro:Option Nat) (ρ:Operand→Value):o.semAt ro ρ=execOp ρ o:=Oper.semAt_eq ro ρ o h
theorem copK_noDefer {mkv imp:Bool} {i:Nat} {op:Op} {k:AOpK} (h:copK P mkv imp i op=some k):∀c,op≠ .defer c:=by
 rintro c rfl
 simp [copK,copk]at h
theorem wpOp_run {o:Oper} {a:Act} {w w':World} {i:Nat} {K:Act→World→Prop} {Q:Exit→Act→World→Prop} {nx:Next} (ho:ops[i]?=some o) (hw:Region.wanted o (yielded ops a.tmps)=true) (hnd:∀c,o.op≠ .defer c)
  (hrun:(execOp a.eval o).run P w= .ok nx w') (h:o.uponIn (FR r) 0 P a K Q (.ok nx w')):wpOpIn (FR r) 0 P ops Q i K a w:=by
 unfold wpOpIn
 simp only[ho,hw,if_true]
 refine⟨fun _ _=>trivial,?_⟩
 have:(o.semAt (FR r).round a.eval).run P w= .ok nx w':=by rw[semAt_exec hnd];exact hrun
 rw[this];exact h
theorem wpOp_skip {o:Oper} {a:Act} {w:World} {i:Nat} {K:Act→World→Prop} {Q:Exit→Act→World→Prop} (ho:ops[i]?=some o) (hw:Region.wanted o (yielded ops a.tmps)=false)
  (h:K (a.put o.dst undef) w):wpOpIn (FR r) 0 P ops Q i K a w:=by
 unfold wpOpIn
 simp only[ho,hw,Bool.false_eq_true,if_false]
 exact⟨fun _ _=>trivial,h⟩
theorem run_call {o:Oper} {a:Act} {w:World} {f:Operand} {args:Array Operand} {ts:Array TypeId} {fid:FuncId} {first cap:Array Value} (ho:o.op= .call {callee:=.value f,args,argTypes:=ts}) (hf:a.eval f= .func (.func fid) first cap) (hc:Callable P fid):
  (execOp a.eval o).run P w= .ok (.enter fid (first++args.map a.eval++cap)) w:=by
 obtain⟨fn,h1,h2,h3⟩:=hc
 have h3':¬fn.name= "runtime.NumGoroutine" :=by simpa using h3
 have h4:¬fn.body=none:=by cases hb:fn.body<;>simp_all
 simp [execOp,ho,resolve,hf,Deferred.ofValue,invoke,callFunc,h1,h3',h4]
theorem VRels.append' {g:Ghost} {as bs:List AVal} {vs us:List Value} (h:VRels g as vs) (k:VRels g bs us):VRels g (as++bs) (vs++us):=VRels.append as vs bs us h k
theorem step_sound {Qp:AVal→AHeap→Nat→Prop} {base i:Nat} {mkv imp:Bool} {o:Oper} {gd:Option (Nat×Bool)} {k:AOpK} {K:AS→Prop} {Kc:Act→World→Prop} {Qc:Exit→Act→World→Prop} {s:AS} {a:Act} {w:World}
  (ho:ops[i]?=some o) (hg:cguard ops o.guard=some gd) (hk:copK P mkv imp i o.op=some k) (hstep:stepOp P Qp base ⟨o.dst,gd,k⟩ K s) (hsim:Sim m g0 H0 w0 N D s a w) (hb:m≤base)
  (hbn:k.news=true→base+i<s.n) (hd:∀d,o.dst=some d→d<N∧D.lo≤d)
  (hK:∀s' a' w',K s'→Sim m g0 H0 w0 N D s' a' w'→s.n≤s'.n→Kc a' w')
  (hQ:∀v H' n' chain a' w',Qp v H' n'→PSim m g0 H0 w0 D a'.defers a'.tmps v H' n' chain w'→Qc (.panic chain) a' w'):wpOpIn (FR r) 0 P ops Qc i Kc a w:=by
 obtain⟨g,hR,hE,hT,hmn,hN,hD⟩:=hsim
 obtain⟨hgok,hst⟩:=hstep
 have hw:=guard_rel hE hg hgok
 have hnd:=copK_noDefer hk
 have skip:gvb s.env gd=false→∀v,K (s.put o.dst false v)→wpOpIn (FR r) 0 P ops Qc i Kc a w:=fun h v hKs=>
  wpOp_skip ho (by rw[hw,h]) (hK _ _ _ hKs (sim_put (s:=s) (s1:=s) (base:=base) hT hmn hb hE rfl hN hD hd hR (Trans.refl _ _ _ _) (by simp) (fun _=>rfl)) (by rw[sput_n];exact Nat.le_refl _))
 have fin:∀{s1:AS} {v:AVal} {x:Value} {w':World} {g':Ghost},gvb s.env gd=true→s1.env=s.env→s1.n=s.n→(execOp a.eval o).run P w= .ok (.value x) w'→VRel g' v x→Rel g' s1.H s1.n w'→Trans base g s.H w g' s1.H w'→K (s1.put o.dst true v)→
   wpOpIn (FR r) 0 P ops Qc i Kc a w:=by
  intro s1 v x w' g' hgv henv hn1 hrun hv r1 t1 hKs
  refine wpOp_run ho (by rw[hw,hgv]) hnd hrun ?_
  exact hK _ _ _ hKs (sim_put (s:=s) (s1:=s1) (base:=base) hT (by omega) hb hE henv hN hD hd r1 t1 (fun _=>hv) (by simp)) (by rw[sput_n,hn1];exact Nat.le_refl _)
 have finH:∀{H':AHeap} {v:AVal} {x:Value} {w':World} {g':Ghost},gvb s.env gd=true→(execOp a.eval o).run P w= .ok (.value x) w'→VRel g' v x→Rel g' H' s.n w'→Trans base g s.H w g' H' w'→K ({s with H:=H'}.put o.dst true v)→
   wpOpIn (FR r) 0 P ops Qc i Kc a w:=fun{H'} _ _ _ _ h1 h2 h3 h4 h5 h6=>fin (s1:={s with H:=H'}) h1 rfl rfl h2 h3 h4 h5 h6
 have opv:∀{l:List Opd},oks s.env l→∀x x',copd x=some x'→x'∈l→VRel g (lkv s.env x') (a.eval x):=fun hoks x x' e hm=>copd_rel hR.gl hE e (oks_mem hoks x' hm)
 have callv:∀{f:Operand} {f':Opd} {args:Array Operand} {ts:Array TypeId} {xs:List Opd},o.op= .call {callee:=.value f,args,argTypes:=ts}→copd f=some f'→copds args.toList=some xs→(lk s.env f').1=true→oks s.env xs→
   ∀{fid:FuncId} {first cap:List AVal},lkv s.env f'= .fn (.func fid) first cap→∃fv cv,a.eval f= .func (.func fid) fv cv∧VRels g (first++xs.map (lkv s.env)++cap) (fv++args.map a.eval++cv).toList:=by
  intro f f' args ts xs h1 h2 h3 h4 h5 fid first cap h6
  have hf:=copd_rel hR.gl hE h2 h4
  rw[h6]at hf
  obtain⟨fv,cv,e1,k1,k2⟩:=hf
  refine⟨fv,cv,e1,?_⟩
  have:=copds_rel (g:=g) (ρ:=a.eval) (ρ':=lkv s.env) args.toList xs h3 (fun x x' e hm=>copd_rel hR.gl hE e (oks_mem h5 x' hm))
  simp only[Array.toList_append,Array.toList_map]
  exact VRels.append' (VRels.append' k1 this) k2
 by_cases hgv:gvb s.env gd=true
 case neg=>
  have hgv:gvb s.env gd=false:=by simpa using hgv
  cases k with
  |v k=>simp only[hgv]at hst;exact skip hgv _ hst.2
  |pick c x y=>simp only[hgv]at hst;exact skip hgv _ hst.2
  |call q f xs=>cases q with
   |true=>obtain⟨v,_,h2⟩:=hst;rw[hgv]at h2;exact skip hgv _ h2
   |false=>exact skip hgv _ (hst.2 hgv)
  |alloc rel cs=>exact skip hgv _ (hst.2 hgv)
  |box rel sz x=>exact skip hgv _ (hst.2 hgv)
  |st sz x y=>exact skip hgv _ (hst.2 hgv)
  |app rel e b x y st=>exact skip hgv _ (hst.2 hgv)
  |mks rel e b z x=>exact skip hgv _ (hst.2 hgv)
  |pan x=>exact skip hgv _ (hst.2 hgv)
  |slA nn x lo hi=>exact skip hgv _ (hst.2 hgv)
  |ext x xs=>exact skip hgv _ (hst.2 hgv)
  |appR rel e b z x y st=>exact skip hgv _ (hst.2 hgv)
  |nils nq x=>exact skip hgv _ (hst.2 hgv)
  |cpu f xs=>exact skip hgv _ (hst.2 hgv)
  |mnx x=>exact skip hgv _ (hst.2 hgv)
 case pos=>
 have value:∀{k':Opk},copk P mkv o.op=some k'→k= .v k'→wpOpIn (FR r) 0 P ops Qc i Kc a w:=by
  intro k' h1 h2
  subst h2
  obtain⟨hs,hKs⟩:=hst
  rw[hgv]at hKs
  obtain⟨hoks,hside⟩:=hs hgv
  obtain⟨x,w',g',q1,q2,q3,q4⟩:=copk_sound (m:=base) hR h1 (opv hoks) hside
  exact fin (s1:=s) hgv rfl rfl q1 q2 q3 q4 hKs
 have other:copK P mkv imp i o.op=(copk P mkv o.op).map .v→wpOpIn (FR r) 0 P ops Qc i Kc a w:=by
  intro e
  rw[e]at hk
  cases h1:copk P mkv o.op with
  |none=>simp [h1]at hk
  |some k'=>simp [h1]at hk;exact value h1 hk.symm
 have mksv:∀{t e:TypeId} {inf:TypeInfo} {z:AVal} {sz:Nat} {x:Operand} {x':Opd} {l c:Operand},o.op= .makeSlice t l c→l=x→c=x→copd x=some x'→P.underlying t=some (.slice e)→P.info? e=some inf→zeroT P e=some z→szT P e=some sz→k= .mks i sz inf.bytes z x'→
   wpOpIn (FR r) 0 P ops Qc i Kc a w:=by
  intro t e inf z sz x x' l c hop e1 e2 e3 h1 h2 h3 h4 h5
  subst e1;subst e2;subst h5
  obtain⟨hoks,q1,q2,q3,q4,q5,q6,hKs⟩:=hst.1 hgv
  have hid:base+i<s.n:=hbn rfl
  obtain⟨v,w',g',p1,p2,p3,p4,p5⟩:=mks_sound (m:=base) hR h1 h2 h3 h4 (opv hoks c x' e3 (by simp [AOpK.opds])) q1 hid (Nat.le_add_right _ _) q2 q3 q4 q5
  exact finH hgv (by simp [execOp,hop,p1]) p2 p3 p4 hKs
 have put:∀{t:TypeId} {mm kk x:Operand},cput P t mm kk x=some k→(execOp a.eval o).run P w=((Instr.mapUpdate t (a.eval mm) (a.eval kk) (a.eval x)).run P w).andThen (fun _ w'=>.ok .skip w')→wpOpIn (FR r) 0 P ops Qc i Kc a w:=by
  intro t mm kk x hk hex
  unfold cput at hk
  split at hk
  ·rename_i kt e m' k' x' hu h1 h2 h3
   cases hkt:ktT P kt with
   |none=>simp [hkt]at hk
   |some kq=>
    simp [hkt]at hk
    subst hk
    obtain⟨hoks,q1,q2⟩:=hst.1 hgv
    simp only[List.map_cons,List.map_nil]at q1 q2
    obtain⟨w',p1,p2,p3,p4⟩:=mput_sound (m:=base) hR hu hkt (opv hoks mm m' h1 (by simp [AOpK.opds])) (opv hoks kk k' h2 (by simp [AOpK.opds])) (opv hoks x x' h3 (by simp [AOpK.opds])) q1
    rw[p2]at q2
    refine wpOp_run ho (by rw[hw,hgv]) hnd (nx:=.skip) (w':=w') (by rw[hex,p1];rfl) ?_
    exact hK _ _ _ q2 (sim_put (s:=s) (s1:={s with H:=_}) (base:=base) hT hmn hb hE rfl hN hD hd p3 p4 (fun _=>⟨#[],rfl,rfl⟩) (by simp)) (by rw[sput_n];exact Nat.le_refl _)
  ·cases hk
 cases hop:o.op
 case pick c x y=>
  simp only[hop,copK]at hk
  split at hk
  ·rename_i c' x' y' h1 h2 h3
   cases hk
   obtain⟨hs,hKs⟩:=hst
   rw[hgv]at hKs
   obtain⟨hc1,hc2,hc3,hc4⟩:=hs hgv
   obtain⟨bv,e1,e2⟩:=isB_spec hc2 (copd_rel hR.gl hE h1 hc1)
   have hpick:(execOp a.eval o).run P w= .ok (.value (if bv then a.eval x else a.eval y)) w:=by simp [execOp,hop,e2,asBool]
   rw[e1]at hc3 hc4 hKs
   simp only[toB]at hc3 hc4 hKs
   have hsel:∀(p q:AVal),(bv=true→VRel g p (a.eval x))→(bv=false→VRel g q (a.eval y))→VRel g (sel bv p q) (if bv then a.eval x else a.eval y):=by
    intro p q hp hq
    cases bv with
    |true=>cases p<;>cases q<;>simpa [sel]using hp rfl
    |false=>cases p<;>cases q<;>simpa [sel]using hq rfl
   exact fin (s1:=s) hgv rfl rfl hpick (hsel _ _ (fun hb=>copd_rel hR.gl hE h2 (hc3 hb)) (fun hb=>copd_rel hR.gl hE h3 (hc4 hb))) hR (Trans.refl _ _ _ _) hKs
  ·cases hk
 case alloc t=>
  simp only[hop,copK]at hk
  cases hz:zeroT P t with
  |none=>simp [hz]at hk
  |some z=>
   simp [hz]at hk
   subst hk
   obtain⟨hoks,q1,hKs⟩:=hst.1 hgv
   have hid:base+i<s.n:=hbn rfl
   obtain⟨w',g',p1,p2,p3,p4,p5⟩:=alloc_sound (m:=base) hR q1 hid (Nat.le_add_right _ _) hz
   exact finH hgv (by simp [execOp,hop,p1]) p5 p2 p3 hKs
 case box t x=>
  simp only[hop,copK]at hk
  split at hk
  ·rename_i sz x' h1 h2
   cases hk
   obtain⟨hoks,q1,q2,q3,hKs⟩:=hst.1 hgv
   have hid:base+i<s.n:=hbn rfl
   obtain⟨w',g',p1,p2,p3,p4,p5⟩:=box_sound (m:=base) (t:=t) (P:=P) hR q1 hid (Nat.le_add_right _ _) (opv hoks x x' h2 (by simp [AOpK.opds])) q2
   exact finH hgv (by simp [execOp,hop,p1]) p5 p2 p3 hKs
  ·cases hk
 case store t ad x=>
  simp only[hop,copK]at hk
  split at hk
  ·rename_i sz ad' x' h1 h2 h3
   cases hk
   obtain⟨hoks,q1,q2,q3⟩:=hst.1 hgv
   have hst':stAt s.H sz (lkv s.env x') (fun H'=>K ({s with H:=H'}.put o.dst true (.tup []))) (lkv s.env ad'):=by
    generalize lkv s.env ad'=av at q3⊢
    cases av<;>exact q3
   obtain⟨H',w',p1,p2,p3,p4⟩:=st_sound (m:=base) hR h1 (opv hoks ad ad' h2 (by simp [AOpK.opds])) (opv hoks x x' h3 (by simp [AOpK.opds])) q1 q2 hst'
   refine wpOp_run ho (by rw[hw,hgv]) hnd (nx:=.skip) (w':=w') (by simp [execOp,hop,p1]) ?_
   exact hK _ _ _ p2 (sim_put (s:=s) (s1:={s with H:=H'}) (base:=base) hT hmn hb hE rfl hN hD hd p3 p4 (fun _=>⟨#[],rfl,rfl⟩) (by simp)) (by rw[sput_n];exact Nat.le_refl _)
  ·cases hk
 case slice t x lo hi mx=>
  by_cases hp:∃n e,P.underlying t=some (.array n e)
  ·obtain⟨nn,e,hu⟩:=hp
   simp only[hop,copK,hu]at hk
   split at hk
   ·rename_i x' l' h' h2 h3 h4
    split at hk
    ·rename_i hsz
     cases hk
     obtain⟨hoks,b1,b2,q3⟩:=hst.1 hgv
     have hvx:=opv hoks x x' h2 (by simp [AOpK.opds])
     have hvo:∀y y',copd y=some y'→(l'=some y'∨h'=some y')→VRel g (lkv s.env y') (a.eval y):=fun y y' e1 e2=>opv hoks y y' e1 (by rcases e2 with rfl|rfl<;>simp [AOpK.opds])
     obtain⟨v,H',v',p1,p2,p3,p4,p5⟩:=slA_sound (m:=base) hR hu hsz h3 h4 hvx hvo b1 b2 q3
     exact finH hgv (by simp [execOp,hop,p1]) p2 p3 p4 p5
    ·cases hk
   ·cases hk
  ·refine other ?_
   rw[hop]
   simp only[copK]
   split
   ·rename_i nn e hu;exact absurd ⟨nn,e,hu⟩ hp
   ·rfl
 case makeSlice t l c=>
  cases mkv with
  |true=>exact other (by rw[hop];simp [copK])
  |false=>
   rw[hop]at hk
   cases l<;>cases c<;>(try (simp [copK]at hk;done))
   ·rename_i l c
    simp only[copK,Bool.false_eq_true,if_false]at hk
    split at hk
    ·rename_i hlc
     subst hlc
     split at hk
     ·rename_i e hu
      split at hk
      ·rename_i inf z sz h1 h2 h3
       cases hk
       exact mksv hop rfl rfl rfl hu h1 h2 h3 rfl
      ·cases hk
     ·cases hk
    ·cases hk
   ·rename_i l c
    cases l<;>(try (simp [copK]at hk;done))
    rename_i kl nl
    cases kl<;>(try (simp [copK]at hk;done))
    cases c<;>(try (simp [copK]at hk;done))
    rename_i kc nc
    cases kc<;>(try (simp [copK]at hk;done))
    simp only[copK,Bool.false_eq_true,if_false]at hk
    split at hk
    ·rename_i hlc
     subst hlc
     split at hk
     ·rename_i e hu
      split at hk
      ·rename_i inf z sz h1 h2 h3
       cases hk
       exact mksv hop rfl rfl (x':=.c (.int .i64 nl)) (by simp [copd,cval,cscal]) hu h1 h2 h3 rfl
      ·cases hk
     ·cases hk
    ·cases hk
 case panic x=>
  simp only[hop,copK]at hk
  cases hx:copd x with
  |none=>simp [hx]at hk
  |some x'=>
   simp [hx]at hk
   subst hk
   obtain⟨hoks,q1,q2⟩:=hst.1 hgv
   have hv:=opv hoks x x' hx (by simp [AOpK.opds])
   generalize hA:lkv s.env x'=av at q1 q2 hv
   cases av<;>simp only[isF]at q1<;>first|exact q1.elim|skip
   rename_i t v
   obtain⟨y,e1,k1⟩:=hv
   have hrun:(execOp a.eval o).run P w= .halt (.panic (.iface t y)) w:=by
    simp [execOp,hop,e1,Instr.panic,goPanic]
   unfold wpOpIn
   simp only[ho,hw,hgv,if_true]
   refine⟨fun _ _=>trivial,?_⟩
   have:(o.semAt (FR r).round a.eval).run P w= .halt (.panic (.iface t y)) w:=by rw[semAt_exec hnd];exact hrun
   rw[this]
   exact hQ _ _ _ _ _ _ q2 ⟨g,.iface t y,hR,hT,hmn,rfl,⟨y,rfl,k1⟩,hD⟩
 case call c=>
  obtain⟨callee,args,ts⟩:=c
  cases callee
  case invoke rv mt=>rw[hop]at hk;simp [copK,copk]at hk
  case value f=>
   simp only[hop,copK]at hk
   split at hk
   ·rename_i f' xs h1 h2
    by_cases hmi:(mkv&&imp)=true
    ·rw[if_pos hmi]at hk
     cases hk
     obtain⟨hoks,q3⟩:=hst.1 hgv
     obtain⟨q1,q2⟩:=hoks
     simp only[effOp]at q3
     generalize hA:lkv s.env f'=fv at q3
     cases fv<;>(try simp only[]at q3)<;>first|exact q3.elim|skip
     rename_i ff first cap
     cases ff<;>(try simp only[]at q3)<;>first|exact q3.elim|skip
     rename_i fid
     obtain⟨v,hpur,hKs⟩:=q3
     obtain⟨fv,cv,e1,e2⟩:=callv hop h1 h2 q1 q2 hA
     obtain⟨hcb,hq⟩:=hpur.quiet s.H s.n
     refine wpOp_run ho (by rw[hw,hgv]) hnd (run_call hop e1 hcb) ?_
     refine⟨by simp [FR,Fence.wide],?_⟩
     have hcalls:=hq g w _ hR e2
     simp only[Array.toArray_toList]at hcalls
     refine(callsIn_wide (n:=0-1)).2 (hcalls.mono ?_)
     rintro e w' ⟨g',out,H',n',⟨rfl,rfl,rfl⟩,he,r1,_,t1⟩
     cases e with
     |panicked ch=>exact he.elim
     |outgrown=>exact he.elim
     |returned x=>
      exact hK _ _ _ hKs (sim_put (s:=s) (s1:=s) (base:=s.n) hT hmn hmn hE rfl hN hD hd r1 t1 (fun _=>he) (by simp)) (by rw[sput_n];exact Nat.le_refl _)
    rw[if_neg hmi]at hk
    cases hk
    cases imp with
    |false=>
     simp only[Bool.not_false]at hst
     obtain⟨v,hs,hKs⟩:=hst
     rw[hgv]at hKs
     obtain⟨q1,q2,q3⟩:=hs hgv
     generalize hA:lkv s.env f'=fv at q3
     cases fv<;>(try simp only[]at q3)<;>first|exact q3.elim|skip
     rename_i ff first cap
     cases ff<;>(try simp only[]at q3)<;>first|exact q3.elim|skip
     rename_i fid
     obtain⟨fv,cv,e1,e2⟩:=callv hop h1 h2 q1 q2 hA
     obtain⟨hcb,hq⟩:=q3
     refine wpOp_run ho (by rw[hw,hgv]) hnd (run_call hop e1 hcb) ?_
     refine⟨by simp [FR,Fence.wide],?_⟩
     have hcalls:=hq g w _ hR e2
     simp only[Array.toArray_toList]at hcalls
     refine(callsIn_wide (n:=0-1)).2 (hcalls.mono ?_)
     rintro e w' ⟨g',out,H',n',⟨rfl,rfl,rfl⟩,he,r1,_,t1⟩
     cases e with
     |panicked ch=>exact he.elim
     |outgrown=>exact he.elim
     |returned x=>
      exact hK _ _ _ hKs (sim_put (s:=s) (s1:=s) (base:=s.n) hT hmn hmn hE rfl hN hD hd r1 t1 (fun _=>he) (by simp)) (by rw[sput_n];exact Nat.le_refl _)
    |true=>
     simp only[Bool.not_true]at hst
     obtain⟨hoks,q3⟩:=hst.1 hgv
     obtain⟨q1,q2⟩:=hoks
     simp only[effOp]at q3
     generalize hA:lkv s.env f'=fv at q3
     cases fv<;>(try simp only[]at q3)<;>first|exact q3.elim|skip
     rename_i ff first cap
     by_cases hy:∃l,ff= .yield l
     ·obtain⟨l,rfl⟩:=hy
      cases first with
      |cons _ _=>exact q3.elim
      |nil=>cases cap with
       |cons _ _=>exact q3.elim
       |nil=>
        have hf:=copd_rel hR.gl hE h1 q1
        rw[hA]at hf
        obtain⟨x',c',e1,k1,k2⟩:=hf
        have e2:x'= #[]:=by apply Array.ext';simpa [VRels]using k1
        have e3:c'= #[]:=by apply Array.ext';simpa [VRels]using k2
        subst e2;subst e3
        have hargs:=copds_rel (g:=g) (ρ:=a.eval) (ρ':=lkv s.env) args.toList xs h2 (fun x x' e hm=>copd_rel hR.gl hE e (oks_mem q2 x' hm))
        obtain⟨f2,tmps,as,bd,r1,r2⟩:=q3 r g w _ hR hargs
        have hrun:(execOp a.eval o).run P w= .ok (.round l f2 tmps as bd) w:=by
         have:(execOp a.eval o).run P w=(Instr.yield l (args.map a.eval)).run P w:=by
          simp [execOp,hop,resolve,e1,Deferred.ofValue,invoke]
         rw[this,←r1];congr 2;apply Array.ext';simp
        refine wpOp_run ho (by rw[hw,hgv]) hnd hrun ?_
        rw[Oper.uponIn_round]
        refine⟨by simp [FR,Fence.wide],r2.mono ?_⟩
        rintro e w' ⟨b,g',H',n',rfl,hr,p1,hn',p2⟩
        exact hK _ _ _ hr (sim_put (s:=s) (s1:={s with H:=H',n:=n'}) (base:=s.n) hT (by simp only[];omega) hmn hE rfl hN hD hd p1 p2 (fun _=>rfl) (by simp)) (by rw[sput_n];exact hn')
     cases ff<;>(try simp only[]at q3)<;>first|exact q3.elim|exact absurd ⟨_,rfl⟩ hy|skip
     rename_i fid
     obtain⟨fv,cv,e1,e2⟩:=callv hop h1 h2 q1 q2 hA
     obtain⟨hcb,hq⟩:=q3
     refine wpOp_run ho (by rw[hw,hgv]) hnd (run_call hop e1 hcb) ?_
     refine⟨by simp [FR,Fence.wide],?_⟩
     have hcalls:=hq g w _ hR e2
     simp only[Array.toArray_toList]at hcalls
     refine(callsIn_wide (n:=0-1)).2 (hcalls.mono ?_)
     rintro e w' ⟨g',out,H',n',hr,he,r1,hn',t1⟩
     cases e with
     |outgrown=>cases out<;>exact he.elim
     |panicked ch=>
      cases out with
      |ret v=>exact he.elim
      |pan v=>
       obtain⟨x,rfl,k1⟩:=he
       exact hQ _ _ _ _ _ _ hr ⟨g',x,r1,hT.trans (t1.floor hmn),by omega,rfl,k1,hD.step t1⟩
     |returned x=>
      cases out with
      |pan v=>exact he.elim
      |ret v=>exact hK _ _ _ hr (sim_put (s:=s) (s1:={s with H:=H',n:=n'}) (base:=s.n) hT (by simp only[];omega) hmn hE rfl hN hD hd r1 t1 (fun _=>he) (by simp)) (by rw[sput_n];exact hn')
   ·cases hk
  case builtin b=>
   cases b
   case append=>
    simp only[hop,copK]at hk
    split at hk
    ·rename_i t u x y hts hargs
     have e1:ts= #[t,u]:=by apply Array.ext';simpa using hts
     have e2:args= #[x,y]:=by apply Array.ext';simpa using hargs
     subst e1;subst e2
     split at hk
     ·rename_i e x' y' hu hx hy
      have srcv:∀{inf:TypeInfo} {str:Bool} {l':List AVal},(str=true→inf.size=1)→VRel g (lkv s.env y') (a.eval y)→srcOf s.H (lkv s.env) inf.size y' str=some l'→Src P g w inf.size l' (a.eval y):=by
       intro inf str l' h6 hvy hB
       cases str with
       |true=>
        simp only[srcOf]at hB
        generalize lkv s.env y'=yv at hB hvy
        cases yv<;>(try simp only[]at hB)<;>first|(cases hB;done)|skip
        cases hB
        rw[h6 rfl];exact src_str hvy
       |false=>
        simp only[srcOf]at hB
        generalize lkv s.env y'=yv at hB hvy
        cases yv<;>(try simp only[]at hB)<;>first|(cases hB;done)|skip
        ·split at hB
         ·rename_i hc;cases hB;exact src_sl hR hvy hc
         ·cases hB
        ·split at hB
         ·rename_i ho
          split at hB
          ·rename_i hc
           obtain⟨c1,c2,c3⟩:=hc
           subst c1;subst c2
           cases hB;exact src_ref hR hvy ho c3
          ·cases hB
         ·cases hB
      have appr:∀{inf:TypeInfo} {za:AVal} {du:TypeDesc} {str:Bool},P.info? e=some inf→zeroT P e=some za→P.underlying u=some du→(∀k,du≠ .int k)→k= .appR i inf.size inf.bytes za x' y' str→(str=true→inf.size=1)→
        wpOpIn (FR r) 0 P ops Qc i Kc a w:=by
       intro inf za du str h1 h2 h3 h4 h5 h6
       subst h5
       obtain⟨hoks,q⟩:=hst.1 hgv
       have hid:base+i<s.n:=hbn rfl
       have hvx:=opv hoks x x' hx (by simp [AOpK.opds])
       have hvy:=opv hoks y y' hy (by simp [AOpK.opds])
       simp only[effOp]at q
       obtain⟨v,w',g',H',v',p1,p2,p3,p4,p5⟩:=appR_sound (m:=base) (ty:=o.type) (K:=fun H' v=>K ({s with H:=H'}.put o.dst true v)) hR hu h3 h4 h1 h2 hvx (fun l' hl'=>srcv h6 hvy hl') hid (Nat.le_add_right _ _) q
       exact finH hgv (by simp [execOp,hop,resolve,invoke,builtin,p1]) p2 p3 p4 p5
      have app:∀{inf:TypeInfo} {za:AVal} {du:TypeDesc} {str:Bool},P.info? e=some inf→zeroT P e=some za→P.underlying u=some du→(∀k,du≠ .int k)→k= .app i inf.size inf.bytes x' y' str→(str=true→inf.size=1)→
        wpOpIn (FR r) 0 P ops Qc i Kc a w:=by
       intro inf za du str h1 h2 h3 h4 h5 h6
       subst h5
       obtain⟨hoks,q⟩:=hst.1 hgv
       have hid:base+i<s.n:=hbn rfl
       have hvx:=opv hoks x x' hx (by simp [AOpK.opds])
       have hvy:=opv hoks y y' hy (by simp [AOpK.opds])
       simp only[effOp]at q
       generalize hA:lkv s.env x'=av at q hvx
       generalize hB:srcOf s.H (lkv s.env) inf.size y' str=bv at q
       cases av<;>(try simp only[]at q)<;>first|exact q.elim|skip
       rename_i tok l
       cases bv<;>(try simp only[]at q)<;>first|exact q.elim|skip
       rename_i l'
       obtain⟨q1,q2,q3,q4,q5,hKs⟩:=q
       have hsrc:Src P g w inf.size l' (a.eval y):=by
        cases str with
        |true=>
         simp only[srcOf]at hB
         generalize lkv s.env y'=yv at hB hvy
         cases yv<;>(try simp only[]at hB)<;>first|(cases hB;done)|skip
         cases hB
         rw[h6 rfl];exact src_str hvy
        |false=>
         simp only[srcOf]at hB
         generalize lkv s.env y'=yv at hB hvy
         cases yv<;>(try simp only[]at hB)<;>first|(cases hB;done)|skip
         ·split at hB
          ·rename_i hc;cases hB;exact src_sl hR hvy hc
          ·cases hB
         ·split at hB
          ·rename_i ho
           split at hB
           ·rename_i hc
            obtain⟨c1,c2,c3⟩:=hc
            subst c1;subst c2
            cases hB;exact src_ref hR hvy ho c3
           ·cases hB
          ·cases hB
       obtain⟨v,w',g',p1,p2,p3,p4,p5⟩:=app_sound (m:=base) (ty:=o.type) hR hu h3 h4 h1 h2 hvx hsrc q1 hid (Nat.le_add_right _ _) q2 q3 q4
       exact finH hgv (by simp [execOp,hop,resolve,invoke,builtin,p1]) p2 p3 p4 hKs
      split at hk
      ·rename_i inf za h1 h2 h3
       split at hk
       ·rename_i hs1
        cases mkv with
        |true=>cases hk;exact appr h1 h2 h3 (by simp) rfl (fun _=>hs1)
        |false=>cases hk;exact app h1 h2 h3 (by simp) rfl (fun _=>hs1)
       ·cases hk
      ·rename_i inf za e' h1 h2 h3
       split at hk
       ·cases mkv with
        |true=>cases hk;exact appr h1 h2 h3 (by simp) rfl (by simp)
        |false=>cases hk;exact app h1 h2 h3 (by simp) rfl (by simp)
       ·cases hk
      ·cases hk
     ·cases hk
    ·cases hk
   case len=>
    by_cases hp:∃t x kt e,ts.toList=[t]∧args.toList=[x]∧P.underlying t=some (.map kt e)
    ·obtain⟨t,x,kt,e,hts,hargs,hu⟩:=hp
     have e1:ts= #[t]:=by apply Array.ext';simpa using hts
     have e2:args= #[x]:=by apply Array.ext';simpa using hargs
     subst e1;subst e2
     simp only[hop,copK,hu]at hk
     cases hx:copd x with
     |none=>simp [hx]at hk
     |some x'=>
      simp [hx]at hk
      subst hk
      obtain⟨hoks,q1,q2⟩:=hst.1 hgv
      simp only[List.map_cons,List.map_nil]at q1 q2
      obtain⟨p1,v,p2,p3⟩:=mlen_sound (ty:=o.type) hR hu (opv hoks x x' hx (by simp [AOpK.opds])) q1
      rw[p1]at q2
      exact finH hgv (by simp [execOp,hop,resolve,invoke,builtin,p2]) p3 hR (Trans.refl _ _ _ _) q2
    ·cases hts:ts.toList with
     |nil=>rw[hop]at hk;simp [copK,hts]at hk
     |cons t tr=>
      cases tr with
      |cons _ _=>rw[hop]at hk;simp [copK,hts]at hk
      |nil=>
       cases hargs:args.toList with
       |nil=>rw[hop]at hk;simp [copK,hts,hargs]at hk
       |cons x xr=>
        cases xr with
        |cons _ _=>rw[hop]at hk;simp [copK,hts,hargs]at hk
        |nil=>
         refine other ?_
         rw[hop]
         simp only[copK,hts,hargs]
         split
         ·rename_i kt e hu;exact absurd ⟨t,x,kt,e,hts,hargs,hu⟩ hp
         ·rfl
   all_goals exact other (by rw[hop];first|rfl|simp [copK])
 case makeMap t r=>
  cases r with
  |some r=>rw[hop]at hk;simp [copK,copk]at hk
  |none=>
   simp only[hop,copK]at hk
   split at hk
   ·rename_i kt e hu
    cases hk
    obtain⟨hoks,q1,q2⟩:=hst.1 hgv
    simp only[List.map_nil,xE]at q1 q2
    have hid:base+i<s.n:=hbn rfl
    obtain⟨v,w',g',p1,p2,p3,p4⟩:=mkm_sound (m:=base) (P:=P) hR q1 hid (Nat.le_add_right _ _) t
    exact finH hgv (by simp [execOp,hop,p1]) p2 p3 p4 q2
   ·cases hk
 case lookup t x ix ok=>
  simp only[hop,copK]at hk
  split at hk
  ·rename_i kt e x' ix' hu hx hix
   split at hk
   ·rename_i kk z h1 h2
    cases hk
    obtain⟨hoks,q1,q2⟩:=hst.1 hgv
    simp only[List.map_cons,List.map_nil]at q1 q2
    obtain⟨p1,v,p2,p3⟩:=look_sound hR hu h1 h2 (opv hoks x x' hx (by simp [AOpK.opds])) (opv hoks ix ix' hix (by simp [AOpK.opds])) q1
    rw[p1]at q2
    exact finH hgv (by simp [execOp,hop,p2]) p3 hR (Trans.refl _ _ _ _) q2
   ·cases hk
  ·cases hk
 case mapUpdate t mm kk x=>exact put (t:=t) (mm:=mm) (kk:=kk) (x:=x) (by rw[hop]at hk;exact hk) (by simp [execOp,hop])
 case insert t mm kk x=>exact put (t:=t) (mm:=mm) (kk:=kk) (x:=x) (by rw[hop]at hk;exact hk) (by simp [execOp,hop])
 case range t x=>
  simp only[hop,copK]at hk
  split at hk
  ·rename_i x' hu hx
   cases hk
   obtain⟨hoks,q1,q2⟩:=hst.1 hgv
   simp only[List.map_cons,List.map_nil]at q1 q2
   have hv:=opv hoks x x' hx (by simp [AOpK.opds])
   generalize lkv s.env x'=av at hv q1 q2
   cases av<;>simp only[xE]at q1 q2<;>(try exact q1.elim)
   rename_i sv
   have hv':a.eval x= .string ⟨sv.toArray⟩:=hv
   have hid:base+i<s.n:=hbn rfl
   obtain⟨v,w',g',p1,p2,p3,p4⟩:=srng_sound (m:=base) hR q1 hid (Nat.le_add_right _ _) hu sv
   exact finH hgv (by simp [execOp,hop,hv',p1]) p2 p3 p4 q2
  ·rename_i kt e x' hu hx
   cases hk
   obtain⟨hoks,q1,q2⟩:=hst.1 hgv
   simp only[List.map_cons,List.map_nil]at q1 q2
   have hv:=opv hoks x x' hx (by simp [AOpK.opds])
   generalize lkv s.env x'=av at hv q1 q2
   cases av<;>simp only[xE]at q1 q2<;>(try exact q1.elim)
   rename_i mi
   cases hh:hget s.H mi with
   |none=>rw[hh]at q1;exact q1.elim
   |some ob=>
    rw[hh]at q1 q2
    cases ob<;>simp only[]at q1 q2<;>(try exact q1.elim)
    have hid:base+i<s.n:=hbn rfl
    obtain⟨v,w',g',p1,p2,p3,p4⟩:=mrng_sound (m:=base) (P:=P) hR q1 hid (Nat.le_add_right _ _) hu hh hv
    exact finH hgv (by simp [execOp,hop,p1]) p2 p3 p4 q2
  ·cases hk
 case next x b=>
  cases b with
  |false=>
   simp only[hop,copK]at hk
   cases hx:copd x with
   |none=>simp [hx]at hk
   |some x'=>
    simp [hx]at hk
    subst hk
    obtain⟨hoks,q1⟩:=hst.1 hgv
    have q1:mnxAt s.H (fun H' v=>K ({s with H:=H'}.put o.dst true v)) (lkv s.env x'):=by simpa [effOp]using q1
    obtain⟨v,w',g',H',v',p1,p2,p3,p4,p5⟩:=mnx_sound (m:=base) (P:=P) (ty:=o.type) (K:=fun H' v=>K ({s with H:=H'}.put o.dst true v)) hR (opv hoks x x' hx (by simp [AOpK.opds])) q1
    exact finH hgv (by simp [execOp,hop,p1]) p2 p3 p4 p5
  |true=>
   simp only[hop,copK]at hk
   cases hx:copd x with
   |none=>simp [hx]at hk
   |some x'=>
    simp [hx]at hk
    subst hk
    obtain⟨hoks,q1,q2⟩:=hst.1 hgv
    simp only[List.map_cons,List.map_nil]at q1 q2
    have hv:=opv hoks x x' hx (by simp [AOpK.opds])
    generalize lkv s.env x'=av at hv q1 q2
    cases av<;>simp only[xE]at q1 q2<;>(try exact q1.elim)
    rename_i id off
    cases off with
    |succ o=>simp [xE]at q1
    |zero=>
     simp only[xE]at q1 q2
     cases hh:hget s.H id with
     |none=>rw[hh]at q1;exact q1.elim
     |some ob=>
      rw[hh]at q1 q2
      cases ob<;>simp only[]at q1 q2<;>(try exact q1.elim)
      obtain⟨v,w',p1,p2,p3,p4⟩:=snext_sound (m:=base) (P:=P) hR hh hv o.type
      exact finH hgv (by simp [execOp,hop,p1]) p2 p3 p4 q2
 case entry x=>
  simp only[hop,copK]at hk
  cases hx:copd x with
  |none=>simp [hx]at hk
  |some x'=>
   simp [hx]at hk
   subst hk
   obtain⟨hoks,q1,q2⟩:=hst.1 hgv
   simp only[List.map_cons,List.map_nil]at q1 q2
   obtain⟨p1,v,p2,p3⟩:=ment_sound (P:=P) (w:=w) hR (opv hoks x x' hx (by simp [AOpK.opds])) q1
   rw[p1]at q2
   exact finH hgv (by simp [execOp,hop,p2]) p3 hR (Trans.refl _ _ _ _) q2
 case convert sT dT x=>
  by_cases hp:∃k,P.underlying sT=some (.int k)∧P.underlying dT=some .string
  ·obtain⟨kk,h1,h2⟩:=hp
   simp only[hop,copK,h1,h2]at hk
   cases hx:copd x with
   |none=>simp [hx]at hk
   |some x'=>
    simp [hx]at hk
    subst hk
    obtain⟨hoks,q1,q2⟩:=hst.1 hgv
    simp only[List.map_cons,List.map_nil]at q1 q2
    have hv:=opv hoks x x' hx (by simp [AOpK.opds])
    generalize lkv s.env x'=av at hv q1 q2
    cases av<;>simp only[xE]at q1 q2<;>(try exact q1.elim)
    rename_i kx nx
    have hv':a.eval x= .int kx nx:=hv
    refine finH hgv (v:=.str (Utf8.encode nx).data.toList) (x:=.string (Utf8.encode nx)) (w':=w) ?_ (by simp [VRel]) hR (Trans.refl _ _ _ _) q2
    simp [execOp,hop,hv',run_convert_int_string w sT dT kx nx (by rw[h1];rfl) h2]
  ·refine other ?_
   rw[hop]
   simp only[copK]
   split
   ·rename_i kk h1 h2;exact absurd ⟨kk,h1,h2⟩ hp
   ·rfl
 case binOp bo t X Y yt=>
  by_cases hp:(bo= .eql∨bo= .neq)∧∃c kd,Y= .const c∧nilT P t c=some kd
  ·obtain⟨hb2,c,kd,rfl,hnt⟩:=hp
   obtain⟨nq,hq⟩:∃nq:Bool,(bo= .eql∧nq=false)∨(bo= .neq∧nq=true):=hb2.elim (fun h=>⟨false,.inl ⟨h,rfl⟩⟩) (fun h=>⟨true,.inr ⟨h,rfl⟩⟩)
   have hk':(copd X).map (fun a=>AOpK.ext (.nileq kd nq) [a])=some k:=by
    rcases hq with⟨rfl,rfl⟩|⟨rfl,rfl⟩<;>simpa [hop,copK,hnt]using hk
   cases hx:copd X with
   |none=>simp [hx]at hk'
   |some x'=>
    simp [hx]at hk'
    subst hk'
    obtain⟨hoks,q1,q2⟩:=hst.1 hgv
    simp only[List.map_cons,List.map_nil]at q1 q2
    obtain⟨p1,v,p2,p3⟩:=nileq_sound (P:=P) (w:=w) (X:=X) hq hnt (opv hoks X x' hx (by simp [AOpK.opds])) q1
    rw[p1]at q2
    refine finH hgv ?_ p3 hR (Trans.refl _ _ _ _) q2
    have hc:a.eval (.const c)=c:=rfl
    simp only[Sem.run_bind]at p2
    cases he:Sem.run P (eqGuard bo t X (.const c) (a.eval X) c) w<;>simp [he,Result.andThen]at p2
    rename_i u w2
    have p4:(Sem.run P (binOp bo t (a.eval X) c) w2)= .ok v w:=by simpa [Result.andThen]using p2
    simp [execOp,hop,hc,he,Result.andThen,p4]
  ·by_cases hp2:(bo= .eql∨bo= .neq)∧∃c,Y= .const c∧nilsT P t c=true
   ·obtain⟨hb2,c,rfl,hns⟩:=hp2
    have hnt:nilT P t c=none:=by
     cases q:nilT P t c with
     |none=>rfl
     |some kd=>exact absurd ⟨hb2,c,kd,rfl,q⟩ hp
    obtain⟨nq,hq⟩:∃nq:Bool,(bo= .eql∧nq=false)∨(bo= .neq∧nq=true):=hb2.elim (fun h=>⟨false,.inl ⟨h,rfl⟩⟩) (fun h=>⟨true,.inr ⟨h,rfl⟩⟩)
    have hk':(copd X).map (fun a=>AOpK.nils nq a)=some k:=by
     rcases hq with⟨rfl,rfl⟩|⟨rfl,rfl⟩<;>simpa [hop,copK,hnt,hns]using hk
    cases hx:copd X with
    |none=>simp [hx]at hk'
    |some x'=>
     simp [hx]at hk'
     subst hk'
     obtain⟨hoks,q1⟩:=hst.1 hgv
     obtain⟨b,p2,p3⟩:=nils_sound (P:=P) (w:=w) (X:=X) (K:=fun b=>K (s.put o.dst true (.bool b))) hq hns (opv hoks X x' hx (by simp [AOpK.opds])) (show nilsAt _ _ _ from q1)
     refine finH hgv (v:=.bool b) (x:=.bool b) (w':=w) ?_ rfl hR (Trans.refl _ _ _ _) p3
     have hc:a.eval (.const c)=c:=rfl
     simp only[Sem.run_bind]at p2
     cases he:Sem.run P (eqGuard bo t X (.const c) (a.eval X) c) w<;>simp [he,Result.andThen]at p2
     rename_i u w2
     have p4:(Sem.run P (binOp bo t (a.eval X) c) w2)= .ok (.bool b) w:=by simpa [Result.andThen]using p2
     simp [execOp,hop,hc,he,Result.andThen,p4]
   refine other ?_
   rw[hop]
   have a1:∀c,(bo= .eql∨bo= .neq)→Y= .const c→nilT P t c=none:=fun c h1 h2=>by
    cases q:nilT P t c with
    |none=>rfl
    |some kd=>exact absurd ⟨h1,c,kd,h2,q⟩ hp
   have a2:∀c,(bo= .eql∨bo= .neq)→Y= .const c→¬nilsT P t c=true:=fun c h1 h2 q=>hp2 ⟨h1,c,h2,q⟩
   cases bo<;>cases Y<;>first|rfl|(rename_i c;simp only[copK];rw[a1 c (by simp) rfl];simp only[a2 c (by simp) rfl,if_false];done)|(rename_i c;simp only[copK];rw[a1 c (by simp) rfl];simp only[];rw[if_neg (a2 c (by simp) rfl)])
 case typeAssert x xt t ok=>
  simp only[hop,copK]at hk
  split at hk
  ·cases hk
  ·rename_i hi
   split at hk
   ·rename_i x' z hx hz
    cases hk
    obtain⟨hoks,q1,q2⟩:=hst.1 hgv
    simp only[List.map_cons,List.map_nil]at q1 q2
    obtain⟨p1,v,p2,p3⟩:=tas_sound (xt:=xt) (w:=w) (by simpa using hi) hz (opv hoks x x' hx (by simp [AOpK.opds])) q1
    rw[p1]at q2
    exact finH hgv (by simp [execOp,hop,p2]) p3 hR (Trans.refl _ _ _ _) q2
   ·cases hk
 all_goals exact other (by rw[hop];first|rfl|simp [copK])
end
end Go.AM
end
section
set_option maxRecDepth 20000
set_option linter.all false
namespace Go.AM
def EEq:Option (Bool×AVal)→Option (Bool×AVal)→Prop
 |none,none=>True
 |some (g,v),some (g',v')=>g=g'∧(g=true→v=v')
 |_,_=>False
theorem EEq.rfl':∀x,EEq x x
 |none=>trivial
 |some (g,v)=>⟨rfl,fun _=>rfl⟩
theorem EEq.symm:∀{x y},EEq x y→EEq y x
 |none,none,_=>trivial
 |some _,some _,⟨h1,h2⟩=>⟨h1.symm,fun h=>(h2 (h1▸h)).symm⟩
 |none,some _,h=>h.elim
 |some _,none,h=>h.elim
theorem EEq.trans:∀{x y z},EEq x y→EEq y z→EEq x z
 |none,none,none,_,_=>trivial
 |some _,some _,some _,⟨h1,h2⟩,⟨h3,h4⟩=>⟨h1.trans h3,fun h=>(h2 h).trans (h4 (h1▸h))⟩
 |none,some _,_,h,_=>h.elim
 |some _,none,_,h,_=>h.elim
 |none,none,some _,_,h=>h.elim
 |some _,some _,none,_,h=>h.elim
def SEq (kp:List Nat) (s s':AS):Prop:=(∀t,EEq (eget s.env t) (eget s'.env t)∧(t∈kp→eget s.env t=eget s'.env t))∧s.H=s'.H∧s.n=s'.n
theorem SEq.trans {kp:List Nat} {a b c:AS} (h:SEq kp a b) (k:SEq kp b c):SEq kp a c:=
 ⟨fun t=>⟨(h.1 t).1.trans (k.1 t).1,fun m=>((h.1 t).2 m).trans ((k.1 t).2 m)⟩,h.2.1.trans k.2.1,h.2.2.trans k.2.2⟩
def Look (o:AOp) (env env':List (Nat×Bool×AVal)):Prop:=
 (∀i,Opd.t i∈o.k.opds→EEq (eget env i) (eget env' i))∧∀i w,o.guard=some (i,w)→EEq (eget env i) (eget env' i)
theorem lk_eq {env env':List (Nat×Bool×AVal)} {i:Nat} (h:EEq (eget env i) (eget env' i)):(lk env (.t i)).1=(lk env' (.t i)).1∧((lk env (.t i)).1=true→lkv env (.t i)=lkv env' (.t i)):=by
 simp only[lk,lkv]
 cases h1:eget env i with
 |none=>cases h2:eget env' i with
  |none=>simp
  |some y=>simp [h1,h2,EEq]at h
 |some x=>cases h2:eget env' i with
  |none=>simp [h1,h2,EEq]at h
  |some y=>
   obtain⟨g,v⟩:=x;obtain⟨g',v'⟩:=y
   simp only[h1,h2,EEq]at h
   exact h
theorem look_opd {o:AOp} {env env':List (Nat×Bool×AVal)} (h:Look o env env') {x:Opd} (hx:x∈o.k.opds):
  (lk env x).1=(lk env' x).1∧((lk env x).1=true→lkv env x=lkv env' x):=by
 cases x with
 |t i=>exact lk_eq (h.1 i hx)
 |c v=>exact⟨rfl,fun _=>rfl⟩
theorem gok_look {o:AOp} {env env':List (Nat×Bool×AVal)} (h:Look o env env'):gok env o.guard→gok env' o.guard:=by
 cases hg:o.guard with
 |none=>exact id
 |some gw=>
  obtain⟨i,w⟩:=gw
  have h1:=h.2 i w hg
  simp only[gok]
  cases e1:eget env i with
  |none=>intro h;exact h.elim
  |some x=>cases e2:eget env' i with
   |none=>simp [e1,e2,EEq]at h1
   |some y=>
    obtain⟨g,v⟩:=x;obtain⟨g',v'⟩:=y
    simp only[e1,e2,EEq]at h1
    intro k q
    have:=h1.1;subst this
    rw[←h1.2 q];exact k q
theorem gvb_look {o:AOp} {env env':List (Nat×Bool×AVal)} (h:Look o env env'):gvb env o.guard=gvb env' o.guard:=by
 cases hg:o.guard with
 |none=>rfl
 |some gw=>
  obtain⟨i,w⟩:=gw
  have h1:=lk_eq (h.2 i w hg)
  simp only[gvb]
  rw[←h1.1]
  cases hh:(lk env (.t i)).1 with
  |false=>rfl
  |true=>rw[h1.2 hh]
theorem oks_iff {env:List (Nat×Bool×AVal)}:∀{l:List Opd},oks env l↔∀x∈l,(lk env x).1=true
 |[]=>by simp [oks]
 |y::l=>by simp [oks,oks_iff (l:=l)]
theorem oks_look {o:AOp} {env env':List (Nat×Bool×AVal)} (h:Look o env env') {l:List Opd} (hl:∀x∈l,x∈o.k.opds):oks env l→oks env' l:=by
 simp only[oks_iff]
 intro k x hx;rw[←(look_opd h (hl x hx)).1];exact k x hx
theorem lkv_look {o:AOp} {env env':List (Nat×Bool×AVal)} (h:Look o env env') {l:List Opd} (hl:∀x∈l,x∈o.k.opds) (hok:oks env l):∀x∈l,lkv env x=lkv env' x:=
 fun x hx=>(look_opd h (hl x hx)).2 (oks_iff.1 hok x hx)
theorem evk_congr {H:AHeap} {ρ ρ':Opd→AVal}:∀(k:Opk),(∀x∈k.opds,ρ x=ρ' x)→evk H ρ k=evk H ρ' k:=by
 intro k h
 cases k with
 |mnmx mx kk xs=>
  simp only[Opk.opds]at h
  have h1:(∀x∈xs,isI kk (ρ x))↔∀x∈xs,isI kk (ρ' x):=⟨fun a x hx=>h x hx▸a x hx,fun a x hx=>(h x hx).symm▸a x hx⟩
  simp only[evk,evMM,evB,evS,h1]
  congr 2
  cases xs with
  |nil=>rfl
  |cons x r=>
   simp only[]
   rw[h x (by simp)]
   have:∀(l:List Opd) (m:Int),(∀y∈l,ρ y=ρ' y)→l.foldl (fun m y=>if mx=true then max m (toI (ρ y))else min m (toI (ρ y))) m=l.foldl (fun m y=>if mx=true then max m (toI (ρ' y))else min m (toI (ρ' y))) m:=by
    intro l
    induction l with
    |nil=>intros;rfl
    |cons y l ih=>intro m hl;simp only[List.foldl_cons];rw[hl y (by simp)];exact ih _ fun z hz=>hl z (by simp [hz])
   exact this r _ fun y hy=>h y (by simp [hy])
 |build z ps=>
  simp only[Opk.opds,List.mem_map]at h
  have h0:∀p∈ps,ρ p.2.2=ρ' p.2.2:=fun p hp=>h _ ⟨p,hp,rfl⟩
  have h1:(∀p∈ps,nT (ρ p.2.2)∧(ρ p.2.2).cells.length=p.2.1∧p.1+p.2.1≤z.length)↔∀p∈ps,nT (ρ' p.2.2)∧(ρ' p.2.2).cells.length=p.2.1∧p.1+p.2.1≤z.length:=
   ⟨fun a p hp=>h0 p hp▸a p hp,fun a p hp=>(h0 p hp).symm▸a p hp⟩
  simp only[evk,evMM,evB,evS,h1]
  congr 2
  have:∀(l:List (Nat×Nat×Opd)) (m:List AVal),(∀p∈l,ρ p.2.2=ρ' p.2.2)→l.foldl (fun cs p=>splice cs p.1 (ρ p.2.2).cells) m=l.foldl (fun cs p=>splice cs p.1 (ρ' p.2.2).cells) m:=by
   intro l
   induction l with
   |nil=>intros;rfl
   |cons y l ih=>intro m hl;simp only[List.foldl_cons];rw[hl y (by simp)];exact ih _ fun z hz=>hl z (by simp [hz])
  exact this ps _ h0
 |bs e n z ps=>
  simp only[Opk.opds,List.mem_map]at h
  have h0:∀p∈ps,ρ p.2=ρ' p.2:=fun p hp=>h _ ⟨p,hp,rfl⟩
  have h1:(∀p∈ps,nT (ρ p.2)∧(ρ p.2).cells.length=e∧p.1<n)↔∀p∈ps,nT (ρ' p.2)∧(ρ' p.2).cells.length=e∧p.1<n:=
   ⟨fun a p hp=>h0 p hp▸a p hp,fun a p hp=>(h0 p hp).symm▸a p hp⟩
  simp only[evk,evMM,evB,evS,h1]
  congr 2
  have:∀(l:List (Nat×Opd)) (m:List AVal),(∀p∈l,ρ p.2=ρ' p.2)→l.foldl (fun l p=>l.set p.1 (ρ p.2)) m=l.foldl (fun l p=>l.set p.1 (ρ' p.2)) m:=by
   intro l
   induction l with
   |nil=>intros;rfl
   |cons y l ih=>intro m hl;simp only[List.foldl_cons];rw[hl y (by simp)];exact ih _ fun z hz=>hl z (by simp [hz])
  exact this ps _ h0
 |fn f a b=>
  simp only[Opk.opds,List.mem_append]at h
  simp only[evk]
  rw[List.map_congr_left (fun x hx=>h x (.inl hx)),List.map_congr_left (fun x hx=>h x (.inr hx))]
 |slS x lo hi=>
  have hx:=h x (by simp [Opk.opds])
  have hl:∀y,lo=some y→ρ y=ρ' y:=fun y e=>h y (by simp [Opk.opds,e])
  have hh:∀y,hi=some y→ρ y=ρ' y:=fun y e=>h y (by simp [Opk.opds,e])
  cases lo<;>cases hi<;>simp only[evk,bnd,bndI,hx]<;>(try rw[hl _ rfl])<;>(try rw[hh _ rfl])
 |sl e x lo hi mx=>
  have hx:=h x (by simp [Opk.opds])
  have hl:∀y,lo=some y→ρ y=ρ' y:=fun y e=>h y (by simp [Opk.opds,e])
  have hh:∀y,hi=some y→ρ y=ρ' y:=fun y e=>h y (by simp [Opk.opds,e])
  have hm:∀y,mx=some y→ρ y=ρ' y:=fun y e=>h y (by simp [Opk.opds,e])
  have b1:∀d,bnd ρ d lo=bnd ρ' d lo:=by intro d;cases lo with
   |none=>rfl
   |some y=>simp only[bnd];rw[hl y rfl]
  have b2:∀d,bnd ρ d hi=bnd ρ' d hi:=by intro d;cases hi with
   |none=>rfl
   |some y=>simp only[bnd];rw[hh y rfl]
  have b3:bndI ρ lo=bndI ρ' lo:=by cases lo with
   |none=>rfl
   |some y=>simp only[bndI];rw[hl y rfl]
  have b4:bndI ρ hi=bndI ρ' hi:=by cases hi with
   |none=>rfl
   |some y=>simp only[bndI];rw[hh y rfl]
  have b5:bndI ρ mx=bndI ρ' mx:=by cases mx with
   |none=>rfl
   |some y=>simp only[bndI];rw[hm y rfl]
  have b6:(mx.map fun m=>toI (ρ m))=mx.map fun m=>toI (ρ' m):=by cases mx with
   |none=>rfl
   |some y=>simp only[Option.map_some];rw[hm y rfl]
  have b7:∀(a b:Int),(∀m,mx=some m→a≤toI (ρ m)∧toI (ρ m)≤b)=∀m,mx=some m→a≤toI (ρ' m)∧toI (ρ' m)≤b:=by
   intro a b
   apply propext
   exact⟨fun q m e=>hm m e▸q m e,fun q m e=>(hm m e).symm▸q m e⟩
  simp only[evk,hx,b1,b2,b3,b4,b5,b6,b7]
 |_=>first
  |(simp only[Opk.opds,List.mem_cons,List.not_mem_nil,or_false,forall_eq_or_imp,forall_eq]at h;simp only[evk,h];done)
  |(simp only[Opk.opds,List.mem_cons,List.not_mem_nil,or_false,forall_eq_or_imp,forall_eq]at h;obtain⟨h1,h2⟩:=h;simp only[evk,h1,h2])
end Go.AM
end
section
set_option maxRecDepth 20000
set_option linter.all false
namespace Go.AM
section
variable {P:Program} {Qp:AVal→AHeap→Nat→Prop} {base:Nat}
theorem eget_put (s:AS) (d:Option Nat) (g:Bool) (v:AVal) (t:Nat):eget (s.put d g v).env t=if d=some t then some (g,v)else eget s.env t:=by
 cases d with
 |none=>simp [AS.put]
 |some d=>simp [AS.put,eget]
theorem put_H (s:AS) (d:Option Nat) (g:Bool) (v:AVal):(s.put d g v).H=s.H:=by cases d<;>rfl
theorem put_n (s:AS) (d:Option Nat) (g:Bool) (v:AVal):(s.put d g v).n=s.n:=by cases d<;>rfl
theorem stepOp_gen {o:AOp} {K K':AS→Prop} {s1 s:AS} (hl:Look o s1.env s.env) (hH:s1.H=s.H) (hn:s1.n=s.n)
  (hK:∀H n g v v',(g=true→v=v')→(s1=s→v=v')→(o.guard=none→g=true)→K ({s1 with H:=H,n:=n}.put o.dst g v)→K' ({s with H:=H,n:=n}.put o.dst g v')):
  stepOp P Qp base o K s1→stepOp P Qp base o K' s:=by
 obtain⟨dst,guard,k⟩:=o
 have hg:=gvb_look hl
 have hgn:guard=none→gvb s1.env guard=true:=by rintro rfl;rfl
 simp only at hg hK
 have rho:oks s1.env k.opds→∀x∈k.opds,lkv s1.env x=lkv s.env x:=fun h=>lkv_look hl (l:=k.opds) (fun x hx=>hx) h
 have oksT:oks s1.env k.opds→oks s.env k.opds:=oks_look hl (l:=k.opds) (fun x hx=>hx)
 rintro⟨h0,h1⟩
 refine⟨gok_look hl h0,?_⟩
 cases k with
 |v k=>
  simp only at h1⊢
  have e:gvb s1.env guard=true→evk s1.H (lkv s1.env) k=evk s.H (lkv s.env) k:=fun q=>by rw[hH];exact evk_congr k (rho (h1.1 q).1)
  refine⟨fun q=>?_,?_⟩
  ·rw[←hg]at q;exact⟨oksT (h1.1 q).1,e q▸(h1.1 q).2⟩
  ·have:=hK s1.H s1.n _ _ (evk s.H (lkv s.env) k).2 (fun q=>by rw[e q]) (fun q=>by rw[q]) hgn h1.2
   rw[hH,hn,hg]at this;exact this
 |pick c a b=>
  simp only at h1⊢
  have l1:=look_opd hl (x:=c) (by simp [AOpK.opds])
  have l2:=look_opd hl (x:=a) (by simp [AOpK.opds])
  have l3:=look_opd hl (x:=b) (by simp [AOpK.opds])
  have ec:gvb s1.env guard=true→lkv s1.env c=lkv s.env c:=fun q=>l1.2 (h1.1 q).1
  have sd:gvb s.env guard=true→(lk s.env c).1=true∧isB (lkv s.env c)∧(toB (lkv s.env c)=true→(lk s.env a).1=true)∧(toB (lkv s.env c)=false→(lk s.env b).1=true):=fun q=>by
   rw[←hg]at q
   obtain⟨q1,q2,q3,q4⟩:=h1.1 q
   rw[ec q]at q2 q3 q4
   rw[←l1.1,←l2.1,←l3.1]
   exact⟨q1,q2,q3,q4⟩
  refine⟨sd,?_⟩
  have:=hK s1.H s1.n _ _ (sel (toB (lkv s.env c)) (lkv s.env a) (lkv s.env b)) (fun q=>by
   have hsel:∀(t:Bool) (x y x' y':AVal),(t=true→x=x')→(t=false→y=y')→sel t x y=sel t x' y':=by
    intro t x y x' y' p1 p2
    cases t with
    |true=>have:=p1 rfl;subst this;cases x<;>cases y<;>cases y'<;>rfl
    |false=>have:=p2 rfl;subst this;cases y<;>cases x<;>cases x'<;>rfl
   rw[←ec q]
   obtain⟨q1,q2,q3,q4⟩:=h1.1 q
   exact hsel _ _ _ _ _ (fun p=>l2.2 (q3 p)) (fun p=>l3.2 (q4 p))) (fun q=>by rw[q]) hgn h1.2
  rw[hH,hn,hg]at this;exact this
 |call qt f args=>
  cases qt with
  |true=>
   simp only at h1⊢
   obtain⟨r,h1,h2⟩:=h1
   refine⟨r,fun q=>?_,?_⟩
   ·rw[←hg]at q
    obtain⟨q1,q2,q3⟩:=h1 q
    have q5:oks s1.env (AOpK.call true f args).opds:=⟨q1,q2⟩
    have rh:=rho q5
    have e1:lkv s1.env f=lkv s.env f:=rh f (by simp [AOpK.opds])
    have e2:args.map (lkv s1.env)=args.map (lkv s.env):=List.map_congr_left fun x hx=>rh x (by simp [AOpK.opds,hx])
    refine⟨(oksT q5).1,(oksT q5).2,?_⟩
    rw[e1,e2,hH,hn]at q3
    exact q3
   ·have:=hK s1.H s1.n _ _ r (fun q=>rfl) (fun q=>rfl) hgn h2
    rw[hH,hn,hg]at this;exact this
  |false=>
   simp only at h1⊢
   rw[←hg]
   refine⟨fun q=>?_,fun q=>?_⟩
   ·obtain⟨q1,q2⟩:=h1.1 q
    refine⟨oksT q1,?_⟩
    have rh:=rho q1
    have e1:lkv s1.env f=lkv s.env f:=rh f (by simp [AOpK.opds])
    have e2:args.map (lkv s1.env)=args.map (lkv s.env):=List.map_congr_left fun x hx=>rh x (by simp [AOpK.opds,hx])
    simp only[effOp]at q2⊢
    rw[e1,e2,hH,hn]at q2
    generalize lkv s.env f=fv at q2⊢
    cases fv<;>(try simp only[]at q2)<;>first|exact q2.elim|skip
    rename_i ff first cap
    cases ff with
    |func fid=>
     refine ACalls.mono q2 fun out H' n' hh=>?_
     cases out with
     |ret v=>exact hK H' n' true v v (fun _=>rfl) (fun _=>rfl) (fun _=>rfl) hh
     |pan v=>exact hh
    |yield l=>
     cases first with
     |cons _ _=>exact q2.elim
     |nil=>cases cap with
      |cons _ _=>exact q2.elim
      |nil=>exact AYield.mono q2 fun b H' n' hh=>hK H' n' true (.bool b) (.bool b) (fun _=>rfl) (fun _=>rfl) (fun _=>rfl) hh
    |_=>exact q2.elim
   ·have:=hK s1.H s1.n false (.tup []) (.tup []) (by simp) (fun _=>rfl) (fun q'=>by have:=hgn q';rw[q]at this;cases this) (h1.2 q)
    rw[hH,hn]at this;exact this
 |pan x=>
  simp only at h1⊢
  rw[←hg]
  refine⟨fun q=>?_,fun q=>?_⟩
  ·obtain⟨q1,q2⟩:=h1.1 q
   refine⟨oksT q1,?_⟩
   have rh:=rho q1
   have e1:lkv s1.env x=lkv s.env x:=rh x (by simp [AOpK.opds])
   simp only[effOp]at q2⊢
   rw[←e1,←hH,←hn];exact q2
  ·have:=hK s1.H s1.n false (.tup []) (.tup []) (by simp) (fun _=>rfl) (fun q'=>by have:=hgn q';rw[q]at this;cases this) (h1.2 q)
   rw[hH,hn]at this;exact this
 |ext x xs=>
  simp only at h1⊢
  rw[←hg]
  refine⟨fun q=>?_,fun q=>?_⟩
  ·obtain⟨q1,q2⟩:=h1.1 q
   refine⟨oksT q1,?_⟩
   have rh:=rho q1
   have e2:xs.map (lkv s1.env)=xs.map (lkv s.env):=List.map_congr_left fun z hz=>rh z (by simp [AOpK.opds,hz])
   simp only[effOp]at q2⊢
   rw[e2,hH]at q2
   refine⟨q2.1,?_⟩
   have:=hK _ s1.n true _ _ (fun _=>rfl) (fun _=>rfl) (fun _=>rfl) q2.2
   rw[hn]at this;exact this
  ·have:=hK s1.H s1.n false (.tup []) (.tup []) (by simp) (fun _=>rfl) (fun q'=>by have:=hgn q';rw[q]at this;cases this) (h1.2 q)
   rw[hH,hn]at this;exact this
 |appR rel esz bytes zero x y str=>
  simp only at h1⊢
  rw[←hg]
  refine⟨fun q=>?_,fun q=>?_⟩
  ·obtain⟨q1,q2⟩:=h1.1 q
   refine⟨oksT q1,?_⟩
   have rh:=rho q1
   have e1:lkv s1.env x=lkv s.env x:=rh x (by simp [AOpK.opds])
   have e2:srcOf s1.H (lkv s1.env) esz y str=srcOf s.H (lkv s.env) esz y str:=by
    have:=rh y (by simp [AOpK.opds])
    simp only[srcOf,this,hH]
   simp only[effOp]at q2⊢
   rw[e1,e2,hH]at q2
   refine appRAt_mono (fun H' v hh=>?_) q2
   have:=hK H' s1.n true _ _ (fun _=>rfl) (fun _=>rfl) (fun _=>rfl) hh
   rw[hn]at this;exact this
  ·have:=hK s1.H s1.n false (.tup []) (.tup []) (by simp) (fun _=>rfl) (fun q'=>by have:=hgn q';rw[q]at this;cases this) (h1.2 q)
   rw[hH,hn]at this;exact this
 |cpu f args=>
  simp only at h1⊢
  rw[←hg]
  refine⟨fun q=>?_,fun q=>?_⟩
  ·obtain⟨q1,q2⟩:=h1.1 q
   refine⟨oksT q1,?_⟩
   have rh:=rho q1
   have e1:lkv s1.env f=lkv s.env f:=rh f (by simp [AOpK.opds])
   have e2:args.map (lkv s1.env)=args.map (lkv s.env):=List.map_congr_left fun x hx=>rh x (by simp [AOpK.opds,hx])
   simp only[effOp]at q2⊢
   rw[e1,e2]at q2
   generalize lkv s.env f=fv at q2⊢
   cases fv<;>(try simp only[]at q2)<;>first|exact q2.elim|skip
   rename_i ff first cap
   cases ff<;>(try simp only[]at q2)<;>first|exact q2.elim|skip
   obtain⟨r,p1,p2⟩:=q2
   have:=hK s1.H s1.n true r r (fun _=>rfl) (fun _=>rfl) (fun _=>rfl) p2
   rw[hH,hn]at this
   exact⟨r,p1,this⟩
  ·have:=hK s1.H s1.n false (.tup []) (.tup []) (by simp) (fun _=>rfl) (fun q'=>by have:=hgn q';rw[q]at this;cases this) (h1.2 q)
   rw[hH,hn]at this;exact this
 |nils nq x=>
  simp only at h1⊢
  rw[←hg]
  refine⟨fun q=>?_,fun q=>?_⟩
  ·obtain⟨q1,q2⟩:=h1.1 q
   refine⟨oksT q1,?_⟩
   have rh:=rho q1
   have e1:lkv s1.env x=lkv s.env x:=rh x (by simp [AOpK.opds])
   simp only[effOp]at q2⊢
   rw[e1]at q2
   refine nilsAt_mono (fun b hh=>?_) q2
   have:=hK s1.H s1.n true _ _ (fun _=>rfl) (fun _=>rfl) (fun _=>rfl) hh
   rw[hH,hn]at this;exact this
  ·have:=hK s1.H s1.n false (.tup []) (.tup []) (by simp) (fun _=>rfl) (fun q'=>by have:=hgn q';rw[q]at this;cases this) (h1.2 q)
   rw[hH,hn]at this;exact this
 |mnx x=>
  simp only at h1⊢
  rw[←hg]
  refine⟨fun q=>?_,fun q=>?_⟩
  ·obtain⟨q1,q2⟩:=h1.1 q
   refine⟨oksT q1,?_⟩
   have rh:=rho q1
   have e1:lkv s1.env x=lkv s.env x:=rh x (by simp [AOpK.opds])
   simp only[effOp]at q2⊢
   rw[e1,hH]at q2
   refine mnxAt_mono (fun H' v hh=>?_) q2
   have:=hK H' s1.n true _ _ (fun _=>rfl) (fun _=>rfl) (fun _=>rfl) hh
   rw[hn]at this;exact this
  ·have:=hK s1.H s1.n false (.tup []) (.tup []) (by simp) (fun _=>rfl) (fun q'=>by have:=hgn q';rw[q]at this;cases this) (h1.2 q)
   rw[hH,hn]at this;exact this
 |slA nn x lo hi=>
  simp only at h1⊢
  rw[←hg]
  refine⟨fun q=>?_,fun q=>?_⟩
  ·obtain⟨q1,q2⟩:=h1.1 q
   refine⟨oksT q1,?_⟩
   have rh:=rho q1
   have e1:lkv s1.env x=lkv s.env x:=rh x (by simp [AOpK.opds])
   have eb:∀(y:Option Opd),(∀z,y=some z→z∈(AOpK.slA nn x lo hi).opds)→(bndI (lkv s1.env) y↔bndI (lkv s.env) y)∧∀d,bnd (lkv s1.env) d y=bnd (lkv s.env) d y:=by
    intro y hy
    cases y with
    |none=>exact⟨Iff.rfl,fun _=>rfl⟩
    |some z=>have:=rh z (hy z rfl);exact⟨by simp only[bndI,this],fun d=>by simp only[bnd,this]⟩
   have b1:=eb lo (by rintro z rfl;simp [AOpK.opds])
   have b2:=eb hi (by rintro z rfl;simp [AOpK.opds])
   simp only[effOp]at q2⊢
   rw[e1,hH,b1.2,b2.2]at q2
   refine⟨b1.1.1 q2.1,b2.1.1 q2.2.1,slAat_mono (fun H' v hh=>?_) q2.2.2⟩
   have:=hK H' s1.n true _ _ (fun _=>rfl) (fun _=>rfl) (fun _=>rfl) hh
   rw[hn]at this;exact this
  ·have:=hK s1.H s1.n false (.tup []) (.tup []) (by simp) (fun _=>rfl) (fun q'=>by have:=hgn q';rw[q]at this;cases this) (h1.2 q)
   rw[hH,hn]at this;exact this
 |alloc rel cs=>
  simp only at h1⊢
  rw[←hg]
  refine⟨fun q=>?_,fun q=>?_⟩
  ·obtain⟨q1,q2⟩:=h1.1 q
   refine⟨oksT q1,?_⟩
   simp only[effOp]at q2⊢
   refine⟨hH▸q2.1,?_⟩
   have:=hK _ s1.n true _ _ (fun _=>rfl) (fun _=>rfl) (fun _=>rfl) q2.2
   rw[hH,hn]at this;exact this
  ·have:=hK s1.H s1.n false (.tup []) (.tup []) (by simp) (fun _=>rfl) (fun q'=>by have:=hgn q';rw[q]at this;cases this) (h1.2 q)
   rw[hH,hn]at this;exact this
 |box rel sz x=>
  simp only at h1⊢
  rw[←hg]
  refine⟨fun q=>?_,fun q=>?_⟩
  ·obtain⟨q1,q2⟩:=h1.1 q
   refine⟨oksT q1,?_⟩
   have rh:=rho q1
   have e1:lkv s1.env x=lkv s.env x:=rh x (by simp [AOpK.opds])
   simp only[effOp]at q2⊢
   rw[e1]at q2
   refine⟨hH▸q2.1,q2.2.1,q2.2.2.1,?_⟩
   have:=hK _ s1.n true _ _ (fun _=>rfl) (fun _=>rfl) (fun _=>rfl) q2.2.2.2
   rw[hH,hn]at this;exact this
  ·have:=hK s1.H s1.n false (.tup []) (.tup []) (by simp) (fun _=>rfl) (fun q'=>by have:=hgn q';rw[q]at this;cases this) (h1.2 q)
   rw[hH,hn]at this;exact this
 |mks rel esz bytes zero x=>
  simp only at h1⊢
  rw[←hg]
  refine⟨fun q=>?_,fun q=>?_⟩
  ·obtain⟨q1,q2⟩:=h1.1 q
   refine⟨oksT q1,?_⟩
   have rh:=rho q1
   have e1:lkv s1.env x=lkv s.env x:=rh x (by simp [AOpK.opds])
   simp only[effOp]at q2⊢
   rw[e1]at q2
   obtain⟨p1,p2,p3,p4,p5,p6,p7⟩:=q2
   refine⟨hH▸p1,p2,p3,p4,p5,p6,?_⟩
   have:=hK _ s1.n true _ _ (fun _=>rfl) (fun _=>rfl) (fun _=>rfl) p7
   rw[hH,hn]at this;exact this
  ·have:=hK s1.H s1.n false (.tup []) (.tup []) (by simp) (fun _=>rfl) (fun q'=>by have:=hgn q';rw[q]at this;cases this) (h1.2 q)
   rw[hH,hn]at this;exact this
 |st sz a x=>
  simp only at h1⊢
  rw[←hg]
  refine⟨fun q=>?_,fun q=>?_⟩
  ·obtain⟨q1,q2⟩:=h1.1 q
   refine⟨oksT q1,?_⟩
   have rh:=rho q1
   have e1:lkv s1.env x=lkv s.env x:=rh x (by simp [AOpK.opds])
   have e2:lkv s1.env a=lkv s.env a:=rh a (by simp [AOpK.opds])
   simp only[effOp]at q2⊢
   rw[e1,e2,hH]at q2
   refine⟨q2.1,q2.2.1,?_⟩
   have q3:=q2.2.2
   have fin:∀H',K ({s1 with H:=H'}.put dst true (.tup []))→K' ({s with H:=H'}.put dst true (.tup [])):=fun H' hh=>by
    have:=hK H' s1.n true _ _ (fun _=>rfl) (fun _=>rfl) (fun _=>rfl) hh
    rw[hn]at this;exact this
   generalize lkv s.env a=av at q3⊢
   cases av<;>(try simp only[]at q3)<;>first|exact q3.elim|skip
   ·rename_i id off
    simp only[]at q3⊢
    split at q3
    ·rename_i cs hh;exact⟨q3.1,fin _ q3.2⟩
    ·exact q3.elim
   ·rename_i id esz i off
    simp only[]at q3⊢
    split at q3
    ·rename_i e l hh;exact⟨q3.1,q3.2.1,q3.2.2.1,fin _ q3.2.2.2⟩
    ·exact q3.elim
  ·have:=hK s1.H s1.n false (.tup []) (.tup []) (by simp) (fun _=>rfl) (fun q'=>by have:=hgn q';rw[q]at this;cases this) (h1.2 q)
   rw[hH,hn]at this;exact this
 |app rel esz bytes x y str=>
  simp only at h1⊢
  rw[←hg]
  refine⟨fun q=>?_,fun q=>?_⟩
  ·obtain⟨q1,q2⟩:=h1.1 q
   refine⟨oksT q1,?_⟩
   have rh:=rho q1
   have e1:lkv s1.env x=lkv s.env x:=rh x (by simp [AOpK.opds])
   have e2:srcOf s1.H (lkv s1.env) esz y str=srcOf s.H (lkv s.env) esz y str:=by
    have:=rh y (by simp [AOpK.opds])
    cases str<;>simp only[srcOf,this,hH]
   simp only[effOp]at q2⊢
   rw[e1,e2]at q2
   generalize lkv s.env x=av at q2⊢
   generalize srcOf s.H (lkv s.env) esz y str=bv at q2⊢
   cases av<;>(try simp only[]at q2)<;>first|exact q2.elim|skip
   rename_i tok l
   cases bv<;>(try simp only[]at q2)<;>first|exact q2.elim|skip
   simp only[]at q2⊢
   obtain⟨p1,p2,p3,p4,p5,p6⟩:=q2
   refine⟨hH▸p1,hH▸p2,p3,p4,p5,?_⟩
   have:=hK _ s1.n true _ _ (fun _=>rfl) (fun _=>rfl) (fun _=>rfl) p6
   rw[hH,hn]at this;exact this
  ·have:=hK s1.H s1.n false (.tup []) (.tup []) (by simp) (fun _=>rfl) (fun q'=>by have:=hgn q';rw[q]at this;cases this) (h1.2 q)
   rw[hH,hn]at this;exact this
theorem stepOp_mono {o:AOp} {K K':AS→Prop} {s:AS} (h:∀s',K s'→K' s'):stepOp P Qp base o K s→stepOp P Qp base o K' s:=by
 refine stepOp_gen ⟨fun _ _=>EEq.rfl' _,fun _ _ _=>EEq.rfl' _⟩ rfl rfl ?_
 intro H n g v v' h1 h2 h3 h4
 rw[←h2 rfl];exact h _ h4
end
end Go.AM
end
section
set_option maxRecDepth 20000
set_option linter.all false
namespace Go.AM
section
variable {P:Program} {Qp:AVal→AHeap→Nat→Prop} {base:Nat} {kp:List Nat}
def HR (H H':AHeap):Prop:=H'=H∨∃id ob,hget H id=none∧H'=hset H id ob
def HA (H H':AHeap):Prop:=H'=H∨∃tok id,hget H id=none∧(∀i e,tok= .own i e→hget H i=some .tok)∧H'=hset (killTok H tok) id .tok
def XOp.free:XOp→Prop
 | .nileq .. | .tas .. =>True
 |_=>False
theorem xE_pure {b:Nat} {x:XOp} {H:AHeap} {l:List AVal} (hx:x.free):(xE b x H l).2.1=H:=by
 cases x<;>first|exact hx.elim|skip
 ·rename_i kd q
  rcases kd with _|_|_|kd<;>rcases l with _|⟨v,_|⟨v2,l⟩⟩<;>first|rfl|(cases v<;>rfl)
 ·rename_i t ok z
  rcases ok with _|_<;>rcases l with _|⟨v,_|⟨v2,l⟩⟩<;>first|rfl|(cases v<;>rfl)
theorem xE_free {b:Nat} {x:XOp} {H H':AHeap} {l:List AVal} (hx:x.free):(xE b x H l).1=(xE b x H' l).1∧(xE b x H l).2.2=(xE b x H' l).2.2:=by
 cases x<;>first|exact hx.elim|skip
 ·rename_i kd q
  rcases kd with _|_|_|kd<;>rcases l with _|⟨v,_|⟨v2,l⟩⟩<;>first|exact⟨rfl,rfl⟩|(cases v<;>exact⟨rfl,rfl⟩)
 ·rename_i t ok z
  rcases ok with _|_<;>rcases l with _|⟨v,_|⟨v2,l⟩⟩<;>first|exact⟨rfl,rfl⟩|(cases v<;>exact⟨rfl,rfl⟩)
theorem step_det {o:AOp} {K:AS→Prop} {s:AS} (hc:o.k.cat≠5) (h:stepOp P Qp base o K s):
  ∃H' g v,K ({s with H:=H'}.put o.dst g v)∧(∀K2:AS→Prop,K2 ({s with H:=H'}.put o.dst g v)→stepOp P Qp base o K2 s)∧(o.guard=none→g=true)∧
   (o.k.cat=0∨o.k.cat=1∨o.k.cat=3→H'=s.H)∧(o.k.cat=2→HR s.H H')∧(o.k.cat=4→HA s.H H'):=by
 obtain⟨dst,guard,k⟩:=o
 obtain⟨h0,h1⟩:=h
 have hgn:guard=none→gvb s.env guard=true:=by rintro rfl;rfl
 have eff:∀{k:AOpK},(∀K2:AS→Prop,(gvb s.env guard=true→oks s.env k.opds∧effOp P Qp base ⟨dst,guard,k⟩ K2 s)∧(gvb s.env guard=false→K2 (s.put dst false (.tup [])))→stepOp P Qp base ⟨dst,guard,k⟩ K2 s)→
   (gvb s.env guard=true→oks s.env k.opds∧effOp P Qp base ⟨dst,guard,k⟩ K s)∧(gvb s.env guard=false→K (s.put dst false (.tup [])))→
   (oks s.env k.opds→effOp P Qp base ⟨dst,guard,k⟩ K s→∃H' v,K ({s with H:=H'}.put dst true v)∧(∀K2:AS→Prop,K2 ({s with H:=H'}.put dst true v)→effOp P Qp base ⟨dst,guard,k⟩ K2 s)∧(k.cat=0∨k.cat=1∨k.cat=3→H'=s.H)∧(k.cat=2→HR s.H H')∧(k.cat=4→HA s.H H'))→
   ∃H' g v,K ({s with H:=H'}.put dst g v)∧(∀K2:AS→Prop,K2 ({s with H:=H'}.put dst g v)→stepOp P Qp base ⟨dst,guard,k⟩ K2 s)∧(guard=none→g=true)∧
    (k.cat=0∨k.cat=1∨k.cat=3→H'=s.H)∧(k.cat=2→HR s.H H')∧(k.cat=4→HA s.H H'):=by
  intro k hst hh he
  by_cases hg:gvb s.env guard=true
  ·obtain⟨p1,p2⟩:=hh.1 hg
   obtain⟨H',v,q1,q2,q3,q4,q5⟩:=he p1 p2
   exact⟨H',true,v,q1,fun K2 hk=>hst K2 ⟨fun _=>⟨p1,q2 K2 hk⟩,fun q=>(by rw[hg]at q;cases q)⟩,fun _=>rfl,q3,q4,q5⟩
  ·have hg:gvb s.env guard=false:=by simpa using hg
   exact⟨s.H,false,.tup [],hh.2 hg,fun K2 hk=>hst K2 ⟨fun q=>(by rw[hg]at q;cases q),fun _=>hk⟩,fun q=>(by have:=hgn q;rw[hg]at this;cases this),fun _=>rfl,fun _=>.inl rfl,fun _=>.inl rfl⟩
 cases k with
 |v k=>exact⟨s.H,_,_,h1.2,fun K2 hk=>⟨h0,h1.1,hk⟩,hgn,fun _=>rfl,fun _=>.inl rfl,fun _=>.inl rfl⟩
 |pick c a b=>exact⟨s.H,_,_,h1.2,fun K2 hk=>⟨h0,h1.1,hk⟩,hgn,fun _=>rfl,fun _=>.inl rfl,fun _=>.inl rfl⟩
 |call qt f args=>
  cases qt with
  |true=>obtain⟨r,h1,h2⟩:=h1;exact⟨s.H,_,_,h2,fun K2 hk=>⟨h0,r,h1,hk⟩,hgn,fun _=>rfl,fun _=>.inl rfl,fun _=>.inl rfl⟩
  |false=>exact absurd rfl hc
 |pan x=>exact absurd rfl hc
 |slA nn x lo hi=>exact absurd rfl hc
 |ext x xs=>
  cases x<;>first
   |exact absurd rfl hc
   |(refine eff (fun K2 q=>⟨h0,q⟩) h1 fun q1 q2=>?_
     rename_i rel
     obtain⟨p1,p2⟩:=q2
     rcases xs with _|⟨_,_⟩
     ·exact⟨_,_,p2,fun K2 hk=>⟨p1,hk⟩,by simp [AOpK.cat],fun _=>.inr ⟨_,_,p1,rfl⟩,by simp [AOpK.cat]⟩
     ·exact p1.elim)
   |(refine eff (fun K2 q=>⟨h0,q⟩) h1 fun q1 q2=>?_
     obtain⟨p1,p2⟩:=q2
     rw[xE_pure (by trivial)]at p2
     exact⟨_,_,p2,fun K2 hk=>⟨p1,by rw[xE_pure (by trivial)];exact hk⟩,fun _=>rfl,by simp [AOpK.cat],by simp [AOpK.cat]⟩)
 |appR rel esz bytes zero x y str=>exact absurd rfl hc
 |nils nq x=>exact absurd rfl hc
 |mnx x=>exact absurd rfl hc
 |cpu f args=>
  refine eff (fun K2 q=>⟨h0,q⟩) h1 fun q1 q2=>?_
  simp only[effOp]at q2⊢
  generalize lkv s.env f=fv at q2⊢
  cases fv<;>(try simp only[]at q2)<;>first|exact q2.elim|skip
  rename_i ff first cap
  cases ff<;>(try simp only[]at q2)<;>first|exact q2.elim|skip
  obtain⟨r,p1,p2⟩:=q2
  exact⟨s.H,r,p2,fun K2 hk=>⟨r,p1,hk⟩,fun _=>rfl,fun _=>.inl rfl,fun _=>.inl rfl⟩
 |alloc rel cs=>
  refine eff (fun K2 q=>⟨h0,q⟩) h1 fun q1 q2=>?_
  exact⟨_,_,q2.2,fun K2 hk=>⟨q2.1,hk⟩,by simp [AOpK.cat],fun _=>.inr ⟨_,_,q2.1,rfl⟩,by simp [AOpK.cat]⟩
 |box rel sz x=>
  refine eff (fun K2 q=>⟨h0,q⟩) h1 fun q1 q2=>?_
  exact⟨_,_,q2.2.2.2,fun K2 hk=>⟨q2.1,q2.2.1,q2.2.2.1,hk⟩,by simp [AOpK.cat],fun _=>.inr ⟨_,_,q2.1,rfl⟩,by simp [AOpK.cat]⟩
 |mks rel esz bytes zero x=>
  refine eff (fun K2 q=>⟨h0,q⟩) h1 fun q1 q2=>?_
  obtain⟨p1,p2,p3,p4,p5,p6,p7⟩:=q2
  exact⟨_,_,p7,fun K2 hk=>⟨p1,p2,p3,p4,p5,p6,hk⟩,by simp [AOpK.cat],fun _=>.inr ⟨_,_,p1,rfl⟩,by simp [AOpK.cat]⟩
 |st sz a x=>
  refine eff (fun K2 q=>⟨h0,q⟩) h1 fun q1 q2=>?_
  obtain⟨p1,p2,p3⟩:=q2
  simp only[effOp,p1,p2,true_and]
  generalize lkv s.env a=av at p3⊢
  cases av<;>(try simp only[]at p3)<;>first|exact p3.elim|skip
  ·split at p3
   ·rename_i cs hh
    simp only[hh]
    exact⟨_,_,p3.2,fun K2 hk=>⟨p3.1,hk⟩,by simp [AOpK.cat],by simp [AOpK.cat],by simp [AOpK.cat]⟩
   ·exact p3.elim
  ·split at p3
   ·rename_i e l hh
    simp only[hh]
    obtain⟨r1,r2,r3,r5⟩:=p3
    exact⟨_,_,r5,fun K2 hk=>⟨r1,r2,r3,hk⟩,by simp [AOpK.cat],by simp [AOpK.cat],by simp [AOpK.cat]⟩
   ·exact p3.elim
 |app rel esz bytes x y str=>
  refine eff (fun K2 q=>⟨h0,q⟩) h1 fun q1 q2=>?_
  simp only[effOp]at q2⊢
  generalize lkv s.env x=av at q2⊢
  generalize srcOf s.H (lkv s.env) esz y str=bv at q2⊢
  cases av<;>(try simp only[]at q2)<;>first|exact q2.elim|skip
  rename_i tok l
  cases bv<;>(try simp only[]at q2)<;>first|exact q2.elim|skip
  simp only[]at q2⊢
  obtain⟨p1,p2,p3,p4,p5,p6⟩:=q2
  refine⟨_,_,p6,fun K2 hk=>⟨p1,p2,p3,p4,p5,hk⟩,by simp [AOpK.cat],by simp [AOpK.cat],fun _=>.inr ⟨tok,_,p1,?_,rfl⟩⟩
  rintro i e rfl
  exact p2.2
def compat (o:AOp) (H H':AHeap) (n n':Nat) (ρ:Opd→AVal):Prop:=match o.k with
 | .v k=>(evk H ρ k).1→evk H ρ k=evk H' ρ k
 | .call true _ _=>H=H'∧n=n'
 |_=>True
theorem stepOp_val {o:AOp} {K K':AS→Prop} {s1 s:AS} (hcat:o.k.cat=0∨o.k.cat=1∨o.k.cat=3) (hl:Look o s1.env s.env)
  (hc:gvb s.env o.guard=true→oks s.env o.k.opds→compat o s1.H s.H s1.n s.n (lkv s.env))
  (hK:∀g v v',(g=true→v=v')→(o.guard=none→g=true)→K (s1.put o.dst g v)→K' (s.put o.dst g v')):
  stepOp P Qp base o K s1→stepOp P Qp base o K' s:=by
 obtain⟨dst,guard,k⟩:=o
 have hg:=gvb_look hl
 have hgn:guard=none→gvb s1.env guard=true:=by rintro rfl;rfl
 simp only at hg hK
 have rho:oks s1.env k.opds→∀x∈k.opds,lkv s1.env x=lkv s.env x:=fun h=>lkv_look hl (l:=k.opds) (fun x hx=>hx) h
 have oksT:oks s1.env k.opds→oks s.env k.opds:=oks_look hl (l:=k.opds) (fun x hx=>hx)
 cases k with
 |v k=>
  rintro⟨h0,h1,h2⟩
  have e:gvb s1.env guard=true→evk s1.H (lkv s1.env) k=evk s.H (lkv s.env) k:=fun q=>by
   have e1:=evk_congr (H:=s1.H) k (rho (h1 q).1)
   rw[e1]
   exact hc (hg▸q) (oksT (h1 q).1) (e1▸(h1 q).2)
  refine⟨gok_look hl h0,fun q=>?_,?_⟩
  ·have q:gvb s1.env guard=true:=hg▸q
   exact⟨oksT (h1 q).1,e q▸(h1 q).2⟩
  ·show K' (s.put dst (gvb s.env guard) _)
   rw[←hg]
   exact hK _ _ _ (fun q=>by rw[e q]) hgn h2
 |pick c a b=>
  rintro⟨h0,h1,h2⟩
  have l1:=look_opd hl (x:=c) (by simp [AOpK.opds])
  have l2:=look_opd hl (x:=a) (by simp [AOpK.opds])
  have l3:=look_opd hl (x:=b) (by simp [AOpK.opds])
  have ec:gvb s1.env guard=true→lkv s1.env c=lkv s.env c:=fun q=>l1.2 (h1 q).1
  have hsel:∀(t:Bool) (x y x' y':AVal),(t=true→x=x')→(t=false→y=y')→sel t x y=sel t x' y':=by
   intro t x y x' y' p1 p2
   cases t with
   |true=>have:=p1 rfl;subst this;cases x<;>cases y<;>cases y'<;>rfl
   |false=>have:=p2 rfl;subst this;cases y<;>cases x<;>cases x'<;>rfl
  refine⟨gok_look hl h0,fun q=>?_,?_⟩
  ·have q:gvb s1.env guard=true:=hg▸q
   obtain⟨q1,q2,q3,q4⟩:=h1 q
   rw[ec q]at q2 q3 q4
   rw[←l1.1,←l2.1,←l3.1]
   exact⟨q1,q2,q3,q4⟩
  ·show K' (s.put dst (gvb s.env guard) _)
   rw[←hg]
   refine hK _ _ _ (fun q=>?_) hgn h2
   rw[←ec q]
   obtain⟨q1,q2,q3,q4⟩:=h1 q
   exact hsel _ _ _ _ _ (fun p=>l2.2 (q3 p)) (fun p=>l3.2 (q4 p))
 |call qt f args=>
  cases qt with
  |false=>simp [AOpK.cat]at hcat
  |true=>
   rintro⟨h0,r,h1,h2⟩
   refine⟨gok_look hl h0,r,fun q=>?_,?_⟩
   ·have q':gvb s1.env guard=true:=hg▸q
    obtain⟨q1,q2,q3⟩:=h1 q'
    have q5:oks s1.env (AOpK.call true f args).opds:=⟨q1,q2⟩
    have rh:=rho q5
    have e1:lkv s1.env f=lkv s.env f:=rh f (by simp [AOpK.opds])
    have e2:args.map (lkv s1.env)=args.map (lkv s.env):=List.map_congr_left fun x hx=>rh x (by simp [AOpK.opds,hx])
    obtain⟨c1,c2⟩:=hc q (oksT q5)
    refine⟨(oksT q5).1,(oksT q5).2,?_⟩
    rw[e1,e2,c1,c2]at q3
    exact q3
   ·show K' (s.put dst (gvb s.env guard) _)
    rw[←hg]
    exact hK _ _ _ (fun _=>rfl) hgn h2
 |ext x xs=>
  have free:x.free→stepOp P Qp base ⟨dst,guard,.ext x xs⟩ K s1→stepOp P Qp base ⟨dst,guard,.ext x xs⟩ K' s:=by
   rintro hx ⟨h0,h1,h2⟩
   refine⟨gok_look hl h0,fun q=>?_,fun q=>?_⟩
   ·have q':gvb s1.env guard=true:=hg▸q
    obtain⟨q1,q2,q3⟩:=h1 q'
    have e2:xs.map (lkv s1.env)=xs.map (lkv s.env):=List.map_congr_left fun x hx=>rho q1 x hx
    refine⟨oksT q1,?_,?_⟩
    ·show(xE base x s.H (xs.map (lkv s.env))).1
     rw[←e2,←(xE_free (b:=base) (l:=xs.map (lkv s1.env)) (H:=s1.H) (H':=s.H) hx).1];exact q2
    ·show K' ({s with H:=(xE base x s.H (xs.map (lkv s.env))).2.1}.put dst true (xE base x s.H (xs.map (lkv s.env))).2.2)
     have q3':K ({s1 with H:=(xE base x s1.H (xs.map (lkv s1.env))).2.1}.put dst true (xE base x s1.H (xs.map (lkv s1.env))).2.2):=q3
     rw[xE_pure hx]at q3'⊢
     exact hK true _ _ (fun _=>by rw[←e2];exact(xE_free hx).2) (fun _=>rfl) q3'
   ·have q':gvb s1.env guard=false:=hg▸q
    exact hK false _ _ (fun q=>by cases q) (fun q=>by have:=hgn q;rw[q']at this;cases this) (h2 q')
  cases x<;>first|(simp [AOpK.cat]at hcat;done)|exact free trivial
 |cpu f args=>
  rintro⟨h0,h1,h2⟩
  refine⟨gok_look hl h0,fun q=>?_,fun q=>?_⟩
  ·have q':gvb s1.env guard=true:=hg▸q
   obtain⟨q1,q3⟩:=h1 q'
   have e1:lkv s1.env f=lkv s.env f:=rho q1 f (by simp [AOpK.opds])
   have e2:args.map (lkv s1.env)=args.map (lkv s.env):=List.map_congr_left fun x hx=>rho q1 x (by simp [AOpK.opds,hx])
   refine⟨oksT q1,?_⟩
   simp only[effOp]at q3⊢
   rw[e1,e2]at q3
   generalize lkv s.env f=fv at q3⊢
   cases fv<;>(try simp only[]at q3)<;>first|exact q3.elim|skip
   rename_i ff first cap
   cases ff<;>(try simp only[]at q3)<;>first|exact q3.elim|skip
   obtain⟨r,p1,p2⟩:=q3
   exact⟨r,p1,hK true _ _ (fun _=>rfl) (fun _=>rfl) p2⟩
  ·have q':gvb s1.env guard=false:=hg▸q
   exact hK false _ _ (fun q=>by cases q) (fun q=>by have:=hgn q;rw[q']at this;cases this) (h2 q')
 |_=>simp [AOpK.cat]at hcat
end
end Go.AM
end
section
set_option maxRecDepth 20000
set_option linter.all false
namespace Go.AM
section
variable {P:Program} {Qp:AVal→AHeap→Nat→Prop} {base:Nat} {kp:List Nat}
theorem put_with (s:AS) (H:AHeap) (n:Nat) (d:Option Nat) (g:Bool) (v:AVal):({s with H:=H,n:=n}:AS).put d g v={s.put d g v with H:=H,n:=n}:=by cases d<;>rfl
theorem seq_comm {s:AS} {dx dy:Option Nat} {gx gy:Bool} {vx vx' vy vy':AVal} (hd:∀d,dx=some d→dy≠some d) (hx:gx=true→vx=vx') (hy:gy=true→vy=vy')
  (kx:∀d,dx=some d→d∈kp→gx=true) (ky:∀d,dy=some d→d∈kp→gy=true):
  SEq kp ((s.put dx gx vx).put dy gy vy) ((s.put dy gy vy').put dx gx vx'):=by
 refine⟨fun t=>?_,by simp [put_H],by simp [put_n]⟩
 simp only[eget_put]
 by_cases h1:dy=some t
 ·have h2:dx≠some t:=fun h=>hd t h h1
  rw[if_pos h1,if_neg h2,if_pos h1]
  exact⟨⟨rfl,hy⟩,fun m=>by rw[hy (ky t h1 m)]⟩
 ·rw[if_neg h1]
  by_cases h2:dx=some t
  ·rw[if_pos h2,if_pos h2]
   exact⟨⟨rfl,hx⟩,fun m=>by rw[hx (kx t h2 m)]⟩
  ·rw[if_neg h2,if_neg h2,if_neg h1]
   exact⟨EEq.rfl' _,fun _=>rfl⟩
def adom (H:AHeap):AVal→Prop
 | .ptr id _| .ap id _ _ _=>hget H id≠none
 |_=>True
theorem aload_alloc {H:AHeap} {id sz:Nat} {ag:Bool} {ob:AObj} {a:AVal} (h:adom H a) (hn:hget H id=none):aload (hset H id ob) sz ag a=aload H sz ag a:=by
 cases a<;>try rfl
 ·rename_i i off
  have:id≠i:=by rintro rfl;exact h hn
  simp only[aload,hget_hset_ne _ _ _ _ this]
 ·rename_i i esz j off
  have:id≠i:=by rintro rfl;exact h hn
  simp only[aload,hget_hset_ne _ _ _ _ this]
theorem aload_adom {H:AHeap} {sz:Nat} {ag:Bool} {a:AVal} (h:(aload H sz ag a).1):adom H a:=by
 cases a<;>simp only[adom]
 ·intro hn;simp [aload,hn]at h
 ·intro hn;simp [aload,hn]at h
theorem hget_app {H:AHeap} {tok:Tok} {id i:Nat} {ob:AObj} (hn:hget H id=none) (ht:∀j e,tok= .own j e→hget H j=some .tok) (ho:hget H i=some ob) (hne:ob≠ .tok):
  hget (hset (killTok H tok) id .tok) i=some ob:=by
 have h1:id≠i:=by rintro rfl;rw[hn]at ho;cases ho
 rw[hget_hset_ne _ _ _ _ h1]
 cases tok<;>try exact ho
 rename_i j e
 have h2:j≠i:=by rintro rfl;rw[ht _ _ rfl]at ho;cases ho;exact hne rfl
 simp only[killTok]
 rw[hget_hset_ne _ _ _ _ h2];exact ho
theorem hget_app_rev {H:AHeap} {tok:Tok} {id i:Nat} {ob:AObj} (ho:hget (hset (killTok H tok) id .tok) i=some ob) (hne:ob≠ .tok) (hne2:ob≠ .dead):hget H i=some ob:=by
 by_cases h1:id=i
 ·subst h1;rw[hget_hset_eq]at ho;cases ho;exact absurd rfl hne
 ·rw[hget_hset_ne _ _ _ _ h1]at ho
  cases tok<;>try exact ho
  rename_i j e
  simp only[killTok]at ho
  by_cases h2:j=i
  ·subst h2;rw[hget_hset_eq]at ho;cases ho;exact absurd rfl hne2
  ·rw[hget_hset_ne _ _ _ _ h2]at ho;exact ho
theorem aload_app {H:AHeap} {tok:Tok} {id sz:Nat} {ag:Bool} {a:AVal} (hn:hget H id=none) (ht:∀j e,tok= .own j e→hget H j=some .tok) (h:(aload H sz ag a).1):
  aload H sz ag a=aload (hset (killTok H tok) id .tok) sz ag a:=by
 cases a<;>try rfl
 ·rename_i i off
  simp only[aload]at h⊢
  split at h
  ·rename_i cs hh;rw[hget_app hn ht hh (by simp)]
  ·exact h.elim
 ·rename_i i esz j off
  simp only[aload]at h⊢
  split at h
  ·rename_i e l hh;rw[hget_app hn ht hh (by simp)]
  ·rename_i e l hh;rw[hget_app hn ht hh (by simp)]
  ·exact h.elim
theorem aload_app_rev {H:AHeap} {tok:Tok} {id sz:Nat} {ag:Bool} {a:AVal} (h:(aload (hset (killTok H tok) id .tok) sz ag a).1):
  aload (hset (killTok H tok) id .tok) sz ag a=aload H sz ag a:=by
 cases a<;>try rfl
 ·rename_i i off
  simp only[aload]at h⊢
  split at h
  ·rename_i cs hh;rw[hget_app_rev hh (by simp) (by simp)]
  ·exact h.elim
 ·rename_i i esz j off
  simp only[aload]at h⊢
  split at h
  ·rename_i e l hh;rw[hget_app_rev hh (by simp) (by simp)]
  ·rename_i e l hh;rw[hget_app_rev hh (by simp) (by simp)]
  ·exact h.elim
theorem evk_heap {o:AOp} (h:o.k.cat=0) (H H':AHeap) (n n':Nat) (ρ:Opd→AVal):compat o H H' n n' ρ:=by
 obtain⟨dst,guard,k⟩:=o
 cases k with
 |v k=>cases k<;>first|(simp [AOpK.cat]at h;done)|exact fun _=>rfl
 |pick c a b=>trivial
 |call q f args=>cases q<;>simp [AOpK.cat]at h
 |_=>trivial
theorem compat_same {o:AOp} (H:AHeap) (n:Nat) (ρ:Opd→AVal):compat o H H n n ρ:=by
 obtain⟨dst,guard,k⟩:=o
 cases k with
 |v k=>exact fun _=>rfl
 |call q f args=>cases q<;>first|exact⟨rfl,rfl⟩|trivial
 |_=>trivial
theorem cat_one {o:AOp} (h:o.k.cat=1):∃sz ag x,o.k= .v (.ld sz ag x):=by
 obtain⟨dst,guard,k⟩:=o
 cases k with
 |v k=>cases k<;>first|exact⟨_,_,_,rfl⟩|(simp [AOpK.cat]at h;done)
 |call q f args=>cases q<;>simp [AOpK.cat]at h
 |ext x xs=>cases x<;>simp [AOpK.cat]at h
 |_=>simp [AOpK.cat]at h
def safeA (o:AOp) (s:AS):Prop:=∀sz ag x,o.k= .v (.ld sz ag x)→(lk s.env x).1=true→adom s.H (lkv s.env x)
def kpOK (kp:List Nat) (o:AOp):Prop:=o.guard=none∨∀d,o.dst=some d→d∉kp
theorem kpOK.held {o:AOp} (h:kpOK kp o) {g:Bool} (hg:o.guard=none→g=true):∀d,o.dst=some d→d∈kp→g=true:=fun d hd hm=>h.elim hg fun k=>absurd hm (k d hd)
structure Apart (x y:AOp):Prop where
 xy:∀d,x.dst=some d→Opd.t d∉y.k.opds∧(∀w,y.guard≠some (d,w))∧y.dst≠some d
 yx:∀d,y.dst=some d→Opd.t d∉x.k.opds∧∀w,x.guard≠some (d,w)
theorem look_put {o:AOp} {s:AS} {d:Option Nat} {g:Bool} {v:AVal} (h:∀i,d=some i→Opd.t i∉o.k.opds∧∀w,o.guard≠some (i,w)):Look o (s.put d g v).env s.env:=by
 refine⟨fun i hi=>?_,fun i w hg=>?_⟩
 ·rw[eget_put,if_neg (fun e=>(h i e).1 hi)];exact EEq.rfl' _
 ·rw[eget_put,if_neg (fun e=>(h i e).2 w hg)];exact EEq.rfl' _
theorem Look.symm {o:AOp} {e e':List (Nat×Bool×AVal)} (h:Look o e e'):Look o e' e:=⟨fun i hi=>(h.1 i hi).symm,fun i w hw=>(h.2 i w hw).symm⟩
def relOf:AOpK→Nat
 | .alloc r _| .box r _ _| .mks r _ _ _ _| .ext (.mkm r) _=>r
 |_=>0
theorem alloc_gen {o:AOp} {K K':AS→Prop} {s1 s:AS} (hcat:o.k.cat=2) (hl:Look o s1.env s.env) (hn:s1.n=s.n) (hdom:hget s1.H (base+relOf o.k)=none→hget s.H (base+relOf o.k)=none)
  (hK:∀g v v' (u:AHeap→AHeap),(g=true→v=v')→(o.guard=none→g=true)→((u=fun H=>H)∨∃ob,u=fun H=>hset H (base+relOf o.k) ob)→K ({s1 with H:=u s1.H}.put o.dst g v)→K' ({s with H:=u s.H}.put o.dst g v')):
  stepOp P Qp base o K s1→stepOp P Qp base o K' s:=by
 obtain⟨dst,guard,k⟩:=o
 have hg:=gvb_look hl
 have hgn:guard=none→gvb s1.env guard=true:=by rintro rfl;rfl
 simp only at hg hK
 have rho:oks s1.env k.opds→∀x∈k.opds,lkv s1.env x=lkv s.env x:=fun h=>lkv_look hl (l:=k.opds) (fun x hx=>hx) h
 have oksT:oks s1.env k.opds→oks s.env k.opds:=oks_look hl (l:=k.opds) (fun x hx=>hx)
 have skip:gvb s1.env guard=false→K (s1.put dst false (.tup []))→K' (s.put dst false (.tup [])):=fun q hk=>
  hK false (.tup []) (.tup []) (fun H=>H) (by simp) (fun q'=>by have:=hgn q';rw[q]at this;cases this) (.inl rfl) hk
 cases k with
 |alloc rel cs=>
  rintro⟨h0,h1⟩
  refine⟨gok_look hl h0,?_⟩
  simp only[]at h1⊢
  rw[←hg]
  refine⟨fun q=>?_,fun q=>skip q (h1.2 q)⟩
  obtain⟨q1,q2⟩:=h1.1 q
  refine⟨oksT q1,?_⟩
  simp only[effOp]at q2⊢
  exact⟨hdom q2.1,hK true _ _ _ (fun _=>rfl) (fun _=>rfl) (.inr ⟨.box cs,rfl⟩) q2.2⟩
 |box rel sz x=>
  rintro⟨h0,h1⟩
  refine⟨gok_look hl h0,?_⟩
  simp only[]at h1⊢
  rw[←hg]
  refine⟨fun q=>?_,fun q=>skip q (h1.2 q)⟩
  obtain⟨q1,q2⟩:=h1.1 q
  have e1:lkv s1.env x=lkv s.env x:=rho q1 x (by simp [AOpK.opds])
  refine⟨oksT q1,?_⟩
  simp only[effOp]at q2⊢
  rw[e1]at q2
  exact⟨hdom q2.1,q2.2.1,q2.2.2.1,hK true _ _ _ (fun _=>rfl) (fun _=>rfl) (.inr ⟨.box _,rfl⟩) q2.2.2.2⟩
 |mks rel esz bytes zero x=>
  rintro⟨h0,h1⟩
  refine⟨gok_look hl h0,?_⟩
  simp only[]at h1⊢
  rw[←hg]
  refine⟨fun q=>?_,fun q=>skip q (h1.2 q)⟩
  obtain⟨q1,q2⟩:=h1.1 q
  have e1:lkv s1.env x=lkv s.env x:=rho q1 x (by simp [AOpK.opds])
  refine⟨oksT q1,?_⟩
  simp only[effOp]at q2⊢
  rw[e1]at q2
  obtain⟨p1,p2,p3,p4,p5,p6,p7⟩:=q2
  exact⟨hdom p1,p2,p3,p4,p5,p6,hK true _ _ _ (fun _=>rfl) (fun _=>rfl) (.inr ⟨.arr _ _,rfl⟩) p7⟩
 |v k=>cases k<;>simp [AOpK.cat]at hcat
 |call q f args=>cases q<;>simp [AOpK.cat]at hcat
 |ext x xs=>
  cases x<;>first|(simp [AOpK.cat]at hcat;done)|skip
  rename_i rel
  rintro⟨h0,h1⟩
  refine⟨gok_look hl h0,?_⟩
  simp only[]at h1⊢
  rw[←hg]
  refine⟨fun q=>?_,fun q=>skip q (h1.2 q)⟩
  obtain⟨q1,q2⟩:=h1.1 q
  refine⟨oksT q1,?_⟩
  simp only[effOp]at q2⊢
  rcases xs with _|⟨_,_⟩
  ·exact⟨hdom q2.1,hK true _ _ _ (fun _=>rfl) (fun _=>rfl) (.inr ⟨.map [] 0,rfl⟩) q2.2⟩
  ·exact q2.1.elim
 |_=>simp [AOpK.cat]at hcat
theorem swap {x y:AOp} {K:AS→Prop} {s:AS} (hap:Apart x y) (hcat:catOK x.k.cat y.k.cat=true) (kx:kpOK kp x) (ky:kpOK kp y) (hrel:x.k.cat=2→y.k.cat=2→relOf x.k≠relOf y.k) (hsafe:safeA y s) (hK:∀a b,SEq kp a b→K a→K b)
  (h:stepOp P Qp base x (stepOp P Qp base y K) s):stepOp P Qp base y (stepOp P Qp base x K) s:=by
 have hxc5:x.k.cat≠5:=by intro e;rw[e]at hcat;cases hy:y.k.cat<;>simp [catOK,hy]at hcat
 obtain⟨H',gx,vx,hy,hre,hgx,hH1,hH2,hH4⟩:=step_det hxc5 h
 have ndst:∀d,x.dst=some d→y.dst≠some d:=fun d hd=>(hap.xy d hd).2.2
 have lookY:∀{s:AS} {H:AHeap} {g:Bool} {v:AVal},Look y ({s with H:=H}.put x.dst g v).env s.env:=fun{s H g v}=>look_put (s:={s with H:=H}) (fun i e=>⟨(hap.xy i e).1,(hap.xy i e).2.1⟩)
 have lookX:∀{s:AS} {H:AHeap} {n:Nat} {g:Bool} {v:AVal},Look x s.env ({s with H:=H,n:=n}.put y.dst g v).env:=fun{s H n g v}=>(look_put (s:={s with H:=H,n:=n}) (hap.yx)).symm
 by_cases hyv:y.k.cat=0∨y.k.cat=1∨y.k.cat=3
 ·
  refine stepOp_val hyv lookY (fun hgy hoy=>?_) (fun gy vy vy' hvy hgy hk=>?_) hy
  ·rw[put_H,put_n]
   by_cases hxc:x.k.cat=0∨x.k.cat=1∨x.k.cat=3
   ·rw[hH1 hxc];exact compat_same _ _ _
   ·rcases hyv with hy0|hy1|hy3
    ·exact evk_heap hy0 _ _ _ _ _
    ·obtain⟨sz,ag,ad,hyk⟩:=cat_one hy1
     have hsf:=hsafe sz ag ad hyk (by rw[hyk]at hoy;exact hoy.1)
     have hxc24:x.k.cat=2∨x.k.cat=4:=by
      rw[hy1]at hcat
      generalize x.k.cat=c at hcat hxc hxc5
      match c with
      |0|1|3=>simp at hxc
      |2=>exact .inl rfl
      |4=>exact .inr rfl
      |5=>simp at hxc5
      |c+6=>simp [catOK]at hcat
     show compat y H' s.H s.n s.n (lkv s.env)
     unfold compat
     rw[hyk]
     show(aload H' sz ag (lkv s.env ad)).1→aload H' sz ag (lkv s.env ad)=aload s.H sz ag (lkv s.env ad)
     intro q
     rcases hxc24 with e|e
     ·rcases hH2 e with rfl|⟨id,ob,p1,rfl⟩
      ·rfl
      ·exact aload_alloc hsf p1
     ·rcases hH4 e with rfl|⟨tok,id,p1,p2,rfl⟩
      ·rfl
      ·exact aload_app_rev q
    ·exfalso
     rw[hy3]at hcat
     generalize x.k.cat=c at hcat hxc hxc5
     match c with
     |0|1|3=>simp at hxc
     |2|4=>simp [catOK]at hcat
     |5=>simp at hxc5
     |c+6=>simp [catOK]at hcat
  ·
   have:=hre (fun s'=>s'={s with H:=H'}.put x.dst gx vx) rfl
   refine stepOp_gen (lookX (s:=s) (H:=s.H) (n:=s.n)) (by rw[put_H]) (by rw[put_n]) (fun H n g v v' hv _ hg he=>?_) this
   have e1:({s.put y.dst gy vy' with H:=H,n:=n}:AS).put x.dst g v'=(({s with H:=H,n:=n}:AS).put y.dst gy vy').put x.dst g v':=by cases y.dst<;>rfl
   rw[e1]
   refine hK _ _ ?_ hk
   rw[←he]
   exact seq_comm ndst hv hvy (kx.held hg) (ky.held hgy)
 ·
  have hxv:x.k.cat=0∨x.k.cat=1∨x.k.cat=3∨(x.k.cat=2∧y.k.cat=2):=by
   generalize x.k.cat=c at hcat hxc5
   generalize y.k.cat=d at hcat hyv
   match c,d with
   |0,_=>exact .inl rfl
   |1,_=>exact .inr (.inl rfl)
   |3,_=>exact .inr (.inr (.inl rfl))
   |_,0=>simp at hyv
   |_,1=>simp at hyv
   |_,3=>simp at hyv
   |2,2=>simp
   |2,4|2,5|2,d+6=>simp [catOK]at hcat
   |4,2|4,4|4,5|4,d+6=>simp [catOK]at hcat
   |5,_=>simp at hxc5
   |c+6,2|c+6,4|c+6,5|c+6,d+6=>simp [catOK]at hcat
  have fin:∀{H:AHeap} {n:Nat} {g g2:Bool} {v v' v2 v2':AVal},(g=true→v=v')→(y.guard=none→g=true)→(g2=true→v2=v2')→(x.guard=none→g2=true)→
    K ((({s with H:=H,n:=n}:AS).put x.dst g2 v2).put y.dst g v)→K ((({s with H:=H,n:=n}:AS).put y.dst g v').put x.dst g2 v2'):=fun a1 a2 a3 a4 hk=>
   hK _ _ (seq_comm ndst a3 a1 (kx.held a4) (ky.held a2)) hk
  rcases hxv with hx0|hx1|hx3|⟨hx2,hy2⟩
  ·have eH:=hH1 (.inl hx0)
   subst eH
   refine stepOp_gen lookY (by rw[put_H]) (by rw[put_n]) (fun H n g v v' hv _ hg hk=>?_) hy
   have:=hre (fun s'=>s'=s.put x.dst gx vx) rfl
   refine stepOp_val (.inl hx0) (lookX (s:=s) (H:=H) (n:=n)) (fun _ _=>evk_heap hx0 _ _ _ _ _) (fun g2 v2 v2' hv2 hg2 he=>?_) this
   refine fin hv hg hv2 hg2 ?_
   rw[put_with s,he]
   exact hk
  ·have eH:=hH1 (.inr (.inl hx1))
   subst eH
   have hy24:y.k.cat=2∨y.k.cat=4:=by
    rw[hx1]at hcat
    generalize y.k.cat=d at hcat hyv
    match d with
    |0|1|3=>simp at hyv
    |2=>exact .inl rfl
    |4=>exact .inr rfl
    |5|d+6=>simp [catOK]at hcat
   have hyc5:y.k.cat≠5:=by rcases hy24 with e|e<;>rw[e]<;>decide
   obtain⟨H2,gy,vy,hk,hreY,hgy,-,hR2,hR4⟩:=step_det hyc5 hy
   rw[put_H]at hR2 hR4
   obtain⟨sz,ag,ad,hxk⟩:=cat_one hx1
   refine stepOp_gen lookY (by rw[put_H]) (by rw[put_n]) (fun H n g v v' hv _ hg he=>?_) (hreY (fun s'=>s'=({s.put x.dst gx vx with H:=H2}:AS).put y.dst gy vy) rfl)
   have e1:H=H2:=by have:=congrArg AS.H he;rwa[put_H,put_H]at this
   subst e1
   rw[←he]at hk
   have:=hre (fun s'=>s'=s.put x.dst gx vx) rfl
   refine stepOp_val (.inr (.inl hx1)) (lookX (s:=s) (H:=H) (n:=n)) (fun _ _=>?_) (fun g2 v2 v2' hv2 hg2 he2=>?_) this
   ·rw[put_H,put_n]
    unfold compat
    rw[hxk]
    show(aload s.H sz ag _).1→aload s.H sz ag _=aload H sz ag _
    intro q
    rcases hy24 with e|e
    ·rcases hR2 e with rfl|⟨id,ob,p1,rfl⟩
     ·rfl
     ·exact(aload_alloc (aload_adom q) p1).symm
    ·rcases hR4 e with rfl|⟨tok,id,p1,p2,rfl⟩
     ·rfl
     ·exact aload_app p1 p2 q
   ·refine fin hv hg hv2 hg2 ?_
    rw[put_with s,he2]
    exact hk
  ·exfalso
   rw[hx3]at hcat
   generalize y.k.cat=d at hcat hyv
   match d with
   |0|1|3=>simp at hyv
   |2|4|5|d+6=>simp [catOK]at hcat
  ·refine alloc_gen hy2 lookY (by rw[put_n]) (fun q=>?_) (fun g v v' u hv hg hu hk=>?_) hy
   ·rw[put_H]at q
    rcases hH2 hx2 with rfl|⟨id,ob,p1,rfl⟩
    ·exact q
    ·rw[hget_hset]at q
     split at q
     ·cases q
     ·exact q
   ·have:=hre (fun s'=>s'={s with H:=H'}.put x.dst gx vx) rfl
    refine alloc_gen hx2 (lookX (s:=s) (H:=u s.H) (n:=s.n)) (by rw[put_n]) (fun q=>?_) (fun g2 v2 v2' u2 hv2 hg2 hu2 he=>?_) this
    ·rw[put_H]
     rcases hu with rfl|⟨ob,rfl⟩
     ·exact q
     ·have:=hrel hx2 hy2
      rw[hget_hset_ne _ _ _ _ (by omega)];exact q
    ·rw[put_H]
     have e1:({({s with H:=u s.H}:AS).put y.dst g v' with H:=u2 (u s.H)}:AS).put x.dst g2 v2'=(({s with H:=u2 (u s.H),n:=s.n}:AS).put y.dst g v').put x.dst g2 v2':=by
      cases y.dst<;>rfl
     rw[e1]
     refine fin hv hg hv2 hg2 ?_
     rw[put_H]at hk
     have e2:H'=u2 s.H:=by have:=congrArg AS.H he;rw[put_H,put_H]at this;exact this.symm
     have e3:u H'=u2 (u s.H):=by
      rw[e2]
      rcases hu with rfl|⟨ob,rfl⟩<;>rcases hu2 with rfl|⟨ob2,rfl⟩<;>try rfl
      have:=hrel hx2 hy2
      exact hset_comm _ _ _ _ _ (by omega)
     rw[←e3]
     have e4:({({s with H:=H'}:AS).put x.dst gx vx with H:=u H'}:AS)=({s with H:=u H',n:=s.n}:AS).put x.dst g2 v2:=by
      have e5:=congrArg AS.env he
      have e6:(({s with H:=u2 s.H}:AS).put x.dst g2 v2).env=(({s with H:=u H',n:=s.n}:AS).put x.dst g2 v2).env:=by cases x.dst<;>rfl
      have e7:∀(a b:AS),a.env=b.env→a.H=b.H→a.n=b.n→a=b:=by rintro⟨⟩ ⟨⟩ h1 h2 h3;simp at h1 h2 h3;simp [h1,h2,h3]
      refine e7 _ _ ?_ ?_ ?_
      ·rw[←e6,e5]
      ·rw[put_H]
      ·show(({s with H:=H'}:AS).put x.dst gx vx).n=_;rw[put_n,put_n]
     rw[←e4];exact hk
end
end Go.AM
end
section
set_option maxRecDepth 20000
set_option linter.all false
namespace Go.AM
section
variable {P:Program} {Qp:AVal→AHeap→Nat→Prop} {base:Nat} {kp:List Nat}
theorem SEq.put {a b:AS} {d:Option Nat} {H:AHeap} {n:Nat} {g:Bool} {v v':AVal} (h:SEq kp a b) (hv:g=true→v=v') (hk:∀i,d=some i→i∈kp→g=true):
  SEq kp (({a with H:=H,n:=n}:AS).put d g v) (({b with H:=H,n:=n}:AS).put d g v'):=by
 refine⟨fun t=>?_,by rw[put_H,put_H],by rw[put_n,put_n]⟩
 simp only[eget_put]
 by_cases h1:d=some t
 ·rw[if_pos h1,if_pos h1]
  exact⟨⟨rfl,hv⟩,fun m=>by rw[hv (hk t h1 m)]⟩
 ·rw[if_neg h1,if_neg h1];exact h.1 t
theorem runOps_resp {K:AS→Prop} (hK:∀a b,SEq kp a b→K a→K b):∀(L:List AOp),(∀x∈L,kpOK kp x)→∀a b,SEq kp a b→runOps P Qp base L K a→runOps P Qp base L K b
 |[],_,a,b,h,hh=>hK a b h hh
 |x::L,hk,a,b,h,hh=>stepOp_gen (s1:=a) (s:=b) ⟨fun i _=>(h.1 i).1,fun i _ _=>(h.1 i).1⟩ h.2.1 h.2.2
   (fun H n g v v' hv _ hg q=>runOps_resp hK L (fun y hy=>hk y (List.mem_cons_of_mem _ hy)) _ _ (h.put hv ((hk x (List.mem_cons_self ..)).held hg)) q) hh
theorem adom_mono {H H':AHeap} (h:∀id,hget H id≠none→hget H' id≠none) {a:AVal} (ha:adom H a):adom H' a:=by
 cases a<;>first|exact h _ ha|trivial
theorem dom_hset {H:AHeap} {i id:Nat} {ob:AObj} (h:hget H id≠none):hget (hset H i ob) id≠none:=by
 rw[hget_hset];split
 ·simp
 ·exact h
theorem front {y:AOp} {B:List AOp} {K:AS→Prop} (ky:kpOK kp y) (hB:∀x∈B,kpOK kp x) (hK:∀a b,SEq kp a b→K a→K b):∀(A:List AOp) (s:AS),
  (∀x∈A,Apart x y∧catOK x.k.cat y.k.cat=true∧kpOK kp x∧(x.k.cat=2→y.k.cat=2→relOf x.k≠relOf y.k))→safeA y s→
  runOps P Qp base (A++y::B) K s→stepOp P Qp base y (runOps P Qp base (A++B) K) s
 |[],_,_,_,h=>h
 |x::A,s,hA,hs,h=>by
  obtain⟨hap,hcat,kx,hrel⟩:=hA x (List.mem_cons_self ..)
  have hxc5:x.k.cat≠5:=by intro e;rw[e]at hcat;cases hy:y.k.cat<;>simp [catOK,hy]at hcat
  obtain⟨H',gx,vx,h1,hre,-,hH1,hH2,hH4⟩:=step_det hxc5 h
  have hs1:safeA y ({s with H:=H'}.put x.dst gx vx):=by
   intro sz ag ad e hok
   have hy1:y.k.cat=1:=by rw[e];rfl
   have hlk:lk ({s with H:=H'}.put x.dst gx vx).env ad=lk s.env ad:=by
    cases ad with
    |c v=>rfl
    |t i=>
     simp only[lk]
     rw[eget_put,if_neg (fun q=>(hap.xy i q).1 (by rw[e];simp [AOpK.opds,Opk.opds]))]
   have hlv:lkv ({s with H:=H'}.put x.dst gx vx).env ad=lkv s.env ad:=by simp only[lkv,hlk]
   rw[hlv,put_H]
   rw[hlk]at hok
   refine adom_mono (H:=s.H) (fun id hid=>?_) (hs sz ag ad e hok)
   rw[hy1]at hcat
   have hxc:(x.k.cat=0∨x.k.cat=1∨x.k.cat=3)∨x.k.cat=2∨x.k.cat=4:=by
    generalize x.k.cat=c at hcat hxc5
    match c with
    |0|1|2|3|4=>simp
    |5=>simp at hxc5
    |c+6=>simp [catOK]at hcat
   rcases hxc with e|e|e
   ·rw[hH1 e];exact hid
   ·rcases hH2 e with rfl|⟨i,ob,p1,rfl⟩
    ·exact hid
    ·exact dom_hset hid
   ·rcases hH4 e with rfl|⟨tok,i,p1,p2,rfl⟩
    ·exact hid
    ·refine dom_hset ?_
     cases tok<;>first|exact hid|exact dom_hset hid
  have h2:=front ky hB hK A _ (fun z hz=>hA z (List.mem_cons_of_mem _ hz)) hs1 h1
  have hAB:∀z∈A++B,kpOK kp z:=fun z hz=>(List.mem_append.1 hz).elim (fun q=>(hA z (List.mem_cons_of_mem _ q)).2.2.1) (hB z)
  exact swap hap hcat kx ky hrel hs (runOps_resp hK (A++B) hAB) (hre _ h2)
end
theorem aapart_spec {x y:AOp} (h:aapart x y=true):Apart x y:=by
 unfold aapart at h
 rw[Bool.and_eq_true]at h
 obtain⟨h1,h2⟩:=h
 refine⟨fun d hd=>?_,fun d hd=>?_⟩
 ·rw[hd]at h1
  simp only[Bool.and_eq_true,Bool.not_eq_true',Bool.or_eq_false_iff,bne_iff_ne]at h1
  obtain⟨⟨p1,p2⟩,p3⟩:=h1
  refine⟨fun hm=>?_,fun w hg=>?_,p3⟩
  ·rw[List.any_eq_false]at p1
   exact p1 _ hm (by simp)
  ·rw[hg]at p2;simp at p2
 ·rw[hd]at h2
  simp only[Bool.not_eq_true',Bool.or_eq_false_iff]at h2
  obtain⟨p1,p2⟩:=h2
  refine⟨fun hm=>?_,fun w hg=>?_⟩
  ·rw[List.any_eq_false]at p1
   exact p1 _ hm (by simp)
  ·rw[hg]at p2;simp at p2
theorem cops_spec {P:Program} {N lo:Nat} {ops:Array Oper} {mkv imp:List Nat}:∀(L:List Oper) (i:Nat) (l:List AOp),cops P N lo ops mkv imp L i=some l→
  l.length=L.length∧∀(j:Nat) (o:Oper),L[j]?=some o→∃gd k,l[j]?=some ⟨o.dst,gd,k⟩∧cguard ops o.guard=some gd∧copK P (mkv.contains (i+j)) (imp.contains (i+j)) (i+j) o.op=some k∧∀d,o.dst=some d→d<N∧lo≤d
 |[],i,l,h=>by
  simp only[cops]at h;cases h
  exact⟨rfl,fun j o h=>by simp at h⟩
 |o::L,i,l,h=>by
  simp only[cops]at h
  split at h
  ·rename_i gd k l' h1 h2 h3
   split at h
   ·rename_i hd
    cases h
    obtain⟨q1,q2⟩:=cops_spec L (i+1) l' h3
    refine⟨by simp [q1],fun j o' hj=>?_⟩
    cases j with
    |zero=>
     simp only[List.getElem?_cons_zero]at hj;cases hj
     refine⟨gd,k,rfl,h1,h2,fun d e=>?_⟩
     rw[e]at hd;simpa using hd
    |succ j=>
     simp only[List.getElem?_cons_succ]at hj
     obtain⟨gd',k',p1,p2,p3,p4⟩:=q2 j o' hj
     have e:i+1+j=i+(j+1):=by omega
     rw[e]at p3
     exact⟨gd',k',p1,p2,p3,p4⟩
   ·cases h
  ·cases h
theorem copK_rel {P:Program} {mkv imp:Bool} {i:Nat} {op:Op} {k:AOpK} (h:copK P mkv imp i op=some k) (hc:k.cat=2):relOf k=i:=by
 have other:copK P mkv imp i op=(copk P mkv op).map .v→False:=by
  intro e
  rw[e]at h
  cases h1:copk P mkv op with
  |none=>simp [h1]at h
  |some k'=>simp [h1]at h;subst h;cases k'<;>simp [AOpK.cat]at hc
 cases op
 case alloc t=>
  simp only[copK]at h
  cases hz:zeroT P t with
  |none=>simp [hz]at h
  |some z=>simp [hz]at h;subst h;rfl
 case box t x=>
  simp only[copK]at h
  split at h
  ·cases h;rfl
  ·cases h
 case pick c x y=>
  simp only[copK]at h
  split at h
  ·cases h;simp [AOpK.cat]at hc
  ·cases h
 case store t ad x=>
  simp only[copK]at h
  split at h
  ·cases h;simp [AOpK.cat]at hc
  ·cases h
 case slice t x lo hi mx=>
  simp only[copK]at h
  split at h
  ·split at h
   ·split at h
    ·cases h;simp [AOpK.cat]at hc
    ·cases h
   ·cases h
  ·cases h1:copk P mkv (.slice t x lo hi mx)with
   |none=>simp [h1]at h
   |some k'=>simp [h1]at h;subst h;cases k'<;>simp [AOpK.cat]at hc
 case panic x=>
  simp only[copK]at h
  cases hx:copd x with
  |none=>simp [hx]at h
  |some x'=>simp [hx]at h;subst h;simp [AOpK.cat]at hc
 case makeSlice t l c=>
  cases mkv with
  |true=>exact(other (by simp [copK])).elim
  |false=>
   cases l<;>cases c<;>(try (simp [copK]at h;done))
   ·simp only[copK,Bool.false_eq_true,if_false]at h
    split at h
    ·split at h
     ·split at h
      ·cases h;rfl
      ·cases h
     ·cases h
    ·cases h
   ·rename_i l c
    cases l<;>(try (simp [copK]at h;done))
    rename_i kl nl
    cases kl<;>(try (simp [copK]at h;done))
    cases c<;>(try (simp [copK]at h;done))
    rename_i kc nc
    cases kc<;>(try (simp [copK]at h;done))
    simp only[copK,Bool.false_eq_true,if_false]at h
    split at h
    ·split at h
     ·split at h
      ·cases h;rfl
      ·cases h
     ·cases h
    ·cases h
 case call c=>
  obtain⟨callee,args,ts⟩:=c
  cases callee
  case invoke rv mt=>simp [copK,copk]at h
  case value f=>
   simp only[copK]at h
   split at h
   ·cases mkv<;>cases imp<;>simp at h<;>subst h<;>simp [AOpK.cat]at hc
   ·cases h
  case builtin b=>
   cases b
   case append=>
    simp only[copK]at h
    split at h
    ·split at h
     ·split at h
      ·split at h
       ·cases h;cases mkv<;>simp [AOpK.cat]at hc
       ·cases h
      ·split at h
       ·cases h;cases mkv<;>simp [AOpK.cat]at hc
       ·cases h
      ·cases h
     ·cases h
    ·cases h
   case len=>
    simp only[copK]at h
    split at h
    ·split at h
     ·cases hx:copd ‹Operand› with
      |none=>simp [hx]at h
      |some x'=>simp [hx]at h;subst h;simp [AOpK.cat]at hc
     ·cases h1:copk P mkv (.call {callee:=.builtin .len,args,argTypes:=ts})with
      |none=>simp [h1]at h
      |some k'=>simp [h1]at h;subst h;cases k'<;>simp [AOpK.cat]at hc
    ·cases h
   all_goals exact(other (by first|rfl|simp [copK])).elim
 case makeMap t r=>
  cases r with
  |some r=>simp [copK,copk]at h
  |none=>
   simp only[copK]at h
   split at h
   ·cases h;rfl
   ·cases h
 case lookup t x ix ok=>
  simp only[copK]at h
  split at h
  ·split at h
   ·cases h;simp [AOpK.cat]at hc
   ·cases h
  ·cases h
 case mapUpdate t mm kk x=>
  simp only[copK,cput]at h
  split at h
  ·simp only[Option.map_eq_some_iff]at h;obtain⟨_,_,rfl⟩:=h;simp [AOpK.cat]at hc
  ·cases h
 case insert t mm kk x=>
  simp only[copK,cput]at h
  split at h
  ·simp only[Option.map_eq_some_iff]at h;obtain⟨_,_,rfl⟩:=h;simp [AOpK.cat]at hc
  ·cases h
 case range t x=>
  simp only[copK]at h
  split at h
  ·cases h;simp [AOpK.cat]at hc
  ·cases h;simp [AOpK.cat]at hc
  ·cases h
 case next x b=>
  cases b with
  |false=>
   simp only[copK]at h
   cases hx:copd x with
   |none=>simp [hx]at h
   |some x'=>simp [hx]at h;subst h;simp [AOpK.cat]at hc
  |true=>
   simp only[copK]at h
   cases hx:copd x with
   |none=>simp [hx]at h
   |some x'=>simp [hx]at h;subst h;simp [AOpK.cat]at hc
 case entry x=>
  simp only[copK]at h
  cases hx:copd x with
  |none=>simp [hx]at h
  |some x'=>simp [hx]at h;subst h;simp [AOpK.cat]at hc
 case convert sT dT x=>
  simp only[copK]at h
  split at h
  ·cases hx:copd x with
   |none=>simp [hx]at h
   |some x'=>simp [hx]at h;subst h;simp [AOpK.cat]at hc
  ·cases h1:copk P mkv (.convert sT dT x)with
   |none=>simp [h1]at h
   |some k'=>simp [h1]at h;subst h;cases k'<;>simp [AOpK.cat]at hc
 case binOp bo t X Y yt=>
  cases bo<;>cases Y<;>first
   |exact(other rfl).elim
   |(simp only[copK]at h
     split at h
     ·simp only[Option.map_eq_some_iff]at h;obtain⟨_,_,rfl⟩:=h;simp [AOpK.cat]at hc
     ·split at h
      ·simp only[Option.map_eq_some_iff]at h;obtain⟨_,_,rfl⟩:=h;simp [AOpK.cat]at hc
      ·simp only[Option.map_eq_some_iff]at h;obtain⟨k',_,rfl⟩:=h;cases k'<;>simp [AOpK.cat]at hc
     done)
   |exact(other (by simp only[copK])).elim
 case typeAssert x xt t ok=>
  simp only[copK]at h
  split at h
  ·cases h
  ·split at h
   ·cases h;simp [AOpK.cat]at hc
   ·cases h
 all_goals exact(other (by first|rfl|simp [copK])).elim
end Go.AM
end
section
set_option maxRecDepth 20000
set_option linter.all false
namespace Go.AM
theorem sideO_congr {base:Nat} {cx:Nat→AVal} {ρ ρ':Opd→AVal}:∀(f:Nat) (k:AOpK),(∀a∈k.opds,ρ a=ρ' a)→sideO base cx ρ f k→sideO base cx ρ' f k
 |0,_,_,_=>trivial
 |1,.v (.ld _ _ a),h,q=>by simp only[sideO]at q⊢;rw[←h a (by simp [AOpK.opds,Opk.opds])];exact q
 |2,.st _ a _,h,q=>by simp only[sideO]at q⊢;rw[←h a (by simp [AOpK.opds])];exact q
 |f+3,.v k,h,q=>by
  cases k with
  |ld sz ag a=>simp only[sideO]at q⊢;rw[←h a (by simp [AOpK.opds,Opk.opds])];exact q
  |_=>simp only[sideO]at q
 |f+3,.st _ a _,h,q=>by simp only[sideO]at q⊢;rw[←h a (by simp [AOpK.opds])];exact q
 |f+3,.pick ..,_,q|f+3,.alloc ..,_,q|f+3,.box ..,_,q|f+3,.app ..,_,q|f+3,.mks ..,_,q|f+3,.call true ..,_,q|f+3,.pan ..,_,q|f+3,.slA ..,_,q|f+3,.ext ..,_,q|f+3,.appR ..,_,q|f+3,.nils ..,_,q|f+3,.cpu ..,_,q|f+3,.mnx ..,_,q=>by simp only[sideO]at q
 |f+3,.call false ..,_,q=>by simp only[sideO]at q⊢;exact q
 |1,.pick ..,_,q|1,.alloc ..,_,q|1,.box ..,_,q|1,.app ..,_,q|1,.mks ..,_,q|1,.call ..,_,q|1,.pan ..,_,q|1,.st ..,_,q=>by simp only[sideO]at q
 |2,.v _,_,q|2,.pick ..,_,q|2,.alloc ..,_,q|2,.box ..,_,q|2,.app ..,_,q|2,.mks ..,_,q|2,.call ..,_,q|2,.pan ..,_,q=>by simp only[sideO]at q
 |1,.v k,h,q=>by
  cases k with
  |ld sz ag a=>simp only[sideO]at q⊢;rw[←h a (by simp [AOpK.opds,Opk.opds])];exact q
  |_=>simp only[sideO]at q
theorem aload_ne {H:AHeap} {id sz:Nat} {ag:Bool} {ob:AObj} {a:AVal} (h:¬addr id a):aload (hset H id ob) sz ag a=aload H sz ag a:=by
 cases a<;>try rfl
 ·rename_i i off
  simp only[aload,hget_hset_ne _ _ _ _ (fun e=>h (Eq.symm e))]
 ·rename_i i esz j off
  simp only[aload,hget_hset_ne _ _ _ _ (fun e=>h (Eq.symm e))]
theorem above_addr {base id:Nat} {a b:AVal} (h1:above base a) (h2:addr id a) (h3:below base b):¬addr id b:=by
 intro h4
 have e1:base≤id:=by cases a<;>simp only[above,addr]at h1 h2<;>omega
 have e2:id<base:=by cases b<;>simp only[below,addr]at h3 h4<;>omega
 omega
section
variable {P:Program} {Qp:AVal→AHeap→Nat→Prop} {base:Nat} {cx:Nat→AVal} {kp:List Nat}
theorem st_det {o:AOp} {sz:Nat} {a x:Opd} {K:AS→Prop} {s:AS} (hk:o.k= .st sz a x) (h:stepOp P Qp base o K s):
  ∃H' g v,K ({s with H:=H'}.put o.dst g v)∧(∀K2:AS→Prop,K2 ({s with H:=H'}.put o.dst g v)→stepOp P Qp base o K2 s)∧(o.guard=none→g=true)∧
   (H'=s.H∨(gvb s.env o.guard=true∧∃id ob,addr id (lkv s.env a)∧H'=hset s.H id ob)):=by
 obtain⟨dst,guard,k⟩:=o
 simp only at hk;subst hk
 obtain⟨h0,h1⟩:=h
 simp only at h1
 by_cases hg:gvb s.env guard=true
 ·obtain⟨p0,p1,p2,p3⟩:=h1.1 hg
  have fin:∀(H':AHeap) (id:Nat) (ob:AObj),addr id (lkv s.env a)→H'=hset s.H id ob→K ({s with H:=H'}.put dst true (.tup []))→
    (∀K2:AS→Prop,K2 ({s with H:=H'}.put dst true (.tup []))→effOp P Qp base ⟨dst,guard,.st sz a x⟩ K2 s)→_:=fun H' id ob q1 q2 q3 q4=>
   (⟨H',true,.tup [],q3,fun K2 hk=>⟨h0,fun _=>⟨p0,q4 K2 hk⟩,fun q=>by rw[hg]at q;cases q⟩,fun _=>rfl,.inr ⟨hg,id,ob,q1,q2⟩⟩:
    ∃H' g v,K ({s with H:=H'}.put dst g v)∧(∀K2:AS→Prop,K2 ({s with H:=H'}.put dst g v)→stepOp P Qp base ⟨dst,guard,.st sz a x⟩ K2 s)∧(guard=none→g=true)∧
     (H'=s.H∨(gvb s.env guard=true∧∃id ob,addr id (lkv s.env a)∧H'=hset s.H id ob)))
  generalize hav:lkv s.env a=av at p3 fin
  cases av<;>(try simp only[]at p3)<;>first|exact p3.elim|skip
  ·split at p3
   ·rename_i id off _ cs hh
    refine fin _ id _ rfl rfl p3.2 fun K2 hk=>⟨p1,p2,?_⟩
    simp only[hav,hh];exact⟨p3.1,hk⟩
   ·exact p3.elim
  ·split at p3
   ·rename_i id esz i off _ e l hh
    obtain⟨r1,r2,r3,r5⟩:=p3
    refine fin _ id _ rfl rfl r5 fun K2 hk=>⟨p1,p2,?_⟩
    simp only[hav,hh];exact⟨r1,r2,r3,hk⟩
   ·exact p3.elim
 ·have hg:gvb s.env guard=false:=by simpa using hg
  exact⟨s.H,false,.tup [],h1.2 hg,fun K2 hk=>⟨h0,fun q=>(by rw[hg]at q;cases q),fun _=>hk⟩,fun q=>(by subst q;cases hg),.inl rfl⟩
theorem lkv_put {s:AS} {d:Option Nat} {g:Bool} {v:AVal} {a:Opd} (h:∀i,d=some i→a≠ .t i):lkv (s.put d g v).env a=lkv s.env a:=by
 cases a with
 |c v=>rfl
 |t i=>simp only[lkv,lk];rw[eget_put,if_neg (fun e=>h i e rfl)]
theorem swapLS {x y:AOp} {sz sz':Nat} {ag:Bool} {ax ay vy0:Opd} {K:AS→Prop} {s:AS} (hxk:x.k= .v (.ld sz ag ax)) (hyk:y.k= .st sz' ay vy0) (hap:Apart x y) (kx:kpOK kp x) (ky:kpOK kp y)
  (hne:gvb s.env x.guard=true→gvb s.env y.guard=true→∀id,addr id (lkv s.env ay)→¬addr id (lkv s.env ax)) (hK:∀a b,SEq kp a b→K a→K b)
  (h:stepOp P Qp base x (stepOp P Qp base y K) s):stepOp P Qp base y (stepOp P Qp base x K) s:=by
 have hx1:x.k.cat=1:=by rw[hxk];rfl
 obtain⟨H',gx,vx,hy,hre,hgx,hH1,-,-⟩:=step_det (by rw[hx1];decide) h
 have eH:=hH1 (.inr (.inl hx1))
 subst eH
 have ndst:∀d,x.dst=some d→y.dst≠some d:=fun d hd=>(hap.xy d hd).2.2
 have lookY:∀{s:AS} {H:AHeap} {g:Bool} {v:AVal},Look y ({s with H:=H}.put x.dst g v).env s.env:=fun{s H g v}=>look_put (s:={s with H:=H}) (fun i e=>⟨(hap.xy i e).1,(hap.xy i e).2.1⟩)
 have lookX:∀{s:AS} {H:AHeap} {n:Nat} {g:Bool} {v:AVal},Look x s.env ({s with H:=H,n:=n}.put y.dst g v).env:=fun{s H n g v}=>(look_put (s:={s with H:=H,n:=n}) (hap.yx)).symm
 obtain⟨H2,gy,vy,hk,hreY,hgy,hS⟩:=st_det hyk hy
 refine stepOp_gen lookY (by rw[put_H]) (by rw[put_n]) (fun H n g v v' hv _ hg he=>?_) (hreY (fun s'=>s'=({s.put x.dst gx vx with H:=H2}:AS).put y.dst gy vy) rfl)
 have e1:H=H2:=by have:=congrArg AS.H he;rwa[put_H,put_H]at this
 subst e1
 rw[←he]at hk
 have:=hre (fun s'=>s'=s.put x.dst gx vx) rfl
 refine stepOp_val (.inr (.inl hx1)) (lookX (s:=s) (H:=H) (n:=n)) (fun q1 _=>?_) (fun g2 v2 v2' hv2 hg2 he2=>?_) this
 ·rw[put_H,put_n]
  have ex:lkv (({s with H:=H,n:=n}:AS).put y.dst g v').env ax=lkv s.env ax:=lkv_put (s:={s with H:=H,n:=n}) (fun i e=>fun e'=>(hap.yx i e).1 (by rw[hxk,e'];simp [AOpK.opds,Opk.opds]))
  rw[←gvb_look (lookX (s:=s) (H:=H) (n:=n) (g:=g) (v:=v'))]at q1
  unfold compat
  rw[hxk]
  show(aload s.H sz ag _).1→aload s.H sz ag _=aload H sz ag _
  intro _
  rw[ex]
  rcases hS with e|⟨p1,id,ob,p2,p3⟩
  ·rw[e,put_H]
  ·rw[p3,put_H,aload_ne]
   have ey:lkv (s.put x.dst gx vx).env ay=lkv s.env ay:=lkv_put (fun i e=>fun e'=>(hap.xy i e).1 (by rw[hyk,e'];simp [AOpK.opds]))
   rw[ey]at p2
   have gy':gvb s.env y.guard=true:=by rw[←gvb_look (lookY (s:=s) (H:=s.H) (g:=gx) (v:=vx))];exact p1
   exact hne q1 gy' _ p2
 ·refine hK _ _ (seq_comm ndst hv2 hv (kx.held hg2) (ky.held hg)) ?_
  rw[put_with s,he2]
  exact hk
theorem swapSL {x y:AOp} {sz sz':Nat} {ag:Bool} {ax ay vy0:Opd} {K:AS→Prop} {s:AS} (hxk:x.k= .st sz' ax vy0) (hyk:y.k= .v (.ld sz ag ay)) (hap:Apart x y) (kx:kpOK kp x) (ky:kpOK kp y)
  (hne:gvb s.env x.guard=true→gvb s.env y.guard=true→∀id,addr id (lkv s.env ax)→¬addr id (lkv s.env ay)) (hK:∀a b,SEq kp a b→K a→K b)
  (h:stepOp P Qp base x (stepOp P Qp base y K) s):stepOp P Qp base y (stepOp P Qp base x K) s:=by
 have hy1:y.k.cat=1:=by rw[hyk];rfl
 obtain⟨H',gx,vx,hy,hre,hgx,hS⟩:=st_det hxk h
 have ndst:∀d,x.dst=some d→y.dst≠some d:=fun d hd=>(hap.xy d hd).2.2
 have lookY:∀{s:AS} {H:AHeap} {g:Bool} {v:AVal},Look y ({s with H:=H}.put x.dst g v).env s.env:=fun{s H g v}=>look_put (s:={s with H:=H}) (fun i e=>⟨(hap.xy i e).1,(hap.xy i e).2.1⟩)
 have lookX:∀{s:AS} {H:AHeap} {n:Nat} {g:Bool} {v:AVal},Look x s.env ({s with H:=H,n:=n}.put y.dst g v).env:=fun{s H n g v}=>(look_put (s:={s with H:=H,n:=n}) (hap.yx)).symm
 refine stepOp_val (.inr (.inl hy1)) lookY (fun hgy hoy=>?_) (fun gy vy vy' hvy hgy hk=>?_) hy
 ·rw[put_H,put_n]
  unfold compat
  rw[hyk]
  show(aload H' sz ag (lkv s.env ay)).1→aload H' sz ag (lkv s.env ay)=aload s.H sz ag (lkv s.env ay)
  intro _
  rcases hS with e|⟨p1,id,ob,p2,p3⟩
  ·rw[e]
  ·rw[p3,aload_ne]
   exact hne p1 hgy _ p2
 ·have:=hre (fun s'=>s'={s with H:=H'}.put x.dst gx vx) rfl
  refine stepOp_gen (lookX (s:=s) (H:=s.H) (n:=s.n)) (by rw[put_H]) (by rw[put_n]) (fun H n g v v' hv _ hg he=>?_) this
  have e1:({s.put y.dst gy vy' with H:=H,n:=n}:AS).put x.dst g v'=(({s with H:=H,n:=n}:AS).put y.dst gy vy').put x.dst g v':=by cases y.dst<;>rfl
  rw[e1]
  refine hK _ _ ?_ hk
  rw[←he]
  exact seq_comm ndst hv hvy (kx.held hg) (ky.held hgy)
theorem side_put {f:Nat} {o:AOp} {s:AS} {H:AHeap} {n:Nat} {d:Option Nat} {g:Bool} {v:AVal} (h:∀i,d=some i→Opd.t i∉o.k.opds∧∀w,o.guard≠some (i,w)):
  sideX base cx f o ({s with H:=H,n:=n}.put d g v)↔sideX base cx f o s:=by
 have hl:Look o ({s with H:=H,n:=n}.put d g v).env s.env:=look_put (s:={s with H:=H,n:=n}) h
 have hg:=gvb_look hl
 have ha:∀a∈o.k.opds,lkv ({s with H:=H,n:=n}.put d g v).env a=lkv s.env a:=fun a hm=>lkv_put (s:={s with H:=H,n:=n}) (fun i e e'=>(h i e).1 (e'▸hm))
 unfold sideX
 rw[hg]
 exact⟨fun q e=>sideO_congr f o.k ha (q e),fun q e=>sideO_congr f o.k (fun a hm=>(ha a hm).symm) (q e)⟩
theorem isLd1_spec {x:Nat×AOp} (h:isLd1 x=true):x.1=1∧∃sz ag a,x.2.k= .v (.ld sz ag a):=by
 obtain⟨f,d,g,k⟩:=x
 unfold isLd1 at h
 simp only[Bool.and_eq_true,beq_iff_eq]at h
 refine⟨h.1,?_⟩
 cases k with
 |v k=>cases k with
  |ld sz ag a=>exact⟨_,_,_,rfl⟩
  |_=>exact absurd h.2 (by simp)
 |_=>exact absurd h.2 (by simp)
theorem isSt2_spec {x:Nat×AOp} (h:isSt2 x=true):x.1=2∧∃sz a v,x.2.k= .st sz a v:=by
 obtain⟨f,d,g,k⟩:=x
 unfold isSt2 at h
 simp only[Bool.and_eq_true,beq_iff_eq]at h
 refine⟨h.1,?_⟩
 cases k with
 |st sz a v=>exact⟨_,_,_,rfl⟩
 |_=>exact absurd h.2 (by simp)
theorem isLdK_spec {x:Nat×AOp} (h:isLdK x=true):∃m,x.1=m+3∧∃sz ag a,x.2.k= .v (.ld sz ag a):=by
 obtain⟨f,d,g,k⟩:=x
 unfold isLdK at h
 simp only[Bool.and_eq_true,Nat.ble_eq]at h
 refine⟨f-3,by simp only;omega,?_⟩
 cases k with
 |v k=>cases k with
  |ld sz ag a=>exact⟨_,_,_,rfl⟩
  |_=>exact absurd h.2 (by simp)
 |_=>exact absurd h.2 (by simp)
theorem isStK_spec {x:Nat×AOp} (h:isStK x=true):∃m,x.1=m+3∧∃sz a v,x.2.k= .st sz a v:=by
 obtain⟨f,d,g,k⟩:=x
 unfold isStK at h
 simp only[Bool.and_eq_true,Nat.ble_eq]at h
 refine⟨f-3,by simp only;omega,?_⟩
 cases k with
 |st sz a v=>exact⟨_,_,_,rfl⟩
 |_=>exact absurd h.2 (by simp)
theorem apK_spec {x y:Nat} (h:apK x y=true):(x≠y∧x≤1002∧y≤1002)∨(1003≤x∧x % 2=1∧y=x+1)∨(1003≤y∧y % 2=1∧x=y+1):=by
 unfold apK at h
 simp only[Bool.or_eq_true,Bool.and_eq_true,bne_iff_ne,Nat.ble_eq,beq_iff_eq]at h
 omega
theorem apK_comm {x y:Nat} (h:apK x y=true):apK y x=true:=by
 have:=apK_spec h
 unfold apK
 simp only[Bool.or_eq_true,Bool.and_eq_true,bne_iff_ne,Nat.ble_eq,beq_iff_eq]
 omega
theorem isCallK_spec {x:Nat×AOp} (h:isCallK x=true):∃m,x.1=m+3∧300000≤m∧m % 2=0∧∃f xs,x.2.k= .call false f xs:=by
 obtain⟨f,d,g,k⟩:=x
 unfold isCallK at h
 simp only[Bool.and_eq_true,Nat.ble_eq,beq_iff_eq]at h
 refine⟨f-3,by simp only;omega,by omega,by omega,?_⟩
 cases k with
 |call q f xs=>cases q with
  |true=>exact absurd h.2 (by simp)
  |false=>exact⟨_,_,rfl⟩
 |_=>exact absurd h.2 (by simp)
theorem atK_id {base id m:Nat} {a:AVal} (h1:atK base cx m a) (h2:addr id a):atN base cx m id:=by
 cases a<;>simp only[atK,addr]at h1 h2
 ·subst h2;exact h1
 ·subst h2;exact h1.2
theorem atN_ne {base m m':Nat} {i:Nat} (k1:atN base cx m i) (k2:atN base cx m' i) (hne:apK (m+3) (m'+3)=true):False:=by
 have hk:=apK_spec hne
 have pair:∀a:Nat,1000≤a→a % 2=0→atN base cx a i→atN base cx (a+1) i→False:=by
  intro a h0 h1 q1 q2
  unfold atN at q1 q2
  by_cases hb:a<300000
  ·rw[if_neg (by omega),if_pos hb,if_pos h1]at q1
   rw[if_neg (by omega),if_pos (by omega),if_neg (by omega)]at q2
   omega
  ·rw[if_neg (by omega),if_neg hb,if_pos h1]at q1
   rw[if_neg (by omega),if_neg (by omega),if_neg (by omega)]at q2
   rw[show(a+1-300000)/2=(a-300000)/2 by omega]at q2
   exact q2 q1
 rcases hk with⟨h1,h2,h3⟩|⟨h1,h2,h3⟩|⟨h1,h2,h3⟩
 ·unfold atN at k1 k2
  rw[if_pos (by omega)]at k1 k2
  omega
 ·rw[show m'=m+1 by omega]at k2
  exact pair m (by omega) (by omega) k1 k2
 ·rw[show m=m'+1 by omega]at k1
  exact pair m' (by omega) (by omega) k2 k1
theorem atK_addr {base id m m':Nat} {a b:AVal} (h1:atK base cx m a) (h2:addr id a) (h3:atK base cx m' b) (hne:apK (m+3) (m'+3)=true):¬addr id b:=
 fun h4=>atN_ne (atK_id h1 h2) (atK_id h3 h4) hne
theorem keepX_triv {f:Nat} {k:AOpK} {H H':AHeap} (h:k.cat≠5):keepX cx f k H H':=by
 unfold keepX
 split
 ·exact absurd rfl h
 ·trivial
theorem swapLC {x y:AOp} {sz:Nat} {ag:Bool} {ax:Opd} {a:AVal} {K:AS→Prop} {s:AS} (hxk:x.k= .v (.ld sz ag ax)) (hap:Apart x y) (kx:kpOK kp x) (ky:kpOK kp y)
  (hne:gvb s.env x.guard=true→∀id,addr id (lkv s.env ax)→¬addr id a) (hK:∀a b,SEq kp a b→K a→K b) (hkeep:∀s',K s'→keepsC a s.H s'.H)
  (h:stepOp P Qp base x (stepOp P Qp base y K) s):stepOp P Qp base y (stepOp P Qp base x K) s:=by
 have hx1:x.k.cat=1:=by rw[hxk];rfl
 obtain⟨H',gx,vx,hy,hre,hgx,hH1,-,-⟩:=step_det (by rw[hx1];decide) h
 have eH:=hH1 (.inr (.inl hx1))
 subst eH
 have ndst:∀d,x.dst=some d→y.dst≠some d:=fun d hd=>(hap.xy d hd).2.2
 have lookY:∀{s:AS} {H:AHeap} {g:Bool} {v:AVal},Look y ({s with H:=H}.put x.dst g v).env s.env:=fun{s H g v}=>look_put (s:={s with H:=H}) (fun i e=>⟨(hap.xy i e).1,(hap.xy i e).2.1⟩)
 have lookX:∀{s:AS} {H:AHeap} {n:Nat} {g:Bool} {v:AVal},Look x s.env ({s with H:=H,n:=n}.put y.dst g v).env:=fun{s H n g v}=>(look_put (s:={s with H:=H,n:=n}) (hap.yx)).symm
 refine stepOp_gen lookY (by rw[put_H]) (by rw[put_n]) (fun H n g v v' hv _ hg hk=>?_) hy
 have hkp:=hkeep _ hk
 rw[put_H]at hkp
 have:=hre (fun s'=>s'=s.put x.dst gx vx) rfl
 refine stepOp_val (.inr (.inl hx1)) (lookX (s:=s) (H:=H) (n:=n)) (fun q1 _=>?_) (fun g2 v2 v2' hv2 hg2 he2=>?_) this
 ·rw[put_H,put_n]
  have ex:lkv (({s with H:=H,n:=n}:AS).put y.dst g v').env ax=lkv s.env ax:=lkv_put (s:={s with H:=H,n:=n}) (fun i e=>fun e'=>(hap.yx i e).1 (by rw[hxk,e'];simp [AOpK.opds,Opk.opds]))
  rw[←gvb_look (lookX (s:=s) (H:=H) (n:=n) (g:=g) (v:=v'))]at q1
  unfold compat
  rw[hxk]
  show(aload s.H sz ag _).1→aload s.H sz ag _=aload H sz ag _
  rw[ex]
  intro q
  have hn:=hne q1
  have hd:=aload_adom q
  generalize lkv s.env ax=av at q hn hd
  cases av<;>try rfl
  ·rename_i i off
   simp only[aload,hkp i (hn i rfl) hd]
  ·rename_i i esz j off
   simp only[aload,hkp i (hn i rfl) hd]
 ·refine hK _ _ (seq_comm ndst hv2 hv (kx.held hg2) (ky.held hg)) ?_
  rw[put_with s,he2]
  exact hk
theorem swapX {x y:Nat×AOp} {K:AS→Prop} {s:AS} (hap:Apart x.2 y.2) (hcat:catX x y=true) (kx:kpOK kp x.2) (ky:kpOK kp y.2) (hrel:x.2.k.cat=2→y.2.k.cat=2→relOf x.2.k≠relOf y.2.k) (hsafe:safeA y.2 s) (hK:∀a b,SEq kp a b→K a→K b)
  (hc5:x.2.k.cat≠5)
  (h:stepX P Qp base cx x (stepX P Qp base cx y K) s):stepX P Qp base cx y (stepX P Qp base cx x K) s:=by
 obtain⟨fx,x⟩:=x
 obtain⟨fy,y⟩:=y
 obtain⟨sx,h⟩:=h
 simp only at*
 have hyx:∀i,y.dst=some i→Opd.t i∉x.k.opds∧∀w,x.guard≠some (i,w):=fun i e=>hap.yx i e
 have hxy:∀i,x.dst=some i→Opd.t i∉y.k.opds∧∀w,y.guard≠some (i,w):=fun i e=>⟨(hap.xy i e).1,(hap.xy i e).2.1⟩
 have hx01:y.k.cat=5→x.k.cat=0∨x.k.cat=1:=by
  intro e
  unfold catX at hcat
  rw[Bool.or_eq_true,Bool.or_eq_true,Bool.or_eq_true,Bool.or_eq_true,Bool.or_eq_true]at hcat
  simp only[Bool.and_eq_true]at hcat
  rcases hcat with((((q|q)|q)|q)|q)|q
  ·rw[e]at q
   generalize x.k.cat=c at q
   match c with
   |0=>exact .inl rfl
   |1=>exact .inr rfl
   |2|3|4|5|c+6=>simp [catOK]at q
  ·obtain⟨-,_,_,_,e2⟩:=isSt2_spec q.2;rw[e2]at e;cases e
  ·obtain⟨-,_,_,_,e2⟩:=isLd1_spec q.2;rw[e2]at e;cases e
  ·obtain⟨_,-,_,_,_,e2⟩:=isStK_spec q.2;rw[e2]at e;cases e
  ·obtain⟨_,-,_,_,_,e2⟩:=isLdK_spec q.2;rw[e2]at e;cases e
  ·obtain⟨_,-,_,_,_,e2⟩:=isLdK_spec q.1.1;right;simp only at e2;rw[e2];rfl
 let Ky:AS→Prop:=fun s2=>keepX cx fy y.k s.H s2.H∧K s2
 have hKy:∀a b,SEq kp a b→Ky a→Ky b:=fun a b e q=>⟨by rw[←e.2.1];exact q.1,hK a b e q.2⟩
 obtain⟨sy,h'⟩:sideX base cx fy y s∧stepOp P Qp base x (stepOp P Qp base y Ky) s:=by
  obtain⟨H',g,v,k1,hre,-,hH1,-,-⟩:=step_det hc5 h
  refine⟨(side_put (H:=H') (n:=s.n) hxy).1 k1.2.1,hre _ (stepOp_mono (fun s2 k=>⟨?_,k.2⟩) k1.2.2)⟩
  by_cases e:y.k.cat=5
  ·have eH:=hH1 ((hx01 e).imp id .inl)
   have:=k.1
   rw[put_H,eH]at this
   exact this
  ·exact keepX_triv e
 have fin:stepOp P Qp base y (stepOp P Qp base x Ky) s→stepX P Qp base cx (fy,y) (stepX P Qp base cx (fx,x) K) s:=fun q=>
  ⟨sy,stepOp_gen (s:=s) ⟨fun _ _=>EEq.rfl' _,fun _ _ _=>EEq.rfl' _⟩ rfl rfl (fun H n g v v' h1 h2 h3 h4=>by
   rw[←h2 rfl]
   refine⟨?_,(side_put (H:=H) (n:=n) hyx).2 sx,stepOp_mono (fun s' k=>⟨keepX_triv hc5,k.2⟩) h4⟩
   by_cases e:y.k.cat=5
   ·obtain⟨H',g',v',k1,-,-,hH1,-,-⟩:=step_det hc5 h4
    have eH:=hH1 ((hx01 e).imp id .inl)
    have:=k1.1
    rw[put_H,eH]at this
    exact this
   ·exact keepX_triv e) q⟩
 unfold catX at hcat
 rw[Bool.or_eq_true,Bool.or_eq_true,Bool.or_eq_true,Bool.or_eq_true,Bool.or_eq_true]at hcat
 rcases hcat with((((hcat|hcat)|hcat)|hcat)|hcat)|hcat
 ·exact fin (swap hap hcat kx ky hrel hsafe hKy h')
 ·rw[Bool.and_eq_true]at hcat
  obtain⟨e1,sz,ag,a,e2⟩:=isLd1_spec hcat.1
  obtain⟨e3,sz',a',v',e4⟩:=isSt2_spec hcat.2
  simp only at e1 e2 e3 e4
  unfold sideX at sx sy
  rw[e1,e2]at sx
  rw[e3,e4]at sy
  exact fin (swapLS e2 e4 hap kx ky (fun qx qy _ p=>above_addr (sy qy) p (sx qx)) hKy h')
 ·rw[Bool.and_eq_true]at hcat
  obtain⟨e1,sz,a,v,e2⟩:=isSt2_spec hcat.1
  obtain⟨e3,sz',ag,a',e4⟩:=isLd1_spec hcat.2
  simp only at e1 e2 e3 e4
  unfold sideX at sx sy
  rw[e1,e2]at sx
  rw[e3,e4]at sy
  exact fin (swapSL e2 e4 hap kx ky (fun qx qy _ p=>above_addr (sx qx) p (sy qy)) hKy h')
 ·rw[Bool.and_eq_true,Bool.and_eq_true]at hcat
  obtain⟨m,e1,sz,ag,a,e2⟩:=isLdK_spec hcat.1.2
  obtain⟨m',e3,sz',a',v',e4⟩:=isStK_spec hcat.2
  have hne:=hcat.1.1
  simp only at e1 e2 e3 e4 hne
  rw[e1,e3]at hne
  unfold sideX at sx sy
  rw[e1,e2]at sx
  rw[e3,e4]at sy
  exact fin (swapLS e2 e4 hap kx ky (fun qx qy _ p=>atK_addr (sy qy) p (sx qx) (apK_comm hne)) hKy h')
 ·rw[Bool.and_eq_true,Bool.and_eq_true]at hcat
  obtain⟨m,e1,sz,a,v,e2⟩:=isStK_spec hcat.1.2
  obtain⟨m',e3,sz',ag,a',e4⟩:=isLdK_spec hcat.2
  have hne:=hcat.1.1
  simp only at e1 e2 e3 e4 hne
  rw[e1,e3]at hne
  unfold sideX at sx sy
  rw[e1,e2]at sx
  rw[e3,e4]at sy
  exact fin (swapSL e2 e4 hap kx ky (fun qx qy _ p=>atK_addr (sx qx) p (sy qy) hne) hKy h')
 ·rw[Bool.and_eq_true,Bool.and_eq_true]at hcat
  obtain⟨m,e1,sz,ag,a,e2⟩:=isLdK_spec hcat.1.1
  obtain⟨m',e3,hm1,hm2,f,xs,e4⟩:=isCallK_spec hcat.1.2
  have hmm:m=m'+1:=by
   have:=hcat.2
   simp only[beq_iff_eq]at this e1 e3
   omega
  subst hmm
  simp only at e1 e2 e3 e4
  unfold sideX at sx
  rw[e1,e2]at sx
  refine fin (swapLC (a:=cx ((m'-300000)/2)) e2 hap kx ky (fun qx id p q=>?_) hKy (fun s' k=>?_) h')
  ·have h1:atN base cx (m'+1) id:=atK_id (sx qx) p
   unfold atN at h1
   rw[if_neg (by omega),if_neg (by omega),if_neg (by omega),show(m'+1-300000)/2=(m'-300000)/2 by omega]at h1
   exact h1 q
  ·have:=k.1
   rw[e3,e4]at this
   exact this
theorem side_resp {f:Nat} {o:AOp} {K:AS→Prop} {a b:AS} (h:SEq kp a b) (hs:sideX base cx f o a) (hh:stepOp P Qp base o K a):sideX base cx f o b:=by
 have hl:Look o a.env b.env:=⟨fun i _=>(h.1 i).1,fun i _ _=>(h.1 i).1⟩
 intro hg
 rw[←gvb_look hl]at hg
 have hs:=hs hg
 have key:oks a.env o.k.opds∨sideO base cx (lkv b.env) f o.k:=by
  obtain⟨dst,guard,k⟩:=o
  obtain⟨h0,h1⟩:=hh
  cases k with
  |v k=>exact .inl (h1.1 hg).1
  |st sz a x=>exact .inl (h1.1 hg).1
  |call q g xs=>match f,q with
   |0,_=>exact .inr trivial
   |1,_|2,_|f+3,true=>simp only[sideO]at hs
   |f+3,false=>exact .inr hs
  |_=>match f with
   |0=>exact .inr trivial
   |1|2|f+3=>simp only[sideO]at hs
 rcases key with ok|q
 ·exact sideO_congr f o.k (fun x hx=>(look_opd hl hx).2 (oks_mem ok x hx)) hs
 ·exact q
theorem runX_resp {K:AS→Prop} (hK:∀a b,SEq kp a b→K a→K b):∀(L:List (Nat×AOp)),(∀x∈L,kpOK kp x.2)→∀a b,SEq kp a b→runX P Qp base cx L K a→runX P Qp base cx L K b
 |[],_,a,b,h,hh=>hK a b h hh
 |x::L,hk,a,b,h,hh=>⟨side_resp h hh.1 hh.2,stepOp_gen (s1:=a) (s:=b) ⟨fun i _=>(h.1 i).1,fun i _ _=>(h.1 i).1⟩ h.2.1 h.2.2
   (fun H n g v v' hv _ hg q=>⟨by have:=q.1;rw[put_H,h.2.1]at this;rw[put_H];exact this,runX_resp hK L (fun y hy=>hk y (List.mem_cons_of_mem _ hy)) _ _ (h.put hv ((hk x (List.mem_cons_self ..)).held hg)) q.2⟩) hh.2⟩
theorem frontX {y:Nat×AOp} {B:List (Nat×AOp)} {K:AS→Prop} (ky:kpOK kp y.2) (hB:∀x∈B,kpOK kp x.2) (hK:∀a b,SEq kp a b→K a→K b):∀(A:List (Nat×AOp)) (s:AS),
  (∀x∈A,Apart x.2 y.2∧catX x y=true∧kpOK kp x.2∧(x.2.k.cat=2→y.2.k.cat=2→relOf x.2.k≠relOf y.2.k))→safeA y.2 s→
  runX P Qp base cx (A++y::B) K s→stepX P Qp base cx y (runX P Qp base cx (A++B) K) s
 |[],_,_,_,h=>h
 |x::A,s,hA,hs,h=>by
  obtain⟨hap,hcat,kx,hrel⟩:=hA x (List.mem_cons_self ..)
  have hxc5:x.2.k.cat≠5:=by
   intro e
   unfold catX at hcat
   rw[e]at hcat
   have h0:catOK 5 y.2.k.cat=false:=by cases hy:y.2.k.cat<;>simp [catOK]
   rw[h0,Bool.false_or,Bool.or_eq_true,Bool.or_eq_true,Bool.or_eq_true,Bool.or_eq_true]at hcat
   simp only[Bool.and_eq_true]at hcat
   rcases hcat with(((q|q)|q)|q)|q
   ·obtain⟨-,sz,ag,a,e2⟩:=isLd1_spec q.1;rw[e2]at e;cases e
   ·obtain⟨-,sz,a,v,e2⟩:=isSt2_spec q.1;rw[e2]at e;cases e
   ·obtain⟨m,-,sz,ag,a,e2⟩:=isLdK_spec q.1.2;rw[e2]at e;cases e
   ·obtain⟨m,-,sz,a,v,e2⟩:=isStK_spec q.1.2;rw[e2]at e;cases e
   ·obtain⟨m,-,sz,ag,a,e2⟩:=isLdK_spec q.1.1;rw[e2]at e;cases e
  obtain⟨sx,hx⟩:=h
  obtain⟨H',gx,vx,⟨-,h1⟩,hre,-,hH1,hH2,hH4⟩:=step_det hxc5 hx
  have hs1:safeA y.2 ({s with H:=H'}.put x.2.dst gx vx):=by
   intro sz ag ad e hok
   have hy1:y.2.k.cat=1:=by rw[e];rfl
   have hlk:lk ({s with H:=H'}.put x.2.dst gx vx).env ad=lk s.env ad:=by
    cases ad with
    |c v=>rfl
    |t i=>
     simp only[lk]
     rw[eget_put,if_neg (fun q=>(hap.xy i q).1 (by rw[e];simp [AOpK.opds,Opk.opds]))]
   have hlv:lkv ({s with H:=H'}.put x.2.dst gx vx).env ad=lkv s.env ad:=by simp only[lkv,hlk]
   rw[hlv,put_H]
   rw[hlk]at hok
   have h0:=hs sz ag ad e hok
   by_cases hst:∃sz a v,x.2.k= .st sz a v
   ·obtain⟨sz',a',v',ex⟩:=hst
    obtain⟨H2,g2,v2,-,hre2,-,hS⟩:=st_det ex hx
    have e5:=st_det ex (hre2 (fun s'=>s'=({s with H:=H2}:AS).put x.2.dst g2 v2) rfl)
    obtain⟨H3,g3,v3,k3,-,-,hS3⟩:=st_det ex (hre (fun s'=>s'=({s with H:=H'}:AS).put x.2.dst gx vx) rfl)
    have e6:H3=H':=by have:=congrArg AS.H k3;rwa[put_H,put_H]at this
    subst e6
    refine adom_mono (H:=s.H) (fun id hid=>?_) h0
    rcases hS3 with e|⟨_,i,ob,_,e⟩
    ·rw[e];exact hid
    ·rw[e];exact dom_hset hid
   ·have hcat':catOK x.2.k.cat y.2.k.cat=true:=by
     unfold catX at hcat
     rw[Bool.or_eq_true,Bool.or_eq_true,Bool.or_eq_true,Bool.or_eq_true,Bool.or_eq_true]at hcat
     simp only[Bool.and_eq_true]at hcat
     rcases hcat with((((q|q)|q)|q)|q)|q
     ·exact q
     ·obtain⟨-,sz',a',v',e2⟩:=isSt2_spec q.2;rw[e2]at e;cases e
     ·obtain⟨-,sz',a',v',e2⟩:=isSt2_spec q.1;exact absurd ⟨_,_,_,e2⟩ hst
     ·obtain⟨m,-,sz',a',v',e2⟩:=isStK_spec q.2;rw[e2]at e;cases e
     ·obtain⟨m,-,sz',a',v',e2⟩:=isStK_spec q.1.2;exact absurd ⟨_,_,_,e2⟩ hst
     ·obtain⟨m,-,-,-,f',xs',e2⟩:=isCallK_spec q.1.2;rw[e2]at e;cases e
    refine adom_mono (H:=s.H) (fun id hid=>?_) h0
    rw[hy1]at hcat'
    have hxc:(x.2.k.cat=0∨x.2.k.cat=1∨x.2.k.cat=3)∨x.2.k.cat=2∨x.2.k.cat=4:=by
     generalize x.2.k.cat=c at hcat' hxc5
     match c with
     |0|1|2|3|4=>simp
     |5=>simp at hxc5
     |c+6=>simp [catOK]at hcat'
    rcases hxc with e|e|e
    ·rw[hH1 e];exact hid
    ·rcases hH2 e with rfl|⟨i,ob,p1,rfl⟩
     ·exact hid
     ·exact dom_hset hid
    ·rcases hH4 e with rfl|⟨tok,i,p1,p2,rfl⟩
     ·exact hid
     ·refine dom_hset ?_
      cases tok<;>first|exact hid|exact dom_hset hid
  have h2:=frontX ky hB hK A _ (fun z hz=>hA z (List.mem_cons_of_mem _ hz)) hs1 h1
  have hAB:∀z∈A++B,kpOK kp z.2:=fun z hz=>(List.mem_append.1 hz).elim (fun q=>(hA z (List.mem_cons_of_mem _ q)).2.2.1) (hB z)
  exact swapX hap hcat kx ky hrel hs (runX_resp hK (A++B) hAB) hxc5 ⟨sx,hre _ ⟨keepX_triv hxc5,h2⟩⟩
end
end Go.AM
end
section
set_option maxRecDepth 20000
set_option linter.all false
namespace Go.AM
def remL (ops:Array Oper) (listed:Array Bool):List Nat:=(List.range ops.size).filter fun i=>!listed.getD i true
def opsAt (l:List AOp) (L:List Nat):List AOp:=L.map (opAt l)
theorem opsAt_range (l:List AOp):opsAt l (List.range l.length)=l:=by
 apply List.ext_getElem
 ·simp [opsAt]
 ·intro i h1 h2
  simp [opsAt,opAt,h2]
def bumps (l:List AOp):Bool:=l.any fun o=>o.k.news
section
variable {P:Program} {r:Option Nat} {m N lo:Nat} {g0:Ghost} {H0:AHeap} {w0:World} {D:DP} {ops:Array Oper} {l:List AOp} {mkv imp:List Nat}
variable {Qp:AVal→AHeap→Nat→Prop} {base:Nat} {kp:List Nat} {Qc:Exit→Act→World→Prop}
theorem step_at {i:Nat} {K:AS→Prop} {Kc:Act→World→Prop} {s:AS} {a:Act} {w:World} (hl:cops P N lo ops mkv imp ops.toList 0=some l) (hlo:D.lo≤lo) (hi:i<ops.size) (hstep:stepOp P Qp base (opAt l i) K s)
  (hsim:Sim m g0 H0 w0 N D s a w) (hb:m≤base) (hbump:bumps l=true→base+ops.size≤s.n)
  (hK:∀s' a' w',K s'→Sim m g0 H0 w0 N D s' a' w'→s.n≤s'.n→Kc a' w')
  (hQ:∀v H' n' chain a' w',Qp v H' n'→PSim m g0 H0 w0 D a'.defers a'.tmps v H' n' chain w'→Qc (.panic chain) a' w'):wpOpIn (FR r) 0 P ops Qc i Kc a w:=by
 obtain⟨h1,h2⟩:=cops_spec _ _ _ hl
 have ho:ops[i]?=some ops[i]:=by simp [hi]
 obtain⟨gd,k,q1,q2,q3,q4⟩:=h2 i ops[i] (by simp [hi])
 rw[Nat.zero_add]at q3
 have e:opAt l i=⟨ops[i].dst,gd,k⟩:=by simp [opAt,q1]
 rw[e]at hstep
 refine step_sound ho q2 q3 hstep hsim hb (fun hc=>?_) (fun d e=>⟨(q4 d e).1,Nat.le_trans hlo (q4 d e).2⟩) hK hQ
 have:bumps l=true:=by
  unfold bumps
  rw[List.any_eq_true]
  refine⟨_,List.mem_of_getElem? q1,?_⟩
  exact hc
 have:=hbump this
 omega
theorem seq_sound {K:AS→Prop} (hl:cops P N lo ops mkv imp ops.toList 0=some l) (hlo:D.lo≤lo) (hb:m≤base)
  (hQ:∀v H' n' chain a' w',Qp v H' n'→PSim m g0 H0 w0 D a'.defers a'.tmps v H' n' chain w'→Qc (.panic chain) a' w')
  (hK:∀s' a' w',K s'→Sim m g0 H0 w0 N D s' a' w'→Qc .normal a' w'):
  ∀(L:List Nat) (s:AS) (a:Act) (w:World),(∀i∈L,i<ops.size)→runOps P Qp base (opsAt l L) K s→Sim m g0 H0 w0 N D s a w→(bumps l=true→base+ops.size≤s.n)→
   wpOpsIn (FR r) 0 P ops Qc L a w
 |[],s,a,w,_,h,hs,_=>by simp only[wpOpsIn];exact hK s a w h hs
 |i::L,s,a,w,hi,h,hs,hbump=>by
  rw[wpOpsIn_cons]
  refine step_at hl hlo (hi i (List.mem_cons_self ..)) (K:=runOps P Qp base (opsAt l L) K) h hs hb hbump (fun s' a' w' hk hs' hn=>?_) hQ
  exact seq_sound hl hlo hb hQ hK L s' a' w' (fun j hj=>hi j (List.mem_cons_of_mem _ hj)) hk hs' (fun q=>Nat.le_trans (hbump q) hn)
def ClosedL (ops:Array Oper) (listed:Array Bool):Prop:=∀(j:Nat) (o:Oper),listed.getD j false=true→ops[j]?=some o→∀e∈o.after,Region.binds .any e=true→listed.getD e.on false=true
theorem testBit_fold {α:Type} {f:α→Nat} {x:Nat}:∀(l:List α) (m:Nat),(l.foldl (fun m e=>m|||f e) m).testBit x=true→m.testBit x=true∨∃e∈l,(f e).testBit x=true
 |[],m,h=>.inl h
 |a::l,m,h=>by
  rcases testBit_fold l _ h with h|⟨e,he,h⟩
  ·rw[Nat.testBit_or,Bool.or_eq_true]at h
   rcases h with h|h
   ·exact .inl h
   ·exact .inr ⟨a,List.mem_cons_self ..,h⟩
  ·exact .inr ⟨e,List.mem_cons_of_mem _ he,h⟩
theorem maskOf_bit {acc:List Nat} {o:Oper} {x:Nat} (h:(maskOf acc o).testBit x=true):∃e∈o.after,Region.binds .any e=true∧(x=e.on∨(acc.getD e.on 0).testBit x=true):=by
 unfold maskOf at h
 have e1:(fun(m:Nat) (e:Edge)=>m|||(1<<<e.on)|||acc.getD e.on 0)=fun m e=>m|||((1<<<e.on)|||acc.getD e.on 0):=by
  funext m e;rw[Nat.or_assoc]
 rw[e1]at h
 rcases testBit_fold _ _ h with h|⟨e,he,h⟩
 ·simp at h
 ·simp only[List.mem_filter,Array.mem_toList_iff]at he
  refine⟨e,he.1,he.2,?_⟩
  rw[Nat.testBit_or,Bool.or_eq_true]at h
  rcases h with h|h
  ·left
   rw[Nat.one_shiftLeft,Nat.testBit_two_pow]at h
   exact(by simpa using h:e.on=x).symm
  ·exact .inr h
def MaskOK (ops:List Oper) (ms:List Nat):Prop:=∀k x,(ms.getD k 0).testBit x=true→∃o,ops[k]?=some o∧∃e∈o.after,Region.binds .any e=true∧(x=e.on∨(e.on<k∧(ms.getD e.on 0).testBit x=true))
theorem masks_ok:∀(r pre:List Oper) (acc:List Nat),acc.length=pre.length→MaskOK (pre++r) acc→MaskOK (pre++r) (masks r acc)
 |[],pre,acc,_,h=>h
 |o::r,pre,acc,hl,h=>by
  have e:pre++o::r=(pre++[o])++r:=by simp
  rw[e]at h⊢
  refine masks_ok r (pre++[o]) (acc++[maskOf acc o]) (by simp [hl]) ?_
  intro k x hb
  have old:∀j,j<acc.length→(acc++[maskOf acc o]).getD j 0=acc.getD j 0:=fun j hj=>by
   simp [List.getD_eq_getElem?_getD,List.getElem?_append_left hj]
  by_cases hk:k<acc.length
  ·rw[old k hk]at hb
   obtain⟨o',h1,e',h2,h3,h4⟩:=h k x hb
   refine⟨o',h1,e',h2,h3,h4.imp id fun⟨a,b⟩=>⟨a,by rw[old _ (by omega)];exact b⟩⟩
  ·by_cases hk2:k=acc.length
   ·subst hk2
    have e2:(acc++[maskOf acc o]).getD acc.length 0=maskOf acc o:=by simp [List.getD_eq_getElem?_getD]
    rw[e2]at hb
    obtain⟨e',h2,h3,h4⟩:=maskOf_bit hb
    refine⟨o,by rw[hl];simp,e',h2,h3,h4.imp id fun b=>?_⟩
    have hlt:e'.on<acc.length:=by
     apply Nat.lt_of_not_le
     intro hge
     rw[List.getD_eq_getElem?_getD,List.getElem?_eq_none hge]at b
     simp at b
    exact⟨hlt,by rw[old _ hlt];exact b⟩
   ·exfalso
    rw[List.getD_eq_getElem?_getD,List.getElem?_eq_none (by simp;omega)]at hb
    simp at hb
theorem mask_listed {listed:Array Bool} (hc:ClosedL ops listed):∀(k:Nat),(∀o,ops[k]?=some o→∀e∈o.after,Region.binds .any e=true→listed.getD e.on false=true)→∀x,((masks ops.toList []).getD k 0).testBit x=true→listed.getD x false=true:=by
 have hm:MaskOK ops.toList (masks ops.toList []):=masks_ok ops.toList [] [] rfl (fun k x h=>by simp at h)
 intro k
 induction k using Nat.strongRecOn with
 |_ k ih=>
  intro hi x hb
  obtain⟨o,h1,e,h2,h3,h4⟩:=hm k x hb
  have ho:ops[k]?=some o:=by simpa using h1
  have hl:=hi o ho e h2 h3
  rcases h4 with rfl|⟨hlt,h4⟩
  ·exact hl
  ·exact ih e.on hlt (fun o' ho'=>hc e.on o' hl ho') x h4
theorem mem_remL {listed:Array Bool} {i:Nat}:i∈remL ops listed↔i<ops.size∧listed.getD i true=false:=by
 simp [remL]
theorem remL_sorted (listed:Array Bool):(remL ops listed).Pairwise (· < ·):=List.Pairwise.filter _ List.pairwise_lt_range
theorem remL_set {listed:Array Bool} {i:Nat} (hi:i<listed.size):remL ops (listed.setIfInBounds i true)=(remL ops listed).filter (· !=i):=by
 unfold remL
 rw[List.filter_filter]
 apply List.filter_congr
 intro j hj
 by_cases h:i=j
 ·subst h;simp [hi]
 ·rw[getD_set_ne true h];simp [Ne.symm h]
theorem split_sorted {A B:List Nat} {i:Nat} (h:(A++i::B).Pairwise (· < ·)):(A++i::B).filter (· !=i)=A++B∧∀x∈A,x<i:=by
 rw[List.pairwise_append]at h
 obtain⟨_,h2,h3⟩:=h
 rw[List.pairwise_cons]at h2
 refine⟨?_,fun x hx=>h3 x hx i (List.mem_cons_self ..)⟩
 rw[List.filter_append,List.filter_cons]
 simp only[bne_self_eq_false,Bool.false_eq_true,if_false]
 congr 1
 ·apply List.filter_eq_self.2
  intro x hx;have:=h3 x hx i (List.mem_cons_self ..);simp;omega
 ·apply List.filter_eq_self.2
  intro x hx;have:=h2.1 x hx;simp;omega
theorem draw_sound {K:AS→Prop} (hl:cops P N lo ops mkv imp ops.toList 0=some l) (hlo:D.lo≤lo) (hd:drawOK ops l=true) (hkp:∀x∈l,kpOK kp x) (hKr:∀a b,SEq kp a b→K a→K b) (hb:m≤base)
  (hQ:∀v H' n' chain a' w',Qp v H' n'→PSim m g0 H0 w0 D a'.defers a'.tmps v H' n' chain w'→Qc (.panic chain) a' w')
  (hK:∀s' a' w',K s'→Sim m g0 H0 w0 N D s' a' w'→Qc .normal a' w'):
  ∀(fuel:Nat) (listed:Array Bool) (s:AS) (a:Act) (w:World),(remL ops listed).length=fuel→listed.size=ops.size→ClosedL ops listed→runOps P Qp base (opsAt l (remL ops listed)) K s→Sim m g0 H0 w0 N D s a w→
   (bumps l=true→base+ops.size≤s.n)→wpAnyIn (FR r) 0 P .any ops Qc fuel listed a w:=by
 obtain⟨hlen,hspec⟩:=cops_spec _ _ _ hl
 have hlen:l.length=ops.size:=by rw[hlen,Array.length_toList]
 unfold drawOK drawOKm at hd
 rw[Bool.and_eq_true,Bool.and_eq_true]at hd
 obtain⟨⟨hed,hld⟩,hd⟩:=hd
 have opAt_mem:∀i,i<ops.size→opAt l i∈l:=fun i hi=>by
  have hi':i<l.length:=by omega
  simp [opAt,hi']
 have ready_nil:∀listed:Array Bool,Region.ready .any ops listed=[]→listed.size=ops.size→remL ops listed=[]:=by
  intro listed hr hsz
  cases hrem:remL ops listed with
  |nil=>rfl
  |cons i B=>
   exfalso
   have hi:i∈remL ops listed:=by rw[hrem];exact List.mem_cons_self ..
   obtain⟨hi1,hi2⟩:=mem_remL.1 hi
   have:i∈Region.ready .any ops listed:=by
    refine mem_ready.2 ⟨hi2,ops[i],by simp [hi1],fun e he hbd=>?_⟩
    unfold edgesOK at hed
    rw[List.all_eq_true]at hed
    have h1:=hed i (List.mem_range.2 hi1)
    have ho:ops[i]?=some ops[i]:=by simp [hi1]
    rw[ho]at h1
    simp only[List.all_eq_true,Array.mem_toList_iff]at h1
    have h2:=h1 e he
    rw[hbd]at h2
    simp only[Bool.not_true,Bool.false_or,decide_eq_true_eq]at h2
    by_cases h3:listed.getD e.on false=true
    ·exact h3
    ·exfalso
     have h4:e.on∈remL ops listed:=mem_remL.2 ⟨by omega,by
      have:e.on<listed.size:=by omega
      simp [this]at h3⊢;exact h3⟩
     rw[hrem]at h4
     have hs:=remL_sorted (ops:=ops) listed
     rw[hrem,List.pairwise_cons]at hs
     rcases List.mem_cons.1 h4 with h5|h5
     ·omega
     ·have:=hs.1 _ h5;omega
   rw[hr]at this;cases this
 intro fuel
 induction fuel with
 |zero=>
  intro listed s a w hf hsz hc h hs hbump
  have hnil:remL ops listed=[]:=List.length_eq_zero_iff.1 hf
  refine⟨?_,?_⟩
  ·cases hr:Region.ready .any ops listed with
   |nil=>rfl
   |cons i B=>
    have hi:i∈Region.ready .any ops listed:=by rw[hr];exact List.mem_cons_self ..
    obtain⟨h1,o,h2,-⟩:=mem_ready.1 hi
    have:i∈remL ops listed:=mem_remL.2 ⟨(Array.getElem?_eq_some_iff.1 h2).1,h1⟩
    rw[hnil]at this;cases this
  ·rw[hnil]at h;exact hK s a w h hs
 |succ fuel ih=>
  intro listed s a w hf hsz hc h hs hbump
  refine⟨fun hr=>?_,fun i hi=>?_⟩
  ·rw[ready_nil listed hr hsz]at hf;cases hf
  ·obtain⟨h1,o,h2,hedge⟩:=mem_ready.1 hi
   have hi1:i<ops.size:=(Array.getElem?_eq_some_iff.1 h2).1
   have hir:i∈remL ops listed:=mem_remL.2 ⟨hi1,h1⟩
   obtain⟨A,B,hAB⟩:=List.append_of_mem hir
   have hsort:=remL_sorted (ops:=ops) listed
   rw[hAB]at hsort
   obtain⟨hf1,hlt⟩:=split_sorted hsort
   have hset:remL ops (listed.setIfInBounds i true)=A++B:=by rw[remL_set (by omega),hAB,hf1]
   have hanc:∀x,((masks ops.toList []).getD i 0).testBit x=true→listed.getD x false=true:=mask_listed hc i (fun o' ho'=>by rw[h2]at ho';cases ho';exact hedge)
   have hlti:i<l.length:=by omega
   have hfr:=front (P:=P) (Qp:=Qp) (base:=base) (y:=opAt l i) (B:=opsAt l B) (K:=K) (kp:=kp) (hkp _ (opAt_mem i hi1))
    (fun x hx=>by
     obtain⟨j,hj,rfl⟩:=List.mem_map.1 hx
     exact hkp _ (opAt_mem j (mem_remL.1 (show j∈remL ops listed by rw[hAB];simp [hj])).1)) hKr (opsAt l A) s
    (fun x hx=>by
     obtain⟨j,hj,rfl⟩:=List.mem_map.1 hx
     have hji:=hlt j hj
     obtain⟨hj1,hj2⟩:=mem_remL.1 (show j∈remL ops listed by rw[hAB];simp [hj])
     rw[List.all_eq_true]at hd
     have hd1:=hd i (List.mem_range.2 hlti)
     rw[List.all_eq_true]at hd1
     have hd2:=hd1 j (List.mem_range.2 hji)
     have hltj:j<l.length:=by omega
     have e1:l[j]?=some (opAt l j):=by simp [opAt,hltj]
     have e2:l[i]?=some (opAt l i):=by simp [opAt,hlti]
     rw[e1,e2]at hd2
     simp only[Bool.or_eq_true,Bool.and_eq_true]at hd2
     rcases hd2 with⟨d1,d2⟩|d3
     ·refine⟨aapart_spec d1,d2,hkp _ (opAt_mem j hj1),fun c1 c2=>?_⟩
      obtain⟨gd,k,q1,q2,q3,q4⟩:=hspec i ops[i] (by simp [hi1])
      obtain⟨gd',k',q1',q2',q3',q4'⟩:=hspec j ops[j] (by simp [hj1])
      have e3:opAt l i=⟨ops[i].dst,gd,k⟩:=by simp [opAt,q1]
      have e4:opAt l j=⟨ops[j].dst,gd',k'⟩:=by simp [opAt,q1']
      rw[e3]at c2⊢
      rw[e4]at c1⊢
      have r1:=copK_rel q3 c2
      have r2:=copK_rel q3' c1
      simp only[r1,r2];omega
     ·exfalso
      have:=hanc j d3
      have hjs:j<listed.size:=by omega
      simp [hjs]at this hj2
      rw[this]at hj2;cases hj2)
    (by
     intro sz ag ad e hok
     have hld1:ldOK (opAt l i)=true:=(List.all_eq_true.1 hld) _ (opAt_mem i hi1)
     obtain⟨g,hR,hE,-⟩:=hs
     cases ad with
     |c v=>
      unfold ldOK at hld1
      rw[e]at hld1
      simp only[lkv,lk]
      cases v<;>first|trivial|(simp at hld1;done)
     |t t=>
      simp only[lk,lkv]at hok⊢
      cases hg:eget s.env t with
      |none=>simp [hg]at hok
      |some gv=>
       obtain⟨gd,v⟩:=gv
       simp only[hg]at hok⊢
       obtain⟨x,-,p2,-⟩:=hE t gd v hg
       have hv:=p2 hok
       cases v<;>first|trivial|skip
       ·obtain⟨L,q1,-⟩:=hv;exact(hR.dom _ _ q1).1
       ·obtain⟨L,q1,-⟩:=hv;exact(hR.dom _ _ q1).1)
    (by
     have e:opsAt l A++opAt l i::opsAt l B=opsAt l (remL ops listed):=by rw[hAB];simp [opsAt]
     rw[e];exact h)
   have e2:opsAt l A++opsAt l B=opsAt l (remL ops (listed.setIfInBounds i true)):=by rw[hset];simp [opsAt]
   rw[e2]at hfr
   refine step_at hl hlo hi1 hfr hs hb hbump (fun s' a' w' hk hs' hn=>?_) hQ
   refine ih _ s' a' w' ?_ (by simp [hsz]) ?_ hk hs' (fun q=>Nat.le_trans (hbump q) hn)
   ·rw[hset]
    rw[hAB]at hf
    simp at hf⊢;omega
   ·intro j o' hj ho' e he hbd
    by_cases hij:i=j
    ·subst hij
     rw[h2]at ho';cases ho'
     exact getD_set_true (hedge e he hbd)
    ·rw[getD_set_ne false hij]at hj
     exact getD_set_true (hc j o' hj ho' e he hbd)
def remO (ord:List Nat) (listed:Array Bool):List Nat:=ord.filter fun i=>!listed.getD i true
theorem ordPairs_pw {p:Nat→Nat→Bool}:∀{l:List Nat},ordPairs p l=true→l.Pairwise fun j i=>p j i=true
 |[],_=>List.Pairwise.nil
 |j::r,h=>by
  simp only[ordPairs,Bool.and_eq_true,List.all_eq_true]at h
  exact List.pairwise_cons.2 ⟨h.1,ordPairs_pw h.2⟩
theorem remO_set {ord:List Nat} {listed:Array Bool} {i:Nat} (hi:i<listed.size):remO ord (listed.setIfInBounds i true)=(remO ord listed).filter (· !=i):=by
 unfold remO
 rw[List.filter_filter]
 apply List.filter_congr
 intro j hj
 by_cases h:i=j
 ·subst h;simp [hi]
 ·rw[getD_set_ne true h];simp [Ne.symm h]
theorem split_pw {R:Nat→Nat→Prop} (hR:∀x y,R x y→x≠y) {A B:List Nat} {i:Nat} (h:(A++i::B).Pairwise R):(A++i::B).filter (· !=i)=A++B∧∀x∈A,R x i:=by
 rw[List.pairwise_append]at h
 obtain⟨_,h2,h3⟩:=h
 rw[List.pairwise_cons]at h2
 refine⟨?_,fun x hx=>h3 x hx i (List.mem_cons_self ..)⟩
 rw[List.filter_append,List.filter_cons]
 simp only[bne_self_eq_false,Bool.false_eq_true,if_false]
 congr 1
 ·apply List.filter_eq_self.2
  intro x hx;have:=hR _ _ (h3 x hx i (List.mem_cons_self ..));simpa using this
 ·apply List.filter_eq_self.2
  intro x hx;have:=hR _ _ (h2.1 x hx);simpa using fun e=>this e.symm
theorem edgesO_spec {ops:Array Oper} {i:Nat} {T:List Nat}:∀(S seen:List Nat),edgesO ops seen (S++i::T)=true→∀o,ops[i]?=some o→∀e∈o.after,Region.binds .any e=true→e.on∈S∨e.on∈seen
 |[],seen,h,o,ho,e,he,hb=>by
  simp only[List.nil_append,edgesO,Bool.and_eq_true,ho,List.all_eq_true,Array.mem_toList_iff]at h
  have:=h.1 e he
  rw[hb]at this
  exact .inr (by simpa using this)
 |j::S,seen,h,o,ho,e,he,hb=>by
  simp only[List.cons_append,edgesO,Bool.and_eq_true]at h
  rcases edgesO_spec S (j::seen) h.2 o ho e he hb with q|q
  ·exact .inl (by simp [q])
  ·rcases List.mem_cons.1 q with q|q
   ·exact .inl (by simp [q])
   ·exact .inr q
theorem draw_soundX {fz:List (Nat×Nat)} {cx:Nat→AVal} {K:AS→Prop} (hl:cops P N lo ops mkv imp ops.toList 0=some l) (hlo:D.lo≤lo) (hd:drawXOK fz ops l=true) (hkp:∀x∈l,kpOK kp x) (hKr:∀a b,SEq kp a b→K a→K b) (hb:m≤base)
  (hQ:∀v H' n' chain a' w',Qp v H' n'→PSim m g0 H0 w0 D a'.defers a'.tmps v H' n' chain w'→Qc (.panic chain) a' w')
  (hK:∀s' a' w',K s'→Sim m g0 H0 w0 N D s' a' w'→Qc .normal a' w'):
  ∀(fuel:Nat) (listed:Array Bool) (s:AS) (a:Act) (w:World),(remL ops listed).length=fuel→listed.size=ops.size→ClosedL ops listed→runX P Qp base cx (xAt fz l (remL ops listed)) K s→Sim m g0 H0 w0 N D s a w→
   (bumps l=true→base+ops.size≤s.n)→wpAnyIn (FR r) 0 P .any ops Qc fuel listed a w:=by
 obtain⟨hlen,hspec⟩:=cops_spec _ _ _ hl
 have hlen:l.length=ops.size:=by rw[hlen,Array.length_toList]
 unfold drawXOK drawXOKm at hd
 rw[Bool.and_eq_true,Bool.and_eq_true]at hd
 obtain⟨⟨hed,hld⟩,hd⟩:=hd
 have opAt_mem:∀i,i<ops.size→opAt l i∈l:=fun i hi=>by
  have hi':i<l.length:=by omega
  simp [opAt,hi']
 have ready_nil:∀listed:Array Bool,Region.ready .any ops listed=[]→listed.size=ops.size→remL ops listed=[]:=by
  intro listed hr hsz
  cases hrem:remL ops listed with
  |nil=>rfl
  |cons i B=>
   exfalso
   have hi:i∈remL ops listed:=by rw[hrem];exact List.mem_cons_self ..
   obtain⟨hi1,hi2⟩:=mem_remL.1 hi
   have:i∈Region.ready .any ops listed:=by
    refine mem_ready.2 ⟨hi2,ops[i],by simp [hi1],fun e he hbd=>?_⟩
    unfold edgesOK at hed
    rw[List.all_eq_true]at hed
    have h1:=hed i (List.mem_range.2 hi1)
    have ho:ops[i]?=some ops[i]:=by simp [hi1]
    rw[ho]at h1
    simp only[List.all_eq_true,Array.mem_toList_iff]at h1
    have h2:=h1 e he
    rw[hbd]at h2
    simp only[Bool.not_true,Bool.false_or,decide_eq_true_eq]at h2
    by_cases h3:listed.getD e.on false=true
    ·exact h3
    ·exfalso
     have h4:e.on∈remL ops listed:=mem_remL.2 ⟨by omega,by
      have:e.on<listed.size:=by omega
      simp [this]at h3⊢;exact h3⟩
     rw[hrem]at h4
     have hs:=remL_sorted (ops:=ops) listed
     rw[hrem,List.pairwise_cons]at hs
     rcases List.mem_cons.1 h4 with h5|h5
     ·omega
     ·have:=hs.1 _ h5;omega
   rw[hr]at this;cases this
 intro fuel
 induction fuel with
 |zero=>
  intro listed s a w hf hsz hc h hs hbump
  have hnil:remL ops listed=[]:=List.length_eq_zero_iff.1 hf
  refine⟨?_,?_⟩
  ·cases hr:Region.ready .any ops listed with
   |nil=>rfl
   |cons i B=>
    have hi:i∈Region.ready .any ops listed:=by rw[hr];exact List.mem_cons_self ..
    obtain⟨h1,o,h2,-⟩:=mem_ready.1 hi
    have:i∈remL ops listed:=mem_remL.2 ⟨(Array.getElem?_eq_some_iff.1 h2).1,h1⟩
    rw[hnil]at this;cases this
  ·rw[hnil]at h;exact hK s a w h hs
 |succ fuel ih=>
  intro listed s a w hf hsz hc h hs hbump
  refine⟨fun hr=>?_,fun i hi=>?_⟩
  ·rw[ready_nil listed hr hsz]at hf;cases hf
  ·obtain⟨h1,o,h2,hedge⟩:=mem_ready.1 hi
   have hi1:i<ops.size:=(Array.getElem?_eq_some_iff.1 h2).1
   have hir:i∈remL ops listed:=mem_remL.2 ⟨hi1,h1⟩
   obtain⟨A,B,hAB⟩:=List.append_of_mem hir
   have hsort:=remL_sorted (ops:=ops) listed
   rw[hAB]at hsort
   obtain⟨hf1,hlt⟩:=split_sorted hsort
   have hset:remL ops (listed.setIfInBounds i true)=A++B:=by rw[remL_set (by omega),hAB,hf1]
   have hanc:∀x,((masks ops.toList []).getD i 0).testBit x=true→listed.getD x false=true:=mask_listed hc i (fun o' ho'=>by rw[h2]at ho';cases ho';exact hedge)
   have hlti:i<l.length:=by omega
   have hfr:=frontX (P:=P) (Qp:=Qp) (base:=base) (cx:=cx) (y:=(flagX fz (newTs l) (opAt l i),opAt l i)) (B:=xAt fz l B) (K:=K) (kp:=kp) (hkp _ (opAt_mem i hi1))
    (fun x hx=>by
     obtain⟨j,hj,rfl⟩:=List.mem_map.1 hx
     exact hkp _ (opAt_mem j (mem_remL.1 (show j∈remL ops listed by rw[hAB];simp [hj])).1)) hKr (xAt fz l A) s
    (fun x hx=>by
     obtain⟨j,hj,rfl⟩:=List.mem_map.1 hx
     have hji:=hlt j hj
     obtain⟨hj1,hj2⟩:=mem_remL.1 (show j∈remL ops listed by rw[hAB];simp [hj])
     rw[List.all_eq_true]at hd
     have hd1:=hd i (List.mem_range.2 hlti)
     rw[List.all_eq_true]at hd1
     have hd2:=hd1 j (List.mem_range.2 hji)
     have hltj:j<l.length:=by omega
     have e1:l[j]?=some (opAt l j):=by simp [opAt,hltj]
     have e2:l[i]?=some (opAt l i):=by simp [opAt,hlti]
     rw[e1,e2]at hd2
     simp only[Bool.or_eq_true,Bool.and_eq_true]at hd2
     rcases hd2 with⟨d1,d2⟩|d3
     ·refine⟨aapart_spec d1,d2,hkp _ (opAt_mem j hj1),fun c1 c2=>?_⟩
      obtain⟨gd,k,q1,q2,q3,q4⟩:=hspec i ops[i] (by simp [hi1])
      obtain⟨gd',k',q1',q2',q3',q4'⟩:=hspec j ops[j] (by simp [hj1])
      have e3:opAt l i=⟨ops[i].dst,gd,k⟩:=by simp [opAt,q1]
      have e4:opAt l j=⟨ops[j].dst,gd',k'⟩:=by simp [opAt,q1']
      rw[e3]at c2⊢
      rw[e4]at c1⊢
      have r1:=copK_rel q3 c2
      have r2:=copK_rel q3' c1
      simp only[r1,r2];omega
     ·exfalso
      have:=hanc j d3
      have hjs:j<listed.size:=by omega
      simp [hjs]at this hj2
      rw[this]at hj2;cases hj2)
    (by
     intro sz ag ad e hok
     have hld1:ldOK (opAt l i)=true:=(List.all_eq_true.1 hld) _ (opAt_mem i hi1)
     obtain⟨g,hR,hE,-⟩:=hs
     cases ad with
     |c v=>
      unfold ldOK at hld1
      rw[e]at hld1
      simp only[lkv,lk]
      cases v<;>first|trivial|(simp at hld1;done)
     |t t=>
      simp only[lk,lkv]at hok⊢
      cases hg:eget s.env t with
      |none=>simp [hg]at hok
      |some gv=>
       obtain⟨gd,v⟩:=gv
       simp only[hg]at hok⊢
       obtain⟨x,-,p2,-⟩:=hE t gd v hg
       have hv:=p2 hok
       cases v<;>first|trivial|skip
       ·obtain⟨L,q1,-⟩:=hv;exact(hR.dom _ _ q1).1
       ·obtain⟨L,q1,-⟩:=hv;exact(hR.dom _ _ q1).1)
    (by
     have e:xAt fz l A++(flagX fz (newTs l) (opAt l i),opAt l i)::xAt fz l B=xAt fz l (remL ops listed):=by rw[hAB];simp [xAt]
     rw[e];exact h)
   have e2:xAt fz l A++xAt fz l B=xAt fz l (remL ops (listed.setIfInBounds i true)):=by rw[hset];simp [xAt]
   rw[e2]at hfr
   refine step_at hl hlo hi1 hfr.2 hs hb hbump (fun s' a' w' hk hs' hn=>?_) hQ
   refine ih _ s' a' w' ?_ (by simp [hsz]) ?_ hk.2 hs' (fun q=>Nat.le_trans (hbump q) hn)
   ·rw[hset]
    rw[hAB]at hf
    simp at hf⊢;omega
   ·intro j o' hj ho' e he hbd
    by_cases hij:i=j
    ·subst hij
     rw[h2]at ho';cases ho'
     exact getD_set_true (hedge e he hbd)
    ·rw[getD_set_ne false hij]at hj
     exact getD_set_true (hc j o' hj ho' e he hbd)
theorem draw_soundO {fz:List (Nat×Nat)} {ord:List Nat} {cx:Nat→AVal} {K:AS→Prop} (hl:cops P N lo ops mkv imp ops.toList 0=some l) (hlo:D.lo≤lo) (hd:drawOO fz ord ops l=true) (hkp:∀x∈l,kpOK kp x) (hKr:∀a b,SEq kp a b→K a→K b) (hb:m≤base)
  (hQ:∀v H' n' chain a' w',Qp v H' n'→PSim m g0 H0 w0 D a'.defers a'.tmps v H' n' chain w'→Qc (.panic chain) a' w')
  (hK:∀s' a' w',K s'→Sim m g0 H0 w0 N D s' a' w'→Qc .normal a' w'):
  ∀(fuel:Nat) (listed:Array Bool) (s:AS) (a:Act) (w:World),(remO ord listed).length=fuel→listed.size=ops.size→ClosedL ops listed→runX P Qp base cx (xAt fz l (remO ord listed)) K s→Sim m g0 H0 w0 N D s a w→
   (bumps l=true→base+ops.size≤s.n)→wpAnyIn (FR r) 0 P .any ops Qc fuel listed a w:=by
 obtain⟨hlen,hspec⟩:=cops_spec _ _ _ hl
 have hlen:l.length=ops.size:=by rw[hlen,Array.length_toList]
 unfold drawOO at hd
 simp only[Bool.and_eq_true]at hd
 obtain⟨⟨⟨⟨⟨-,ho1⟩,ho2⟩,hld⟩,hed⟩,hd⟩:=hd
 have hmem:∀i,i∈ord↔i<ops.size:=fun i=>⟨fun h=>by simpa using(List.all_eq_true.1 ho1) i h,fun h=>by simpa using(List.all_eq_true.1 ho2) i (List.mem_range.2 h)⟩
 have hpw:=ordPairs_pw hd
 have mem_remL:∀{listed:Array Bool} {i:Nat},i∈remO ord listed↔i<ops.size∧listed.getD i true=false:=fun{listed i}=>by simp [remO,hmem]
 have opAt_mem:∀i,i<ops.size→opAt l i∈l:=fun i hi=>by
  have hi':i<l.length:=by omega
  simp [opAt,hi']
 have ready_nil:∀listed:Array Bool,Region.ready .any ops listed=[]→listed.size=ops.size→remO ord listed=[]:=by
  intro listed hr hsz
  cases hrem:remO ord listed with
  |nil=>rfl
  |cons i B=>
   exfalso
   have hi:i∈remO ord listed:=by rw[hrem];exact List.mem_cons_self ..
   obtain⟨hi1,hi2⟩:=mem_remL.1 hi
   have:i∈Region.ready .any ops listed:=by
    refine mem_ready.2 ⟨hi2,ops[i],by simp [hi1],fun e he hbd=>?_⟩
    obtain⟨S,T,hST,hS,-,-⟩:=List.filter_eq_cons_iff.1 hrem
    have h1:=edgesO_spec S [] (by rw[hST]at hed;exact hed) ops[i] (by simp [hi1]) e he hbd
    simp only[List.not_mem_nil,or_false]at h1
    have h2:listed.getD e.on true=true:=by simpa using hS _ h1
    have h3:e.on<listed.size:=by rw[hsz];exact(hmem _).1 (by rw[hST];simp [h1])
    simp [h3]at h2⊢;exact h2
   rw[hr]at this;cases this
 intro fuel
 induction fuel with
 |zero=>
  intro listed s a w hf hsz hc h hs hbump
  have hnil:remO ord listed=[]:=List.length_eq_zero_iff.1 hf
  refine⟨?_,?_⟩
  ·cases hr:Region.ready .any ops listed with
   |nil=>rfl
   |cons i B=>
    have hi:i∈Region.ready .any ops listed:=by rw[hr];exact List.mem_cons_self ..
    obtain⟨h1,o,h2,-⟩:=mem_ready.1 hi
    have:i∈remO ord listed:=mem_remL.2 ⟨(Array.getElem?_eq_some_iff.1 h2).1,h1⟩
    rw[hnil]at this;cases this
  ·rw[hnil]at h;exact hK s a w h hs
 |succ fuel ih=>
  intro listed s a w hf hsz hc h hs hbump
  refine⟨fun hr=>?_,fun i hi=>?_⟩
  ·rw[ready_nil listed hr hsz]at hf;cases hf
  ·obtain⟨h1,o,h2,hedge⟩:=mem_ready.1 hi
   have hi1:i<ops.size:=(Array.getElem?_eq_some_iff.1 h2).1
   have hir:i∈remO ord listed:=mem_remL.2 ⟨hi1,h1⟩
   obtain⟨A,B,hAB⟩:=List.append_of_mem hir
   have hsort:(remO ord listed).Pairwise fun j i=>pairO fz l (masks ops.toList []) j i=true:=hpw.filter _
   rw[hAB]at hsort
   obtain⟨hf1,hlt⟩:=split_pw (fun x y h=>by unfold pairO at h;rw[Bool.and_eq_true]at h;simpa using h.1) hsort
   have hset:remO ord (listed.setIfInBounds i true)=A++B:=by rw[remO_set (by omega),hAB,hf1]
   have hanc:∀x,((masks ops.toList []).getD i 0).testBit x=true→listed.getD x false=true:=mask_listed hc i (fun o' ho'=>by rw[h2]at ho';cases ho';exact hedge)
   have hlti:i<l.length:=by omega
   have hfr:=frontX (P:=P) (Qp:=Qp) (base:=base) (cx:=cx) (y:=(flagX fz (newTs l) (opAt l i),opAt l i)) (B:=xAt fz l B) (K:=K) (kp:=kp) (hkp _ (opAt_mem i hi1))
    (fun x hx=>by
     obtain⟨j,hj,rfl⟩:=List.mem_map.1 hx
     exact hkp _ (opAt_mem j (mem_remL.1 (show j∈remO ord listed by rw[hAB];simp [hj])).1)) hKr (xAt fz l A) s
    (fun x hx=>by
     obtain⟨j,hj,rfl⟩:=List.mem_map.1 hx
     obtain⟨hj1,hj2⟩:=mem_remL.1 (show j∈remO ord listed by rw[hAB];simp [hj])
     have hd2:=hlt j hj
     have hltj:j<l.length:=by omega
     have e1:l[j]?=some (opAt l j):=by simp [opAt,hltj]
     have e2:l[i]?=some (opAt l i):=by simp [opAt,hlti]
     unfold pairO at hd2
     rw[Bool.and_eq_true,e1,e2]at hd2
     have hji:j≠i:=by simpa using hd2.1
     replace hd2:=hd2.2
     simp only[Bool.or_eq_true,Bool.and_eq_true]at hd2
     rcases hd2 with⟨d1,d2⟩|d3
     ·refine⟨aapart_spec d1,d2,hkp _ (opAt_mem j hj1),fun c1 c2=>?_⟩
      obtain⟨gd,k,q1,q2,q3,q4⟩:=hspec i ops[i] (by simp [hi1])
      obtain⟨gd',k',q1',q2',q3',q4'⟩:=hspec j ops[j] (by simp [hj1])
      have e3:opAt l i=⟨ops[i].dst,gd,k⟩:=by simp [opAt,q1]
      have e4:opAt l j=⟨ops[j].dst,gd',k'⟩:=by simp [opAt,q1']
      rw[e3]at c2⊢
      rw[e4]at c1⊢
      have r1:=copK_rel q3 c2
      have r2:=copK_rel q3' c1
      simp only[r1,r2];omega
     ·exfalso
      have:=hanc j d3
      have hjs:j<listed.size:=by omega
      simp [hjs]at this hj2
      rw[this]at hj2;cases hj2)
    (by
     intro sz ag ad e hok
     have hld1:ldOK (opAt l i)=true:=(List.all_eq_true.1 hld) _ (opAt_mem i hi1)
     obtain⟨g,hR,hE,-⟩:=hs
     cases ad with
     |c v=>
      unfold ldOK at hld1
      rw[e]at hld1
      simp only[lkv,lk]
      cases v<;>first|trivial|(simp at hld1;done)
     |t t=>
      simp only[lk,lkv]at hok⊢
      cases hg:eget s.env t with
      |none=>simp [hg]at hok
      |some gv=>
       obtain⟨gd,v⟩:=gv
       simp only[hg]at hok⊢
       obtain⟨x,-,p2,-⟩:=hE t gd v hg
       have hv:=p2 hok
       cases v<;>first|trivial|skip
       ·obtain⟨L,q1,-⟩:=hv;exact(hR.dom _ _ q1).1
       ·obtain⟨L,q1,-⟩:=hv;exact(hR.dom _ _ q1).1)
    (by
     have e:xAt fz l A++(flagX fz (newTs l) (opAt l i),opAt l i)::xAt fz l B=xAt fz l (remO ord listed):=by rw[hAB];simp [xAt]
     rw[e];exact h)
   have e2:xAt fz l A++xAt fz l B=xAt fz l (remO ord (listed.setIfInBounds i true)):=by rw[hset];simp [xAt]
   rw[e2]at hfr
   refine step_at hl hlo hi1 hfr.2 hs hb hbump (fun s' a' w' hk hs' hn=>?_) hQ
   refine ih _ s' a' w' ?_ (by simp [hsz]) ?_ hk.2 hs' (fun q=>Nat.le_trans (hbump q) hn)
   ·rw[hset]
    rw[hAB]at hf
    simp at hf⊢;omega
   ·intro j o' hj ho' e he hbd
    by_cases hij:i=j
    ·subst hij
     rw[h2]at ho';cases ho'
     exact getD_set_true (hedge e he hbd)
    ·rw[getD_set_ne false hij]at hj
     exact getD_set_true (hc j o' hj ho' e he hbd)
end
end Go.AM
end
section
set_option maxRecDepth 20000
set_option linter.all false
namespace Go.AM
def QM (m:Nat) (g0:Ghost) (H0:AHeap) (w0:World) (N:Nat) (D:DP) (Q:AExit→AS→Prop):Exit→Act→World→Prop
 | .normal,a,w=>∃s,Q .normal s∧Sim m g0 H0 w0 N D s a w
 | .exit i,a,w=>∃s,Q (.exit i) s∧Sim m g0 H0 w0 N D s a w
 | .ret,a,w=>∃s,Q .ret s∧Sim m g0 H0 w0 N D s a w
 | .panic chain,a,w=>∃v H n,Q (.pan v) ⟨[],H,n⟩∧PSim m g0 H0 w0 D a.defers a.tmps v H n chain w
 |_,_,_=>False
theorem Sim.drawn {m:Nat} {g0:Ghost} {H0:AHeap} {w0:World} {N:Nat} {D:DP} {s:AS} {a:Act} {w:World} (h:Sim m g0 H0 w0 N D s a w) (k:Nat):Sim m g0 H0 w0 N D s a {w with drawn:=k}:=by
 obtain⟨g,hR,hE,hT,hm,hN,hD⟩:=h
 refine⟨g,⟨hR.σw,fun id ob ho=>?_,hR.dom,hR.hd,hR.ap,hR.un,hR.gl,hR.gz⟩,hE,⟨hT.le,hT.βn,hT.os,hT.tape,hT.output,hT.size,hT.kept,hT.now,hT.nσ⟩,hm,hN,DOK.heap (w:=w) (w':={w with drawn:=k}) rfl hD⟩
 have:=hR.obj id ob ho
 cases ob<;>exact this
theorem Sim.trans {m m1:Nat} {g0 g1:Ghost} {H0 H1:AHeap} {w0 w1:World} {N:Nat} {D:DP} {s':AS} {a':Act} {w':World} (hT:Trans m g0 H0 w0 g1 H1 w1) (hm:m≤m1) (h:Sim m1 g1 H1 w1 N D s' a' w'):
  Sim m g0 H0 w0 N D s' a' w':=by
 obtain⟨g,hR,hE,hT',hm',hN,hD⟩:=h
 exact⟨g,hR,hE,hT.trans (hT'.floor hm),by omega,hN,hD⟩
theorem PSim.trans {m m1:Nat} {D:DP} {ds:List Deferred} {tm:Array Value} {g0 g1:Ghost} {H0 H1:AHeap} {w0 w1:World} {v:AVal} {H:AHeap} {n:Nat} {chain:List PanicEntry} {w':World} (hT:Trans m g0 H0 w0 g1 H1 w1) (hm:m≤m1) (h:PSim m1 g1 H1 w1 D ds tm v H n chain w'):
  PSim m g0 H0 w0 D ds tm v H n chain w':=by
 obtain⟨g,x,hR,hT',hm',hc,hv⟩:=h
 exact⟨g,x,hR,hT.trans (hT'.floor hm),by omega,hc,hv⟩
theorem envWk_get {env:List (Nat×Bool×AVal)}:∀{env2:List (Nat×Bool×AVal)},envWk env env2→∀{t:Nat} {gd:Bool} {v:AVal},eget env2 t=some (gd,v)→∃v',eget env t=some (gd,v')∧Wk v' v
 |[],_,t,gd,v,h=>by simp [eget]at h
 |(i,g,x)::r,⟨h1,h2⟩,t,gd,v,h=>by
  simp only[eget]at h
  split at h
  ·rename_i e;subst e;cases h;exact h1
  ·exact envWk_get h2 h
theorem envUnder_get {n:Nat}:∀{env2:List (Nat×Bool×AVal)},envUnder n env2→∀{t:Nat} {gd:Bool} {v:AVal},eget env2 t=some (gd,v)→v.under n
 |[],_,t,gd,v,h=>by simp [eget]at h
 |(i,g,x)::r,⟨h1,h2⟩,t,gd,v,h=>by
  simp only[eget]at h
  split at h
  ·cases h;exact h1
  ·exact envUnder_get h2 h
theorem weaken_sim {m:Nat} {g0 g1:Ghost} {H0:AHeap} {w0 w1:World} {N:Nat} {D:DP} {s1 s' s2:AS} {a':Act} {w':World} (hR:Rel g1 s1.H s1.n w1) (hT:Trans m g0 H0 w0 g1 s1.H w1) (hm:m≤s1.n)
  (h:Sim s1.n g1 s1.H w1 N D s' a' w') (hw:Weaken s1 s' s2):Sim m g0 H0 w0 N D s2 a' w':=by
 rcases hw with rfl|hw
 ·exact h.trans hT hm
 obtain⟨g,hR',hE,hT',hm',hN,hD⟩:=h
 obtain⟨we,⟨e1,e2⟩|⟨e2,hf,hu⟩⟩:=hw
 ·refine⟨g,by rw[e1,e2];exact hR',fun t gd v hg=>?_,by rw[e1];exact hT.trans (hT'.floor hm),by rw[e2];omega,hN,by rw[e1];exact hD⟩
  obtain⟨v',p1,p2⟩:=envWk_get we hg
  obtain⟨x,q1,q2,q3⟩:=hE t gd v' p1
  exact⟨x,q1,fun k=>p2 _ _ (q2 k),q3⟩
 ·obtain⟨r2,t2,ag⟩:=forget hR hR' hT' hf
  refine⟨⟨g1.β,g.σ⟩,by rw[e2];exact r2,fun t gd v hg=>?_,hT.trans (t2.floor hm),by rw[e2];omega,hN,hD.own fun b=>forget_own hT' hf⟩
  obtain⟨v',p1,p2⟩:=envWk_get we hg
  obtain⟨x,q1,q2,q3⟩:=hE t gd v' p1
  exact⟨x,q1,fun k=>VRel.agree ag v x (envUnder_get hu hg) (p2 _ _ (q2 k)),q3⟩
theorem keep_eget (s:AS):∀(l:List Nat) (t:Nat),eget (l.filterMap fun t=>(eget s.env t).map fun x=>(t,x)) t=if t∈l then eget s.env t else none
 |[],t=>by simp [eget]
 |i::l,t=>by
  rw[List.filterMap_cons]
  cases h:eget s.env i with
  |none=>
   simp only[h,Option.map_none]
   rw[keep_eget s l t]
   by_cases e:t=i
   ·subst e;simp [h]
   ·simp [e]
  |some x=>
   simp only[h,Option.map_some,eget]
   rw[keep_eget s l t]
   by_cases e:i=t
   ·subst e;simp [h]
   ·simp [e,Ne.symm e]
theorem Sim.keep {m:Nat} {g0:Ghost} {H0:AHeap} {w0:World} {N:Nat} {D:DP} {s:AS} {a:Act} {w:World} (h:Sim m g0 H0 w0 N D s a w) (l:List Nat):Sim m g0 H0 w0 N D (s.keep l) a w:=by
 obtain⟨g,hR,hE,rest⟩:=h
 refine⟨g,hR,fun t gd v hg=>?_,rest⟩
 simp only[AS.keep]at hg
 rw[keep_eget]at hg
 split at hg
 ·exact hE t gd v hg
 ·cases hg
theorem keep_eq {kp:List Nat} {a b:AS} (h:SEq kp a b):a.keep kp=b.keep kp:=by
 obtain⟨h1,h2,h3⟩:=h
 obtain⟨e1,H1,n1⟩:=a
 obtain⟨e2,H2,n2⟩:=b
 simp only at h1 h2 h3
 subst h2;subst h3
 simp only[AS.keep,AS.mk.injEq,and_true]
 have:∀l:List Nat,(∀t∈l,t∈kp)→(l.filterMap fun t=>(eget e1 t).map fun x=>(t,x))=l.filterMap fun t=>(eget e2 t).map fun x=>(t,x):=by
  intro l
  induction l with
  |nil=>intro _;rfl
  |cons t l ih=>
   intro hl
   rw[List.filterMap_cons,List.filterMap_cons,(h1 t).2 (hl t (List.mem_cons_self ..)),ih fun x hx=>hl x (List.mem_cons_of_mem _ hx)]
 exact this kp fun _ h=>h
theorem cond_val {g:Ghost} {env:List (Nat×Bool×AVal)} {a:Act} (hgl:GlobOK g) (he:EnvRel g env a.tmps) {x:Operand} {x':Opd} (h:copd x=some x') (hok:(lk env x').1=true) (hb:isB (lkv env x')):a.eval x= .bool (toB (lkv env x')):=by
 have:=copd_rel hgl he h hok
 generalize lkv env x'=v at this hb⊢
 cases v<;>simp only[isB]at hb
 exact this
theorem stepR_scope {P:Program} {b:Frame} {a:Act} {k:List Item} {cs:List Frame} {w:World} {c:Code}:step P (lone (b.atR a (.code (.scope c)::k)) cs w)= .next (lone (b.atR a (.code c:: .inScope c::k)) cs w):=
 step_lone_go (by simp [stepG,stepG.exec,Frame.atR])
theorem stepR_inScope {P:Program} {b:Frame} {a:Act} {k:List Item} {cs:List Frame} {w:World} {c:Code}:step P (lone (b.atR a (.inScope c::k)) cs w)= .next (lone (b.atR a k) cs w):=
 step_lone_go (by simp [stepG,stepG.exec,Frame.atR])
theorem wpIn_scope {F:Fence} {n:Nat} {P:Program} {Q:Exit→Act→World→Prop} {a:Act} {w:World} {c:Code} (h:c.wpIn F n P (fun e a w=>match e with
  | .goto _=>False
  |e=>Q e a w) a w):(Code.scope c).wpIn F n P Q a w:=by
 intro b k cs hro hb hr
 have h0:(lone (b.atR a (.code (.scope c)::k)) cs w).fenced P F:=fenced_calm hb hr rfl
 obtain⟨e,a₁,w₁,hq,harr⟩:=h b (.inScope c::k) cs hro hb hr
 cases e with
 |normal=>exact⟨.normal,a₁,w₁,hq,.head h0 stepR_scope (StepsIn.trans harr (.one (fenced_calm hb hr rfl) stepR_inScope))⟩
 |exit id=>exact⟨_,a₁,w₁,hq,fun k' hk=>.head h0 stepR_scope (harr.1 k' (by simp [exitTo,hk])),fun hr' hk=>let ⟨k₁,h1,h2⟩:=harr.2 hr' (by simp [exitTo,hk]);⟨k₁,h1,.head h0 stepR_scope h2⟩⟩
 |goto l=>exact hq.elim
 |ret=>exact⟨_,a₁,w₁,hq,.of_steps (.one h0 stepR_scope) harr⟩
 |panic ch=>exact⟨_,a₁,w₁,hq,.of_steps (.one h0 stepR_scope) harr⟩
 |outgrown=>exact⟨_,a₁,w₁,hq,.of_steps (.one h0 stepR_scope) harr⟩
theorem least (p:Nat→Prop) (h:∃k,p k):∃k,p k∧∀j,p j→k≤j:=by
 obtain⟨k,hk⟩:=h
 induction k using Nat.strongRecOn with
 |_ k ih=>
  by_cases hx:∃j,j<k∧p j
  ·obtain⟨j,h1,h2⟩:=hx;exact ih j h1 h2
  ·exact⟨k,hk,fun j hj=>Nat.le_of_not_lt fun hlt=>hx ⟨j,hlt,hj⟩⟩
section
variable {P:Program} {r:Option Nat} {N:Nat} {D:DP} {fz im:List (Nat×Nat)} {kp:Nat→List Nat}
theorem rfun_sound {g:Operand} {g':Opd} {ps:Array Tmp} {asg body:Code} {Q:AExit→AS→Prop} {m:Nat} {g0:Ghost} {H0:AHeap} {w0:World} {s:AS} {a:Act} {w:World} (hg:copd g=some g')
  (hok:(lk s.env g').1=true) (h:rfunA P s Q ps N asg body (lkv s.env g')) (hs:Sim m g0 H0 w0 N D s a w) (hDw:D.fl≤w0.heap.size) (hno:D.no=false):(Code.rangeFunc g ps asg body).wpIn (FR none) 0 P (QM m g0 H0 w0 N D Q) a w:=by
 obtain⟨gh,hR,hE,hT,hm,hN,hD⟩:=hs
 have hv:=copd_rel hR.gl hE hg hok
 generalize lkv s.env g'=gv at h hv
 cases gv<;>simp only[rfunA]at h
 rename_i ff first cap
 cases ff<;>simp only at h
 rename_i fid
 obtain⟨fv,cv,e1,k1,k2⟩:=hv
 refine wpIn_rangeFunc fun fn hfn=>?_
 have hl:=h (w.heap.size+1)
 obtain⟨hcb,hc⟩:=hl
 have hcb':=hcb
 obtain⟨fn',c1,c2,c3⟩:=hcb'
 have c3':¬fn'.name= "runtime.NumGoroutine" :=by simpa using c3
 have c4:¬fn'.body=none:=by cases hb:fn'.body<;>simp_all
 let rec0:Loop:={state:=.ready,pending:=none,fn:=fn,tmps:=a.tmps,params:=ps,assign:=asg,body:=body,defers:=w.heap.size}
 let wa:World:=w.alloc (.deferred (some []))
 let wb:World:=wa.alloc (.loop rec0)
 have hxa:HExt w wa:=HExt.push (w:=w) (w':=wa) rfl
 have hRa:Rel ⟨gh.β,gh.σ⟩ s.H s.n wa:=hR.grow hxa (fun _ _ _ x=>x) (fun _ _ _ x=>.inl x)
 have hTa:Trans s.n gh s.H w ⟨gh.β,gh.σ⟩ s.H wa:=Trans.grow hxa rfl rfl rfl (fun _ _ _ x=>x) (fun _ _ _ x=>.inl x)
 have hRa1:Rel ⟨gh.β,gh.σ⟩ s.H (s.n+1) wa:=⟨hRa.σw,hRa.obj,hRa.dom,fun id ob q=>Nat.lt_succ_of_lt (hRa.hd id ob q),hRa.ap,hRa.un,hRa.gl,hRa.gz⟩
 have hnone:hget s.H s.n=none:=by
  cases q:hget s.H s.n with
  |none=>rfl
  |some ob=>exact absurd (hR.hd _ _ q) (Nat.lt_irrefl _)
 have hsza:wa.heap.size=w.heap.size+1:=World.size_alloc ..
 have hgle:gh.le ⟨fun i=>if i=s.n then some ⟨w.heap.size+1,0,1⟩else gh.β i,gh.σ⟩:=⟨fun i L q=>by
  have:i≠s.n:=by rintro rfl;exact absurd hnone ((hR.dom _ _ q).1)
  simp [this,q],fun _ _ _ q=>q⟩
 obtain⟨hRb,hTb,hle⟩:=hRa1.new (m:=s.n) (w':=wb) (x:=Obj.loop rec0) rfl rfl rfl rfl hnone (Nat.lt_succ_self _) (Nat.le_refl _) (L:=⟨w.heap.size+1,0,1⟩) hsza.symm
  (ob:=.lp ⟨w.heap.size+1,.ready,none,N,s.env,ps,asg,body⟩)
  ⟨⟨w.heap.size+1,0,1⟩,by simp,rfl,rfl,rfl,rec0,by rw[←hsza];exact World.alloc_heap_new wa _,rfl,rfl,rfl,rfl,rfl,hE.mono hgle,hN⟩
 have hT1:=hTa.trans hTb
 have hmark:∀b ob,hget (hset s.H s.n ob) b≠none→True:=fun _ _ _=>trivial
 obtain⟨ms,hms,hMOK,-⟩:=hD
 have hDb:DOK D ⟨fun i=>if i=s.n then some ⟨w.heap.size+1,0,1⟩else gh.β i,gh.σ⟩ (hset s.H s.n (.lp ⟨w.heap.size+1,.ready,none,N,s.env,ps,asg,body⟩)) ([{target:=.collected w.heap.size,args:= #[]}]++a.defers) a.tmps wb:=by
  refine⟨{target:=.collected w.heap.size,args:= #[]}::ms,by rw[hms];rfl,⟨⟨w.heap.size,rfl,Nat.le_trans hDw hT.size,?_,?_,?_⟩,?_⟩,fun h=>by rw[hno]at h;cases h⟩
  ·exact HExt.push (w:=wa) (w':=wb) rfl _ _ (World.alloc_heap_new w _)
  ·rintro⟨id,ob,L,q1,q2,q3,q4,q5,q6⟩
   by_cases e:id=s.n
   ·subst e
    simp at q3;subst q3;simp at q4
   ·simp only[if_neg e]at q3
    rw[hget_hset_ne _ _ _ _ (Ne.symm e)]at q1
    have:=(hR.dom id L q3).2 (by omega)
    omega
  ·intro d hd e
   obtain⟨b,q1,q2⟩:=MOK.blk hMOK d hd
   rw[q1]at e
   have:b=w.heap.size:=by simpa using e
   omega
  ·exact MOK.step hT1 hMOK
 have hargs:VRels ⟨fun i=>if i=s.n then some ⟨w.heap.size+1,0,1⟩else gh.β i,gh.σ⟩ (first++[.fn (.yield (w.heap.size+1)) [] []]++cap) (fv++ #[Value.func (.yield (w.heap.size+1)) #[] #[]]++cv).toList:=by
  simp only[Array.toList_append]
  refine VRels.append' (VRels.append' (VRels.mono hgle _ _ k1) ?_) (VRels.mono hgle _ _ k2)
  exact⟨_,_,rfl,⟨#[], #[],rfl,rfl,rfl⟩,rfl⟩
 have hcalls:=hc _ wb _ hRb hargs
 simp only[Array.toArray_toList]at hcalls
 refine⟨w.heap.size+1,[{target:=.collected w.heap.size,args:= #[]}],wb,⟨.fn (.func fid) cv,fv++ #[Value.func (.yield (w.heap.size+1)) #[] #[]]⟩,wb,fid,fv++ #[Value.func (.yield (w.heap.size+1)) #[] #[]]++cv,wb,run_enterLoop_outer fn a.tmps ps asg body,?_,fun _ _=>trivial,?_,by simp [FR,Fence.wide],?_⟩
 ·have ev:a.eval (.const (.func (.yield (w.heap.size+1)) #[] #[]))=Value.func (.yield (w.heap.size+1)) #[] #[]:=rfl
  simp [rangeCall,resolve,e1,Deferred.ofValue,ev]
 ·simp [invoke,callFunc,c1,c3',c4]
 refine(callsIn_wide (n:=0-1)).2 (hcalls.mono ?_)
 rintro e w' ⟨g',out,H',n',hq,he,r1,hn',t1⟩
 have hT2:Trans s.n gh s.H w g' H' w':=hT1.trans (t1.floor (by omega))
 have hD':DOK D g' H' ([{target:=.collected w.heap.size,args:= #[]}]++a.defers) a.tmps w':=hDb.step t1
 cases e with
 |outgrown=>cases out<;>exact he.elim
 |panicked ch=>
  cases out with
  |ret v=>exact he.elim
  |pan v=>
   obtain⟨x,rfl,k⟩:=he
   exact⟨v,H',n',hq,g',x,r1,hT.trans (hT2.floor hm),by omega,rfl,k,hD'⟩
 |returned x=>
  cases out with
  |pan v=>exact he.elim
  |ret v=>
   simp only[rfunK]at hq
   cases ho:hget H' s.n with
   |none=>simp [ho]at hq
   |some ob=>
    cases ob<;>simp only[ho]at hq
    rename_i y
    obtain⟨hbusy,hq⟩:=hq
    obtain⟨L,q1,q2,q3,q4,r,p1,p2,p3,p4⟩:=r1.obj _ _ ho
    have hL:L=⟨w.heap.size+1,0,1⟩:=by
     have:=t1.le.β s.n ⟨w.heap.size+1,0,1⟩ (by simp)
     rw[q1]at this;exact Option.some.inj this
    subst hL
    simp only at p1 q4
    have hend:(Instr.endLoop (w.heap.size+1)).run P w'= .ok y.pend (w'.putObj (w.heap.size+1) (.loop {r with state:=.exhausted})):=by
     rw[←p3];exact run_endLoop (P:=P) p1 (by rw[p2];exact hbusy)
    have hlt:w.heap.size+1<w'.heap.size:=(Array.getElem?_eq_some_iff.1 p1).1
    obtain⟨rk,tk⟩:=r1.kill (m:=s.n) ho
    have hup:=r1.upd (m:=s.n) (w':=w'.putObj (w.heap.size+1) (.loop {r with state:=.exhausted})) (ob':=.dead) ho rfl q1 rfl rfl rfl (by simp [World.putObj]) (fun b hb=>by simp [World.putObj,Array.getElem?_setIfInBounds_ne (Ne.symm hb)])
     (.inr ⟨rfl,rfl,_,p1,by simp⟩) trivial
    obtain⟨rk',tk'⟩:=hup
    have hsim:∀s',s'=({s with H:=hset H' s.n .dead,n:=n'}:AS)→Sim m g0 H0 w0 N D s' {a with defers:=[{target:=.collected w.heap.size,args:= #[]}]++a.defers} (w'.putObj (w.heap.size+1) (.loop {r with state:=.exhausted})):=by
     rintro _ rfl
     exact⟨g',rk',hE.mono (hgle.trans t1.le),(hT.trans (hT2.floor hm)).trans (tk'.floor hm),by simp only[];omega,hN,hD'.step tk'⟩
    generalize w'.putObj (w.heap.size+1) (.loop {r with state:=.exhausted})=W at hend hsim
    refine⟨y.pend,W,hend,?_⟩
    cases hp:y.pend with
    |none=>simp only[hp]at hq;exact⟨_,hq,hsim _ rfl⟩
    |some c=>
     simp only[hp]at hq
     cases c<;>simp only at hq
     ·exact wpIn_exit ⟨_,hq,hsim _ rfl⟩
     ·exact wpIn_ret ⟨_,hq,hsim _ rfl⟩
theorem Sim.freeze {m:Nat} {g0:Ghost} {H0:AHeap} {w0:World} {s:AS} {a:Act} {w:World} {t:Nat} {Q:AExit→AS→Prop} (h:frzA Q s t (eget s.env t)) (hs:Sim m g0 H0 w0 N D s a w):∃s',Q .normal s'∧Sim m g0 H0 w0 N D s' a w:=by
 obtain⟨g,hR,hE,hT,hm,hN,hD⟩:=hs
 unfold frzA at h
 split at h
 case h_2=>exact h.elim
 rename_i id e off len cap heg
 obtain⟨x,x1,x2,-⟩:=hE t true _ heg
 obtain⟨L,k1,k2,rfl⟩:=x2 rfl
 have val:∀(g':Ghost) (H':AHeap) (l:List AVal),g.le g'→ORel g' w id (.frz e l)→off+len≤l.length→len≤cap→VRel g' (.sl (if len=cap then .exact e else .none e) ((l.drop off).take len)) (.slice (some ⟨L.blk,off*e,none⟩) len cap):=by
  intro g' H' l hle ho h1 h2
  obtain⟨L',j1,j2,j3⟩:=ho
  rw[hle.β _ _ k1]at j1;cases j1
  have hlen:((l.drop off).take len).length=len:=by simp;omega
  have hst:=Stab.take len _ _ (Stab.drop off _ _ j3)
  rw[Nat.zero_add]at hst
  by_cases hc:len=cap
  ·rw[if_pos hc];exact .inr ⟨trivial,L.blk,off*e,cap,⟨none,by rw[hlen],.inl rfl⟩,by rw[hlen];exact h2,hst,by rw[hlen];exact hc.symm⟩
  ·rw[if_neg hc];exact .inr ⟨trivial,L.blk,off*e,cap,⟨none,by rw[hlen],.inl rfl⟩,by rw[hlen];exact h2,hst,trivial⟩
 have env:∀(g':Ghost) (v:AVal),g.le g'→VRel g' v (.slice (some ⟨L.blk,off*e,none⟩) len cap)→EnvRel g' ((t,true,v)::s.env) a.tmps:=by
  intro g' v hle hv t' gd v' hg
  simp only[eget]at hg
  split at hg
  ·rename_i e';subst e';cases hg
   exact⟨_,x1,fun _=>hv,by simp⟩
  ·exact(hE.mono hle) t' gd v' hg
 split at h
 ·rename_i e' l ho
  obtain⟨rfl,h1,h2,hQ⟩:=h
  obtain⟨σ',r1,t1⟩:=hR.freeze (m:=m) ho
  exact⟨_,hQ,_,r1,env _ _ t1.le (val _ H0 l t1.le (r1.obj id _ (hget_hset_eq ..)) h1 h2),hT.trans t1,hm,hN,hD.step t1⟩
 ·rename_i e' l ho
  obtain⟨rfl,h1,h2,hQ⟩:=h
  exact⟨_,hQ,g,hR,env g _ (.refl g) (val g H0 l (.refl g) (hR.obj id _ ho) h1 h2),hT,hm,hN,hD⟩
 ·exact h.elim
theorem Sim.freezeo {m:Nat} {g0:Ghost} {H0:AHeap} {w0:World} {s:AS} {a:Act} {w:World} {t:Nat} {Q:AExit→AS→Prop} (h:frzoA Q s t (eget s.env t)) (hs:Sim m g0 H0 w0 N D s a w):∃s',Q .normal s'∧Sim m g0 H0 w0 N D s' a w:=by
 obtain⟨g,hR,hE,hT,hm,hN,hD⟩:=hs
 unfold frzoA at h
 split at h
 case h_3=>exact h.elim
 case h_2 tok l heg=>
  obtain⟨x,x1,x2,-⟩:=hE t true _ heg
  refine⟨_,h,g,hR,?_,hT,hm,hN,hD⟩
  intro t' gd v' hg
  simp only[eget]at hg
  split at hg
  ·rename_i e';subst e';cases hg
   exact⟨_,x1,fun _=>x2 rfl,by simp⟩
  ·exact hE t' gd v' hg
 case h_1 id e off len cap heg=>
  obtain⟨x,x1,x2,-⟩:=hE t true _ heg
  split at h
  case h_2=>exact h.elim
  rename_i e' l ho
  obtain⟨rfl,rfl,h1,h2,hQ⟩:=h
  obtain⟨g',v1,r1,t1⟩:=hR.own (m:=m) ho hm h1 h2 (x2 rfl)
  refine⟨_,hQ,g',r1,?_,hT.trans t1,by simp only[];omega,hN,hD.step t1⟩
  intro t' gd v' hg
  simp only[eget]at hg
  split at hg
  ·rename_i e';subst e';cases hg
   exact⟨_,x1,fun _=>v1,by simp⟩
  ·exact(hE.mono t1.le) t' gd v' hg
theorem withFrz_sound {m:Nat} {g0:Ghost} {H0:AHeap} {w0:World} {c:Code} {a:Act} {w:World} {s:AS} {P:Program} {r:Option Nat}:∀(l:List Nat) (ac:ACode) (Q:AExit→AS→Prop),awp P (l.foldl (fun c t=>.seq c (if Nat.ble 5000 t then .frzo (t-5000)else .frz (t-1000))) ac) Q s→
  (∀Q',awp P ac Q' s→c.wpIn (FR r) 0 P (QM m g0 H0 w0 N D Q') a w)→c.wpIn (FR r) 0 P (QM m g0 H0 w0 N D Q) a w
 |[],ac,Q,h,hc=>hc Q h
 |t::l,ac,Q,h,hc=>withFrz_sound l (.seq ac (if Nat.ble 5000 t then .frzo (t-5000)else .frz (t-1000))) Q h fun Q' h'=>by
  refine wpIn_mono (hc _ h') fun e a' w' hq=>?_
  cases e with
  |normal=>
   obtain⟨s',q1,q2⟩:=hq
   by_cases ht:Nat.ble 5000 t=true
   ·simp only[ht,if_true]at q1;exact Sim.freezeo q1 q2
   ·simp only[ht,if_false]at q1;exact Sim.freeze q1 q2
  |exit i=>exact hq
  |ret=>exact hq
  |panic c=>exact hq
  |goto l=>exact hq
  |outgrown=>exact hq
theorem awp_sound:∀(c:Code) {ac:ACode} {Q:AExit→AS→Prop} {m:Nat} {g0:Ghost} {H0:AHeap} {w0:World} {s:AS} {a:Act} {w:World},compile P N fz im kp c=some ac→(r=none∧D.no=false)∨ac.plain=true→D.fl≤w0.heap.size∧D.lo≤loF fz→awp P ac Q s→Sim m g0 H0 w0 N D s a w→
  c.wpIn (FR r) 0 P (QM m g0 H0 w0 N D Q) a w
 | .skip,ac,Q,m,g0,H0,w0,s,a,w,hc,hp,hDw,h,hs=>by
  simp only[compile]at hc;cases hc
  exact wpIn_skip ⟨s,h,hs⟩
 | .label l,ac,Q,m,g0,H0,w0,s,a,w,hc,hp,hDw,h,hs=>by
  simp only[compile]at hc;cases hc
  exact wpIn_label ⟨s,h,hs⟩
 | .exit i,ac,Q,m,g0,H0,w0,s,a,w,hc,hp,hDw,h,hs=>by
  simp only[compile]at hc;cases hc
  exact wpIn_exit ⟨s,h,hs⟩
 | .ret,ac,Q,m,g0,H0,w0,s,a,w,hc,hp,hDw,h,hs=>by
  simp only[compile]at hc;cases hc
  exact wpIn_ret ⟨s,h,hs⟩
 | .seq x y,ac,Q,m,g0,H0,w0,s,a,w,hc,hp,hDw,h,hs=>by
  simp only[compile]at hc
  split at hc
  ·rename_i ax ay h1 h2
   cases hc
   have hp':((r=none∧D.no=false)∨ax.plain=true)∧((r=none∧D.no=false)∨ay.plain=true):=by
    rcases hp with e|e
    ·exact⟨.inl e,.inl e⟩
    ·simp only[ACode.plain,Bool.and_eq_true]at e;exact⟨.inr e.1,.inr e.2⟩
   refine wpIn_seq (wpIn_mono (awp_sound x h1 hp'.1 hDw h hs) fun e a' w' hq=>?_)
   cases e with
   |normal=>obtain⟨s',q1,q2⟩:=hq;exact awp_sound y h2 hp'.2 hDw q1 q2
   |exit i=>exact hq
   |ret=>exact hq
   |panic c=>exact hq
   |goto l=>exact hq
   |outgrown=>exact hq
  ·cases hc
 | .block id x,ac,Q,m,g0,H0,w0,s,a,w,hc,hp,hDw,h,hs=>by
  simp only[compile]at hc
  cases h1:compile P N fz im kp x with
  |none=>simp [h1]at hc
  |some ax=>
   simp [h1]at hc;subst hc
   refine wpIn_block (wpIn_mono (awp_sound x h1 hp hDw h hs) fun e a' w' hq=>?_)
   cases e with
   |normal=>exact hq
   |exit i=>
    obtain⟨s',q1,q2⟩:=hq
    simp only[Exit.inBlock]at q1⊢
    split
    ·rename_i e;rw[if_pos e]at q1;exact⟨s',q1,q2⟩
    ·rename_i e;rw[if_neg e]at q1;exact⟨s',q1,q2⟩
   |ret=>exact hq
   |panic c=>exact hq
   |goto l=>exact hq
   |outgrown=>exact hq
 | .cond c x y,ac,Q,m,g0,H0,w0,s,a,w,hc,hp,hDw,h,hs=>by
  simp only[compile]at hc
  split at hc
  ·rename_i c' ax ay h1 h2 h3
   cases hc
   obtain⟨q1,q2,q3,q4⟩:=h
   obtain⟨g,hR,hE,rest⟩:=hs
   have e:=cond_val hR.gl hE h1 q1 q2
   have hp':((r=none∧D.no=false)∨ax.plain=true)∧((r=none∧D.no=false)∨ay.plain=true):=by
    rcases hp with e|e
    ·exact⟨.inl e,.inl e⟩
    ·simp only[ACode.plain,Bool.and_eq_true]at e;exact⟨.inr e.1,.inr e.2⟩
   refine wpIn_cond_split e (fun ht=>awp_sound x h2 hp'.1 hDw (q3 ht) ⟨g,hR,hE,rest⟩) (fun ht=>awp_sound y h3 hp'.2 hDw (q4 ht) ⟨g,hR,hE,rest⟩)
  ·cases hc
 | .loop x,ac,Q,m,g0,H0,w0,s,a,w,hc,hp,hDw,h,hs=>by
  simp only[compile]at hc
  cases h1:compile P N fz im kp x with
  |none=>simp [h1]at hc
  |some ax=>
   simp [h1]at hc;subst hc
   obtain⟨I,μ,hI,hround⟩:=h
   classical
   let J:Act→World→Nat→Prop:=fun a w k=>∃s,I s∧Sim m g0 H0 w0 N D s a w∧μ s=k
   let μ':Act→World→Nat:=fun a w=>if hx:∃k,J a w k then Classical.choose (least _ hx)else 0
   have hμ':∀a w,(∃k,J a w k)→J a w (μ' a w)∧∀j,J a w j→μ' a w≤j:=by
    intro a w hx
    have e:μ' a w=Classical.choose (least _ hx):=by simp only[μ'];rw[dif_pos hx]
    rw[e];exact Classical.choose_spec (least _ hx)
   refine wpIn_loop (fun a w=>∃k,J a w k) μ' ⟨_,s,hI,hs,rfl⟩ ?_
   rintro a1 w1 hx
   obtain⟨⟨s1,hI1,hs1,hμ1⟩,-⟩:=hμ' a1 w1 hx
   obtain⟨g1,hR1,hE1,hT1,hm1,hN1,hD1⟩:=hs1
   have hin:Sim s1.n g1 s1.H w1 N D s1 a1 w1:=⟨g1,hR1,hE1,Trans.refl _ _ _ _,Nat.le_refl _,hN1,hD1⟩
   refine wpIn_mono (awp_sound x h1 hp ⟨Nat.le_trans hDw.1 hT1.size,hDw.2⟩ (hround s1 hI1) hin) fun e a' w' hq=>?_
   cases e with
   |normal=>
    obtain⟨s',⟨s2,q1,q2,q3⟩,q4⟩:=hq
    have hs2:=weaken_sim hR1 hT1 hm1 q4 q1
    have hx':∃k,J a' w' k:=⟨_,s2,q2,hs2,rfl⟩
    refine⟨hx',?_⟩
    have e3:=(hμ' a' w' hx').2 _ ⟨s2,q2,hs2,rfl⟩
    omega
   |exit i=>obtain⟨s',q1,q2⟩:=hq;exact⟨s',q1,q2.trans hT1 hm1⟩
   |ret=>obtain⟨s',q1,q2⟩:=hq;exact⟨s',q1,q2.trans hT1 hm1⟩
   |panic c=>obtain⟨v,H,n,q1,q2⟩:=hq;exact⟨v,H,n,q1,q2.trans hT1 hm1⟩
   |goto l=>exact hq
   |outgrown=>exact hq
 | .region id ops draw,ac,Q,m,g0,H0,w0,s,a,w,hc,hp,hDw,h,hs=>by
  simp only[compile]at hc
  split at hc
  ·rename_i l hl
   split at hc
   ·rename_i hd
    cases hc
    refine withFrz_sound (P:=P) (c:=.region id ops draw) _ _ _ h fun Q h=>?_
    have hmb:m≤s.n:=by obtain⟨g,_,_,_,hm,_⟩:=hs;exact hm
    have hs1:Sim m g0 H0 w0 N D {s with n:=s.n+(if bumps l=true then ops.size else 0)} a w:=by
     obtain⟨g,hR,hE,hT,hm,rest⟩:=hs
     exact⟨g,⟨hR.σw,hR.obj,hR.dom,fun id ob ho=>Nat.lt_of_lt_of_le (hR.hd id ob ho) (Nat.le_add_right _ _),hR.ap,hR.un,hR.gl,hR.gz⟩,hE,hT,Nat.le_trans hm (Nat.le_add_right _ _),rest⟩
    have hbump:bumps l=true→s.n+ops.size≤({s with n:=s.n+(if bumps l=true then ops.size else 0)}:AS).n:=fun q=>by simp [q]
    have hlen:l.length=ops.size:=by rw[(cops_spec _ _ _ hl).1,Array.length_toList]
    have hrun:runOps P (fun v H n=>Q (.pan v) ⟨[],H,n⟩) s.n (opsAt l (List.range ops.size)) (fun s'=>Q .normal (s'.keep (kp id))) {s with n:=s.n+(if bumps l=true then ops.size else 0)}:=by
     rw[←hlen,opsAt_range];rw[hlen];exact h
    cases draw with
    |false=>
     refine wpIn_region (seq_sound hl hDw.2 hmb (fun v H' n' chain a' w' q1 q2=>⟨v,H',n',q1,q2⟩) (fun s' a' w' q1 q2=>⟨_,q1,q2.keep _⟩) _ _ a w (fun i hi=>List.mem_range.1 hi) hrun hs1 hbump)
    |true=>
     obtain⟨d1,d2,d3⟩:=hd.resolve_left (by simp)
     have hrem:remL ops (Array.replicate ops.size false)=List.range ops.size:=by
      unfold remL
      apply List.filter_eq_self.2
      intro i hi;have:=List.mem_range.1 hi;simp [this]
     refine wpIn_region_any d3 (draw_sound (kp:=kp id) hl hDw.2 d1 (fun x hx=>?_) (fun a b hab hk=>?_) hmb (fun v H' n' chain a' w' q1 q2=>⟨v,H',n',q1,q2⟩) (fun s' a' w' q1 q2=>⟨_,q1,q2.keep _⟩)
      _ _ _ a _ (by rw[hrem];simp) (by simp) (fun j o hj=>?_) (by rw[hrem];exact hrun) (hs1.drawn _) hbump)
     ·unfold keepOK at d2
      have:=(List.all_eq_true.1 d2) x hx
      rw[Bool.or_eq_true]at this
      rcases this with e|e
      ·left;simpa using e
      ·right
       intro d hd'
       rw[hd']at e
       simpa using e
     ·rw[←keep_eq hab];exact hk
     ·exfalso
      by_cases hjs:j<ops.size
      ·simp [hjs]at hj
      ·simp [hjs]at hj
   ·rename_i hnd
    split at hc
    ·rename_i hd
     cases hc
     refine withFrz_sound (P:=P) (c:=.region id ops draw) _ _ _ h fun Q h=>?_
     have hmb:m≤s.n:=by obtain⟨g,_,_,_,hm,_⟩:=hs;exact hm
     have hs1:Sim m g0 H0 w0 N D {s with n:=s.n+(if bumps l=true then ops.size else 0)} a w:=by
      obtain⟨g,hR,hE,hT,hm,rest⟩:=hs
      exact⟨g,⟨hR.σw,hR.obj,hR.dom,fun id ob ho=>Nat.lt_of_lt_of_le (hR.hd id ob ho) (Nat.le_add_right _ _),hR.ap,hR.un,hR.gl,hR.gz⟩,hE,hT,Nat.le_trans hm (Nat.le_add_right _ _),rest⟩
     have hbump:bumps l=true→s.n+ops.size≤({s with n:=s.n+(if bumps l=true then ops.size else 0)}:AS).n:=fun q=>by simp [q]
     have hlen:l.length=ops.size:=by rw[(cops_spec _ _ _ hl).1,Array.length_toList]
     have hrun:runX P (fun v H n=>Q (.pan v) ⟨[],H,n⟩) s.n (cxOf s.env s.n) (xAt fz l (List.range ops.size)) (fun s'=>Q .normal (s'.keep (kp id))) {s with n:=s.n+(if bumps l=true then ops.size else 0)}:=by
      rw[←hlen];rw[hlen];rw[hlen]at h;exact h
     have hdr:draw=true:=by cases draw<;>simp_all
     subst hdr
     obtain⟨d1,d2,d3⟩:=hd
     have hrem:remL ops (Array.replicate ops.size false)=List.range ops.size:=by
      unfold remL
      apply List.filter_eq_self.2
      intro i hi;have:=List.mem_range.1 hi;simp [this]
     refine wpIn_region_any d3 (draw_soundX (kp:=kp id) hl hDw.2 d1 (fun x hx=>?_) (fun a b hab hk=>?_) hmb (fun v H' n' chain a' w' q1 q2=>⟨v,H',n',q1,q2⟩) (fun s' a' w' q1 q2=>⟨_,q1,q2.keep _⟩)
      _ _ _ a _ (by rw[hrem];simp) (by simp) (fun j o hj=>?_) (by rw[hrem];exact hrun) (hs1.drawn _) hbump)
     ·unfold keepOK at d2
      have:=(List.all_eq_true.1 d2) x hx
      rw[Bool.or_eq_true]at this
      rcases this with e|e
      ·left;simpa using e
      ·right
       intro d hd'
       rw[hd']at e
       simpa using e
     ·rw[←keep_eq hab];exact hk
     ·exfalso
      by_cases hjs:j<ops.size
      ·simp [hjs]at hj
      ·simp [hjs]at hj
    ·rename_i hnd2
     split at hc
     ·rename_i hd
      cases hc
      refine withFrz_sound (P:=P) (c:=.region id ops draw) _ _ _ h fun Q h=>?_
      have hmb:m≤s.n:=by obtain⟨g,_,_,_,hm,_⟩:=hs;exact hm
      have hs1:Sim m g0 H0 w0 N D {s with n:=s.n+(if bumps l=true then ops.size else 0)} a w:=by
       obtain⟨g,hR,hE,hT,hm,rest⟩:=hs
       exact⟨g,⟨hR.σw,hR.obj,hR.dom,fun id ob ho=>Nat.lt_of_lt_of_le (hR.hd id ob ho) (Nat.le_add_right _ _),hR.ap,hR.un,hR.gl,hR.gz⟩,hE,hT,Nat.le_trans hm (Nat.le_add_right _ _),rest⟩
      have hbump:bumps l=true→s.n+ops.size≤({s with n:=s.n+(if bumps l=true then ops.size else 0)}:AS).n:=fun q=>by simp [q]
      have hlen:l.length=ops.size:=by rw[(cops_spec _ _ _ hl).1,Array.length_toList]
      have hrun:runX P (fun v H n=>Q (.pan v) ⟨[],H,n⟩) s.n (cxOf s.env s.n) (xAt fz l (ordOf fz id)) (fun s'=>Q .normal (s'.keep (kp id))) {s with n:=s.n+(if bumps l=true then ops.size else 0)}:=by
       exact h
      have hdr:draw=true:=by cases draw<;>simp_all
      subst hdr
      obtain⟨d1,d2,d3⟩:=hd
      have hrem:remO (ordOf fz id) (Array.replicate ops.size false)=ordOf fz id:=by
       unfold remO
       apply List.filter_eq_self.2
       intro i hi
       have:=d1
       unfold drawOO at this
       simp only[Bool.and_eq_true]at this
       have:=(List.all_eq_true.1 this.1.1.1.1.2) i hi
       simp at this;simp [this]
      refine wpIn_region_any d3 (draw_soundO (kp:=kp id) hl hDw.2 d1 (fun x hx=>?_) (fun a b hab hk=>?_) hmb (fun v H' n' chain a' w' q1 q2=>⟨v,H',n',q1,q2⟩) (fun s' a' w' q1 q2=>⟨_,q1,q2.keep _⟩)
       _ _ _ a _ (by rw[hrem];have:=d1;unfold drawOO at this;simp only[Bool.and_eq_true,decide_eq_true_eq]at this;exact this.1.1.1.1.1) (by simp) (fun j o hj=>?_) (by rw[hrem];exact hrun) (hs1.drawn _) hbump)
      ·unfold keepOK at d2
       have:=(List.all_eq_true.1 d2) x hx
       rw[Bool.or_eq_true]at this
       rcases this with e|e
       ·left;simpa using e
       ·right
        intro d hd'
        rw[hd']at e
        simpa using e
      ·rw[←keep_eq hab];exact hk
      ·exfalso
       by_cases hjs:j<ops.size
       ·simp [hjs]at hj
       ·simp [hjs]at hj
     ·cases hc
  ·cases hc
 | .goto l,ac,Q,m,g0,H0,w0,s,a,w,hc,hp,hDw,h,hs=>by simp [compile]at hc
 | .scope x,ac,Q,m,g0,H0,w0,s,a,w,hc,hp,hDw,h,hs=>by
  simp only[compile]at hc
  refine wpIn_scope (wpIn_mono (awp_sound x hc hp hDw h hs) fun e a' w' hq=>?_)
  cases e with
  |goto l=>exact hq.elim
  |normal=>exact hq
  |exit i=>exact hq
  |ret=>exact hq
  |panic c=>exact hq
  |outgrown=>exact hq
 | .rangeFunc g ps asg body,ac,Q,m,g0,H0,w0,s,a,w,hc,hp,hDw,h,hs=>by
  simp only[compile]at hc
  cases h1:copd g with
  |none=>simp [h1]at hc
  |some g'=>
   simp [h1]at hc;subst hc
   rcases hp with e|e
   ·obtain⟨rfl,e⟩:=e;exact rfun_sound h1 h.1 h.2 hs hDw.1 e
   ·cases e
 | .refuse l,ac,Q,m,g0,H0,w0,s,a,w,hc,hp,hDw,h,hs=>by simp [compile]at hc
end
end Go.AM
end
