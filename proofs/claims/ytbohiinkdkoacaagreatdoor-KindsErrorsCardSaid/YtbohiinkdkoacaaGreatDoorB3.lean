/-
  Parts of the proof. Conditions: none.
-/
import Derived.Test.YtbohiinkdkoacaaGreatDoorB2
import Derived.MapKept
import Derived.Lib.OthersKept
import Derived.Laws.Runes
import Derived.Laws.IdiomRangeMap
import Derived.Carry
import Derived.WideKeyRuns
import Derived.Lib.AppendZerosOnto
set_option maxRecDepth 20000
set_option linter.all false
namespace Go.AM
section
variable {P:Program} {g:Yx} {H:AC} {n m:Nat} {w:World}
variable {c:Array Value} {id sz:Nat} {t:TypeId} {v:Value}
theorem TL(R:Z2 g H n w)(h0:hget H id=none)(d7:id<n)(hm:m<=id){a:Fs}(hv:VRel g a v)(hn:nT a):
  ∃g',Z2 g' (hset H id (.box a.cells)) n (w.alloc (.cells v.cells t))/\Yv m g H w g' (hset H id (.box a.cells)) (w.alloc (.cells v.cells t))/\g.le g'/\VRel g' (.ptr id 0) (.pointer (some ⟨w.heap.size,0,none⟩)):=by
 have d6:=VRels.length _ _ hv.cells;simp only[Ws]at d6;have hnew:(w.alloc (.cells v.cells t)).heap[w.heap.size]?=some (.cells v.cells t (0,0)):=by show(w.heap.push _)[w.heap.size]?=_;simp
 have hle0:g.β id=none:=by
  cases hb:g.β id with
  |none=>rfl
  |some L'=>exact absurd h0 (R.dom id L' hb).1
 obtain⟨r1,r2,r3⟩:=R.new (m:=m) (w':=w.alloc (.cells v.cells t)) rfl rfl rfl rfl h0 d7 hm (L:=⟨w.heap.size,0,a.cells.length⟩) rfl (ob:=.box a.cells) (by
  have hle:g.le ⟨λi=>if i=id then some ⟨w.heap.size,0,a.cells.length⟩else g.β i,g.σ⟩:=⟨λi L h=>by
   show(if i=id then _ else g.β i)=some L;rw[V5 (by rintro rfl;rw[hle0]at h;cases h)];exact h,λ_ _ _ h=>h⟩
  refine⟨⟨w.heap.size,0,a.cells.length⟩,v.cells,t,zw,rfl,rfl,hnew,d6,?_⟩;exact PStab.of _ v.cells.toList 0 (VRels.mono hle _ _ hv.cells) (λj x hx=>by simpa using hx) (hv.one hn))
 exact⟨_,r1,r2,r3,⟨_,by simp;rfl,rfl,rfl⟩⟩
theorem Pk(R:Z2 g H n w)(h0:hget H id=none)(d7:id<n)(hm:m<=id){a:Fs}(hv:VRel g a v)(hn:nT a):
  ∃w' g',(Instr.box t v).run P w= .ok (.pointer (some ⟨w.heap.size,0,none⟩)) w'/\Z2 g' (hset H id (.box a.cells)) n w'/\Yv m g H w g' (hset H id (.box a.cells)) w'/\g.le g'/\VRel g' (.ptr id 0) (.pointer (some ⟨w.heap.size,0,none⟩)):=by
 obtain⟨g',r1,r2,r3,r4⟩:=TL (m:=m) (t:=t) R h0 d7 hm hv hn;exact⟨_,g',by simp [Instr.box,newVar,newRow],r1,r2,r3,r4⟩
theorem LN(R:Z2 g H n w)(h0:hget H id=none)(d7:id<n)(hm:m<=id){z:Fs}(hz:Br P t=some z):
  ∃w' g',(Instr.alloc t true (.tuple #[])).run P w= .ok (.pointer (some ⟨w.heap.size,0,none⟩)) w'/\Z2 g' (hset H id (.box z.cells)) n w'/\Yv m g H w g' (hset H id (.box z.cells)) w'/\g.le g'/\VRel g' (.ptr id 0) (.pointer (some ⟨w.heap.size,0,none⟩)):=by
 obtain⟨i,zv,hi,hzz,hr,hzs,hl,h0',hnt⟩:=BC hz;obtain⟨g',r1,r2,r3,r4⟩:=TL (m:=m) (t:=t) R h0 d7 hm (hr g) hnt;exact⟨_,g',by simp [Instr.alloc,zeroValue,typeInfo,hi,hzz,newVar,newRow],r1,r2,r3,r4⟩
theorem F8{b o:Nat}{e:TypeId}(hs:szT P t=some sz)(hv:v.cells.size=sz)(h1:∀x∈v.cells.toList,x.oneCell'=true)(hb:w.heap[b]?=some (.cells c e (0,0)))(hfit:o+sz<=c.size):
  (Instr.storeAt t (.pointer (some ⟨b,o,none⟩)) v).run P w= .ok () (w.setRow b (c.toList.take o++v.cells.toList++c.toList.drop (o+sz)).toArray):=by
 have hst:=run_storeCells_at (P:=P) b o e v.cells.toList 0 c w hb (by simp;omega) h1;simp only[Xw,Ws,hv]at hst;simp [Instr.storeAt,Instr.sureAddr,storeVar,A8 hs,hv,hst]
theorem Gt(R:Z2 g H n w){ob ob':Z7}{L:Loc}(h0:hget H id=some ob)(hown:ob.owns=true)(hL:g.β id=some L){c':Array Value}{e:TypeId}(hb:w.heap[L.blk]?=some (.cells c e (0,0)))
  (hsz:c'.size=c.size) (hout:∀o,(o<L.lo\/L.hi<=o)->c'[o]?=c[o]?) (hob:ORel g (w.setRow L.blk c') id ob'):
  Z2 g (hset H id ob') n (w.setRow L.blk c')/\Yv m g H w g (hset H id ob') (w.setRow L.blk c'):=
 R.upd h0 hown hL rfl rfl rfl zw (λb hne=>setRow_other w L.blk b c' hne) (.inl ⟨c,e,(0,0),c',hb,setRow_heap w L.blk c c' e (0,0) hb,hsz,hout⟩) hob
theorem IE{vc:Array Value}{p:Nat}(hs:vc.size=sz)(hfit:p+sz<=c.size)(o:Nat):(c.toList.take p++vc.toList++c.toList.drop (p+sz)).toArray[o]?=if p<=o/\o<p+sz then vc[o-p]? else c[o]?:=by grind
theorem LO{vc:Array Value}{p:Nat}(hs:vc.size=sz)(hfit:p+sz<=c.size):(c.toList.take p++vc.toList++c.toList.drop (p+sz)).toArray.size=c.size:=by simp;omega
theorem Rz(R:Z2 g H n w){ad x:Fs}{u:Value}{K:AC->Prop}(hs:szT P t=some sz)(hu:VRel g ad u)(hv:VRel g x v)(hn:nT x)(hl:x.cells.length=sz)(h:stAt H sz x K ad):
  ∃H' w',(Instr.storeAt t u v).run P w= .ok () w'/\K H'/\Z2 g H' n w'/\Yv m g H w g H' w':=by
 have hvl:=VRels.length _ _ hv.cells;simp only[Ws]at hvl;have hvs:v.cells.size=sz:=zo
 cases ad<;>simp only[stAt]at h<;>first|exact h.elim|skip
 case ptr id off=>
  obtain⟨L,h1,h2,rfl⟩:=hu;cases ho:hget H id with
  |none=>simp [ho]at h
  |some ob=>
   cases ob<;>simp only[ho]at h<;>first|exact h.elim|skip
   case box cs=>
    obtain⟨hfit,hK⟩:=h;obtain⟨L',c,e,k1,k2,k3,k4,k5,k6⟩:=R.obj id _ ho;rw[h1]at k1;cases k1;have hrun:=F8 (w:=w) (o:=off) hs hvs (hv.one hn) k4 zo;generalize hc':(c.toList.take off++v.cells.toList++c.toList.drop (off+sz)).toArray=c' at hrun;have hsz':c'.size=c.size:=by subst hc';simp;omega
    have hnew:=setRow_heap w L.blk c c' e (0,0) k4;obtain⟨vs,q1,q2,q3⟩:=k6.list;have hvs':vs=c.toList:=by
     apply List.ext_getElem?;intro j;have hl1:=VRels.length _ _ q1;by_cases hj:j<vs.length
     ·grind
     ·simp_all
    subst hvs';have hsp:VRels g (splice cs off x.cells) c'.toList:=by
     subst hc';have:=VRels.splice (off:=off) q1 hv.cells;simpa [hvs]using this
    obtain⟨r1,r2⟩:=Gt (m:=m) R ho rfl h1 k4 hsz' (λo ho'=>by
     have:c.size<=o:=zo
     rw[Xj zo,Xj zo]) (ob':=.box (splice cs off x.cells)) (by
      have d6:=VRels.length _ _ hsp;simp only[Ws]at d6;refine⟨L,c',e,h1,h2,zo,hnew,zo,PStab.of _ _ 0 hsp (λj y hy=>by simpa using hy) ?_⟩;subst hc';intro y hy;simp only[WH]at hy;rcases hy with(hy|hy)|hy
      ·exact q3 y (Y1 hy)
      ·exact hv.one hn y hy
      ·exact q3 y (Y2 hy))
    exact⟨_,_,hrun,hK,r1,r2⟩
 case ap id esz i off=>
  obtain⟨L,h1,h2,rfl⟩:=hu;cases ho:hget H id with
  |none=>simp [ho]at h
  |some ob=>
   cases ob<;>simp only[ho]at h<;>first|exact h.elim|skip
   case arr e' l=>
    obtain⟨rfl,hi,hap,hK⟩:=h;obtain⟨L',c,e,k1,k2,k3,k4,k5,k6⟩:=R.obj id _ ho;rw[h1]at k1;cases k1;obtain⟨old,o1,o2,o3⟩:=Stab.elem i l 0 k6 hi;simp only[Wr]at o3
    obtain⟨z,z1,z2,z3,z4⟩:∃z:Value,VRel g (DL (l[i]?.getD (.tup [])) off sz e' x).2 z/\EH e' z/\off+sz<=e'/\∀j,j<e'->z.cells[j]?=if off<=j/\j<off+sz then v.cells[j-off]? else old.cells[j]?:=by
     by_cases hall:off=0/\sz=e'
     ·obtain⟨rfl,rfl⟩:=hall;rw[Jq]at hap⊢;exact⟨v,hv,⟨hvs,hv.one hn⟩,zo,λj hj=>by rw[Vv ⟨zo,zo⟩];congr 1⟩
     ·rw[V2 hi,W7]at hap⊢;have o1':VRel g l[i] old:=by simpa [V2 hi]using o1
      cases hli:l[i]<;>simp only[DL,hall,hli,Wf]at hap<;>first|exact hap.elim|skip
      rename_i cs;obtain⟨hcl,hfit⟩:=hap;rw[hli]at o1';obtain⟨vs,rfl,p1,p2⟩:=o1';simp only[DL,hall,Wf];have hsp:=VRels.splice (off:=off) p1 hv.cells;have hvl2:=VRels.length _ _ p1;simp only[Ws]at hvl2 hsp;have hone:=hv.one hn;rw[hvs]at hsp;generalize v.cells=vc at hvs hone hsp⊢;have hmem:∀y∈(vs.toList.take off++vc.toList++vs.toList.drop (off+sz)),y.oneCell'=true:=by
       intro y hy;simp only[WH]at hy;rcases hy with(hy|hy)|hy
       ·exact p2 y (Y1 hy)
       ·exact hone y hy
       ·exact p2 y (Y2 hy)
      refine⟨.agg (vs.toList.take off++vc.toList++vs.toList.drop (off+sz)).toArray,⟨_,rfl,by simpa using hsp,hmem⟩,⟨?_,hmem⟩,hfit,λj hj=>?_⟩
      ·show(vs.toList.take off++vc.toList++vs.toList.drop (off+sz)).toArray.size=e';rw[LO hvs zo];omega
      ·exact IE hvs zo j
    have hfit:i*e'+e'<=c.size:=by
     rw[<-k5];have:(i+1)*e'<=l.length*e':=Xl _ hi;rw[WO]at this;omega
    have hrun:=F8 (w:=w) (o:=i*e'+off) hs hvs (hv.one hn) k4 zo;generalize hc':(c.toList.take (i*e'+off)++v.cells.toList++c.toList.drop (i*e'+off+sz)).toArray=c' at hrun;have hsz':c'.size=c.size:=by subst hc';simp;omega
    have hnew:=setRow_heap w L.blk c c' e (0,0) k4;have hget:∀o,c'[o]?=if i*e'+off<=o/\o<i*e'+off+sz then v.cells[o-(i*e'+off)]? else c[o]?:=by
     intro o;subst hc';exact IE hvs zo o
    obtain⟨r1,r2⟩:=Gt (m:=m) R ho rfl h1 k4 hsz' (λo ho'=>by
     have:c.size<=o:=zo
     rw[Xj zo,Xj zo]) (ob':=.arr e' (l.set i (DL (l[i]?.getD (.tup [])) off sz e' x).2)) (by
      refine⟨L,c',e,h1,h2,zo,hnew,by rw[XQ];omega,?_⟩;refine Stab.set z1 z2 i l 0 hi (λj y hy=>?_) (λj hj=>?_) k6
      ·have hj:j<e':=by rw[<-z2.1];exact(Wc.1 hy).1
       rw[z4 j hj]at hy;rw[Wr,hget];by_cases q:off<=j/\j<off+sz
       ·grind
       ·grind
      ·rw[hget,V5 zo])
    exact⟨_,_,hrun,hK,r1,r2⟩
end
section
section
variable {P:Program} {g:Yx} {H:AC} {n m:Nat} {w:World}
variable {z:Fs} {l:List Fs} {esz id s:Nat} {ρ':Yy->Fs} {t e:TypeId} {i:TypeInfo} {y:Value}
theorem Stab.list{f:Nat->Option Value}:∀(l:List Fs) (o:Nat),Stab g esz f o l->
  ∃vs:List Value,vs.length=l.length*esz/\(∀(j:Nat) x,vs[j]?=some x->f (o+j)=some x)/\(∀x∈vs,x.oneCell'=true)/\Stab g esz (λj=>vs[j]?) 0 l
 |[],o,_=>⟨[],zw,zw,zw,trivial⟩
 |e::l,o,⟨⟨v,h1,h2,h3⟩,h4⟩=>by
  obtain⟨vs,k1,k2,k3,k4⟩:=Stab.list l (o+esz) h4;have hl:v.cells.toList.length=esz:=by simpa using h2.1
  refine⟨v.cells.toList++vs,by rw[V9,hl,k1,Vz,WO];omega,?_,?_,?_⟩
  ·grind
  ·intro x hx;rcases WH.1 hx with hx|hx
   ·exact h2.2 x hx
   ·exact k3 x hx
  ·refine⟨⟨v,h1,h2,λj x hx=>?_⟩,?_⟩
   ·grind
   ·have shift:∀(l:List Fs) (o:Nat),Stab g esz (λj=>vs[j]?) o l->Stab g esz (λj=>(v.cells.toList++vs)[j]?) (o+esz) l:=by
     intro l;induction l with
     |nil=>intro o _;trivial
     |cons e' l ih=>
      rintro o ⟨⟨u,q1,q2,q3⟩,q4⟩;refine⟨⟨u,q1,q2,λj x hx=>?_⟩,?_⟩
      ·grind
      ·have:=ih (o+esz) q4;exact this
    have:=shift l 0 k4;exact this
def Src(P:Program)(g:Yx)(w:World)(esz:Nat)(l':List Fs)(y:Value):Prop:=
 ∃news:List Value,news.length=l'.length*esz/\(∀v∈news,v.oneCell'=true)/\Stab g esz (λo=>news[o]?) 0 l'/\
  ∀w':World,w'.heap=w.heap->(Builtin.lenOf y).run P w'= .ok l'.length w'/\(Builtin.firstCells esz l'.length y).run P w'= .ok news.toArray w'
theorem J8{w w':World}(h:w'.heap=w.heap)(a:Addr):w'.cell? a=w.cell? a:=by simp [World.cell?,h]
theorem TM(R:Z2 g H n w){tok:Zd}(h:VRel g (.sl tok l) y)(he:tok.esz=esz\/l.length=0):Src P g w esz l y:=by
 rcases h with⟨rfl,rfl,_⟩|⟨_,b,o,cap,⟨sp,rfl,hsp⟩,_,hst,_⟩
 ·exact⟨[],zw,zw,trivial,λw' _=>⟨by simp [Builtin.lenOf],by simp [Builtin.firstCells]⟩⟩
 ·by_cases hl:l=[]
  ·subst hl;refine⟨[],zw,zw,trivial,λw' _=>⟨by simp [Builtin.lenOf],?_⟩⟩;have:=run_firstCells_some (P:=P) w' esz 0 ⟨b,o,sp⟩ 0 cap [] zw zw;simpa using this
  ·obtain rfl:sp=none:=hsp.resolve_right λq=>hl q.1
   have t9:tok.esz=esz:=he.resolve_right (by simpa using hl);rw[t9]at hst;obtain⟨vs,k1,k2,k3,k4⟩:=hst.list;refine⟨vs,k1,k3,k4,λw' hw=>⟨by simp [Builtin.lenOf],?_⟩⟩;exact run_firstCells_some (P:=P) w' esz l.length ⟨b,o,none⟩ l.length cap vs k1 (λj v hv=>by rw[BF,J8 hw];exact R.σw _ _ _ (k2 j v hv))
theorem Pm(R:Z2 g H n w){off len cap:Nat}(h:VRel g (.ref id esz off len cap) y)(ho:hget H id=some (.arr esz l))(hl:off+len<=l.length):Src P g w esz ((l.drop off).take len) y:=by
 obtain⟨L,k1,k2,rfl⟩:=h;obtain⟨L',c,e,j1,j2,j3,j4,j5,j6⟩:=R.obj id _ ho;rw[k1]at j1;cases j1;have d6:((l.drop off).take len).length=len:=by simp;omega
 have hst:=Stab.take len _ _ (Stab.drop off _ _ j6);rw[Wr]at hst;obtain⟨vs,p1,p2,p3,p4⟩:=hst.list;rw[d6]at p1;refine⟨vs,by rw[d6];exact p1,p3,p4,λw' hw=>⟨by simp [Builtin.lenOf,d6],?_⟩⟩;rw[d6];refine run_firstCells_some (P:=P) w' esz len ⟨L.blk,off*esz,none⟩ len cap vs p1 (λj v hv=>?_);rw[BF,J8 hw,An j4];exact p2 j v hv
theorem LP{s:List UInt8}(h:VRel g (.str s) y):Src P g w 1 (s.map λb=>.int .u8 b.toNat) y:=by
 have hy:y= .string ⟨s.toArray⟩:=h;subst hy;have hsz:ByteArray.size ⟨s.toArray⟩=s.length:=by show s.toArray.size=_;simp
 refine⟨s.map λb=>.int .u8 b.toNat,zw,?_,?_,λw' _=>⟨by simp [Builtin.lenOf,hsz],?_⟩⟩
 ·intro v hv;obtain⟨b,_,rfl⟩:=WL.1 hv;rfl
 ·have:∀(t:List UInt8) (o:Nat) (f:Nat->Option Value),(∀j (x:UInt8),t[j]?=some x->f (o+j)=some (.int .u8 x.toNat))->Stab g 1 f o (t.map λb=>.int .u8 b.toNat):=by
   intro t;induction t with
   |nil=>intro o f _;trivial
   |cons b t ih=>
    intro o f hf;refine⟨⟨.int .u8 b.toNat,rfl,⟨rfl,by simp [Value.cells,Value.oneCell']⟩,?_⟩,ih (o+1) f λj x hx=>?_⟩
    ·grind [Value.cells]
    ·have:=hf (j+1) x (by simpa using hx);rwa[show o+(j+1)=o+1+j from by omega]at this
  exact this s 0 _ λj x hx=>by simp [hx]
 ·have hex:(ByteArray.extract ⟨s.toArray⟩ 0 s.length).data=s.toArray:=by
   rw[ByteArray.data_extract];simp
  simp [Builtin.firstCells]
section
variable {t u ty e:TypeId} {i:TypeInfo} {z:Value} {du:TypeDesc} (ht:P.underlying t=some (.slice e)) (hu:P.underlying u=some du) (hdu:∀k,du≠ .int k) (hi:P.info? e=some i) (hz:i.zero=some z)
include ht hu hdu hi hz
theorem B8{base:Option Addr}{sLen sCap k:Nat}{y:Value}{news:Array Value}(d6:(Builtin.lenOf y).run P w= .ok k w)(hnew:(Builtin.firstCells i.size k y).run P w= .ok news w)(hr:sLen+k<=sCap):
  (Builtin.append_ #[t,u] ty #[.slice base sLen sCap,y]).run P w=match base with
   |none=>.ok (.slice none (sLen+k) sCap) w
   |some a=>((storeCells (a.add (sLen*i.size)) news.toList).run P w).andThen λ_ w'=>.ok (.slice (some a) (sLen+k) sCap) w':=by
 have hz0:(match du with| .int _=>true|_=>false)=false:=by cases du<;>first|rfl|exact absurd rfl (hdu _)
 cases base with
 |none=>simp [Builtin.append_,run_underlying ht,run_underlying hu,sizeOf,typeInfo,hi,d6,hnew,hr]
 |some a=>simp [Builtin.append_,run_underlying ht,run_underlying hu,sizeOf,typeInfo,hi,d6,hnew,hr]
theorem F9{base:Option Addr}{sLen sCap k:Nat}{y:Value}{olds news:Array Value}(d6:(Builtin.lenOf y).run P w= .ok k w)(hold:(Builtin.firstCells i.size sLen (.slice base sLen sCap)).run P w.drew= .ok olds w.drew)
  (hnew:(Builtin.firstCells i.size k y).run P w.drew= .ok news w.drew) (hr:sCap<sLen+k) (hfit:Builtin.nextslicecap (sLen+k) sCap*i.bytes<=281474976710656) (h63:sLen+k<=9223372036854775807):
  (Builtin.append_ #[t,u] ty #[.slice base sLen sCap,y]).run P w=
   .ok (.slice (some ⟨w.heap.size,0,none⟩) (sLen+k) (grownCap w (sLen+k) sCap e)) (w.drew.alloc (.cells (olds++news++Builtin.zeroCells z.cells (grownCap w (sLen+k) sCap e-(sLen+k))) e)):=by
 have hz0:(match du with| .int _=>true|_=>false)=false:=by cases du<;>first|rfl|exact absurd rfl (hdu _)
 have hn:¬(sLen+k<=sCap):=zo
 have h63':¬(9223372036854775807<((sLen:Int)+(k:Int))):=zo
 have h48':¬(281474976710656<Builtin.nextslicecap (sLen+k) sCap*i.bytes):=zo
 simp [Builtin.append_,run_underlying ht,run_underlying hu,sizeOf,typeInfo,zeroValue,hi,hz,d6,hn,h63',h48',Question.forced,hold,hnew,newRow,grownCap]
end
theorem Pn(R:Z2 g H n w){u ty:TypeId}{du:TypeDesc}{za:Fs}(ht:P.underlying t=some (.slice e))(hu:P.underlying u=some du)(hdu:∀k,du≠ .int k)(hi:P.info? e=some i)(hza:Br P e=some za)
  {tok:Zd} {l':List Fs} {x:Value} (hx:VRel g (.sl tok l) x) (hsrc:Src P g w i.size l' y) (h0:hget H id=none) (d7:id<n) (hm:m<=id) (i5:At H i.size tok) (hsm:small (l.length+l'.length) i.bytes) (hln:l.length+l'.length<=35184372088832):
  ∃v w' g',(Builtin.append_ #[t,u] ty #[x,y]).run P w= .ok v w'/\VRel g' (.sl (.own id i.size) (l++l')) v/\Z2 g' (hset (AL H tok) id .tok) n w'/\Yv m g H w g' (hset (AL H tok) id .tok) w'/\g.le g':=by
 obtain⟨i',z,i8,hzz,hr,hzs,hl,hpos,hnt⟩:=BC hza;rw[hi]at i8;cases i8;obtain⟨news,s1,s2,s3,s4⟩:=hsrc;obtain⟨c1,c2⟩:=s4 w rfl;obtain⟨d1,d2⟩:=s4 w.drew rfl;have hlo:(l++l').length=l.length+l'.length:=zw
 have grow:∀(base:Option Addr) (sCap:Nat) (olds:List Value),x= .slice base l.length sCap->olds.length=l.length*i.size->(∀v∈olds,v.oneCell'=true)->Stab g i.size (λo=>olds[o]?) 0 l->
   (Builtin.firstCells i.size l.length (.slice base l.length sCap)).run P w.drew= .ok olds.toArray w.drew->sCap<l.length+l'.length->
   ∃v w' g',(Builtin.append_ #[t,u] ty #[x,y]).run P w= .ok v w'/\VRel g' (.sl (.own id i.size) (l++l')) v/\Z2 g' (hset (AL H tok) id .tok) n w'/\Yv m g H w g' (hset (AL H tok) id .tok) w'/\g.le g':=by
  intro base sCap olds w7 o1 o2 o3 o4 hgt;subst w7;have hfit:Builtin.nextslicecap (l.length+l'.length) sCap*i.bytes<=281474976710656:=growslice_fits hgt (by simp only[small]at hsm;omega);have hrun:=F9 (ty:=ty) ht hu hdu hi hzz c1 o4 d2 hgt hfit zo;generalize hcap:grownCap w (l.length+l'.length) sCap e=cap at hrun;have hge:l.length+l'.length<=cap:=by rw[<-hcap];exact grownCap_ge _ _ _ _
  generalize hcs:(olds.toArray++news.toArray++Builtin.zeroCells z.cells (cap-(l.length+l'.length)):Array Value)=cs at hrun;have hcsz:cs.size=cap*i.size:=by
   subst hcs;simp only[Array.size_append,List.size_toArray,size_zeroCells,hzs,o1,s1,<-WO];congr 1;omega
  have hcsget:∀o,o<(l.length+l'.length)*i.size->cs[o]?=(olds++news)[o]?:=by grind
  have hk:∃Hk,AL H tok=Hk/\Z2 g Hk n w/\Yv m g H w g Hk w/\hget Hk id=none:=by
   cases tok with
   |own i0 e0=>
    obtain⟨_,h1⟩:=i5;obtain⟨r1,r2⟩:=R.kill (m:=m) h1;refine⟨_,rfl,r1,r2,?_⟩;simp only[AL];rw[AJ,V5 (by rintro rfl;rw[h0]at h1;cases h1)];exact h0
   |nil=>exact⟨_,rfl,R,Yv.refl _ _ _ _,h0⟩
   |none e0=>exact⟨_,rfl,R,Yv.refl _ _ _ _,h0⟩
   |exact e0=>exact⟨_,rfl,R,Yv.refl _ _ _ _,h0⟩
  obtain⟨Hk,hHk,rk,tk,h0k⟩:=hk;rw[hHk];have hnewb:(w.drew.alloc (.cells cs e)).heap[w.heap.size]?=some (.cells cs e (0,0)):=by show(w.heap.push _)[w.heap.size]?=_;simp
  obtain⟨r1,r2,r3⟩:=rk.new' (m:=m) (w':=w.drew.alloc (.cells cs e)) (x:=.cells cs e) rfl rfl rfl rfl h0k d7 hm (L:=⟨w.heap.size,(l.length+l'.length)*i.size,cap*i.size⟩) rfl (ob:=.tok)
   (σ':=λb o=>if b=w.heap.size/\o<(l.length+l'.length)*i.size then cs[o]? else g.σ b o)
   (λb o v h=>by
    have hb:b≠w.heap.size:=by
     rintro rfl;have:=R.σw _ _ _ h;simp [World.cell?]at this
    show(if b=w.heap.size/\o<(l.length+l'.length)*i.size then cs[o]? else g.σ b o)=some v;rw[V5 (by simp [hb])];exact h)
   (λb o v h=>by
    by_cases hb:b=w.heap.size/\o<(l.length+l'.length)*i.size
    ·rw[Vv hb]at h;obtain⟨rfl,l5⟩:=hb;exact .inr ⟨rfl,by rw[An hnewb];exact h,.inl l5⟩
    ·rw[V5 hb]at h;exact .inl h)
   ⟨_,by simp;rfl,λ_=>⟨cs,e,hnewb,by rw[hcsz];exact V4 _⟩⟩
  refine⟨_,_,_,hrun,?_,r1,tk.trans r2,r3⟩;refine .inr ⟨trivial,w.heap.size,0,cap,⟨none,by rw[hlo],.inl rfl⟩,by rw[hlo];exact hge,?_,by simp [hlo]⟩;simp only[Zd.esz];have hst:Stab g i.size (λo=>(olds++news)[o]?) 0 (l++l'):=by
   refine Stab.append l l' 0 (Stab.mono (.refl g) (λo v hv=>?_) _ _ _ o3) ?_
   ·grind
   ·have shift:∀(l2:List Fs) (o:Nat),Stab g i.size (λo=>news[o]?) o l2->Stab g i.size (λo=>(olds++news)[o]?) (o+l.length*i.size) l2:=by
     intro l2;induction l2 with
     |nil=>intro o _;trivial
     |cons e' l2 ih=>
      rintro o ⟨⟨q,q1,q2,q3⟩,q4⟩;refine⟨⟨q,q1,q2,λj x hx=>?_⟩,?_⟩
      ·grind
      ·grind
    have:=shift l' 0 s3;simpa using this
  refine Stab.eq (l++l') 0 (λj _ hj=>?_) (Stab.mono r3 (λ_ _ h=>h) _ _ _ hst);rw[hlo,Wr]at hj;simp only[hj,Yt,WB];exact hcsget j hj
 rcases hx with⟨rfl,rfl,c7⟩|⟨htok,b,o,cap,⟨sp,rfl,hsp⟩,hcap,hst,hk⟩
 ·
  by_cases l9:l'=[]
  ·subst l9;have hrun:=B8 (ty:=ty) (w:=w) (base:=none) (sLen:=0) (sCap:=0) ht hu hdu hi hzz c1 c2 zw;have hsp:∃Hk,AL H tok=Hk/\((Hk=H/\True)\/∃i0 e0,tok= .own i0 e0/\Hk=hset H i0 .dead/\hget H i0=some .tok):=by
    cases tok with
    |own i0 e0=>exact⟨_,rfl,.inr ⟨i0,e0,rfl,rfl,i5.2⟩⟩
    |nil=>exact⟨_,rfl,.inl ⟨rfl,trivial⟩⟩
    |none e0=>exact⟨_,rfl,.inl ⟨rfl,trivial⟩⟩
    |exact e0=>exact⟨_,rfl,.inl ⟨rfl,trivial⟩⟩
   obtain⟨Hk,hHk,hcase⟩:=hsp;have hR:Z2 g Hk n w/\Yv m g H w g Hk w/\hget Hk id=none:=by
    rcases hcase with⟨rfl,_⟩|⟨i0,e0,_,rfl,h1⟩
    ·exact⟨R,Yv.refl _ _ _ _,h0⟩
    ·obtain⟨r1,r2⟩:=R.kill (m:=m) h1;exact⟨r1,r2,by rw[AJ,V5 (by rintro rfl;rw[h0]at h1;cases h1)];exact h0⟩
   rw[hHk];obtain⟨r1,r2,r3⟩:=hR.1.split (m:=m) hR.2.2 d7 hm (L:=⟨0,0,0⟩) (H':=Hk) (.inl ⟨rfl,V4 _⟩) (σ':=g.σ) (λ_ _ _ h=>h) (λ_ _ _ h=>.inl h);exact⟨_,_,_,hrun,.inl ⟨rfl,rfl,_,by simp;rfl⟩,r1,hR.2.1.trans r2,r3⟩
  ·have hpos':0<l'.length:=by cases l' with|nil=>exact absurd rfl l9|cons _ _=>simp
   exact grow none 0 [] rfl zw zw trivial (by simp [Builtin.firstCells]) (by simpa using hpos')
 ·by_cases hodd:sp=none;case neg=>
   obtain⟨rfl,hq⟩:=hsp.resolve_left hodd;have hc0:cap=0:=by
    rcases hq with q|⟨e',rfl⟩
    ·exact q
    ·exact i5.elim
   subst hc0;by_cases l9:l'=[]
   ·subst l9;have hrun:=B8 (ty:=ty) (w:=w) (base:=some ⟨b,o,sp⟩) (sLen:=0) (sCap:=0) ht hu hdu hi hzz c1 c2 zw;have hn0:news=[]:=Wv (by rw[s1];simp);subst hn0;have hadd0:(⟨b,o,sp⟩:Addr).add (0*i.size)=⟨b,o,sp⟩:=by rw[XD];rfl
    simp only[storeCells,Sem.run_pure,Result.andThen_ok]at hrun;have hsp2:∃Hk,AL H tok=Hk/\((Hk=H/\True)\/∃i0 e0,tok= .own i0 e0/\Hk=hset H i0 .dead/\hget H i0=some .tok):=by
     cases tok with
     |own i0 e0=>exact⟨_,rfl,.inr ⟨i0,e0,rfl,rfl,i5.2⟩⟩
     |nil=>exact⟨_,rfl,.inl ⟨rfl,trivial⟩⟩
     |none e0=>exact⟨_,rfl,.inl ⟨rfl,trivial⟩⟩
     |exact e0=>exact⟨_,rfl,.inl ⟨rfl,trivial⟩⟩
    obtain⟨Hk,hHk,hcase⟩:=hsp2;have hR:Z2 g Hk n w/\Yv m g H w g Hk w/\hget Hk id=none:=by
     rcases hcase with⟨rfl,_⟩|⟨i0,e0,_,rfl,h1⟩
     ·exact⟨R,Yv.refl _ _ _ _,h0⟩
     ·obtain⟨r1,r2⟩:=R.kill (m:=m) h1;exact⟨r1,r2,by rw[AJ,V5 (by rintro rfl;rw[h0]at h1;cases h1)];exact h0⟩
    rw[hHk];obtain⟨r1,r2,r3⟩:=hR.1.split (m:=m) hR.2.2 d7 hm (L:=⟨b,o,o⟩) (H':=Hk) (.inl ⟨rfl,V4 _⟩) (σ':=g.σ) (λ_ _ _ h=>h) (λ_ _ _ h=>.inl h);refine⟨_,_,_,hrun,.inr ⟨trivial,b,o,0,⟨sp,zw,.inr ⟨rfl,.inl rfl⟩⟩,zw,trivial,zw⟩,r1,hR.2.1.trans r2,r3⟩
   ·have hpos':0<l'.length:=by cases l' with|nil=>exact absurd rfl l9|cons _ _=>simp
    refine grow (some ⟨b,o,sp⟩) 0 [] rfl zw zw trivial ?_ (by simpa using hpos');simpa using run_firstCells_some (P:=P) w.drew i.size 0 ⟨b,o,sp⟩ 0 0 [] zw zw
  subst hodd;have hte:tok.esz=i.size:=by
   cases tok with
   |nil=>exact htok.elim
   |none e0=>exact i5.elim
   |exact e0=>exact i5
   |own i0 e0=>exact i5.1
  rw[hte]at hst;by_cases hroom:l.length+l'.length<=cap
  ·have hrun:=B8 (ty:=ty) (w:=w) (base:=some ⟨b,o,none⟩) (sLen:=l.length) (sCap:=cap) ht hu hdu hi hzz c1 c2 hroom;simp only[BF]at hrun;cases tok with
   |nil=>exact htok.elim
   |none e0=>exact i5.elim
   |exact e0=>
    simp only[]at hk;have l9:l'=[]:=Wv zo;subst l9;have hn0:news=[]:=Wv (by rw[s1];simp);subst hn0;simp only[storeCells,Sem.run_pure,Result.andThen_ok]at hrun;obtain⟨r1,r2,r3⟩:=R.split (m:=m) h0 d7 hm (L:=⟨b,o+l.length*i.size,o+cap*i.size⟩) (H':=H) (.inl ⟨rfl,by simp only[];rw[hk];exact V4 _⟩) (σ':=g.σ) (λ_ _ _ h=>h) (λ_ _ _ h=>.inl h);refine⟨_,_,_,hrun,.inr ⟨trivial,b,o,cap,⟨none,zw,.inl rfl⟩,by simpa using hcap,?_,?_⟩,r1,r2,r3⟩
    ·simp only[W9,Zd.esz];exact Stab.mono r3 (λ_ _ h=>h) _ _ _ hst
    ·simp
   |own i0 e0=>
    obtain⟨he0,htok0⟩:=i5;subst he0;simp only[]at hk;obtain⟨L',k1,k2⟩:=R.obj i0 .tok htok0;rw[hk]at k1;cases k1;simp only[]at k2
    have hstore:∃w1,(storeCells ⟨b,o+l.length*i.size,none⟩ news).run P w= .ok () w1/\Z2 g (hset H i0 .tok) n w1/\Yv m g H w g (hset H i0 .tok) w1/\
      (∀j v,news[j]?=some v->w1.cell? ⟨b,o+l.length*i.size+j,none⟩=some v):=by
     by_cases hn0:news=[]
     ·subst hn0;have hsame:hset H i0 .tok=H:=by
       funext k;show(if i0=k then some Z7.tok else H k)=H k;by_cases hk':i0=k
       ·subst hk';rw[Vv rfl];exact htok0.symm
       ·rw[V5 hk']
      exact⟨w,by simp [storeCells],by rw[hsame];exact R,by rw[hsame];exact Yv.refl _ _ _ _,zw⟩
     ·have hl1:0<l'.length:=by
       rcases Nat.eq_zero_or_pos l'.length with h|h
       ·simp_all
       ·exact h
      have hmul:l.length*i.size+l'.length*i.size<=cap*i.size:=by rw[<-WO];exact Xl _ hroom
      have hlpos:0<l'.length*i.size:=Nat.mul_pos hl1 (Nat.pos_of_ne_zero hpos);obtain⟨c,ee,q1,q2⟩:=k2 zo;have hst:=run_storeCells_at (P:=P) b (o+l.length*i.size) ee news 0 c w q1 (by rw[s1];omega) s2;simp only[Xw]at hst;generalize hc':(c.toList.take (o+l.length*i.size)++news++c.toList.drop (o+l.length*i.size+news.length)).toArray=c' at hst;have hsz':c'.size=c.size:=by subst hc';simp;omega
      have hget:∀p,c'[p]?=if o+l.length*i.size<=p/\p<o+l.length*i.size+news.length then news[p-(o+l.length*i.size)]? else c[p]?:=by
       intro p;subst hc';rw[<-WG];simp only[];by_cases p1:p<o+l.length*i.size
       ·rw[V5 zo,Wb,WI (by simp;omega),List.getElem?_take_of_lt p1,WG]
       ·by_cases p2:p<o+l.length*i.size+news.length
        ·rw[Vv ⟨zo,p2⟩,Wb,WF (by simp;omega),WI (by simp;omega)];simp only[W0,Ws];congr 1;omega
        ·rw[V5 zo,WF (by simp;omega),Ys,WG];congr 1;simp only[V9,W0,Ws];omega
      have hnb:=setRow_heap w b c c' ee (0,0) q1;obtain⟨r1,r2⟩:=Gt (m:=m) R htok0 rfl hk q1 hsz' (λp hp=>by
       rw[hget,V5];simp only[]at hp;rw[s1];omega) (ob':=.tok) ⟨_,hk,λ_=>⟨c',ee,hnb,by rw[hsz'];exact q2⟩⟩
      refine⟨_,hst,r1,r2,λj v hj=>?_⟩;have u9:=(WN.1 hj).1;rw[An hnb,hget,Vv zo,show o+l.length*i.size+j-(o+l.length*i.size)=j from by omega];exact hj
    obtain⟨w1,hst1,rr1,tt1,hcell⟩:=hstore;simp only[hst1,Result.andThen_ok]at hrun;have h0':hget (hset H i0 .tok) id=none:=by
     rw[AJ,V5 (by rintro rfl;rw[h0]at htok0;cases htok0)];exact h0
    have hmul:l.length*i.size+l'.length*i.size<=cap*i.size:=by rw[<-WO];exact Xl _ hroom
    obtain⟨r1,r2,r3⟩:=rr1.split (m:=m) h0' d7 hm (L:=⟨b,o+(l.length+l'.length)*i.size,o+cap*i.size⟩) (H':=hset (hset H i0 .tok) i0 .dead)
     (.inr ⟨i0,_,rfl,AB _ _ _,hk,by simp only[WO];omega⟩)
     (σ':=λb' p=>if b'=b/\o+l.length*i.size<=p/\p<o+(l.length+l'.length)*i.size then w1.cell? ⟨b,p,none⟩else g.σ b' p)
     (λb' p v h=>by
      show(if b'=b/\o+l.length*i.size<=p/\p<o+(l.length+l'.length)*i.size then w1.cell? ⟨b,p,none⟩else g.σ b' p)=some v;by_cases hb:b'=b/\o+l.length*i.size<=p/\p<o+(l.length+l'.length)*i.size
      ·obtain⟨rfl,l5,hb3⟩:=hb;rw[Vv ⟨rfl,l5,hb3⟩];exact rr1.σw _ _ _ h
      ·rw[V5 hb];exact h)
     (λb' p v h=>by
      by_cases hb:b'=b/\o+l.length*i.size<=p/\p<o+(l.length+l'.length)*i.size
      ·rw[Vv hb]at h;obtain⟨rfl,l5,hb3⟩:=hb;refine .inr ⟨rfl,hb3,h,i0,_,rfl,AB _ _ _,hk,l5,?_⟩;simp only[WO]at hb3;simp only[];omega
      ·rw[V5 hb]at h;exact .inl h)
    have hkill:hset (hset (hset H i0 .tok) i0 .dead) id .tok=hset (AL H (.own i0 i.size)) id .tok:=by rw[AD];rfl
    rw[hkill]at r1 r2;refine⟨_,_,_,hrun,.inr ⟨trivial,b,o,cap,⟨none,by rw[hlo],.inl rfl⟩,by rw[hlo];exact hroom,?_,by simp [hlo]⟩,r1,tt1.trans r2,r3⟩;refine Stab.append (esz:=i.size) l l' o (Stab.mono r3 (λp v hv=>r3.σ b p v hv) _ _ _ hst) ?_;have shift:∀(l2:List Fs) (p:Nat),p+l2.length*i.size<=l'.length*i.size->Stab g i.size (λo=>news[o]?) p l2->
      Stab ⟨λk=>if k=id then some ⟨b,o+(l.length+l'.length)*i.size,o+cap*i.size⟩else g.β k,λb' p=>if b'=b/\o+l.length*i.size<=p/\p<o+(l.length+l'.length)*i.size then w1.cell? ⟨b,p,none⟩else g.σ b' p⟩ i.size
       ((λb' p=>if b'=b/\o+l.length*i.size<=p/\p<o+(l.length+l'.length)*i.size then w1.cell? ⟨b,p,none⟩else g.σ b' p) b) (o+l.length*i.size+p) l2:=by
     intro l2;induction l2 with
     |nil=>intro p _ _;trivial
     |cons e' l2 ih=>
      rintro p hp ⟨⟨q,q1,q2,q3⟩,q4⟩;rw[Vz,WO]at hp;refine⟨⟨q,VRel.mono r3 _ _ q1,q2,λj v hv=>?_⟩,?_⟩
      ·grind
      ·grind
    have:=shift l' 0 zo s3;simpa using this
  ·obtain⟨vs,v1,v2,v3,v4⟩:=hst.list;exact grow (some ⟨b,o,none⟩) cap vs rfl v1 v3 v4 (run_firstCells_some (P:=P) w.drew i.size l.length ⟨b,o,none⟩ l.length cap vs v1 (λj v hv=>by rw[BF];exact R.σw _ _ _ (v2 j v hv))) zo
theorem Po(R:Z2 g H n w){a:Fs}{u:Value}(hu:P.underlying t=some (.slice e))(hi:P.info? e=some i)(hz:Br P e=some z)(hsz:szT P e=some s)
  (hx:VRel g a u) (h0:hget H id=none) (d7:id<n) (hm:m<=id) (h1:CP a) (h2:0<=toI a) (h3:small (toI a).toNat i.bytes) (h4:toI a<=35184372088832):
  ∃v w' g',(Instr.makeSlice t u u).run P w= .ok v w'/\VRel g' (.ref id s 0 (toI a).toNat (toI a).toNat) v/\Z2 g' (hset H id (.arr s (List.replicate (toI a).toNat z))) n w'/\Yv m g H w g' (hset H id (.arr s (List.replicate (toI a).toNat z))) w'/\g.le g':=by
 obtain⟨k,c,rfl,rfl⟩:=Bj h1 hx;obtain⟨i',zv,i8,hzz,hr,hzs,hl,hp0,hnt⟩:=BC hz;rw[hi]at i8;cases i8;obtain⟨i'',d,hi'',hd,hss,hpos⟩:=CX hsz;rw[hi]at hi'';cases hi'';subst hss;simp only[toI]at h2 h3 h4⊢;have hb:(i.bytes:Int)*c<=281474976710656:=by grind [small,Int.toNat_natCast,Nat.mul_comm]
 have hrun:=run_make (P:=P) w t e i zv hu hi hzz k k c c h2 (Y7 _) hb zo;have hnewb:(w.alloc (.cells (madeCells zv.cells (c.toNat*i.size)) e)).heap[w.heap.size]?=some (.cells (madeCells zv.cells (c.toNat*i.size)) e (0,0)):=by show(w.heap.push _)[w.heap.size]?=_;simp
 have hb0:g.β id=none:=by
  cases hb:g.β id with
  |none=>rfl
  |some L'=>exact absurd h0 (R.dom id L' hb).1
 obtain⟨r1,r2,r3⟩:=R.new (m:=m) (w':=w.alloc (.cells (madeCells zv.cells (c.toNat*i.size)) e)) rfl rfl rfl rfl h0 d7 hm (L:=⟨w.heap.size,0,c.toNat*i.size⟩) rfl (ob:=.arr i.size (List.replicate c.toNat z)) (by
  refine⟨⟨w.heap.size,0,c.toNat*i.size⟩,_,e,zw,rfl,by rw[size_madeCells],hnewb,by rw[size_madeCells];simp,?_⟩;refine Stab.replicate (hr _) ⟨hzs,(hr ⟨λ_=>none,λ_ _=>none⟩).one hnt⟩ _ _ λa ha j x hx=>?_
  simp only[Wr];have:=Bw (z:=zv.cells) (k:=c.toNat) ha hx
  rwa[hzs]at this)
 exact⟨_,_,_,hrun,⟨_,by simp;rfl,rfl,zw⟩,r1,r2,r3⟩
theorem Pp(R:Z2 g H n w){l c:Int}(hu:P.underlying t=some (.slice e))(hi:P.info? e=some i)(hz:Br P e=some z)(hsz:szT P e=some s)
  (h0:hget H id=none) (d7:id<n) (hm:m<=id) (l9:0<=l) (hc0:0<=c) (h1:l.toNat<=c.toNat) (h3:small c.toNat i.bytes) (h4:c.toNat<=35184372088832):
  ∃v w' g',(Instr.makeSlice t (.int .i64 l) (.int .i64 c)).run P w= .ok v w'/\VRel g' (.ref id s 0 l.toNat c.toNat) v/\Z2 g' (hset H id (.arr s (List.replicate c.toNat z))) n w'/\Yv m g H w g' (hset H id (.arr s (List.replicate c.toNat z))) w'/\g.le g':=by
 obtain⟨i',zv,i8,hzz,hr,hzs,hl,hp0,hnt⟩:=BC hz;rw[hi]at i8;cases i8;obtain⟨i'',d,hi'',hd,hss,hpos⟩:=CX hsz;rw[hi]at hi'';cases hi'';subst hss;have hb:(i.bytes:Int)*c<=281474976710656:=by
  obtain⟨k,rfl⟩:=Int.eq_ofNat_of_zero_le hc0;simp only[small,Vy]at h3;rw[<-Int.natCast_mul,Nat.mul_comm];omega
 have hrun:=run_make (P:=P) w t e i zv hu hi hzz .i64 .i64 l c l9 zo hb zo;have hnewb:(w.alloc (.cells (madeCells zv.cells (c.toNat*i.size)) e)).heap[w.heap.size]?=some (.cells (madeCells zv.cells (c.toNat*i.size)) e (0,0)):=by show(w.heap.push _)[w.heap.size]?=_;simp
 have hb0:g.β id=none:=by
  cases hb:g.β id with
  |none=>rfl
  |some L'=>exact absurd h0 (R.dom id L' hb).1
 obtain⟨r1,r2,r3⟩:=R.new (m:=m) (w':=w.alloc (.cells (madeCells zv.cells (c.toNat*i.size)) e)) rfl rfl rfl rfl h0 d7 hm (L:=⟨w.heap.size,0,c.toNat*i.size⟩) rfl (ob:=.arr i.size (List.replicate c.toNat z)) (by
  refine⟨⟨w.heap.size,0,c.toNat*i.size⟩,_,e,zw,rfl,by rw[size_madeCells],hnewb,by rw[size_madeCells];simp,?_⟩;refine Stab.replicate (hr _) ⟨hzs,(hr ⟨λ_=>none,λ_ _=>none⟩).one hnt⟩ _ _ λa ha j x hx=>?_
  simp only[Wr];have:=Bw (z:=zv.cells) (k:=c.toNat) ha hx
  rwa[hzs]at this)
 exact⟨_,_,_,hrun,⟨_,by simp;rfl,rfl,zw⟩,r1,r2,r3⟩
theorem Md{n:Nat}:∀(ps:List (Nat×Yy)),bsmS esz n (ps.map (·.1)) ((ps.map (·.2)).map ρ')->∀p∈ps,nT (ρ' p.2)/\(ρ' p.2).cells.length=esz/\p.1<n
 |[],_,p,hp=>by simp at hp
 |q::ps,h,p,hp=>by
  obtain⟨a,b,c,d⟩:=h;rcases Wp.1 hp with rfl|hp
  ·exact⟨a,b,c⟩
  ·exact Md ps d p hp
theorem J9:∀(ps:List (Nat×Yy)) (l:List Fs),bsmF (ps.map (·.1)) ((ps.map (·.2)).map ρ') l=ps.foldl (λl p=>l.set p.1 (ρ' p.2)) l
 |[],_=>rfl
 |_::ps,l=>J9 ps _
theorem Pq(R:Z2 g H n w){len:Nat}{parts:Array (Nat×Operand)}{ps:List (Nat×Yy)}{ρ:Operand->Value}(hu:P.underlying t=some (.slice e))(hz:Br P e=some z)(hsz:szT P e=some s)
  (hc:DZ parts.toList=some ps) (hv:∀x x',copd x=some x'->x'∈ps.map (·.2)->VRel g (ρ' x') (ρ x)) (h0:hget H id=none) (d7:id<n) (hm:m<=id)
  (h1:bsmS s len (ps.map (·.1)) ((ps.map (·.2)).map ρ')) (h3:len*s<=16777216):
  ∃v w' g',(Instr.buildSlice t len (parts.map λ(i,x)=>(i,ρ x))).run P w= .ok v w'/\VRel g' (.ref id s 0 len len) v/\
   Z2 g' (hset H id (.arr s (bsmF (ps.map (·.1)) ((ps.map (·.2)).map ρ') (List.replicate len z)))) n w'/\Yv m g H w g' (hset H id (.arr s (bsmF (ps.map (·.1)) ((ps.map (·.2)).map ρ') (List.replicate len z)))) w'/\g.le g':=by
 obtain⟨cells,hrun,hcs,q3⟩:=TI (w:=w) hu hz hsz hc hv (Md ps h1) h3;rw[J9];have hL:(ps.foldl (λl p=>l.set p.1 (ρ' p.2)) (List.replicate len z)).length=len:=by rw[E7];simp
 have hnewb:(w.alloc (.cells cells e)).heap[w.heap.size]?=some (.cells cells e (0,0)):=by show(w.heap.push _)[w.heap.size]?=_;simp
 obtain⟨r1,r2,r3⟩:=R.new (m:=m) (w':=w.alloc (.cells cells e)) rfl rfl rfl rfl h0 d7 hm (L:=⟨w.heap.size,0,len*s⟩) rfl (ob:=.arr s (ps.foldl (λl p=>l.set p.1 (ρ' p.2)) (List.replicate len z))) (by
  refine⟨⟨w.heap.size,0,len*s⟩,_,e,zw,rfl,hcs.symm,hnewb,by rw[hcs,hL],?_⟩;refine Stab.mono (g:=g) (g':=⟨λi=>if i=id then some ⟨w.heap.size,0,len*s⟩else g.β i,g.σ⟩) ⟨λi L h=>?_,λ_ _ _ h=>h⟩ (λ_ _ h=>h) _ _ _ q3;show(if i=id then _ else _)=_;rw[V5 (by rintro rfl;exact absurd h0 (R.dom i L h).1)];exact h)
 exact⟨_,_,_,hrun,⟨_,by simp;rfl,rfl,zw⟩,r1,r2,r3⟩
end
def IF{x:Value}(h:x.oneCell'=true):EH 1 x/\∀(j:Nat) y,x.cells[j]?=some y->j=0/\y=x:=by
 cases x<;>simp [Value.oneCell']at h<;>refine⟨⟨rfl,by simp [Value.cells,Value.oneCell']⟩,λj y e=>?_⟩<;>(cases j with
  |zero=>simp [Value.cells]at e;exact⟨rfl,e.symm⟩
  |succ j=>simp [Value.cells]at e)
variable {H:AC} {g:Yx} {n m id:Nat} {w:World}
theorem PStab.stab1{f:Nat->Option Value}:∀(cs:List Fs) (o:Nat),PStab g f o cs->Stab g 1 f o cs
 |[],_,_=>trivial
 |c::cs,o,⟨⟨x,h1,h2,h3⟩,h⟩=>⟨⟨x,h2,(IF h3).1,λj y e=>by
   obtain⟨rfl,rfl⟩:=(IF h3).2 j y e;exact h1⟩,PStab.stab1 cs (o+1) h⟩
theorem Pr{P:Program}(R:Z2 g H n w){t e:TypeId}{nn:Nat}{x:Operand}{lo hi:Option Operand}{x':Yy}{l' h':Option Yy}{ρ:Operand->Value}{ρ':Yy->Fs}{K:AC->Fs->Prop}
  (hu:P.underlying t=some (.array nn e)) (hsz:szT P e=some 1) (hlo:DB lo=some l') (hhi:DB hi=some h') (hx:VRel g (ρ' x') (ρ x))
  (hv:∀y y',copd y=some y'->(l'=some y'\/h'=some y')->VRel g (ρ' y') (ρ y)) (b1:bndI ρ' l') (b2:bndI ρ' h') (h:Gk H nn (bnd ρ' 0 l') (bnd ρ' nn h') K (ρ' x')):
  ∃v H' v',(Instr.sliceAt t (ρ x) (lo.map ρ) (hi.map ρ) none).run P w= .ok v w/\VRel g v' v/\Z2 g H' n w/\Yv m g H w g H' w/\K H' v':=by
 generalize ρ' x'=av at h hx;unfold Gk at h;split at h;case h_2=>exact h.elim
 rename_i id;obtain⟨L,k1,k2,k3⟩:=hx;have main:∀lo0 hi0:Int,bnd ρ' 0 l'=lo0->bnd ρ' nn h'=hi0->0<=lo0->lo0<=hi0->hi0<=nn->lo0<nn->
   (Instr.sliceAt t (ρ x) (lo.map ρ) (hi.map ρ) none).run P w= .ok (.slice (some ⟨L.blk,lo0.toNat*1,none⟩) (hi0.toNat-lo0.toNat) (nn-lo0.toNat)) w:=by
  intro lo0 hi0 e1 e2 c1 c2 c3 c4;have hb:=B7 (P:=P) (g:=g) (w:=w) (isSlice:=false) (len:=nn) (cap:=nn) (ρ:=ρ) (ρ':=ρ') (mx:=none) (mx':=none) hlo hhi rfl (λy y' a b=>hv y y' a (by simpa using b)) b1 b2 trivial zw zo zo (by rw[Bn];omega) (by rw[Bn];exact Y7 _);rw[e1,e2,Bn]at hb;have hne:¬nn=lo0.toNat:=zo
  rw[k3];simp only[X4]at hb;simp only[Instr.sliceAt,Sem.run_bind,run_underlying hu,Result.andThen_ok,Instr.sureAddr,Sem.run_pure,hb,A8 hsz,BF,Vy,hne,Wf];simp
 split at h
 ·rename_i cs ho;obtain⟨c0,c1,c2,c3,c4,hK⟩:=h;obtain⟨L',c,e0,j1,j2,j3,j4,j5,j6⟩:=R.obj id _ ho;rw[k1]at j1;cases j1;obtain⟨r1,t1⟩:=R.upd (m:=m) (w':=w) (ob':=.arr 1 cs) ho rfl k1 rfl rfl rfl rfl (λ_ _=>rfl) (.inl ⟨c,e0,(0,0),c,j4,j4,rfl,λ_ _=>rfl⟩)
   ⟨L,c,e0,k1,j2,by rw[j3,j5],j4,by rw[j5];simp,PStab.stab1 cs 0 j6⟩
  exact⟨_,_,.ref id 1 _ _ _,main _ _ rfl rfl c1 c2 c3 c4,⟨L,k1,k2,rfl⟩,r1,t1,hK⟩
 ·rename_i e' cs ho;obtain⟨rfl,c0,c1,c2,c3,c4,hK⟩:=h;exact⟨_,_,.ref id 1 _ _ _,main _ _ rfl rfl c1 c2 c3 c4,⟨L,k1,k2,rfl⟩,R,Yv.refl _ _ _ _,hK⟩
 ·exact h.elim
theorem Ps{P:Program}(R:Z2 g H n w){t e:TypeId}{nn:Nat}{x:Operand}{lo hi:Option Operand}{x':Yy}{l' h':Option Yy}{ρ:Operand->Value}{ρ':Yy->Fs}
  (hu:P.underlying t=some (.array nn e)) (hsz:szT P e=some 1) (hlo:DB lo=some l') (hhi:DB hi=some h') (hx:VRel g (ρ' x') (ρ x))
  (hv:∀y y',copd y=some y'->(l'=some y'\/h'=some y')->VRel g (ρ' y') (ρ y)) (h:(evk H ρ' (.slp nn x' l' h')).1):
  ∃v,(Instr.sliceAt t (ρ x) (lo.map ρ) (hi.map ρ) none).run P w= .ok v w/\VRel g (evk H ρ' (.slp nn x' l' h')).2 v:=by
 simp only[evk]at h⊢;generalize ρ' x'=av at h hx⊢;split at h;case h_2=>exact h.elim
 rename_i id;obtain⟨L,k1,k2,k3⟩:=hx;obtain⟨b1,b2,c1,c2,c3,c4⟩:=h;have hb:=B7 (P:=P) (g:=g) (w:=w) (isSlice:=false) (len:=nn) (cap:=nn) (ρ:=ρ) (ρ':=ρ') (mx:=none) (mx':=none) hlo hhi rfl (λy y' a b=>hv y y' a (by simpa using b)) b1 b2 trivial zw zo zo (by rw[Bn];omega) (by rw[Bn];exact Y7 _);rw[Bn]at hb;have hne:¬nn=(bnd ρ' 0 l').toNat:=zo
 refine⟨.slice (some ⟨L.blk,(bnd ρ' 0 l').toNat*1,none⟩) ((bnd ρ' nn h').toNat-(bnd ρ' 0 l').toNat) (nn-(bnd ρ' 0 l').toNat),?_,L,k1,k2,rfl⟩;rw[k3];simp only[X4]at hb;simp only[Instr.sliceAt,Sem.run_bind,run_underlying hu,Result.andThen_ok,Instr.sureAddr,Sem.run_pure,hb,A8 hsz,BF,Vy,hne,Wf];simp
theorem Stab.pstab1{f:Nat->Option Value}:∀(cs:List Fs) (o:Nat),cs.all isIn=true->Stab g 1 f o cs->PStab g f o cs
 |[],_,_,_=>trivial
 |c::cs,o,hi,⟨⟨x,h1,h2,h3⟩,h⟩=>by
  rw[Xr,V7]at hi;refine⟨⟨x,?_,h1,?_⟩,Stab.pstab1 cs (o+1) hi.2 h⟩
  ·cases c<;>simp [isIn]at hi;have e:x=_:=h1;subst e;exact h3 0 _ (by simp [Value.cells])
  ·cases c<;>simp [isIn]at hi;have e:x=_:=h1;subst e;rfl
theorem Z2.rebox(R:Z2 g H n w){cs:List Fs}(ho:hget H id=some (.arr 1 cs))(hi:cs.all isIn=true):
  Z2 g (hset H id (.box cs)) n w/\Yv m g H w g (hset H id (.box cs)) w:=by
 obtain⟨L,c,e0,j1,j2,j3,j4,j5,j6⟩:=R.obj id _ ho;rw[XC]at j5;exact R.upd (m:=m) (w':=w) (ob':=.box cs) ho rfl j1 rfl rfl rfl rfl (λ_ _=>rfl) (.inl ⟨c,e0,(0,0),c,j4,j4,rfl,λ_ _=>rfl⟩)
   ⟨L,c,e0,j1,j2,by rw[j3,j5],j4,j5.symm,Stab.pstab1 cs 0 hi j6⟩
theorem Z2.unbox(R:Z2 g H n w){cs:List Fs}(ho:hget H id=some (.box cs)):
  Z2 g (hset H id (.arr 1 cs)) n w/\Yv m g H w g (hset H id (.arr 1 cs)) w:=by
 obtain⟨L,c,e0,j1,j2,j3,j4,j5,j6⟩:=R.obj id _ ho;exact R.upd (m:=m) (w':=w) (ob':=.arr 1 cs) ho rfl j1 rfl rfl rfl rfl (λ_ _=>rfl) (.inl ⟨c,e0,(0,0),c,j4,j4,rfl,λ_ _=>rfl⟩)
   ⟨L,c,e0,j1,j2,by rw[j3,j5],j4,by rw[j5];simp,PStab.stab1 cs 0 j6⟩
theorem Z2.freeze(r:Z2 g H n w){e:Nat}{l:List Fs}(h0:hget H id=some (.arr e l)):
  ∃σ',Z2 ⟨g.β,σ'⟩ (hset H id (.frz e l)) n w/\Yv m g H w ⟨g.β,σ'⟩ (hset H id (.frz e l)) w:=by
 obtain⟨L,c,t,j1,j2,j3,j4,j5,j6⟩:=r.obj id _ h0
 let σ':Nat->Nat->Option Value:=λb o=>if b=L.blk/\o<c.size then c[o]? else g.σ b o
 have hcell:∀o,w.cell? ⟨L.blk,o,none⟩=c[o]?:=λo=>An j4 o
 have hσ:∀b o v,g.σ b o=some v->σ' b o=some v:=by
  intro b o v h;show(if b=L.blk/\o<c.size then c[o]? else g.σ b o)=some v;split
  ·rename_i q;have:=r.σw b o v h;rw[q.1,hcell]at this;exact this
  ·exact h
 have hnew:∀b o v,σ' b o=some v->g.σ b o=some v\/(b=L.blk/\o<c.size):=by grind
 have hle:g.le ⟨g.β,σ'⟩:=⟨λ_ _ h=>h,hσ⟩;have low:∀i oi,hget (hset H id (.frz e l)) i=some oi->oi.owns=true->i≠id/\hget H i=some oi:=by
  intro i oi q1 q2;rw[AJ]at q1;by_cases e:id=i
  ·rw[Vv e]at q1;cases q1;simp [Z7.owns]at q2
  ·rw[V5 e]at q1;exact⟨Ne.symm e,q1⟩
 refine⟨σ',⟨?_,?_,?_,?_,?_,?_,Dg.mono (g:=g) (g':=⟨g.β,σ'⟩) hle r.gl,r.gz⟩,⟨hle,λ_ _ h=>.inl h,rfl,rfl,rfl,V4 _,λb ob hb=>by rw[hb];exact Kept.same _ _,?_,?_⟩⟩
 ·intro b o v h;have h':(if b=L.blk/\o<c.size then c[o]? else g.σ b o)=some v:=h;split at h'
  ·rename_i q;rw[q.1,hcell];exact h'
  ·exact r.σw b o v h'
 ·intro i oi h;rw[AJ]at h;by_cases e1:id=i
  ·rw[Vv e1]at h;cases h;subst e1;refine⟨L,j1,j2,?_⟩;refine Stab.mono (g:=g) (g':=⟨g.β,σ'⟩) hle (λo x q=>?_) e l 0 j6;show(if L.blk=L.blk/\o<c.size then c[o]? else g.σ L.blk o)=some x;rw[Vv ⟨rfl,(Wc.1 q).1⟩];exact q
  ·rw[V5 e1]at h;exact ORel.ext (w:=w) (w':=w) (λ_ _ x=>x) hle oi (r.obj i oi h)
 ·intro i L' h;refine⟨?_,(r.dom i L' h).2⟩;rw[AJ];by_cases e:id=i
  ·simp [e]
  ·rw[V5 e];exact(r.dom i L' h).1
 ·intro i oi h;rw[AJ]at h;by_cases e:id=i
  ·subst e;exact r.hd id _ h0
  ·rw[V5 e]at h;exact r.hd i oi h
 ·intro i j oi oj Li Lj hne q1 q2 q3 q4 q5 q6 hb;exact r.ap i j oi oj Li Lj hne (low i oi q1 q3).2 (low j oj q2 q4).2 q3 q4 q5 q6 hb
 ·intro i oi L' o q1 q2 q3 q4 q5;obtain⟨p1,p2⟩:=low i oi q1 q2;have hn:=r.un i oi L' o p2 q2 q3 q4 q5;cases hs:σ' L'.blk o with
  |none=>exact hs
  |some v=>
   rcases hnew _ _ _ hs with h|⟨h1,h2⟩
   ·rw[hn]at h;cases h
   ·exfalso;rcases r.ap i id oi _ L' L p1 p2 h0 q2 rfl q3 j1 h1 with k|k|k|k<;>omega
 ·rintro b o hb ⟨i,oi,Li,q1,q2,q3,q4,q5,q6⟩;exact⟨i,oi,Li,(low i oi q1 q2).2,q2,q3,q4,q5,q6⟩
 ·intro b o v hb h;rcases hnew b o v h with h|⟨h1,h2⟩
  ·exact .inl h
  ·exact .inr ⟨id,_,L,h0,rfl,j1,h1.symm,zo,zo⟩
end
end Go.AM
namespace Go.AM
open Go.Lib Go.MapKept Go.RowKit
section
variable {P:Program} {g:Yx} {H:AC} {n m:Nat} {w:World}
def KeyD(P:Program)(kt:KT)(t:TypeId):Prop:=match kt with
 | .arr n k=>∃e,P.underlying t=some (.array n e)/\P.underlying e=some (.int k)/\szT P e=some 1
 |kt=>∃d,P.underlying t=some d/\∀(g:Yx) k x,kt.is k->VRel g k x->IsKey d x
variable {k av mv:Fs} {op:BinOp} {ok:Bool} {kt:KT} {id base:Nat} {X:Operand} {t e:TypeId} {x y c:Value}
theorem TN(h:ktT P t=some kt):KeyD P kt t:=by
 unfold ktT at h;split at h;case h_5=>cases h
 case h_4=>
  rename_i hu;split at h
  ·rename_i h1 h2;cases h;exact⟨_,hu,h1,h2⟩
  ·cases h
 all_goals
  rename_i hu;cases h;refine⟨_,hu,λg k x hk hx=>?_⟩;cases k<;>simp only[KT.is]at hk<;>first|exact hk.elim|skip
  have hx':=hx;simp only[VRel]at hx';subst hx';first|exact hk|(subst hk;rfl)|trivial|(simp [IsKey];done)|(simp [IsKey,hk];done)
theorem Me{k:IntKind}:∀{n:Nat} {xs ys:List Fs},isIs k n xs->isIs k n ys->cfit (List.replicate n 0) xs ys
 |0,[],[],_,_=>trivial
 |n+1,a::xs,b::ys,h1,h2=>by
  cases a<;>(try exact h1.elim);cases b<;>(try exact h2.elim);obtain⟨rfl,h1⟩:=h1;obtain⟨rfl,h2⟩:=h2;exact⟨rfl,Me h1 h2⟩
 |0,_::_,_,h1,_=>by cases h1
 |0,[],_::_,_,h2=>by cases h2
 |n+1,[],_,h1,_=>by cases h1
 |n+1,_::_,[],_,h2=>by cases h2
theorem Mf{k:IntKind}:∀{n:Nat} {xs ys:List Fs} {us vs:List Value},isIs k n xs->isIs k n ys->VRels g xs us->VRels g ys vs->(ceqs xs ys=true↔us=vs)
 |0,xs,ys,us,vs,h1,h2,hx,hy=>by
  cases xs with
  |cons _ _=>cases h1
  |nil=>cases ys with
   |cons _ _=>cases h2
   |nil=>
    have hx':us=[]:=hx;have hy':vs=[]:=hy;subst hx';subst hy';simp [ceqs]
 |n+1,xs,ys,us,vs,h1,h2,hx,hy=>by
  cases xs with
  |nil=>cases h1
  |cons a xs=>cases ys with
   |nil=>cases h2
   |cons b ys=>
    cases a<;>(try exact h1.elim);cases b<;>(try exact h2.elim);obtain⟨rfl,h1⟩:=h1;obtain⟨rfl,h2⟩:=h2;obtain⟨u,r1,rfl,q2,q3⟩:=hx;obtain⟨v,r2,rfl,q5,q6⟩:=hy;have q2':u= .int _ _:=q2;have q5':v= .int _ _:=q5;subst q2';subst q5';have ih:=Mf h1 h2 q3 q6;simp [ceqs,ceq,ih]
theorem Pt{a b:Fs}(ha:kt.is a)(hb:kt.is b)(hx:VRel g a x)(hy:VRel g b y):(ceq a b=true↔x=y):=by
 cases kt with
 |arr n k=>
  cases a<;>(try exact ha.elim);cases b<;>(try exact hb.elim);obtain⟨us,rfl,k1,-⟩:=hx;obtain⟨vs,rfl,k2,-⟩:=hy;have:=Mf ha hb k1 k2;simp only[ceq,this,Value.agg.injEq];exact⟨λe=>by rw[<-Array.toList_inj];exact e,λe=>by rw[e]⟩
 |_=>
  cases a<;>simp only[KT.is]at ha<;>(try exact ha.elim)<;>cases b<;>simp only[KT.is]at hb<;>(try exact hb.elim)<;>simp only[VRel]at hx hy<;>subst hx<;>subst hy<;>
   first|(subst ha;subst hb;simp [ceq];done)|(simp [ceq];done)|(simp only[ceq,Vu,Value.string.injEq];exact⟨λe=>by rw[e],str_inj⟩)
theorem IG(hs:szT P e=some 1){k:IntKind}(he:P.underlying e=some (.int k)):∃i,P.info? e=some i/\P.cellsOf e=1:=by
 unfold szT at hs;rw[he]at hs;cases hq:P.info? e with
 |none=>rw[hq]at hs;cases hs
 |some i=>rw[hq]at hs;exact⟨i,rfl,by simp only[Program.cellsOf,hq];exact(show ¬i.size=0/\i.size=1 by simpa using hs).2⟩
theorem Gu(h:KeyD P kt t)(hk:kt.is k)(hx:VRel g k x)(em:Bool):(Instr.checkKey em 10000 t x).run P w= .ok () w:=by
 cases kt with
 |arr n kd=>
  obtain⟨e,h1,h2,h3⟩:=h;obtain⟨i,hi,hi1⟩:=IG h3 h2;cases k<;>(try exact hk.elim);rename_i xs;obtain⟨us,rfl,k1,-⟩:=hx;have hall:∀(m o:Nat) (as:List Fs),isIs kd m as->VRels g as (us.toList.drop o)->∀j,o<=j->j<o+m->∃z,us[j]?=some (.int kd z):=by
   intro m;induction m with
   |zero=>intro o as _ _ j h1 h2;omega
   |succ m ih=>
    intro o as ha hv j hj1 hj2;cases as with
    |nil=>cases ha
    |cons a as=>
     cases a<;>(try exact ha.elim);obtain⟨rfl,ha⟩:=ha;obtain⟨u,r1,q1,q2,q3⟩:=hv;have q2':u= .int _ _:=q2;subst q2';by_cases e:j=o
     ·subst e;exact⟨_,by have:=congrArg (λl:List Value=>l[0]?) q1;simpa using this⟩
     ·refine ih (o+1) as ha ?_ j zo zo;have:=congrArg (λl:List Value=>l.drop 1) q1;simp at this;rw[this];exact q3
  have hall:=hall n 0 xs hk (by simpa using k1);have he:∀w,(isAgg e).run P w= .ok false w:=λw=>by simp [isAgg,run_underlying h2]
  rw[show(10000:Nat)=9999+1 from rfl,Instr.checkKey];simp only[Sem.run_bind,run_underlying h1,Result.andThen_ok];simp only[Std.Legacy.Range.forIn_eq_forIn_range',Std.Legacy.Range.size,Nat.sub_zero,Nat.add_one_sub_one,Nat.div_one];have j8:∀j∈List.range' 0 n,∃z,us[j]?=some (.int kd z):=λj hj=>hall j (V8 _) (by
   have:=List.mem_range'.1 hj;omega)
  generalize List.range' 0 n=is at j8;induction is with
  |nil=>simp
  |cons j is ih=>
   obtain⟨z,hz⟩:=j8 j zw;have p2:(Instr.checkKey em 9999 e (.int kd z)).run P w= .ok () w:=by
    rw[show(9999:Nat)=9998+1 from rfl];exact run_checkKey h2 (show IsKey (.int kd) (.int kd z)from rfl) em 9998
   simp only[List.forIn_cons,Sem.run_bind,A8 h3,Result.andThen_ok,XC,A3 he hz,p2,Sem.run_pure];exact ih (λy hy=>j8 y (by simp [hy]))
 |_=>
  obtain⟨d,h1,h2⟩:=h;exact run_checkKey h1 (h2 g k x hk hx) em 9999
theorem Pu(h:KeyD P kt t)(hk:kt.is k)(hx:VRel g k x):(Instr.keyThatStays x x).run P w= .ok x w:=by
 cases kt with
 |arr n kd=>
  cases k<;>(try exact hk.elim);rename_i xs;obtain⟨us,rfl,k1,-⟩:=hx;have hall:∀(m:Nat) (as:List Fs) (vs:List Value),isIs kd m as->VRels g as vs->∀v∈vs,∃z,v= .int kd z:=by
   intro m;induction m with
   |zero=>
    intro as vs ha hv v hm;cases as with
    |cons _ _=>cases ha
    |nil=>have hv':vs=[]:=hv;subst hv';cases hm
   |succ m ih=>
    intro as vs ha hv v hm;cases as with
    |nil=>cases ha
    |cons a as=>
     cases a<;>(try exact ha.elim);obtain⟨rfl,ha⟩:=ha;obtain⟨u,r1,rfl,q2,q3⟩:=hv;have q2':u= .int _ _:=q2;subst q2';rcases Wp.1 hm with rfl|hm
     ·exact⟨_,rfl⟩
     ·exact ih as r1 ha q3 v hm
  have hs:Instr.sameBits 10000 (.agg us) (.agg us)=true:=by
   rw[show(10000:Nat)=9999+1 from rfl,Instr.sameBits,V7];refine⟨zw,?_⟩;rw[W4];rintro⟨a,b⟩ hab;have hz:∀l:List Value,(a,b)∈l.zip l->a=b/\a∈l:=by
    intro l;induction l with
    |nil=>intro h;cases h
    |cons q l ih=>
     intro h;rcases Wp.1 h with h|h
     ·cases h;exact⟨rfl,zw⟩
     ·exact⟨(ih h).1,by simp [(ih h).2]⟩
   obtain⟨rfl,hm⟩:=hz _ hab;obtain⟨z,rfl⟩:=hall n xs us.toList hk k1 a hm;simp [Instr.sameBits]
  simp [Instr.keyThatStays,hs]
 |_=>
  obtain⟨d,h1,h2⟩:=h;exact run_keyThatStays (h2 g k x hk hx)
theorem I6(hd:KeyD P kt t)(hk:kt.is k)(hx:VRel g k x)(es:List (Fs×Fs×Nat))(es':List MapEntry)(hf:Di kt es)(hm:MRel g es es'):
  (BN k es=none/\(Instr.findKey t x es').run P w= .ok none w/\∀v y c,VRel g v y->MRel g (mset k v c es) (es'++[{key:=x,val:=y,born:=c}]))\/
  (∃j e v0,BN k es=some v0/\es'[j]?=some e/\(Instr.findKey t x es').run P w= .ok (some (j,e.val)) w/\VRel g v0 e.val/\e.key=x/\∀v y c,VRel g v y->MRel g (mset k v c es) (es'.set j {e with key:=x,val:=y})):=by
 have key:∀(F:List MapEntry->Nat->Option (Nat×Value)->Prop),(∀i,F [] i none)->(∀e es i r,kt.is k->(x=e.key->F (e::es) i (some (i,e.val)))/\((∃k',kt.is k'/\VRel g k' e.key)->x≠e.key->F es (i+1) r->F (e::es) i r))->
   ∀(es:List (Fs×Fs×Nat)) (es':List MapEntry) (i:Nat),Di kt es->MRel g es es'->
   (BN k es=none/\F es' i none/\∀v y c,VRel g v y->MRel g (mset k v c es) (es'++[{key:=x,val:=y,born:=c}]))\/
   (∃j e v0,BN k es=some v0/\es'[j]?=some e/\F es' i (some (i+j,e.val))/\VRel g v0 e.val/\e.key=x/\∀v y c,VRel g v y->MRel g (mset k v c es) (es'.set j {e with key:=x,val:=y})):=by
  intro F F0 F1 es;induction es with
  |nil=>
   intro es' i _ h;have h0:es'=[]:=h;subst h0;exact .inl ⟨rfl,F0 i,λv y c hv=>⟨_,_,rfl,hx,hv,rfl,rfl⟩⟩
  |cons q r ih=>
   obtain⟨k',v',b⟩:=q;intro es' i hf h;obtain⟨e,es2,rfl,h1,h2,h3,h4⟩:=h;obtain⟨f1,f2⟩:=hf;have hc:=Pt hk f1 hx h1;by_cases w7:x=e.key
   ·have hc1:ceq k k'=true:=hc.2 w7;refine .inr ⟨0,e,v',by simp [BN,hc1],rfl,(F1 e es2 i none hk).1 w7,h2,w7.symm,λv y c hv=>?_⟩;simp only[mset,hc1,WB,List.set_cons_zero];exact⟨_,_,rfl,by rw[w7];exact h1,hv,h3,h4⟩
   ·have hc1:¬ceq k k'=true:=λz=>w7 (hc.1 z)
    rcases ih es2 (i+1) f2 h4 with⟨p1,p2,p3⟩|⟨j,e2,v0,p1,p2,p3,p4,p5,p6⟩
    ·refine .inl ⟨by simp [BN,hc1,p1],(F1 e es2 i _ hk).2 ⟨k',f1,h1⟩ w7 p2,λv y c hv=>?_⟩;simp only[mset,hc1,Ww];exact⟨_,_,rfl,h1,h2,h3,p3 v y c hv⟩
    ·refine .inr ⟨j+1,e2,v0,by simp [BN,hc1,p1],by simpa using p2,(F1 e es2 i _ hk).2 ⟨k',f1,h1⟩ w7 (by rw[show i+(j+1)=i+1+j by omega];exact p3),p4,p5,λv y c hv=>?_⟩;simp only[mset,hc1,List.set_cons_succ];exact⟨_,_,rfl,h1,h2,h3,p6 v y c hv⟩
 cases kt with
 |arr n kd=>
  obtain⟨e,h1,h2,h3⟩:=hd;obtain⟨ii,hi,hi1⟩:=IG h3 h2;have hw:(Instr.findKey t x es').run P w=(Instr.findAsking t x es').run P w:=run_findKey_eq w (by rw[h1]) x es';rw[hw];have heq:∀k' y,KT.is (.arr n kd) k'->VRel g k' y->∃r,(Op.equal t x y).run P w= .ok r w/\(r=true↔x=y):=by
   intro k' y hk' hy;have hcr:=Pt (kt:=.arr n kd) hk hk' hx hy;cases k<;>(try exact hk.elim);cases k'<;>(try exact hk'.elim);rename_i xs ys;obtain⟨us,rfl,k1,-⟩:=hx;obtain⟨vs,rfl,k2,-⟩:=hy;have he:=run_equalIn_array (P:=P) w 9999 us vs h1 hi;rw[hi1,List.range_eq_range',Fx (g:=g) (w:=w) (d:=9998) h2 n 0 xs ys (by simpa using k1) (by simpa using k2) (Me hk hk')]at he;simp only[ceq]at hcr;exact⟨_,by rw[Op.equal,show Op.maxDepth=9999+1 from rfl,he],hcr⟩
  have:=key (λl i r=>(Instr.findAsking t x l i).run P w= .ok r w) (λi=>by simp [Instr.findAsking]) (λe es i r _=>⟨λhq=>?_,λ⟨k',q1,q2⟩ hq hF=>?_⟩) es es' 0 hf hm
  ·simp_all
  ·obtain⟨q,hq1,hq2⟩:=heq k x hk hx;have:q=true:=hq2.2 rfl;subst this;rw[Instr.findAsking,Sem.run_bind,<-hq,hq1];simp
  ·obtain⟨q,hq1,hq2⟩:=heq k' e.key q1 q2;have:q=false:=by cases q with
    |true=>exact absurd (hq2.1 rfl) hq
    |false=>rfl
   subst this;rw[Instr.findAsking,Sem.run_bind,hq1];simp [hF]
 |_=>
  obtain⟨d,h1,h2⟩:=hd;have hkx:=h2 g k x hk hx;have:=key (λl i r=>Instr.findNow d x l i=some r) (λi=>rfl) (λe es i r _=>⟨λhq=>?_,λ⟨k',q1,q2⟩ hq hF=>?_⟩) es es' 0 hf hm
  ·rcases this with⟨q1,q2,q3⟩|⟨j,e,v0,q1,q2,q3,q4⟩
   ·exact .inl ⟨q1,run_findKey h1 q2,q3⟩
   ·exact .inr ⟨j,e,v0,q1,q2,by rw[Wr]at q3;exact run_findKey h1 q3,q4⟩
  ·obtain⟨q,hq2,hiff⟩:=sameNow_of_keys hkx hkx;have:q=true:=hiff.2 rfl;subst this;simp only[Instr.findNow,<-hq,hq2]
  ·obtain⟨q,hq2,hiff⟩:=sameNow_of_keys hkx (h2 g k' e.key q1 q2);have:q=false:=by cases q with
    |true=>exact absurd (hiff.1 rfl) hq
    |false=>rfl
   subst this;simp only[Instr.findNow,hq2,hF]
theorem I7:∀(es:List (Fs×Fs×Nat)) (es':List MapEntry),MRel g es es'->∀e'∈es',∃e∈es,VRel g e.1 e'.key/\VRel g e.2.1 e'.val/\e'.born=e.2.2
 |[],es',h,e',he=>by have h0:es'=[]:=h;subst h0;cases he
 |(k,v,b)::r,es',h,e',he=>by
  obtain⟨e,es2,rfl,h1,h2,h3,h4⟩:=h;rcases Wp.1 he with rfl|he
  ·exact⟨(k,v,b),Wu,h1,h2,h3⟩
  ·obtain⟨x,hx,hh⟩:=I7 r es2 h4 e' he;exact⟨x,WJ _ hx,hh⟩
theorem KA:∀(es:List (Fs×Fs×Nat)) (es':List MapEntry),MRel g es es'->∀e∈es,∃e'∈es',e'.born=e.2.2
 |(k,v,b)::r,es',h,e,he=>by
  obtain⟨x,es2,rfl,h1,h2,h3,h4⟩:=h;rcases Wp.1 he with rfl|he
  ·exact⟨x,Wu,h3⟩
  ·obtain⟨y,hy,hh⟩:=KA r es2 h4 e he;exact⟨y,WJ _ hy,hh⟩
theorem Gv(w:World)(ty:TypeId)(bi bm since c0:Nat)(seen:Array Nat)(es:Array MapEntry)(clock:Nat)(hi:w.heap[bi]?=some (.mapIter (some bm) since seen c0))(hb:w.heap[bm]?=some (.map es clock))(hold:∀x∈es.toList,x.born<since)(hsc:since<=c0):
  ((leftOf es seen).size=0/\(Instr.next (.pointer (some ⟨bi,0,none⟩)) false ty).run P w= .ok (.tuple #[.bool false]) w)\/
  ∃e∈(leftOf es seen).toList,∃w1:World,(w1=w\/w1=w.drew)/\(Instr.next (.pointer (some ⟨bi,0,none⟩)) false ty).run P w= .ok (.tuple #[.bool true,e.key,e.val]) {w1 with heap:=w1.heap.setIfInBounds bi (.mapIter (some bm) since (seen.push e.born) clock)}:=by
 simp only[Instr.next,getObj,Sem.run_bind,Sem.run,hi,hb,Result.andThen,next_test_false seen es since c0 hold hsc,W5,Wf];unfold leftOf;have hmem:∀x∈(Array.filter (λe=>!seen.contains e.born) es).toList,x.born<since:=λx hx=>hold x (by simp at hx⊢;exact hx.1)
 generalize Array.filter (λe=>!seen.contains e.born) es=L at hmem⊢;have e1:L.filter (λx=>decide (x.born<since))=L:=Array.filter_eq_self.2 (λx hx=>by simpa using hmem x (by simpa using hx));have e2:L.filter (λx=>decide (x.born≥since))= #[]:=by simp_all
 simp only[e1,e2,Array.append_empty];by_cases h0:L.size=0
 ·simp_all [choose,Sem.run,Question.forced]
 ·right;have hne:L.isEmpty=false:=by simp [Array.isEmpty,h0]
  simp only[hne,W5,Wf,Array.empty_append,Array.size_map];have hch:∃(j:Nat) (w1:World),j<L.size/\(w1=w\/w1=w.drew)/\(choose (Question.mapNext L.size)).run P w= .ok j w1:=by
   by_cases hf:L.size<=1
   ·exact⟨0,w,zo,.inl rfl,by simp [choose,Sem.run,Question.forced,hf]⟩
   ·exact⟨_,w.drew,Nat.mod_lt _ zo,.inr rfl,by
     simp only[choose,Sem.run,Question.forced,Vu,hf,Wf,Question.cut];rfl⟩
  obtain⟨j,w1,hj,l6,hrun⟩:=hch;refine⟨L[j],zw,w1,l6,?_⟩;have hh:w1.heap=w.heap:=by rcases l6 with rfl|rfl<;>rfl
  have hset:∀o':Obj,(setObj bi o').run P w1= .ok () {w1 with heap:=w1.heap.setIfInBounds bi o'}:=λo'=>by
   simp only[setObj,Sem.run];rw[hh,hi]
  simp only[hrun,Array.getElem?_map,X8 hj,Wt,Sem.run_bind,hset,Result.andThen];rfl
theorem Pv(R:Z2 g H n w)(h0:hget H id=none)(d7:id<n)(hm:m<=id)(o:Obj)(ob:Z7)(hob:∀g':Yx,g'.β id=some ⟨w.heap.size,0,1⟩->ORel g' (w.alloc o) id ob):
  ∃g',Z2 g' (hset H id ob) n (w.alloc o)/\Yv m g H w g' (hset H id ob) (w.alloc o)/\g.le g'/\g'.β id=some ⟨w.heap.size,0,1⟩:=by
 obtain⟨r1,r2,r3⟩:=R.new (m:=m) (w':=w.alloc o) (x:=o) rfl rfl rfl rfl h0 d7 hm (L:=⟨w.heap.size,0,1⟩) rfl (ob:=ob) (hob _ zw);exact⟨_,r1,r2,r3,zw⟩
theorem LQ(R:Z2 g H n w){ob ob':Z7}{L:Loc}{o o':Obj}(h0:hget H id=some ob)(hown:ob.owns=true)(hL:g.β id=some L)(hl:L.lo=0)(hh:L.hi=1)(hb:w.heap[L.blk]?=some o)(hnc:∀c e fz,o≠ .cells c e fz)
  (hob:ORel g {w with heap:=w.heap.setIfInBounds L.blk o'} id ob'):
  Z2 g (hset H id ob') n {w with heap:=w.heap.setIfInBounds L.blk o'}/\Yv m g H w g (hset H id ob') {w with heap:=w.heap.setIfInBounds L.blk o'}:=
 R.upd (m:=m) h0 hown hL rfl rfl rfl zw (λb s9=>(heap_set hb).2 b s9) (.inr ⟨hl,hh,o,hb,hnc⟩) hob
theorem Pw(R:Z2 g H n w)(h0:hget H id=none)(d7:id<n)(hm:m<=id)(t:TypeId):
  ∃v w' g',(Instr.makeMap t none).run P w= .ok v w'/\VRel g' (.mp id) v/\Z2 g' (hset H id (.map [] 0)) n w'/\Yv m g H w g' (hset H id (.map [] 0)) w':=by
 obtain⟨g',r1,r2,r3,hb⟩:=Pv (m:=m) R h0 d7 hm (.map #[] 0) (.map [] 0) λg' hb=>⟨_, #[],hb,rfl,rfl,(heap_alloc w _).1,rfl⟩
 exact⟨_,_,g',run_makeMap t w,⟨_,hb,rfl⟩,r1,r2⟩
theorem Nf(R:Z2 g H n w)(h0:hget H id=none)(d7:id<n)(hm:m<=id)(ht:P.underlying t=some .string)(s:List UInt8):
  ∃v w' g',(Instr.range t (.string ⟨s.toArray⟩)).run P w= .ok v w'/\VRel g' (.ptr id 0) v/\Z2 g' (hset H id (.sit s 0)) n w'/\Yv m g H w g' (hset H id (.sit s 0)) w':=by
 obtain⟨g',r1,r2,r3,hb⟩:=Pv (m:=m) R h0 d7 hm (.stringIter ⟨s.toArray⟩ 0) (.sit s 0) λg' hb=>⟨_,hb,rfl,rfl,(heap_alloc w _).1⟩
 exact⟨_,_,g',run_range_string w t _ ht,⟨_,hb,rfl,rfl⟩,r1,r2⟩
theorem LR(R:Z2 g H n w){s:List UInt8}{pos:Nat}(h0:hget H id=some (.sit s pos))(hx:VRel g (.ptr id 0) x)(ty:TypeId):
  ∃v w',(Instr.next x true ty).run P w= .ok v w'/\VRel g (if pos<s.length then .tup [.bool true,.int .i64 pos,.int .i32 (Utf8.decode ⟨s.toArray⟩ pos).1]else .tup [.bool false]) v/\
   Z2 g (if pos<s.length then hset H id (.sit s (pos+(Utf8.decode ⟨s.toArray⟩ pos).2))else H) n w'/\Yv m g H w g (if pos<s.length then hset H id (.sit s (pos+(Utf8.decode ⟨s.toArray⟩ pos).2))else H) w':=by
 obtain⟨L,hL,hl,rfl⟩:=hx;obtain⟨L',hL',hl',hh',hb⟩:=R.obj id _ h0;rw[hL]at hL';cases hL';by_cases hp:pos<s.length
 ·have hp':pos<(⟨s.toArray⟩:ByteArray).size:=by show pos<s.toArray.size;simpa using hp
  rw[Vv hp,Vv hp];obtain⟨r1,r2⟩:=LQ (m:=m) (ob':=.sit s (pos+(Utf8.decode ⟨s.toArray⟩ pos).2)) (o':=.stringIter ⟨s.toArray⟩ (pos+(Utf8.decode ⟨s.toArray⟩ pos).2)) R h0 rfl hL hl hh' hb zw ⟨L,hL,hl,hh',(heap_set hb).1⟩;exact⟨_,_,run_next_any_at w L.blk _ pos ty hb hp',⟨_,rfl,_,_,rfl,rfl,_,_,rfl,rfl,_,_,rfl,rfl,rfl⟩,r1,r2⟩
 ·have hp':¬pos<(⟨s.toArray⟩:ByteArray).size:=by show ¬pos<s.toArray.size;simpa using hp
  rw[V5 hp,V5 hp];exact⟨_,_,run_next_end_at w L.blk _ pos ty hb hp',⟨_,rfl,_,_,rfl,rfl,rfl⟩,R,Yv.refl _ _ _ _⟩
theorem Ng(R:Z2 g H n w)(h0:hget H id=none)(d7:id<n)(hm:m<=id){kt:TypeId}(ht:P.underlying t=some (.map kt e)){mi c:Nat}{es:List (Fs×Fs×Nat)}(ho:hget H mi=some (.map es c))(hx:VRel g (.mp mi) x):
  ∃v w' g',(Instr.range t x).run P w= .ok v w'/\VRel g' (.ptr id 0) v/\Z2 g' (hset H id (.mit mi c [] c)) n w'/\Yv m g H w g' (hset H id (.mit mi c [] c)) w':=by
 obtain⟨L,hL,rfl⟩:=hx;obtain⟨L',es',hL',hl',hh',hb,hm'⟩:=R.obj mi _ ho;rw[hL]at hL';cases hL';have hne:mi≠id:=λe=>by rw[e,h0]at ho;cases ho
 obtain⟨r1,r2,r3⟩:=R.new (m:=m) (w':=w.alloc (.mapIter (some L.blk) c #[] c)) (x:=.mapIter (some L.blk) c #[] c) rfl rfl rfl rfl h0 d7 hm (L:=⟨w.heap.size,0,1⟩) rfl (ob:=.mit mi c [] c) ⟨⟨w.heap.size,0,1⟩,L,zw,rfl,rfl,(heap_alloc w _).1,by simp [hne,hL],V4 _⟩;exact⟨_,_,_,run_range_map w t kt e L.blk es' c ht hb,⟨⟨w.heap.size,0,1⟩,zw,rfl,rfl⟩,r1,r2⟩
theorem Px(R:Z2 g H n w){ty:TypeId}{K:AC->Fs->Prop}(hx:VRel g av x)(h:Hg H K av):
  ∃v w' g' H' v',(Instr.next x false ty).run P w= .ok v w'/\VRel g' v' v/\Z2 g' H' n w'/\Yv m g H w g' H' w'/\K H' v':=by
 unfold Hg at h;split at h;case h_2=>exact h.elim
 rename_i id;split at h;case h_2=>exact h.elim
 rename_i mi c seen la d7;split at h;case h_2=>exact h.elim
 rename_i es clk hm;obtain⟨hclk,k1,k2,k3⟩:=h;obtain⟨L,hL,hl,rfl⟩:=hx;obtain⟨L',Lm,hL',hl',hh',hb,hLm,hc⟩:=R.obj id _ d7;rw[hL]at hL';cases hL';obtain⟨Lm',es',hm1,hm2,hm3,hm4,hm5⟩:=R.obj mi _ hm;rw[hLm]at hm1;cases hm1;have hold:∀y∈es'.toList,y.born<c:=λy hy=>by
  obtain⟨e,he,_,_,q⟩:=I7 es _ hm5 y hy;rw[q];exact k1 e he
 rcases Gv (P:=P) w ty L.blk Lm.blk c la seen.toArray es' clk hb hm4 hold hc with⟨p1,p2⟩|⟨e',t9,w1,hw1,p2⟩
 ·refine⟨_,w,g,H,.tup [.bool false],p2,⟨_,rfl,_,_,rfl,rfl,rfl⟩,R,Yv.refl _ _ _ _,k2 ?_⟩;refine List.filter_eq_nil_iff.2 λe he hs=>?_
  obtain⟨y,hy,q⟩:=KA es _ hm5 e he;have:y∈(leftOf es' seen.toArray).toList:=by simp_all [leftOf,Xb]
  have h0:(leftOf es' seen.toArray)= #[]:=Array.eq_empty_of_size_eq_zero p1;rw[h0]at this;simp at this
 ·have hmem:e'∈es'.toList/\¬e'.born∈seen:=by
   unfold leftOf at t9;rw[Array.toList_filter,Xb]at t9;exact⟨t9.1,by simpa using t9.2⟩
  obtain⟨e,he,q1,q2,q3⟩:=I7 es _ hm5 e' hmem.1;have hk:=k3 e (Xb.2 ⟨he,by rw[<-q3];simpa using hmem.2⟩);have hww:w1.heap=w.heap/\w1.os=w.os/\w1.tape=w.tape/\w1.output=w.output:=by rcases hw1 with rfl|rfl<;>exact⟨rfl,rfl,rfl,rfl⟩
  have hset:(w1.heap.setIfInBounds L.blk (.mapIter (some Lm.blk) c (seen.toArray.push e'.born) clk))[L.blk]?=some (.mapIter (some Lm.blk) c (seen++[e.2.2]).toArray clk):=by
   rw[hww.1,(heap_set hb).1,q3];simp
  obtain⟨r1,r2⟩:=R.upd (m:=m) (w':={w1 with heap:=w1.heap.setIfInBounds L.blk (.mapIter (some Lm.blk) c (seen.toArray.push e'.born) clk)}) (ob':=.mit mi c (seen++[e.2.2]) clk) d7 rfl hL hww.2.1 hww.2.2.1 hww.2.2.2 (by simp [hww.1]) (λb s9=>by rw[show({w1 with heap:=w1.heap.setIfInBounds L.blk (.mapIter (some Lm.blk) c (seen.toArray.push e'.born) clk)}:World).heap=w.heap.setIfInBounds L.blk (.mapIter (some Lm.blk) c (seen.toArray.push e'.born) clk)by rw[<-hww.1]];exact(heap_set hb).2 b s9) (.inr ⟨hl,hh',_,hb,zw⟩)
   ⟨L,Lm,hL,hl,hh',hset,hLm,hclk⟩
  exact⟨_,_,g,_,.tup [.bool true,e.1,e.2.1],p2,⟨_,rfl,_,_,rfl,rfl,_,_,rfl,q1,_,_,rfl,q2,rfl⟩,r1,r2,hk⟩
theorem KB(s:Nat):∀(es:List (Fs×Fs×Nat)) (es':List MapEntry),MRel g es es'->∀k v,K5 s es=some (k,v)->∃e,es'.find? (·.born==s)=some e/\VRel g k e.key/\VRel g v e.val
 |[],es',h,k,v,hm=>by cases hm
 |(k0,v0,b)::r,es',h,k,v,hm=>by
  obtain⟨e,es2,rfl,h1,h2,h3,h4⟩:=h
  rw[K5]at hm
  by_cases hb:b=s
  ·simp_all
  ·rw[V5 hb]at hm
   obtain⟨e2,q1,q2,q3⟩:=KB s r es2 h4 k v hm
   exact⟨e2,by
    rw[List.find?_cons];have:(e.born==s)=false:=by simpa [h3]using hb
    rw[this];exact q1,q2,q3⟩
theorem Nh(R:Z2 g H n w)(hx:VRel g av x)(h:(xE base .ment H [av]).1):
  (xE base .ment H [av]).2.1=H/\∃v,(Instr.entry x).run P w= .ok v w/\VRel g (xE base .ment H [av]).2.2 v:=by
 cases av<;>simp only[xE]at h<;>(try exact h.elim);rename_i id off;cases off with
 |succ o=>simp []at h
 |zero=>
  simp only[xE]at h⊢;cases ho:hget H id with
  |none=>rw[ho]at h;exact h.elim
  |some ob=>
   rw[ho]at h;cases ob<;>simp only[]at h<;>(try exact h.elim);rename_i mi c seen last;try simp only[]
   cases hs:Gj H mi seen with
   |none=>simp_all
   |some kv=>
    obtain⟨k,v⟩:=kv;rw[hs]at h;cases hm:hget H mi with
    |none=>rw[hm]at h;exact h.elim
    |some om=>
     rw[hm]at h;cases om<;>(try exact h.elim);rename_i es clk;have h:clk=last:=h;subst h;refine⟨rfl,?_⟩;unfold Gj at hs;rw[hm]at hs;try simp only[]at hs
     cases hl:seen.getLast? with
     |none=>rw[hl]at hs;cases hs
     |some s=>
      rw[hl]at hs;obtain⟨L,hL,l9,rfl⟩:=hx;obtain⟨L',Lm,hL',hl',hh',hb,hLm,hc⟩:=R.obj id _ ho;rw[hL]at hL';cases hL';obtain⟨Lm',es',hm1,hm2,hm3,hm4,hm5⟩:=R.obj mi _ hm;rw[hLm]at hm1;cases hm1;obtain⟨e,q1,q2,q3⟩:=KB s es _ hm5 k v hs;refine⟨.tuple #[e.key,e.val],?_,⟨_,rfl,_,_,rfl,q2,_,_,rfl,q3,rfl⟩⟩;have hback:seen.toArray.back?=some s:=by rw[Array.back?_eq_getElem?];simpa [List.getLast?_eq_getElem?]using hl
      have hfind:es'.find? (·.born==s)=some e:=by rw[<-Array.find?_toList];exact q1
      simp only[Instr.entry,getObj,Sem.run_bind,Sem.run,hb,hm4,Result.andThen,hback,bne_self_eq_false,W5,Wf,hfind];rfl
theorem I8{zero:Fs}{o:Option Fs}{z:Value}{b:Bool}(hz:VRel g zero z)(h:o=none/\x=z/\b=false\/∃v,o=some v/\VRel g v x/\b=true):
  VRel g (CQ zero ok o) (if ok=true then .tuple #[x,.bool b]else x):=by
 unfold CQ;rcases h with⟨rfl,rfl,rfl⟩|⟨v,rfl,hv,rfl⟩
 ·cases ok with
  |true=>exact⟨_,rfl,_,_,rfl,hz,_,_,rfl,rfl,rfl⟩
  |false=>exact hz
 ·cases ok with
  |true=>exact⟨_,rfl,_,_,rfl,hv,_,_,rfl,rfl,rfl⟩
  |false=>exact hv
theorem Ni(R:Z2 g H n w){kt:TypeId}{kk:KT}{z:Fs}(hu:P.underlying t=some (.map kt e))(hk:ktT P kt=some kk)(hz:Br P e=some z)(hx:VRel g mv x)(hy:VRel g k y)
  (h:(xE base (.look kk z ok) H [mv,k]).1):(xE base (.look kk z ok) H [mv,k]).2.1=H/\∃v,(Instr.lookup t x y ok).run P w= .ok v w/\VRel g (xE base (.look kk z ok) H [mv,k]).2.2 v:=by
 have hkd:=TN hk;obtain⟨i,zv,hi,hzz,hr,hzs,hl,hp0,hnt⟩:=BC hz;have hzrun:(zeroValue e).run P w= .ok zv w:=by simp [zeroValue,typeInfo,hi,hzz,Result.andThen]
 cases mv<;>simp only[xE]at h<;>(try exact h.elim);case mp id=>
  simp only[xE];cases ho:hget H id with
  |none=>rw[ho]at h;exact h.elim
  |some ob=>
   rw[ho]at h;cases ob<;>simp only[]at h<;>(try exact h.elim);rename_i es clock;obtain⟨h1,h2⟩:=h;obtain⟨L,hL,rfl⟩:=hx;obtain⟨L',es',hL',hl',hh',hb,hm'⟩:=R.obj id _ ho;rw[hL]at hL';cases hL';refine⟨rfl,?_⟩;have hkx:=λem=>Gu (w:=w) hkd h1 hy em
   rcases I6 (w:=w) hkd h1 hy es es'.toList h2 hm' with⟨p1,p2,p3⟩|⟨j,e2,v0,p1,p2,p3,p4,p5,p6⟩
   ·refine⟨if ok=true then .tuple #[zv,.bool false]else zv,?_,I8 (hr g) (.inl ⟨p1,rfl,rfl⟩)⟩;simp only[Instr.lookup,Sem.run_bind,run_underlying hu,Result.andThen_ok,MapKept.run_getObj_map hb,Sem.run_pure,hkx,p2,hzrun]
   ·refine⟨if ok=true then .tuple #[e2.val,.bool true]else e2.val,?_,I8 (hr g) (.inr ⟨v0,p1,p4,rfl⟩)⟩;simp only[Instr.lookup,Sem.run_bind,run_underlying hu,Result.andThen_ok,MapKept.run_getObj_map hb,Sem.run_pure,hkx,p3]
 case nilmp=>
  simp only[xE];have hx':x= .map none:=hx;subst hx';refine⟨trivial,if ok=true then .tuple #[zv,.bool false]else zv,?_,I8 (hr g) (.inl ⟨rfl,rfl,rfl⟩)⟩;have hkx:=λem=>Gu (w:=w) hkd h hy em
  have hf:(Instr.findKey kt y ([]:List MapEntry)).run P w= .ok none w:=by
   rcases I6 (w:=w) hkd h hy [] [] trivial rfl with⟨-,q,-⟩|⟨j,e,v0,q,-⟩
   ·exact q
   ·cases q
  simp only[Instr.lookup,Sem.run_bind,run_underlying hu,Result.andThen_ok,Sem.run_pure,hkx,hf,hzrun]
theorem Nj(R:Z2 g H n w){kt:TypeId}{kk:KT}{v:Fs}{z:Value}(hu:P.underlying t=some (.map kt e))(hk:ktT P kt=some kk)(hx:VRel g mv x)(hy:VRel g k y)(hv:VRel g v z)
  (h:(xE base (.mput kk) H [mv,k,v]).1):∃w',(Instr.mapUpdate t x y z).run P w= .ok () w'/\(xE base (.mput kk) H [mv,k,v]).2.2= .tup []/\Z2 g (xE base (.mput kk) H [mv,k,v]).2.1 n w'/\Yv m g H w g (xE base (.mput kk) H [mv,k,v]).2.1 w':=by
 have hkd:=TN hk;cases mv<;>simp only[xE]at h<;>(try exact h.elim);rename_i id;simp only[xE];cases ho:hget H id with
 |none=>rw[ho]at h;exact h.elim
 |some ob=>
  rw[ho]at h;cases ob<;>simp only[]at h<;>(try exact h.elim);rename_i es clock;obtain⟨h1,h2,-⟩:=h;obtain⟨L,hL,rfl⟩:=hx;obtain⟨L',es',hL',hl',hh',hb,hm'⟩:=R.obj id _ ho;rw[hL]at hL';cases hL';have hkx:=λem=>Gu (w:=w) hkd h1 hy em
  rcases I6 (w:=w) hkd h1 hy es es'.toList h2 hm' with⟨p1,p2,p3⟩|⟨j,e2,v0,p1,p2,p3,p4,p5,p6⟩
  ·obtain⟨r1,r2⟩:=LQ (m:=m) (ob':=.map (mset k v clock es) (clock+1)) (o':=.map (es'.push {key:=y,val:=z,born:=clock}) (clock+1)) R ho rfl hL hl' hh' hb zw
    ⟨L,_,hL,hl',hh',(heap_set hb).1,by rw[Array.toList_push];exact p3 v z clock hv⟩
   refine⟨_,?_,rfl,by simpa [p1]using r1,by simpa [p1]using r2⟩;simp only[Instr.mapUpdate,Sem.run_bind,run_underlying hu,Result.andThen_ok,MapKept.run_getObj_map hb,hkx,p2,run_setObj_map _ hb]
  ·have hj:es'[j]?=some e2:=by rw[<-WG];exact p2
   have hmod:(es'.modify j λe=>{e with key:=y,val:=z}).toList=es'.toList.set j {e2 with key:=y,val:=z}:=by simp_all [Array.toList_modify,List.modify_eq_set]
   obtain⟨r1,r2⟩:=LQ (m:=m) (ob':=.map (mset k v clock es) clock) (o':=.map (es'.modify j λe=>{e with key:=y,val:=z}) clock) R ho rfl hL hl' hh' hb zw
    ⟨L,_,hL,hl',hh',(heap_set hb).1,by rw[hmod];exact p6 v z clock hv⟩
   refine⟨_,?_,rfl,by simpa [p1]using r1,by simpa [p1]using r2⟩;have hkk:((es'[j]?).map (·.key)).getD y=y:=by rw[hj];exact p5
   simp only[Instr.mapUpdate,Sem.run_bind,run_underlying hu,Result.andThen_ok,MapKept.run_getObj_map hb,hkx,p3,hkk,Pu hkd h1 hy,run_setObj_map _ hb]
theorem Bx{d:TypeDesc}(hu:P.underlying t=some d)(x c:Value)(r:Bool)(h:match d,x,c with
   | .interface _,.nilIface,.nilIface=>r=true
   | .interface _,.iface _ _,.nilIface=>r=false
   | .pointer _,.pointer none,.pointer none=>r=true
   | .pointer _,.pointer (some _),.pointer none=>r=false
   | .func ..,.nilFunc,.nilFunc=>r=true
   | .func ..,.func ..,.nilFunc=>r=false
   |_,_,_=>False):(Op.equal t x c).run P w= .ok r w:=by
 rw[Op.equal,show Op.maxDepth=9999+1 from rfl,Op.equalIn];simp only[Sem.run_bind,run_underlying hu,Result.andThen_ok];split at h<;>first|exact h.elim|(subst h;rfl)
theorem DE{r:Bool}(hop:op= .eql\/op= .neq)(h1:eqGuard op t X (.const c) x c=pure ())(hx:∀k n,x≠ .int k n)(hf:∀k n,x≠ .float k n)(hc:∀k n m,x≠ .complex k n m)(hs:∀b,x≠ .string b)
  (h2:(Op.equal t x c).run P w= .ok r w):(do eqGuard op t X (.const c) x c;binOp op t x c:Sem Value).run P w= .ok (.bool (if op= .neq then !r else r)) w:=by
 rw[Sem.run_bind,h1];simp only[Sem.run_pure,Result.andThen_ok];rcases hop with rfl|rfl
 ·simp_all [binOp,Result.andThen]
 ·simp_all [binOp,Result.andThen]
theorem Nk{nq:Bool}{K:Bool->Prop}(hop:(op= .eql/\nq=false)\/(op= .neq/\nq=true))(hn:Na P t c=true)(hx:VRel g av x)(h:FU K nq av):
  ∃b,(do eqGuard op t X (.const c) x c;binOp op t x c:Sem Value).run P w= .ok (.bool b) w/\K b:=by
 have hop':op= .eql\/op= .neq:=hop.imp (·.1) (·.1);unfold Na at hn;split at hn;case h_2=>cases hn
 rename_i e cl cc hu;have fin:∀(r:Bool),(if op= .neq then !r else r)=(if nq=true then !r else r):=by grind
 have key:∀a n m,x= .slice a n m->(do eqGuard op t X (.const (.slice none cl cc)) x (.slice none cl cc);binOp op t x (.slice none cl cc):Sem Value).run P w= .ok (.bool (if nq=true then !a.isNone else a.isNone)) w:=by
  rintro a n m rfl;have he:(Op.equal t (.slice a n m) (.slice none cl cc)).run P w= .ok a.isNone w:=by
   rw[Op.equal,show Op.maxDepth=9999+1 from rfl,Op.equalIn];simp only[Sem.run_bind,run_underlying hu,Result.andThen_ok];cases a<;>rfl
  have:=DE (X:=X) hop' (eqGuard_at_slice ..) zw zw zw zw he;rw[fin]at this;exact this
 unfold FU at h;split at h
 ·rename_i s0;rcases hx with⟨_,rfl,_⟩|⟨hf,_⟩
  ·exact⟨_,key none 0 0 rfl,by cases nq<;>exact h⟩
  ·exact hf.elim
 ·rcases hx with⟨_,rfl,_⟩|⟨_,b,o,cap,⟨sp,rfl,_⟩,_⟩
  ·exact⟨_,key none 0 0 rfl,by cases nq<;>first|exact h.1|exact h.2⟩
  ·exact⟨_,key _ _ _ rfl,by cases nq<;>first|exact h.1|exact h.2⟩
 ·rcases hx with⟨q,_⟩|⟨_,b,o,cap,⟨sp,rfl,_⟩,_⟩
  ·cases q
  ·exact⟨_,key _ _ _ rfl,by cases nq<;>exact h⟩
 ·obtain⟨L,_,_,rfl⟩:=hx;exact⟨_,key _ _ _ rfl,by cases nq<;>exact h⟩
 ·exact h.elim
theorem LS{nq:Bool}{kd:Nat}(hop:(op= .eql/\nq=false)\/(op= .neq/\nq=true))(hn:nilT P t c=some kd)(hx:VRel g av x)(h:(xE base (.nileq kd nq) H [av]).1):
  (xE base (.nileq kd nq) H [av]).2.1=H/\∃v,(do eqGuard op t X (.const c) x c;binOp op t x c:Sem Value).run P w= .ok v w/\VRel g (xE base (.nileq kd nq) H [av]).2.2 v:=by
 have hop':op= .eql\/op= .neq:=hop.imp (·.1) (·.1);have fin:∀(r:Bool),(if op= .neq then !r else r)=(if nq=true then !r else r):=by grind
 unfold nilT at hn;split at hn
 ·rename_i ms hu;cases hn;cases av<;>simp only[xE]at h<;>(try exact h.elim)
  ·obtain⟨z,rfl,_⟩:=hx;exact⟨rfl,_,DE (r:=false) hop' (eqGuard_at_iface ..) zw zw zw zw (Bx hu _ _ _ rfl),by rw[fin];simp [xE,VRel]⟩
  ·have hx':x= .nilIface:=hx;subst hx';exact⟨rfl,_,DE (r:=true) hop' (eqGuard_nil_constR ..) zw zw zw zw (Bx hu _ _ _ rfl),by rw[fin];cases nq<;>simp [xE,VRel]⟩
 ·rename_i e hu;cases hn;have hp:∃a,x= .pointer a/\(xE base (.nileq 1 nq) H [av])=(True,H,.bool (if nq=true then !a.isNone else a.isNone)):=by
   cases av<;>simp only[xE]at h<;>(try exact h.elim)<;>simp only[VRel]at hx
   ·exact⟨_,hx,by cases nq<;>simp [xE]⟩
   ·obtain⟨L,_,_,hx⟩:=hx;exact⟨_,hx,by cases nq<;>simp [xE]⟩
   ·obtain⟨b,o,hx,_⟩:=hx;exact⟨_,hx,by cases nq<;>simp [xE]⟩
   ·exact⟨_,hx,by cases nq<;>simp [xE]⟩
   ·obtain⟨L,_,_,hx⟩:=hx;exact⟨_,hx,by cases nq<;>simp [xE]⟩
   ·obtain⟨a,hx⟩:=hx;exact⟨_,hx,by cases nq<;>simp [xE]⟩
  obtain⟨a,rfl,he⟩:=hp;rw[he];cases a with
  |none=>exact⟨rfl,_,DE (r:=true) hop' (eqGuard_at_pointer ..) zw zw zw zw (Bx hu _ _ _ rfl),by rw[fin];cases nq<;>simp [VRel]⟩
  |some a=>exact⟨rfl,_,DE (r:=false) hop' (eqGuard_at_pointer ..) zw zw zw zw (Bx hu _ _ _ rfl),by rw[fin];cases nq<;>simp [VRel]⟩
 ·rename_i ps rs vd hu;cases hn;cases av<;>simp only[xE]at h<;>(try exact h.elim)
  ·obtain⟨x',c',rfl,_,_⟩:=hx;exact⟨rfl,_,DE (r:=false) hop' (eqGuard_at_func ..) zw zw zw zw (Bx hu _ _ _ rfl),by rw[fin];cases nq<;>simp [xE,VRel]⟩
  ·have hx':x= .nilFunc:=hx;subst hx';exact⟨rfl,_,DE (r:=true) hop' (eqGuard_at_nilFunc ..) zw zw zw zw (Bx hu _ _ _ rfl),by rw[fin];cases nq<;>simp [xE,VRel]⟩
 ·cases hn
theorem Py{xt:TypeId}{z:Fs}(hi:PR P t=false)(hz:Br P t=some z)(hx:VRel g av x)(h:(xE base (.tas t ok z) H [av]).1):
  (xE base (.tas t ok z) H [av]).2.1=H/\∃v,(Instr.typeAssert x xt t ok).run P w= .ok v w/\VRel g (xE base (.tas t ok z) H [av]).2.2 v:=by
 obtain⟨i,zv,hinf,hzz,hr,hzs,hl,hp0,hnt⟩:=BC hz;have hzrun:(zeroValue t).run P w= .ok zv w:=by simp [zeroValue,typeInfo,hinf,hzz,Result.andThen]
 unfold PR at hi;split at hi
 ·cases hi
 ·cases hi
 rename_i hne1 hne2;obtain⟨d,hu⟩:∃d,P.underlying t=some d:=by
  cases hh:P.underlying t with
  |none=>exact absurd hh hne2
  |some d=>exact⟨d,rfl⟩
 have hd:∀ms,d≠ .interface ms:=λms e=>by subst e;exact hne1 ms hu
 cases av<;>cases ok<;>simp only[xE]at h⊢ <;>(try exact h.elim)
 ·obtain⟨y,rfl,hy⟩:=hx;subst h;refine⟨trivial,y,?_,hy⟩;cases d<;>first|exact absurd rfl (hd _)|simp [Instr.typeAssert,run_underlying hu,Result.andThen]
 ·obtain⟨y,rfl,hy⟩:=hx;rename_i t' v';by_cases e:t'=t
  ·subst e;refine⟨trivial,.tuple #[y,.bool true],?_,by simp only[WB];exact⟨_,rfl,_,_,rfl,hy,_,_,rfl,rfl,rfl⟩⟩;cases d<;>first|exact absurd rfl (hd _)|simp [Instr.typeAssert,run_underlying hu,Result.andThen]
  ·refine⟨trivial,.tuple #[zv,.bool false],?_,by simp only[e,Wf];exact⟨_,rfl,_,_,rfl,hr g,_,_,rfl,rfl,rfl⟩⟩;cases d<;>first|exact absurd rfl (hd _)|simp [Instr.typeAssert,run_underlying hu,Result.andThen,e,hzrun]
 ·have hx':x= .nilIface:=hx;subst hx';refine⟨trivial,.tuple #[zv,.bool false],?_,⟨_,rfl,_,_,rfl,hr g,_,_,rfl,rfl,rfl⟩⟩;cases d<;>first|exact absurd rfl (hd _)|simp [Instr.typeAssert,run_underlying hu,Result.andThen,hzrun]
theorem Gw:∀(es:List (Fs×Fs×Nat)) (es':List MapEntry),MRel g es es'->es'.length=es.length
 |[],es',h=>by have h0:es'=[]:=h;subst h0;rfl
 |(k,v,b)::r,es',h=>by
  obtain⟨e,es2,rfl,_,_,_,h4⟩:=h;simp [Gw r es2 h4]
theorem Nl(R:Z2 g H n w){kt:TypeId}{ty:TypeId}(hu:P.underlying t=some (.map kt e))(hx:VRel g mv x)(h:(xE base .mlen H [mv]).1):
  (xE base .mlen H [mv]).2.1=H/\∃v,(Builtin.len_ #[t] ty #[x]).run P w= .ok v w/\VRel g (xE base .mlen H [mv]).2.2 v:=by
 cases mv<;>simp only[xE]at h<;>(try exact h.elim);case mp id=>
  simp only[xE];cases ho:hget H id with
  |none=>rw[ho]at h;exact h.elim
  |some ob=>
   rw[ho]at h;cases ob<;>simp only[]at h<;>(try exact h.elim);rename_i es clock;obtain⟨L,hL,rfl⟩:=hx;obtain⟨L',es',hL',hl',hh',hb,hm'⟩:=R.obj id _ ho;rw[hL]at hL';cases hL';have d6:=Gw es _ hm';simp only[Ws]at d6;refine⟨rfl,_,by simp only[Builtin.len_,List.getElem?_toArray,WU,Sem.run_bind,run_underlying hu,Result.andThen_ok,MapKept.run_getObj_map hb,Sem.run_pure];rfl,?_⟩;simp [VRel,goInt,d6]
 case nilmp=>
  simp only[xE];have hx':x= .map none:=hx;subst hx';refine⟨trivial,_,by simp only[Builtin.len_,List.getElem?_toArray,WU,Sem.run_bind,run_underlying hu,Result.andThen_ok,Sem.run_pure];rfl,?_⟩;simp [VRel,goInt]
end
end Go.AM
namespace Go.AM
theorem Stab.place{g:Yx}{esz:Nat}{vs:List Value}{f:Nat->Option Value}{o:Nat}(h:∀(j:Nat) x,vs[j]?=some x->f (o+j)=some x):∀(l:List Fs) (p:Nat),Stab g esz (λj=>vs[j]?) p l->Stab g esz f (o+p) l
 |[],_,_=>trivial
 |e::l,p,⟨⟨u,q1,q2,q3⟩,q4⟩=>⟨⟨u,q1,q2,λj x hx=>by rw[Nat.add_assoc];exact h _ _ (q3 j x hx)⟩,by
   have:=Stab.place h l (p+esz) q4
   rwa[<-Nat.add_assoc]at this⟩
section
variable {P:Program} {g:Yx} {H:AC} {n m:Nat} {w:World}
theorem KC(R:Z2 g H n w){e:TypeId}{i:TypeInfo}{za:Fs}(hi:P.info? e=some i)(hza:Br P e=some za){z:Value}(hzz0:i.zero=some z)
  {lo l':List Fs} {olds news:List Value} (s1:news.length=l'.length*i.size) (s3:Stab g i.size (λo=>news[o]?) 0 l') {id:Nat} (h0:hget H id=none) (d7:id<n) (hm:m<=id)
  (o2:olds.length=lo.length*i.size) (o3:Stab g i.size (λo=>olds[o]?) 0 lo) {cap:Nat} (hge:lo.length+l'.length<=cap) {act:Sem Value}
  (hrun:act.run P w= .ok (.slice (some ⟨w.heap.size,0,none⟩) (lo.length+l'.length) cap) (w.drew.alloc (.cells (olds.toArray++news.toArray++Builtin.zeroCells z.cells (cap-(lo.length+l'.length))) e))):
  ∃v w' g',act.run P w= .ok v w'/\VRel g' (.ref id i.size 0 (lo.length+l'.length) cap) v/\
   Z2 g' (hset H id (.arr i.size (lo++l'++List.replicate (cap-(lo.length+l'.length)) za))) n w'/\Yv m g H w g' (hset H id (.arr i.size (lo++l'++List.replicate (cap-(lo.length+l'.length)) za))) w':=by
 obtain⟨i',z',i8,hzz,hr,hzs,hl,hpos,hnt⟩:=BC hza;rw[hi]at i8;cases i8;rw[hzz0]at hzz;cases hzz;generalize hcs:(olds.toArray++news.toArray++Builtin.zeroCells z.cells (cap-(lo.length+l'.length)):Array Value)=cs at hrun;have hmul:(lo.length+l'.length)*i.size+(cap-(lo.length+l'.length))*i.size=cap*i.size:=by rw[<-WO];congr 1;omega
 have hcsz:cs.size=cap*i.size:=by grind [Array.size_append,List.size_toArray,size_zeroCells,Nat.add_mul]
 have ecs:cs.toList=olds++(news++(madeCells z.cells ((cap-(lo.length+l'.length))*z.cells.size)).toList):=by
  subst hcs;simp only[Array.toList_append,Wb];rfl
 have q1:∀(j:Nat) x,olds[j]?=some x->cs[0+j]?=some x:=by grind
 have q2:∀(j:Nat) x,news[j]?=some x->cs[lo.length*i.size+j]?=some x:=λj x hx=>by
  rw[<-WG,ecs,WF (by rw[o2];omega),show lo.length*i.size+j-olds.length=j by rw[o2];omega,WI (WN.1 hx).1];exact hx
 have q3:∀a,a<cap-(lo.length+l'.length)->∀(j:Nat) x,z.cells[j]?=some x->cs[(lo.length+l'.length)*i.size+a*i.size+j]?=some x:=by
  intro a ha j x hx;have h1:=Bw (z:=z.cells) (k:=cap-(lo.length+l'.length)) ha hx;have e2:(lo.length+l'.length)*i.size+a*i.size+j=olds.length+(news.length+(a*i.size+j)):=by rw[o2,s1,WO];omega
  rw[<-WG,ecs,e2,WF (Wx _ _),Nat.add_sub_cancel_left,WF (Wx _ _),Nat.add_sub_cancel_left,WG];rw[hzs]at h1⊢;exact h1
 have hnewb:(w.drew.alloc (.cells cs e)).heap[w.heap.size]?=some (.cells cs e (0,0)):=by show(w.heap.push _)[w.heap.size]?=_;simp
 obtain⟨r1,r2,r3⟩:=R.new (m:=m) (w':=w.drew.alloc (.cells cs e)) (x:=.cells cs e) rfl rfl rfl rfl h0 d7 hm (L:=⟨w.heap.size,0,cap*i.size⟩) rfl (ob:=.arr i.size (lo++l'++List.replicate (cap-(lo.length+l'.length)) za)) (by
  have hb0:g.β id=none:=by
   cases hb:g.β id with
   |none=>rfl
   |some L'=>exact absurd h0 (R.dom id L' hb).1
  have hle:g.le ⟨λk=>if k=id then some ⟨w.heap.size,0,cap*i.size⟩else g.β k,g.σ⟩:=⟨λk L' h=>by
   show(if k=id then _ else g.β k)=some L';rw[V5 (by rintro rfl;rw[hb0]at h;cases h)];exact h,λ_ _ _ h=>h⟩
  refine⟨⟨w.heap.size,0,cap*i.size⟩,cs,e,zw,rfl,hcsz.symm,hnewb,?_,?_⟩
  ·grind
  ·refine Stab.mono (f:=λj=>cs[j]?) hle (λ_ _ h=>h) _ _ _ ?_;refine Stab.append _ _ 0 (Stab.append _ _ 0 ?_ ?_) ?_
   ·exact Stab.place (o:=0) q1 lo 0 o3
   ·have:=Stab.place (f:=λj=>cs[j]?) (o:=lo.length*i.size) q2 l' 0 s3
    rwa[Xw,<-Wr (lo.length*i.size)]at this
   ·refine Stab.replicate (hr _) ⟨hzs,(hr ⟨λ_=>none,λ_ _=>none⟩).one hnt⟩ _ _ λa ha j x hx=>?_
    have:=q3 a ha j x hx;simpa using this)
 exact⟨_,_,_,hrun,⟨⟨w.heap.size,0,cap*i.size⟩,zw,rfl,zw⟩,r1,r2⟩
theorem Ei(R:Z2 g H n w){t u ty e:TypeId}{i:TypeInfo}{du:TypeDesc}{za:Fs}(ht:P.underlying t=some (.slice e))(hu:P.underlying u=some du)(hdu:∀k,du≠ .int k)(hi:P.info? e=some i)(hza:Br P e=some za)
  {lo l':List Fs} {y:Value} {sCap:Nat} {base:Option Addr} {olds:List Value} (hsrc:Src P g w i.size l' y) {id:Nat} (h0:hget H id=none) (d7:id<n) (hm:m<=id) (hsm:small (lo.length+l'.length) i.bytes) (hln:lo.length+l'.length<=35184372088832)
  (o2:olds.length=lo.length*i.size) (o3:Stab g i.size (λo=>olds[o]?) 0 lo) (o4:(Builtin.firstCells i.size lo.length (.slice base lo.length sCap)).run P w.drew= .ok olds.toArray w.drew) (hgt:sCap<lo.length+l'.length):
  ∃cap v w' g',lo.length+l'.length<=cap/\(Builtin.append_ #[t,u] ty #[.slice base lo.length sCap,y]).run P w= .ok v w'/\VRel g' (.ref id i.size 0 (lo.length+l'.length) cap) v/\
   Z2 g' (hset H id (.arr i.size (lo++l'++List.replicate (cap-(lo.length+l'.length)) za))) n w'/\Yv m g H w g' (hset H id (.arr i.size (lo++l'++List.replicate (cap-(lo.length+l'.length)) za))) w':=by
 obtain⟨i',z,i8,hzz,hr,hzs,hl,hpos,hnt⟩:=BC hza;rw[hi]at i8;cases i8;obtain⟨news,s1,s2,s3,s4⟩:=hsrc;obtain⟨c1,c2⟩:=s4 w rfl;obtain⟨d1,d2⟩:=s4 w.drew rfl;have hfit:Builtin.nextslicecap (lo.length+l'.length) sCap*i.bytes<=281474976710656:=growslice_fits hgt (by simp only[small]at hsm;omega);have hrun:=F9 (ty:=ty) ht hu hdu hi hzz c1 o4 d2 hgt hfit zo;have hge:lo.length+l'.length<=grownCap w (lo.length+l'.length) sCap e:=grownCap_ge _ _ _ _;obtain⟨v,w',g',p1,p2,p3,p4⟩:=KC (m:=m) R hi hza hzz s1 s3 h0 d7 hm o2 o3 hge hrun;exact⟨_,v,w',g',hge,p1,p2,p3,p4⟩
theorem Nm(R:Z2 g H n w){t u ty e:TypeId}{i:TypeInfo}{kn:IntKind}{za:Fs}(ht:P.underlying t=some (.slice e))(hu:P.underlying u=some (.int kn))(hi:P.info? e=some i)(hza:Br P e=some za)
  {av bv:Fs} {x y:Value} {K:AC->Fs->Prop} (hx:VRel g av x) (hy:VRel g bv y) {id:Nat} (d7:id<n) (hm:m<=id) (h:F6 H id i.size i.bytes za K av bv):
  ∃v w' g' H' v',(Builtin.append_ #[t,u] ty #[x,y]).run P w= .ok v w'/\VRel g' v' v/\Z2 g' H' n w'/\Yv m g H w g' H' w'/\K H' v':=by
 obtain⟨i',z,i8,hzz,hr,hzs,hl,hpos,hnt⟩:=BC hza;rw[hi]at i8;cases i8;unfold F6 at h;split at h;case h_2=>exact h.elim
 rename_i kq k;obtain⟨hk0,h⟩:=h;obtain⟨j,rfl⟩:=Int.eq_ofNat_of_zero_le hk0;simp only[Vy]at h;have hy':y= .int kq j:=hy;subst hy';have hx':x= .slice none 0 0:=by
  rcases hx with⟨-,e,-⟩|⟨q,-⟩
  ·exact e
  ·exact q.elim
 subst hx';simp only[DQ,Wq,Wj,Wr,Wi]at h;obtain⟨h0,h1,h2,-,hsm,hln,k1,k2⟩:=h;by_cases hj:j=0
 ·subst hj;refine⟨.slice none 0 0,w,g,H,.sl .nil [],?_,hx,R,Yv.refl _ _ _ _,k1 rfl⟩;simp [Builtin.append_,run_underlying ht,run_underlying hu,sizeOf,typeInfo,hi,asInt,asIntOf,IntKind.wrap_i64]
 ·have hb:j*i.bytes<=35184372088832:=hsm;have hrun:=Go.Lib.run_append_grow_zeros (P:=P) w t u ty e i z kq kn ht hu hi hzz none 0 0 [] (by simp [Builtin.firstCells]) j zo (Nat.pos_of_ne_zero hpos) zo zo zo (growslice_fits zo (by simp only[Wr];omega));have hge:([]:List Fs).length+(List.replicate j za).length<=grownCap w (0+j) 0 e:=by simpa using grownCap_ge w (0+j) 0 e
  have hsz:(Builtin.zeroCells z.cells j).size=j*i.size:=by rw[size_zeroCells,hzs]
  obtain⟨v,w',g',p1,p2,p3,p4⟩:=KC (m:=m) (lo:=[]) (l':=List.replicate j za) (olds:=[]) (news:=(Builtin.zeroCells z.cells j).toList) R hi hza hzz (by simpa using hsz) (by
   refine Stab.replicate (hr _) ⟨hzs,(hr ⟨λ_=>none,λ_ _=>none⟩).one hnt⟩ _ _ λa ha o x hx=>?_
   have:=Bw (z:=z.cells) (k:=j) ha hx;rw[hzs]at this;rw[Wr,WG];show(madeCells z.cells (j*z.cells.size))[a*i.size+o]?=some x;rw[hzs];exact this) h0 d7 hm zw trivial hge (act:=Builtin.append_ #[t,u] ty #[.slice none 0 0,.int kq j]) (by simpa using hrun)
  simp only[Wq,Wj,Wr,Wi]at p2 p3 p4;exact⟨v,w',g',_,_,p1,p2,p3,p4,k2 (by simp [List.replicate_eq_nil_iff,hj]) _ (by simpa using hge)⟩
theorem R5{esz:Nat}{b:Nat}{c:Array Value}{e:TypeId}{l:List Fs}{len cap:Nat}(hb:w.heap[b]?=some (.cells c e (0,0)))(hst:Stab g esz (λo=>c[o]?) 0 l)(hl:len<=l.length):
  ∃olds:List Value,olds.length=(l.take len).length*esz/\Stab g esz (λo=>olds[o]?) 0 (l.take len)/\(Builtin.firstCells esz (l.take len).length (.slice (some ⟨b,0,none⟩) (l.take len).length cap)).run P w.drew= .ok olds.toArray w.drew:=by
 obtain⟨vs,v1,v2,v3,v4⟩:=(Stab.take len _ _ hst).list;refine⟨vs,v1,v4,run_firstCells_some (P:=P) w.drew esz _ ⟨b,0,none⟩ _ cap vs v1 λj v hv=>?_⟩;rw[BF];have hb':w.drew.heap[b]?=some (.cells c e (0,0)):=hb;rw[An hb'];exact v2 j v hv
theorem Nn(R:Z2 g H n w){t u ty e:TypeId}{i:TypeInfo}{du:TypeDesc}{za:Fs}(ht:P.underlying t=some (.slice e))(hu:P.underlying u=some du)(hdu:∀k,du≠ .int k)(hi:P.info? e=some i)(hza:Br P e=some za)
  {av:Fs} {bv:Option (List Fs)} {x y:Value} {K:AC->Fs->Prop} (hx:VRel g av x) (hsrc:∀l',bv=some l'->Src P g w i.size l' y) {id:Nat} (d7:id<n) (hm:m<=id) (h:DQ H id i.size i.bytes za K av bv):
  ∃v w' g' H' v',(Builtin.append_ #[t,u] ty #[x,y]).run P w= .ok v w'/\VRel g' v' v/\Z2 g' H' n w'/\Yv m g H w g' H' w'/\K H' v':=by
 obtain⟨i',z,i8,hzz,hr,hzs,hl,hpos,hnt⟩:=BC hza;rw[hi]at i8;cases i8;unfold DQ at h;split at h;case h_3=>exact h.elim
 case h_1 tok l l'=>
  obtain⟨h0,h1,h2,c7,hsm,hln,k1,k2⟩:=h;have hs:=hsrc l' rfl;by_cases l9:l'=[]
  ·subst l9;obtain⟨news,s1,s2,s3,s4⟩:=hs;obtain⟨c1,c2⟩:=s4 w rfl;have hn0:news=[]:=Wv (by rw[s1];simp);subst hn0;have hx':=hx;rcases hx with⟨rfl,rfl,m5⟩|⟨htok,b,o,cap,⟨sp,rfl,hsp⟩,hcap,hst,hk⟩
   ·have hrun:=B8 (ty:=ty) (w:=w) (base:=none) (sLen:=0) (sCap:=0) ht hu hdu hi hzz c1 c2 zw;exact⟨_,_,g,H,_,hrun,hx',R,Yv.refl _ _ _ _,k1 rfl⟩
   ·have hrun:=B8 (ty:=ty) (w:=w) (base:=some ⟨b,o,sp⟩) (sLen:=l.length) (sCap:=cap) ht hu hdu hi hzz c1 c2 (by simpa using hcap);simp only[storeCells,Sem.run_pure,Result.andThen_ok,Wq,Xw]at hrun;exact⟨_,_,g,H,_,hrun,hx',R,Yv.refl _ _ _ _,k1 rfl⟩
  ·have hpos':0<l'.length:=by cases l' with|nil=>exact absurd rfl l9|cons _ _=>simp
   rcases hx with⟨rfl,rfl,m5⟩|⟨htok,b,o,cap,⟨sp,rfl,hsp⟩,hcap,hst,hk⟩
   ·obtain⟨cap,v,w',g',e1,e2,e3,e4,e5⟩:=Ei (m:=m) (ty:=ty) (lo:=[]) (base:=none) (sCap:=0) (olds:=[]) R ht hu hdu hi hza hs h0 d7 hm hsm hln zw trivial (by simp [Builtin.firstCells]) (by simpa using hpos');exact⟨v,w',g',_,_,e2,e3,e4,e5,k2 l9 cap e1⟩
   ·have m5:tok= .exact i.size:=by
     rcases c7 with rfl|rfl
     ·exact htok.elim
     ·rfl
    subst m5;by_cases hodd:sp=none;case neg=>
     obtain⟨rfl,hq⟩:=hsp.resolve_left hodd;have hc0:cap=0:=by
      rcases hq with q|⟨e',q⟩
      ·exact q
      ·cases q
     subst hc0;obtain⟨cap',v,w',g',e1,e2,e3,e4,e5⟩:=Ei (m:=m) (ty:=ty) (lo:=[]) (base:=some ⟨b,o,sp⟩) (sCap:=0) (olds:=[]) R ht hu hdu hi hza hs h0 d7 hm hsm hln zw trivial (by simpa using run_firstCells_some (P:=P) w.drew i.size 0 ⟨b,o,sp⟩ 0 0 [] zw zw) (by simpa using hpos');exact⟨v,w',g',_,_,e2,e3,e4,e5,k2 l9 cap' e1⟩
    subst hodd;simp only[Zd.esz]at hst;simp only[]at hk;obtain⟨vs,v1,v2,v3,v4⟩:=hst.list;obtain⟨cap',v,w',g',e1,e2,e3,e4,e5⟩:=Ei (m:=m) (ty:=ty) (lo:=l) (base:=some ⟨b,o,none⟩) (sCap:=cap) (olds:=vs) R ht hu hdu hi hza hs h0 d7 hm hsm hln v1 v4
     (run_firstCells_some (P:=P) w.drew i.size l.length ⟨b,o,none⟩ l.length cap vs v1 (λj v hv=>by rw[BF];exact R.σw _ _ _ (v2 j v hv))) zo
    exact⟨v,w',g',_,_,e2,e3,e4,e5,k2 l9 cap' e1⟩
 case h_2 i0 e0 off len cap l'=>
  obtain⟨h0,h1,h2,rfl,rfl,hsm,hln,o7⟩:=h;split at o7;case h_2=>exact o7.elim
  rename_i e' l ho;obtain⟨rfl,hlc,hle,k1,k2⟩:=o7;have hs:=hsrc l' rfl;obtain⟨L,hL,l9,rfl⟩:=hx;obtain⟨L',c,ee,j1,j2,j3,j4,j5,j6⟩:=R.obj i0 _ ho;rw[hL]at j1;cases j1;have htl:(l.take len).length=len:=by simp;omega
  simp only[XD];by_cases hroom:len+l'.length<=cap
  ·obtain⟨news,s1,s2,s3,s4⟩:=hs;obtain⟨c1,c2⟩:=s4 w rfl;have hrun:=B8 (ty:=ty) (w:=w) (base:=some ⟨L.blk,0,none⟩) (sLen:=len) (sCap:=cap) ht hu hdu hi hzz c1 c2 hroom;simp only[BF,Wr]at hrun;have hmul:len*i.size+l'.length*i.size<=cap*i.size:=by rw[<-WO];exact Xl _ hroom
   have hcsz:c.size=cap*i.size:=by rw[<-j5,hlc]
   have hst:=run_storeCells_at (P:=P) L.blk (len*i.size) ee news 0 c w j4 (by rw[s1];omega) s2;simp only[Xw]at hst;generalize hc':(c.toList.take (len*i.size)++news++c.toList.drop (len*i.size+news.length)).toArray=c' at hst;have hsz':c'.size=c.size:=by subst hc';simp;omega
   have q1:∀j,j<len*i.size->c'[j]?=c[j]?:=by
    intro j hj;subst hc';rw[<-WG];simp only[];rw[Wb,WI (by simp;omega),List.getElem?_take_of_lt hj,WG]
   have q2:∀(j:Nat) x,news[j]?=some x->c'[len*i.size+j]?=some x:=by
    intro j x hx;have hj:=(WN.1 hx).1;subst hc';rw[<-WG];simp only[];rw[Wb,WF (by simp;omega),WI (by simp;omega)];rw[<-hx];congr 1;simp;omega
   have q3:∀j,(len+l'.length)*i.size<=j->c'[j]?=c[j]?:=by
    intro j hj;rw[WO]at hj;subst hc';rw[<-WG];simp only[];rw[WF (by simp;omega),Ys,WG];congr 1;simp;omega
   have hob:ORel g (w.setRow L.blk c') i0 (.arr i.size (l.take len++l'++l.drop (len+l'.length))):=by
    refine⟨L,c',ee,hL,l9,by rw[j3,hsz'],setRow_heap w L.blk c c' ee (0,0) j4,?_,?_⟩
    ·grind
    ·refine Stab.append _ _ 0 (Stab.append _ _ 0 ?_ ?_) ?_
     ·refine Stab.eq _ 0 (λj _ hj=>?_) (Stab.take len _ _ j6);rw[htl,Wr]at hj;exact q1 j hj
     ·have:=Stab.place (f:=λj=>c'[j]?) (o:=len*i.size) q2 l' 0 s3
      rwa[Xw,<-Wr (len*i.size),<-htl]at this
     ·have hd:=Stab.drop (len+l'.length) _ _ j6;simp only[V9,htl,Wr]at hd⊢;exact Stab.eq _ _ (λj hj _=>q3 j hj) hd
   obtain⟨r1,r2⟩:=Gt (m:=m) R ho rfl hL j4 hsz' (λo ho'=>by
    rcases ho' with h|h
    ·rw[l9]at h;omega
    ·rw[j3]at h;rw[Xj zo,Xj zo]) hob
   simp only[hst,Result.andThen_ok]at hrun;exact⟨_,_,g,_,.ref i0 i.size 0 (len+l'.length) cap,hrun,⟨L,hL,l9,zw⟩,r1,r2,k1 hroom⟩
  ·obtain⟨olds,o2,o3,o4⟩:=R5 (P:=P) (cap:=cap) j4 j6 (len:=len) zo;rw[htl]at o4;obtain⟨cap',v,w',g',e1,e2,e3,e4,e5⟩:=Ei (m:=m) (ty:=ty) (lo:=l.take len) (base:=some ⟨L.blk,0,none⟩) (sCap:=cap) (olds:=olds) R ht hu hdu hi hza hs h0 d7 hm (by rw[htl];exact hsm) (by rw[htl];exact hln) o2 o3 (by rw[htl];exact o4) (by rw[htl];omega);rw[htl]at e1 e2 e3 e4 e5;exact⟨v,w',g',_,_,e2,e3,e4,e5,k2 zo cap' e1⟩
theorem Pz(esz:Nat):∀(n:Nat) (cs:List Fs),(grp esz n cs).length=n
 |0,_=>rfl
 |n+1,cs=>by rw[grp,Vz,Pz esz n]
theorem PStab.dropO{g:Yx}{f:Nat->Option Value}:∀(cs:List Fs) (o k:Nat),PStab g f o cs->PStab g f (o+k) (cs.drop k)
 |[],o,k,_=>by rw[List.drop_nil];trivial
 |a::cs,o,0,h=>h
 |a::cs,o,k+1,h=>by
  rw[List.drop_succ_cons,show o+(k+1)=o+1+k by omega];exact PStab.dropO cs (o+1) k h.2
theorem PStab.vals{g:Yx}{f:Nat->Option Value}:∀(cs:List Fs) (o k:Nat),PStab g f o cs->k<=cs.length->∃vs:List Value,vs.length=k/\VRels g (cs.take k) vs/\(∀v∈vs,v.oneCell'=true)/\∀(j:Nat) x,vs[j]?=some x->f (o+j)=some x
 |cs,o,0,_,_=>⟨[],rfl,rfl,zw,zw⟩
 |[],o,k+1,_,h=>by simp at h
 |a::cs,o,k+1,h,hk=>by
  obtain⟨⟨x,h1,h2,h3⟩,h4⟩:=h;obtain⟨vs,q1,q2,q3,q4⟩:=PStab.vals cs (o+1) k h4 (by simpa using hk);refine⟨x::vs,by simp [q1],⟨x,vs,rfl,h2,q2⟩,?_,λj y hy=>?_⟩
  ·simp_all
  ·grind
theorem PStab.grp{g:Yx}{f:Nat->Option Value}{esz:Nat}:∀(n:Nat) (cs:List Fs) (o:Nat),PStab g f o cs->cs.length=n*esz->Stab g esz f o (grp esz n cs)
 |0,_,_,_,_=>trivial
 |n+1,cs,o,h,hl=>by
  have hm:esz<=cs.length:=by rw[hl,WO];omega
  obtain⟨vs,q1,q2,q3,q4⟩:=PStab.vals cs o esz h hm;refine⟨⟨.agg vs.toArray,⟨vs.toArray,rfl,by simpa using q2,by simpa using q3⟩,⟨by simpa [Value.cells]using q1,by simpa [Value.cells]using q3⟩,λj x hx=>q4 j x (by simpa [Value.cells]using hx)⟩,?_⟩;exact PStab.grp n _ _ (PStab.dropO cs o esz h) (by rw[Wl,hl,WO];omega)
theorem P0{P:Program}{g:Yx}{H:AC}{n m:Nat}{w:World}(R:Z2 g H n w){t e:TypeId}{nn k:Nat}{x:Operand}{lo hi:Option Operand}{x':Yy}{l' h':Option Yy}{ρ:Operand->Value}{ρ':Yy->Fs}{base:Nat}
  (hu:P.underlying t=some (.array nn e)) (hsz:szT P e=some k) (hlo:DB lo=some l') (hhi:DB hi=some h') (hx:VRel g (ρ' x') (ρ x))
  (hv:∀y y',copd y=some y'->(l'=some y'\/h'=some y')->VRel g (ρ' y') (ρ y)) (h:(xE base (.slx nn k l'.isSome h'.isSome) H ((x'::(l'.toList++h'.toList)).map ρ')).1):
  ∃v,(Instr.sliceAt t (ρ x) (lo.map ρ) (hi.map ρ) none).run P w= .ok v w/\VRel g (xE base (.slx nn k l'.isSome h'.isSome) H ((x'::(l'.toList++h'.toList)).map ρ')).2.2 v/\
   Z2 g (xE base (.slx nn k l'.isSome h'.isSome) H ((x'::(l'.toList++h'.toList)).map ρ')).2.1 n w/\Yv m g H w g (xE base (.slx nn k l'.isSome h'.isSome) H ((x'::(l'.toList++h'.toList)).map ρ')).2.1 w:=by
 have red:bndI ρ' l'/\bndI ρ' h'/\xE base (.slx nn k l'.isSome h'.isSome) H ((x'::(l'.toList++h'.toList)).map ρ')=slxE H nn k (bnd ρ' 0 l') (bnd ρ' nn h') (ρ' x'):=by
  cases l' with
  |none=>cases h' with
   |none=>exact⟨trivial,trivial,rfl⟩
   |some b=>
    simp only[Option.isSome,Option.toList,Wi,W6,Wh]at h⊢;generalize hb:ρ' b=bv at h;cases bv<;>(try exact h.elim);exact⟨trivial,by simp [bndI,hb,CP],by simp [bnd,hb,toI,xE]⟩
  |some a=>cases h' with
   |none=>
    simp only[Option.isSome,Option.toList,W9,W6,Wh]at h⊢;generalize ha:ρ' a=av at h;cases av<;>(try exact h.elim);exact⟨by simp [bndI,ha,CP],trivial,by simp [bnd,ha,toI,xE]⟩
   |some b=>
    simp only[Option.isSome,Option.toList,Ww,Wi,W6,Wh]at h⊢;generalize ha:ρ' a=av at h;generalize hb:ρ' b=bv at h;cases av<;>(try exact h.elim);cases bv<;>(try exact h.elim);exact⟨by simp [bndI,ha,CP],by simp [bndI,hb,CP],by simp [bnd,ha,hb,toI,xE]⟩
 obtain⟨b1,b2,he⟩:=red;rw[he]at h⊢;clear he;generalize ρ' x'=av at h hx;unfold slxE at h⊢;split at h;case h_2=>exact h.elim
 rename_i id;obtain⟨L,k1,k2,k3⟩:=hx;have main:∀lo0 hi0:Int,bnd ρ' 0 l'=lo0->bnd ρ' nn h'=hi0->0<=lo0->lo0<=hi0->hi0<=nn->lo0<nn->
   (Instr.sliceAt t (ρ x) (lo.map ρ) (hi.map ρ) none).run P w= .ok (.slice (some ⟨L.blk,lo0.toNat*k,none⟩) (hi0.toNat-lo0.toNat) (nn-lo0.toNat)) w:=by
  intro lo0 hi0 e1 e2 c1 c2 c3 c4;have hb:=B7 (P:=P) (g:=g) (w:=w) (isSlice:=false) (len:=nn) (cap:=nn) (ρ:=ρ) (ρ':=ρ') (mx:=none) (mx':=none) hlo hhi rfl (λy y' a b=>hv y y' a (by simpa using b)) b1 b2 trivial zw zo zo (by rw[Bn];omega) (by rw[Bn];exact Y7 _);rw[e1,e2,Bn]at hb;have hne:¬nn=lo0.toNat:=zo
  rw[k3];simp only[X4]at hb;simp only[Instr.sliceAt,Sem.run_bind,run_underlying hu,Result.andThen_ok,Instr.sureAddr,Sem.run_pure,hb,A8 hsz,BF,Vy,hne,Wf];simp
 cases ho:hget H id with
 |none=>rw[ho]at h;exact h.elim
 |some ob=>
  rw[ho]at h;cases ob<;>(try exact h.elim)
  ·rename_i cs;obtain⟨c0,c1,c2,c3,c4⟩:=h;obtain⟨L',c,e0,j1,j2,j3,j4,j5,j6⟩:=R.obj id _ ho;rw[k1]at j1;cases j1;obtain⟨r1,t1⟩:=R.upd (m:=m) (w':=w) (ob':=.arr k (grp k nn cs)) ho rfl k1 rfl rfl rfl rfl (λ_ _=>rfl) (.inl ⟨c,e0,(0,0),c,j4,j4,rfl,λ_ _=>rfl⟩)
    ⟨L,c,e0,k1,j2,by rw[j3,j5],j4,by rw[j5,Pz,c0],PStab.grp nn cs 0 j6 c0⟩
   exact⟨_,main _ _ rfl rfl c1 c2 c3 c4,⟨L,k1,k2,rfl⟩,r1,t1⟩
  ·rename_i e' cs;obtain⟨rfl,c0,c1,c2,c3,c4⟩:=h;exact⟨_,main _ _ rfl rfl c1 c2 c3 c4,⟨L,k1,k2,rfl⟩,R,Yv.refl _ _ _ _⟩
def SrcN(P:Program)(g:Yx)(w:World)(esz:Nat)(l':List Fs)(y:Value):Prop:=
 (Builtin.lenOf y).run P w= .ok l'.length w/\∀n,n<=l'.length->∃news:List Value,news.length=n*esz/\(∀v∈news,v.oneCell'=true)/\Stab g esz (λo=>news[o]?) 0 (l'.take n)/\(Builtin.firstCells esz n y).run P w= .ok news.toArray w
theorem U6(R:Z2 g H n w){esz:Nat}{tok:Zd}{l:List Fs}{y:Value}(h:VRel g (.sl tok l) y)(he:tok.esz=esz\/l.length=0):SrcN P g w esz l y:=by
 rcases h with⟨rfl,rfl,_⟩|⟨_,b,o,cap,⟨sp,rfl,hsp⟩,_,hst,_⟩
 ·refine⟨by simp [Builtin.lenOf],λn hn=>?_⟩;have:n=0:=by simpa using hn
  subst this;exact⟨[],zw,zw,trivial,by simp [Builtin.firstCells]⟩
 ·by_cases hl:l=[]
  ·subst hl;refine⟨by simp [Builtin.lenOf],λn hn=>?_⟩;have:n=0:=by simpa using hn
   subst this;have:=run_firstCells_some (P:=P) w esz 0 ⟨b,o,sp⟩ 0 cap [] zw zw;exact⟨[],zw,zw,trivial,by simpa using this⟩
  ·obtain rfl:sp=none:=hsp.resolve_right λq=>hl q.1
   have t9:tok.esz=esz:=he.resolve_right (by simpa using hl);rw[t9]at hst;refine⟨by simp [Builtin.lenOf],λn hn=>?_⟩;have htl:(l.take n).length=n:=by simp;omega
   obtain⟨vs,k1,k2,k3,k4⟩:=(Stab.take n _ _ hst).list;rw[htl]at k1;refine⟨vs,k1,k3,k4,?_⟩;exact run_firstCells_some (P:=P) w esz n ⟨b,o,none⟩ l.length cap vs k1 (λj v hv=>by rw[BF];exact R.σw _ _ _ (k2 j v hv))
theorem R6(R:Z2 g H n w){esz id off len cap:Nat}{l:List Fs}{y:Value}(h:VRel g (.ref id esz off len cap) y)(ho:hget H id=some (.arr esz l))(hl:off+len<=l.length):SrcN P g w esz ((l.drop off).take len) y:=by
 obtain⟨L,k1,k2,rfl⟩:=h;obtain⟨L',c,e,j1,j2,j3,j4,j5,j6⟩:=R.obj id _ ho;rw[k1]at j1;cases j1;have d6:((l.drop off).take len).length=len:=by simp;omega
 have hst:=Stab.take len _ _ (Stab.drop off _ _ j6);rw[Wr]at hst;refine⟨by simp [Builtin.lenOf,d6],λn hn=>?_⟩;have htl:(((l.drop off).take len).take n).length=n:=by rw[W0];omega
 obtain⟨vs,p1,p2,p3,p4⟩:=(Stab.take n _ _ hst).list;rw[htl]at p1;refine⟨vs,p1,p3,p4,?_⟩;refine run_firstCells_some (P:=P) w esz n ⟨L.blk,off*esz,none⟩ len cap vs p1 (λj v hv=>?_);rw[BF,An j4];exact p2 j v hv
theorem R7{s:List UInt8}{y:Value}(h:VRel g (.str s) y):SrcN P g w 1 (s.map λb=>.int .u8 b.toNat) y:=by
 have hy:y= .string ⟨s.toArray⟩:=h;subst hy;have hsz:ByteArray.size ⟨s.toArray⟩=s.length:=by show s.toArray.size=_;simp
 refine⟨by simp [Builtin.lenOf,hsz],λn hn=>?_⟩;simp only[V0]at hn;obtain⟨news,q1,q2,q3,q4⟩:=LP (P:=P) (g:=g) (w:=w) (s:=s.take n) (y:=.string ⟨(s.take n).toArray⟩) rfl;refine⟨news,?_,q2,?_,?_⟩
 ·rw[q1];simp;omega
 ·rw[<-XI];exact q3
 ·grind [Builtin.firstCells,List.length_map,List.length_take,Nat.min_eq_left,ByteArray.data_extract]
theorem srcV_n(R:Z2 g H n w){esz:Nat}{yv:Fs}{y:Value}{str:Bool}{l':List Fs}(h6:str=true->esz=1)(hvy:VRel g yv y)(hB:srcV H esz yv str=some l'):SrcN P g w esz l' y:=by
 cases str with
 |true=>
  simp only[srcV]at hB;cases yv<;>(try simp only[]at hB)<;>first|(cases hB;done)|skip
  cases hB;rw[h6 rfl];exact R7 hvy
 |false=>
  simp only[srcV]at hB;cases yv<;>(try simp only[]at hB)<;>first|(cases hB;done)|skip
  ·split at hB
   ·rename_i hc;cases hB;exact U6 R hvy hc
   ·cases hB
  ·split at hB
   ·rename_i ho;split at hB
    ·rename_i hc;obtain⟨c1,c2,c3⟩:=hc;subst c1;subst c2;cases hB;exact R6 R hvy ho c3
    ·cases hB
   ·cases hB
theorem KD(R:Z2 g H n w){t u ty e:TypeId}{i:TypeInfo}(ht:P.underlying t=some (.slice e))(hi:P.info? e=some i){av bv:Fs}{x y:Value}{str:Bool}(h6:str=true->i.size=1)(hx:VRel g av x)(hy:VRel g bv y){base:Nat}
  (h:(xE base (.cpy i.size str) H [av,bv]).1):
  ∃v w',(Builtin.copy_ #[t,u] ty #[x,y]).run P w= .ok v w'/\VRel g (xE base (.cpy i.size str) H [av,bv]).2.2 v/\Z2 g (xE base (.cpy i.size str) H [av,bv]).2.1 n w'/\Yv m g H w g (xE base (.cpy i.size str) H [av,bv]).2.1 w':=by
 cases av<;>simp only[xE]at h<;>(try exact h.elim);rename_i id e0 off len cap;simp only[xE];cases ho:hget H id with
 |none=>rw[ho]at h;exact h.elim
 |some ob=>
  rw[ho]at h;cases hs:srcV H i.size bv str with
  |none=>rw[hs]at h;cases ob<;>exact h.elim
  |some l'=>
   rw[hs]at h;cases ob<;>(try exact h.elim);rename_i e' l;obtain⟨rfl,rfl,hfit⟩:=h;obtain⟨c1,c2⟩:=srcV_n (P:=P) R h6 hy hs;generalize hk:min l'.length len=k;have hk1:k<=l'.length:=zo
   have hk2:k<=len:=zo
   obtain⟨news,s1,s2,s3,s4⟩:=c2 k hk1;have htl:(l'.take k).length=k:=by simp;omega
   obtain⟨L,hL,l9,rfl⟩:=hx;obtain⟨L',c,ee,j1,j2,j3,j4,j5,j6⟩:=R.obj id _ ho;rw[hL]at j1;cases j1;have hmul:off*i.size+k*i.size<=l.length*i.size:=by rw[<-WO];exact Xl _ zo
   have hst:=run_storeCells_at (P:=P) L.blk (off*i.size) ee news 0 c w j4 (by rw[s1];omega) s2;simp only[Xw]at hst;have hrun:(Builtin.copy_ #[t,u] ty #[.slice (some ⟨L.blk,off*i.size,none⟩) len cap,y]).run P w= .ok (goInt k) (w.setRow L.blk (c.toList.take (off*i.size)++news++c.toList.drop (off*i.size+news.length)).toArray):=by simp_all [Builtin.copy_,run_underlying,sizeOf,typeInfo,Result.andThen]
   generalize hc':(c.toList.take (off*i.size)++news++c.toList.drop (off*i.size+news.length)).toArray=c' at hrun;have hsz':c'.size=c.size:=by subst hc';simp;omega
   have q1:∀j,j<off*i.size->c'[j]?=c[j]?:=by grind
   have q2:∀(j:Nat) x,news[j]?=some x->c'[off*i.size+j]?=some x:=by grind
   have q3:∀j,(off+k)*i.size<=j->c'[j]?=c[j]?:=by
    intro j hj;rw[WO]at hj;subst hc';rw[<-WG];simp only[];rw[WF (by simp;omega),Ys,WG];congr 1;simp;omega
   have hof:(l.take off).length=off:=by simp;omega
   have hob:ORel g (w.setRow L.blk c') id (.arr i.size (l.take off++l'.take k++l.drop (off+k))):=by
    refine⟨L,c',ee,hL,l9,by rw[j3,hsz'],setRow_heap w L.blk c c' ee (0,0) j4,?_,?_⟩
    ·rw[hsz',<-j5];simp only[V9,hof,htl,Wl];congr 1;omega
    ·refine Stab.append _ _ 0 (Stab.append _ _ 0 ?_ ?_) ?_
     ·refine Stab.eq _ 0 (λj _ hj=>?_) (Stab.take off _ _ j6);rw[hof,Wr]at hj;exact q1 j hj
     ·have:=Stab.place (f:=λj=>c'[j]?) (o:=off*i.size) q2 (l'.take k) 0 s3
      rwa[Xw,<-Wr (off*i.size),<-hof]at this
     ·have hd:=Stab.drop (off+k) _ _ j6;simp only[V9,hof,htl,Wr]at hd⊢;exact Stab.eq _ _ (λj hj _=>q3 j hj) hd
   obtain⟨r1,r2⟩:=Gt (m:=m) R ho rfl hL j4 hsz' (λo ho'=>by
    rcases ho' with h|h
    ·rw[l9]at h;omega
    ·rw[j3]at h;rw[Xj zo,Xj zo]) hob
   subst hk;exact⟨_,_,hrun,rfl,r1,r2⟩
theorem Mg{cs:List Fs}{k:Nat}(h:cs.all isIn=true):(cs.drop k).all isIn=true:=W4.2 λx hx=>W4.1 h x (Y2 hx)
theorem Gx{cs:List Fs}{k:Nat}(h:cs.all isIn=true):(cs.take k).all isIn=true:=W4.2 λx hx=>W4.1 h x (Y1 hx)
theorem P1(R:Z2 g H n w){t u ty e:TypeId}{i:TypeInfo}(ht:P.underlying t=some (.slice e))(hi:P.info? e=some i)(h1:i.size=1){av bv:Fs}{x y:Value}(hx:VRel g av x)(hy:VRel g bv y){base:Nat}
  (h:(xE base .cpb H [av,bv]).1):
  ∃v w',(Builtin.copy_ #[t,u] ty #[x,y]).run P w= .ok v w'/\VRel g (xE base .cpb H [av,bv]).2.2 v/\Z2 g (xE base .cpb H [av,bv]).2.1 n w'/\Yv m g H w g (xE base .cpb H [av,bv]).2.1 w':=by
 simp only[xE]at h⊢;cases av<;>simp only[cpbE]at h<;>(try exact h.elim);cases bv<;>simp only[]at h<;>(try exact h.elim);rename_i id e1 off len cap id2 e2 off2 len2 cap2;simp only[cpbE];cases ho:hget H id with
 |none=>rw[ho]at h;exact h.elim
 |some ob=>
  rw[ho]at h;cases ob<;>(try exact h.elim);rename_i cs;obtain⟨rfl,rfl,rfl,h2,h3,h4⟩:=h;obtain⟨r1,t1⟩:=R.unbox (m:=m) ho;have hg:hget (hset H id2 (.arr 1 cs)) id2=some (.arr 1 cs):=AB ..;have hs:srcV (hset H id2 (.arr 1 cs)) 1 (.ref id2 1 off2 len2 cap2) false=some ((cs.drop off2).take len2):=by
   simp only[srcV,hg];rw[Vv ⟨trivial,trivial,h3⟩]
  have hl:((cs.drop off2).take len2).length=len2:=by simp;omega
  have hq:(xE base (.cpy i.size false) (hset H id2 (.arr 1 cs)) [.ref id2 1 off len cap,.ref id2 1 off2 len2 cap2])=(1=1/\1=1/\off+len<=cs.length,hset (hset H id2 (.arr 1 cs)) id2 (.arr 1 (cs.take off++((cs.drop off2).take len2).take (min len2 len)++cs.drop (off+min len2 len))),.int .i64 (min len2 len:Nat)):=by
   rw[h1];simp only[xE,hg,hs,hl]
  obtain⟨v,w',p1,p2,p3,p4⟩:=KD (m:=m) (P:=P) (u:=u) (ty:=ty) (base:=base) r1 ht hi (str:=false) (λq=>by cases q) hx hy (by rw[hq];exact⟨rfl,rfl,h2⟩);rw[hq]at p2 p3 p4;simp only[AD]at p3 p4;obtain⟨r2,t2⟩:=p3.rebox (m:=m) (AB ..) (by rw[List.all_append,List.all_append,Gx h4,Gx (Gx (Mg h4)),Mg h4];rfl);simp only[AD]at r2 t2;exact⟨v,w',p1,p2,r2,(t1.trans p4).trans t2⟩
theorem Z2.own{g:Yx}{H:AC}{n m:Nat}{w:World}(r:Z2 g H n w){id e:Nat}{l:List Fs}{len cap:Nat}(h0:hget H id=some (.arr e l))(hm:m<=n)(hlc:l.length=cap)(hle:len<=cap){v:Value}(hv:VRel g (.ref id e 0 len cap) v):
  ∃g',VRel g' (.sl (.own n e) (l.take len)) v/\Z2 g' (hset (hset H id .dead) n .tok) (n+1) w/\Yv m g H w g' (hset (hset H id .dead) n .tok) w:=by
 obtain⟨L,c,t,j1,j2,j3,j4,j5,j6⟩:=r.obj id _ h0;obtain⟨L',k1,k2,rfl⟩:=hv;rw[j1]at k1;cases k1;have hcsz:c.size=cap*e:=by rw[<-j5,hlc]
 obtain⟨r1,t1⟩:=r.upd (m:=m) (w':=w) (ob':=.tok) h0 rfl j1 rfl rfl rfl rfl (λ_ _=>rfl) (.inl ⟨c,t,(0,0),c,j4,j4,rfl,λ_ _=>rfl⟩) ⟨L,j1,λ_=>⟨c,t,j4,by rw[j3];exact V4 _⟩⟩;have r1':Z2 g (hset H id .tok) (n+1) w:=⟨r1.σw,r1.obj,r1.dom,λi ob h=>Nat.lt_succ_of_lt (r1.hd i ob h),r1.ap,r1.un,r1.gl,r1.gz⟩;have hn:hget (hset H id .tok) n=none:=by
  cases hh:hget (hset H id .tok) n with
  |none=>rfl
  |some ob=>exact absurd (r1.hd n ob hh) (Nat.lt_irrefl _)
 have hcell:∀o,w.cell? ⟨L.blk,o,none⟩=c[o]?:=λo=>An j4 o
 have c6:len*e<=cap*e:=Xl _ hle;obtain⟨q1,q2,q3⟩:=r1'.split (m:=m) hn (Nat.lt_succ_self n) hm (L:=⟨L.blk,len*e,cap*e⟩) (H':=hset (hset H id .tok) id .dead)
  (.inr ⟨id,0,rfl,AB _ _ _,by rw[j1];congr 1;cases L;simp only[]at j2 j3⊢;rw[j2,j3,hcsz],V8 _⟩)
  (σ':=λb o=>if b=L.blk/\o<len*e then c[o]? else g.σ b o)
  (λb o v h=>by
   show(if b=L.blk/\o<len*e then c[o]? else g.σ b o)=some v;split
   ·rename_i q;have:=r.σw b o v h;rw[q.1,hcell]at this;exact this
   ·exact h)
  (λb o v h=>by
   by_cases q:b=L.blk/\o<len*e
   ·rw[Vv q]at h;refine .inr ⟨q.1,q.2,by rw[q.1,hcell];exact h,id,0,rfl,AB _ _ _,by rw[j1];congr 1;cases L;simp only[]at j2 j3⊢;rw[j2,j3,hcsz],V8 _,?_⟩;simp only[];omega
   ·rw[V5 q]at h;exact .inl h)
 rw[AD]at q1 q2;refine⟨_,?_,q1,t1.trans q2⟩;have htl:(l.take len).length=len:=by simp;omega
 refine .inr ⟨trivial,L.blk,0,cap,⟨none,by rw[htl];simp,.inl rfl⟩,by rw[htl];exact hle,?_,?_⟩
 ·simp only[Zd.esz];refine Stab.eq (f:=λo=>c[o]?) _ 0 (λj _ hj=>?_) (Stab.mono q3 (λ_ _ h=>h) _ _ _ (Stab.take len _ _ j6));rw[htl,Wr]at hj;simp only[hj,Yt,WB]
 ·simp [htl]
end
section
def Sim(m:Nat)(g0:Yx)(H0:AC)(w0:World)(N:Nat)(D:DP)(s:AS)(a:Act)(w:World):Prop:=
 ∃g,Z2 g s.H s.n w/\BU g s.env a.tmps/\Yv m g0 H0 w0 g s.H w/\m<=s.n/\N<=a.tmps.size/\DOK D g s.H a.defers a.tmps w
def PSim(m:Nat)(g0:Yx)(H0:AC)(w0:World)(D:DP)(ds:List Deferred)(tm:Array Value)(v:Fs)(H:AC)(n:Nat)(chain:List PanicEntry)(w:World):Prop:=
 ∃g x,Z2 g H n w/\Yv m g0 H0 w0 g H w/\m<=n/\chain=[{v:=x,recovered:=false}]/\VRel g v x/\DOK D g H ds tm w
variable {a:Act} {g:Yx} {env:List (Nat×Bool×Fs)}
theorem CY(hgl:Dg g)(he:BU g env a.tmps){x:Operand}{x':Yy}(h:copd x=some x')(i5:(lk env x').1=true):VRel g (lkv env x') (a.eval x):=by
 cases x with
 |tmp t=>
  simp only[copd]at h;cases h;simp only[lk,lkv]at i5⊢;cases hg:eget env t with
  |none=>simp [hg]at i5
  |some gv=>
   obtain⟨gd,v⟩:=gv;simp only[hg]at i5⊢;obtain⟨x,h1,h2,_⟩:=he t gd v hg;have:a.eval (.tmp t)=x:=by simp [Act.eval,Array.getD_eq_getD_getElem?,h1]
   rw[this];exact h2 i5
 |const v=>
  simp only[copd]at h;cases hc:cval v with
  |none=>simp [hc]at h
  |some av=>simp [hc]at h;subst h;exact MV hc
 |global i=>
  simp only[copd]at h;cases h;simp only[lkv,lk];cases hi:glob i with
  |none=>rfl
  |some cs=>exact⟨i,0,rfl,hgl i cs hi⟩
 |func f=>simp only[copd]at h;cases h;exact⟨#[], #[],rfl,rfl,rfl⟩
theorem Gy:∀{l:List Yy},oks env l->∀x∈l,(lk env x).1=true
 |[],_,_,h=>by cases h
 |y::l,⟨h1,h2⟩,x,h=>by
  rcases Wp.1 h with rfl|h
  ·exact h1
  ·exact Gy h2 x h
theorem Fa(t i:Nat)(gv:Bool×Fs)(r:List (Nat×Bool×Fs)):eget ((t,gv)::r) i=if t=i then some gv else eget r i:=rfl
theorem BU.put{s:AS}(e:BU g s.env a.tmps){dst:Option Nat}{gd:Bool}{v:Fs}{x:Value}(hd:∀d,dst=some d->d<a.tmps.size)(h1:gd=true->VRel g v x)(h2:gd=false->x=undef):
  BU g (s.put dst gd v).env (a.put dst x).tmps:=by
 cases dst with
 |none=>exact e
 |some d=>
  intro t gd' v' h;simp only[AS.put,Fa]at h;simp only[Act.put];by_cases ht:d=t
  ·simp_all
  ·rw[V5 ht]at h;obtain⟨y,k1,k2,k3⟩:=e t gd' v' h;exact⟨y,by rw[WX ht];exact k1,k2,k3⟩
theorem R8(a:Act)(dst:Option Tmp)(x:Value):(a.put dst x).tmps.size=a.tmps.size:=by cases dst<;>simp [Act.put]
theorem No(a:Act)(dst:Option Tmp)(x:Value):(a.put dst x).defers=a.defers:=by cases dst<;>rfl
theorem P2(s:AS)(dst:Option Nat)(gd:Bool)(v:Fs):(s.put dst gd v).H=s.H:=by cases dst<;>rfl
theorem Ev(s:AS)(dst:Option Nat)(gd:Bool)(v:Fs):(s.put dst gd v).n=s.n:=by cases dst<;>rfl
theorem P3{ops:Array Oper}{o:Oper}{gd:Option (Nat×Bool)}(he:BU g env a.tmps)(hc:Jy ops o.guard=some gd)(i5:gok env gd):
  Region.wanted o (yielded ops a.tmps)=gvb env gd:=by
 unfold Jy at hc;unfold Region.wanted;split at hc
 ·rename_i hg;cases hc;simp [hg,gvb]
 ·rename_i j wt hg;split at hc
  ·rename_i d hd;cases hc;simp only[hg,gok,lkv,lk,gvb,yielded,hd,Ya]at i5⊢;cases hge:eget env d with
   |none=>simp [hge]at i5
   |some gv=>
    obtain⟨g0,v⟩:=gv;simp only[hge]at i5⊢;obtain⟨x,h1,h2,h3⟩:=he d g0 v hge;rw[h1];cases g0 with
    |true=>
     have i5:=i5 rfl;cases v<;>simp only[isB]at i5<;>first|exact i5.elim|skip
     have:=h2 rfl;simp only[VRel]at this;subst this;simp [toB]
    |false=>have:=h3 rfl;subst this;simp [undef]
  ·cases hc
section
variable {P:Program} {r:Option Nat} {m N:Nat} {g0:Yx} {H0:AC} {w0:World} {D:DP} {ops:Array Oper}
variable {a:Act} {g:Yx} {i:Nat} {o:Oper} {w:World}
theorem U7{H:AC}{dst:Option Nat}{x:Value}(hD:DOK D g H a.defers a.tmps w)(hd:∀d,dst=some d->d<N/\D.lo<=d):DOK D g H a.defers (a.put dst x).tmps w:=by
 cases dst with
 |none=>exact hD
 |some d=>exact hD.put (hd d rfl).2
theorem EN{s s1:AS}{w':World}{base:Nat}{dst:Option Nat}{gd:Bool}{v:Fs}{x:Value}(hR0:Yv m g0 H0 w0 g s.H w)(hn:m<=s1.n)(hb:m<=base)(he:BU g s.env a.tmps)(henv:s1.env=s.env)(hN:N<=a.tmps.size)(hD:DOK D g s.H a.defers a.tmps w)
  (hd:∀d,dst=some d->d<N/\D.lo<=d) {g':Yx} (r1:Z2 g' s1.H s1.n w') (t1:Yv base g s.H w g' s1.H w') (hv:gd=true->VRel g' v x) (hu:gd=false->x=undef):
  Sim m g0 H0 w0 N D (s1.put dst gd v) (a.put dst x) w':=
 ⟨g',by rw[P2,Ev];exact r1,by
  have t9:BU g' s1.env a.tmps:=by rw[henv];exact he.mono t1.le
  exact t9.put (λd h=>X6 (hd d h).1 hN) hv hu,by rw[P2];exact hR0.trans (t1.floor hb),by rw[Ev];exact hn,by rw[R8];exact hN,by rw[No,P2];exact(U7 hD hd).step t1⟩
theorem IH(h:∀c,o.op≠ .defer c)(ro:Option Nat)(ρ:Operand->Value):o.semAt ro ρ=execOp ρ o:=Oper.semAt_eq ro ρ o h
theorem KE{mkv imp:Bool}{op:Op}{k:Io}(h:copK P mkv imp i op=some k):∀c,op≠ .defer c:=by
 rintro c rfl;simp [copK,copk]at h
theorem Dq{w':World}{K:Act->World->Prop}{Q:Exit->Act->World->Prop}{nx:Next}(ho:ops[i]?=some o)(hw:Region.wanted o (yielded ops a.tmps)=true)(m0:∀c,o.op≠ .defer c)
  (hrun:(execOp a.eval o).run P w= .ok nx w') (h:o.uponIn (FR r) 0 P a K Q (.ok nx w')):wpOpIn (FR r) 0 P ops Q i K a w:=by
 unfold wpOpIn;simp only[ho,hw,WB];refine⟨λ_ _=>trivial,?_⟩;have:(o.semAt (FR r).round a.eval).run P w= .ok nx w':=by rw[IH m0];exact hrun
 rw[this];exact h
theorem P4{K:Act->World->Prop}{Q:Exit->Act->World->Prop}(ho:ops[i]?=some o)(hw:Region.wanted o (yielded ops a.tmps)=false)
  (h:K (a.put o.dst undef) w):wpOpIn (FR r) 0 P ops Q i K a w:=by
 unfold wpOpIn;simp only[ho,hw,W5,Wf];exact⟨λ_ _=>trivial,h⟩
theorem I9{f:Operand}{args:Array Operand}{ts:Array TypeId}{fid:FuncId}{first cap:Array Value}(ho:o.op= .call {callee:=.value f,args,argTypes:=ts})(hf:a.eval f= .func (.func fid) first cap)(hc:BW P fid):
  (execOp a.eval o).run P w= .ok (.enter fid (first++args.map a.eval++cap)) w:=by
 obtain⟨fn,h1,h2,h3⟩:=hc;have h3':¬fn.name= "runtime.NumGoroutine" :=by simpa using h3
 have h4:¬fn.body=none:=by cases hb:fn.body<;>simp_all
 simp [execOp,ho,resolve,hf,Deferred.ofValue,invoke,callFunc,h1,h3',h4]
theorem VRels.append'{as bs:List Fs}{vs us:List Value}(h:VRels g as vs)(k:VRels g bs us):VRels g (as++bs) (vs++us):=VRels.append as vs bs us h k
theorem IJ{Qp:Fs->AC->Nat->Prop}{base:Nat}{mkv imp:Bool}{gd:Option (Nat×Bool)}{k:Io}{K:AS->Prop}{Kc:Act->World->Prop}{Qc:Exit->Act->World->Prop}{s:AS}
  (ho:ops[i]?=some o) (hg:Jy ops o.guard=some gd) (hk:copK P mkv imp i o.op=some k) (hstep:AU P Qp base ⟨o.dst,gd,k⟩ K s) (hsim:Sim m g0 H0 w0 N D s a w) (hb:m<=base)
  (hbn:k.news=true->base+i<s.n) (hd:∀d,o.dst=some d->d<N/\D.lo<=d)
  (hK:∀s' a' w',K s'->Sim m g0 H0 w0 N D s' a' w'->s.n<=s'.n->Kc a' w')
  (hQ:∀v H' n' chain a' w',Qp v H' n'->PSim m g0 H0 w0 D a'.defers a'.tmps v H' n' chain w'->Qc (.panic chain) a' w'):wpOpIn (FR r) 0 P ops Qc i Kc a w:=by
 obtain⟨g,hR,hE,hT,hmn,hN,hD⟩:=hsim;obtain⟨hgok,hst⟩:=hstep;have hw:=P3 hE hg hgok;have m0:=KE hk
 have skip:gvb s.env gd=false->∀v,K (s.put o.dst false v)->wpOpIn (FR r) 0 P ops Qc i Kc a w:=λh v hKs=>
  P4 ho (by rw[hw,h]) (hK _ _ _ hKs (EN (s:=s) (s1:=s) (base:=base) hT hmn hb hE rfl hN hD hd hR (Yv.refl _ _ _ _) zw (λ_=>rfl)) (by rw[Ev];exact V4 _))
 have fin:∀{s1:AS} {v:Fs} {x:Value} {w':World} {g':Yx},gvb s.env gd=true->s1.env=s.env->s1.n=s.n->(execOp a.eval o).run P w= .ok (.value x) w'->VRel g' v x->Z2 g' s1.H s1.n w'->Yv base g s.H w g' s1.H w'->K (s1.put o.dst true v)->
   wpOpIn (FR r) 0 P ops Qc i Kc a w:=by
  intro s1 v x w' g' hgv henv j9 hrun hv r1 t1 hKs;refine Dq ho (by rw[hw,hgv]) m0 hrun ?_;exact hK _ _ _ hKs (EN (s:=s) (s1:=s1) (base:=base) hT zo hb hE henv hN hD hd r1 t1 (λ_=>hv) zw) (by rw[Ev,j9];exact V4 _)
 have finH:∀{H':AC} {v:Fs} {x:Value} {w':World} {g':Yx},gvb s.env gd=true->(execOp a.eval o).run P w= .ok (.value x) w'->VRel g' v x->Z2 g' H' s.n w'->Yv base g s.H w g' H' w'->K ({s with H:=H'}.put o.dst true v)->
   wpOpIn (FR r) 0 P ops Qc i Kc a w:=λ{H'} _ _ _ _ h1 h2 h3 h4 h5 h6=>fin (s1:={s with H:=H'}) h1 rfl rfl h2 h3 h4 h5 h6
 have opv:∀{l:List Yy},oks s.env l->∀x x',copd x=some x'->x'∈l->VRel g (lkv s.env x') (a.eval x):=λhoks x x' e hm=>CY hR.gl hE e (Gy hoks x' hm)
 have callv:∀{f:Operand} {f':Yy} {args:Array Operand} {ts:Array TypeId} {xs:List Yy},o.op= .call {callee:=.value f,args,argTypes:=ts}->copd f=some f'->Hj args.toList=some xs->(lk s.env f').1=true->oks s.env xs->
   ∀{fid:FuncId} {first cap:List Fs},lkv s.env f'= .fn (.func fid) first cap->∃fv cv,a.eval f= .func (.func fid) fv cv/\VRels g (first++xs.map (lkv s.env)++cap) (fv++args.map a.eval++cv).toList:=by
  intro f f' args ts xs h1 h2 h3 h4 h5 fid first cap h6
  have hf:=CY hR.gl hE h2 h4;rw[h6]at hf;obtain⟨fv,cv,e1,k1,k2⟩:=hf;refine⟨fv,cv,e1,?_⟩;have:=DD (g:=g) (ρ:=a.eval) (ρ':=lkv s.env) args.toList xs h3 (λx x' e hm=>CY hR.gl hE e (Gy h5 x' hm));simp only[Array.toList_append,Array.toList_map];exact VRels.append' (VRels.append' k1 this) k2
 by_cases hgv:gvb s.env gd=true;case neg=>grind
 case pos=>
 have value:∀{k':Z1},copk P mkv o.op=some k'->k= .v k'->wpOpIn (FR r) 0 P ops Qc i Kc a w:=by
  intro k' h1 h2;subst h2;obtain⟨hs,hKs⟩:=hst;rw[hgv]at hKs;obtain⟨hoks,hside⟩:=hs hgv;obtain⟨x,w',g',q1,q2,q3,q4⟩:=Nd (m:=base) hR h1 (opv hoks) hside;exact fin (s1:=s) hgv rfl rfl q1 q2 q3 q4 hKs
 have other:copK P mkv imp i o.op=(copk P mkv o.op).map .v->wpOpIn (FR r) 0 P ops Qc i Kc a w:=by
  intro e;rw[e]at hk;cases h1:copk P mkv o.op with
  |none=>simp [h1]at hk
  |some k'=>simp [h1]at hk;exact value h1 hk.symm
 have mksv:∀{t e:TypeId} {inf:TypeInfo} {z:Fs} {sz:Nat} {x:Operand} {x':Yy} {l c:Operand},o.op= .makeSlice t l c->l=x->c=x->copd x=some x'->P.underlying t=some (.slice e)->P.info? e=some inf->Br P e=some z->szT P e=some sz->k= .mks i sz inf.bytes z x'->
   wpOpIn (FR r) 0 P ops Qc i Kc a w:=by
  intro t e inf z sz x x' l c hop e1 e2 e3 h1 h2 h3 h4 h5;subst e1;subst e2;subst h5;obtain⟨hoks,q1,q2,q3,q4,q5,q6,hKs⟩:=hst.1 hgv;have d7:base+i<s.n:=hbn rfl;obtain⟨v,w',g',p1,p2,p3,p4,p5⟩:=Po (m:=base) hR h1 h2 h3 h4 (opv hoks c x' e3 (by simp [Io.opds])) q1 d7 (Wx _ _) q2 q3 q4 q5;exact finH hgv (by simp [execOp,hop,p1]) p2 p3 p4 hKs
 have put:∀{t:TypeId} {mm kk x:Operand},cput P t mm kk x=some k->(execOp a.eval o).run P w=((Instr.mapUpdate t (a.eval mm) (a.eval kk) (a.eval x)).run P w).andThen (λ_ w'=>.ok .skip w')->wpOpIn (FR r) 0 P ops Qc i Kc a w:=by
  intro t mm kk x hk hex;unfold cput at hk;split at hk
  ·rename_i kt e m' k' x' hu h1 h2 h3;cases hkt:ktT P kt with
   |none=>simp [hkt]at hk
   |some kq=>
    simp [hkt]at hk;subst hk;obtain⟨hoks,q1,q2⟩:=hst.1 hgv;simp only[W6,Wh]at q1 q2;obtain⟨w',p1,p2,p3,p4⟩:=Nj (m:=base) hR hu hkt (opv hoks mm m' h1 (by simp [Io.opds])) (opv hoks kk k' h2 (by simp [Io.opds])) (opv hoks x x' h3 (by simp [Io.opds])) q1;rw[p2]at q2;refine Dq ho (by rw[hw,hgv]) m0 (nx:=.skip) (w':=w') (by rw[hex,p1];rfl) ?_;exact hK _ _ _ q2 (EN (s:=s) (s1:={s with H:=_}) (base:=base) hT hmn hb hE rfl hN hD hd p3 p4 (λ_=>⟨#[],rfl,rfl⟩) zw) (by rw[Ev];exact V4 _)
  ·cases hk
 cases hop:o.op;case pick c x y=>
  simp only[hop,copK]at hk;split at hk
  ·rename_i c' x' y' h1 h2 h3;cases hk;obtain⟨hs,hKs⟩:=hst;rw[hgv]at hKs;obtain⟨hc1,x5,hc3,hc4⟩:=hs hgv;obtain⟨bv,e1,e2⟩:=GW x5 (CY hR.gl hE h1 hc1);have hpick:(execOp a.eval o).run P w= .ok (.value (if bv then a.eval x else a.eval y)) w:=by simp [execOp,hop,e2,asBool]
   rw[e1]at hc3 hc4 hKs;simp only[toB]at hc3 hc4 hKs;have hsel:∀(p q:Fs),(bv=true->VRel g p (a.eval x))->(bv=false->VRel g q (a.eval y))->VRel g (sel bv p q) (if bv then a.eval x else a.eval y):=by
    intro p q hp hq;cases bv with
    |true=>cases p<;>cases q<;>simpa [sel]using hp rfl
    |false=>cases p<;>cases q<;>simpa [sel]using hq rfl
   exact fin (s1:=s) hgv rfl rfl hpick (hsel _ _ (λhb=>CY hR.gl hE h2 (hc3 hb)) (λhb=>CY hR.gl hE h3 (hc4 hb))) hR (Yv.refl _ _ _ _) hKs
  ·cases hk
 case alloc t=>
  simp only[hop,copK]at hk;cases hz:Br P t with
  |none=>simp [hz]at hk
  |some z=>
   simp [hz]at hk;subst hk;obtain⟨hoks,q1,hKs⟩:=hst.1 hgv;have d7:base+i<s.n:=hbn rfl;obtain⟨w',g',p1,p2,p3,p4,p5⟩:=LN (m:=base) hR q1 d7 (Wx _ _) hz;exact finH hgv (by simp [execOp,hop,p1]) p5 p2 p3 hKs
 case box t x=>
  simp only[hop,copK]at hk;split at hk
  ·rename_i sz x' h1 h2;cases hk;obtain⟨hoks,q1,q2,q3,hKs⟩:=hst.1 hgv;have d7:base+i<s.n:=hbn rfl;obtain⟨w',g',p1,p2,p3,p4,p5⟩:=Pk (m:=base) (t:=t) (P:=P) hR q1 d7 (Wx _ _) (opv hoks x x' h2 (by simp [Io.opds])) q2;exact finH hgv (by simp [execOp,hop,p1]) p5 p2 p3 hKs
  ·cases hk
 case store t ad x=>
  simp only[hop,copK]at hk;split at hk
  ·rename_i sz ad' x' h1 h2 h3;cases hk;obtain⟨hoks,q1,q2,q3⟩:=hst.1 hgv;have hst':stAt s.H sz (lkv s.env x') (λH'=>K ({s with H:=H'}.put o.dst true (.tup []))) (lkv s.env ad'):=by
    generalize lkv s.env ad'=av at q3⊢;cases av<;>exact q3
   obtain⟨H',w',p1,p2,p3,p4⟩:=Rz (m:=base) hR h1 (opv hoks ad ad' h2 (by simp [Io.opds])) (opv hoks x x' h3 (by simp [Io.opds])) q1 q2 hst';refine Dq ho (by rw[hw,hgv]) m0 (nx:=.skip) (w':=w') (by simp [execOp,hop,p1]) ?_;exact hK _ _ _ p2 (EN (s:=s) (s1:={s with H:=H'}) (base:=base) hT hmn hb hE rfl hN hD hd p3 p4 (λ_=>⟨#[],rfl,rfl⟩) zw) (by rw[Ev];exact V4 _)
  ·cases hk
 case slice t x lo hi mx=>
  by_cases hp:∃n e,P.underlying t=some (.array n e)
  ·obtain⟨nn,e,hu⟩:=hp;simp only[hop,copK,hu]at hk;split at hk
   ·rename_i x' l' h' h2 h3 h4;split at hk
    ·rename_i hsz;cases mkv with
     |true=>
      simp only[WB]at hk;cases hk;obtain⟨hs,hKs⟩:=hst;rw[hgv]at hKs;obtain⟨hoks,hside⟩:=hs hgv;have hvx:=opv hoks x x' h2 (by simp [Z1.opds]);have hvo:∀y y',copd y=some y'->(l'=some y'\/h'=some y')->VRel g (lkv s.env y') (a.eval y):=λy y' e1 e2=>opv hoks y y' e1 (by rcases e2 with rfl|rfl<;>simp [Z1.opds])
      obtain⟨v,p1,p2⟩:=Ps hR hu hsz h3 h4 hvx hvo hside;exact fin (s1:=s) hgv rfl rfl (by simp [execOp,hop,p1]) p2 hR (Yv.refl _ _ _ _) hKs
     |false=>
     simp only[W5,Wf]at hk;cases hk;obtain⟨hoks,b1,b2,q3⟩:=hst.1 hgv;have hvx:=opv hoks x x' h2 (by simp [Io.opds]);have hvo:∀y y',copd y=some y'->(l'=some y'\/h'=some y')->VRel g (lkv s.env y') (a.eval y):=λy y' e1 e2=>opv hoks y y' e1 (by rcases e2 with rfl|rfl<;>simp [Io.opds])
     obtain⟨v,H',v',p1,p2,p3,p4,p5⟩:=Pr (m:=base) hR hu hsz h3 h4 hvx hvo b1 b2 q3;exact finH hgv (by simp [execOp,hop,p1]) p2 p3 p4 p5
    ·split at hk
     ·rename_i kk hsz;split at hk
      ·cases hk;obtain⟨hoks,q1,q2⟩:=hst.1 hgv;have hvx:=opv hoks x x' h2 (by simp [Io.opds]);have hvo:∀y y',copd y=some y'->(l'=some y'\/h'=some y')->VRel g (lkv s.env y') (a.eval y):=λy y' e1 e2=>opv hoks y y' e1 (by rcases e2 with rfl|rfl<;>simp [Io.opds])
       obtain⟨v,p1,p2,p3,p4⟩:=P0 (m:=base) hR hu hsz h3 h4 hvx hvo q1;exact finH hgv (by simp [execOp,hop,p1]) p2 p3 p4 q2
      ·cases hk
     ·cases hk
   ·cases hk
  ·refine other ?_;rw[hop];simp only[copK];split
   ·rename_i nn e hu;exact absurd ⟨nn,e,hu⟩ hp
   ·rfl
 case makeSlice t l c=>
  cases mkv with
  |true=>exact other (by rw[hop];simp [copK])
  |false=>
   rw[hop]at hk;cases l<;>cases c<;>(try (simp [copK]at hk;done))
   ·rename_i l c;simp only[copK,W5,Wf]at hk;split at hk
    ·rename_i hlc;subst hlc;split at hk
     ·rename_i e hu;split at hk
      ·rename_i inf z sz h1 h2 h3;cases hk;exact mksv hop rfl rfl rfl hu h1 h2 h3 rfl
      ·cases hk
     ·cases hk
    ·cases hk
   ·rename_i l c;cases l<;>(try (simp [copK]at hk;done));rename_i kl nl;cases kl<;>(try (simp [copK]at hk;done));cases c<;>(try (simp [copK]at hk;done));rename_i kc nc;cases kc<;>(try (simp [copK]at hk;done));simp only[copK,W5,Wf]at hk;split at hk
    ·rename_i hlc;subst hlc;split at hk
     ·rename_i e hu;split at hk
      ·rename_i inf z sz h1 h2 h3;cases hk;exact mksv hop rfl rfl (x':=.c (.int .i64 nl)) (by simp [copd,cval,LE]) hu h1 h2 h3 rfl
      ·cases hk
     ·cases hk
    ·split at hk
     ·rename_i hlc;split at hk
      ·rename_i e hu;split at hk
       ·rename_i inf z sz h1 h2 h3;cases hk;obtain⟨hoks,q1,q2⟩:=hst.1 hgv;simp only[Wh,xE]at q1 q2;have d7:base+i<s.n:=hbn rfl;obtain⟨v,w',g',p1,p2,p3,p4,p5⟩:=Pp (m:=base) (P:=P) hR hu h1 h2 h3 q1.1 d7 (Wx _ _) hlc.1 hlc.2 q1.2.1 q1.2.2.1 q1.2.2.2;exact finH hgv (by simp [execOp,hop,Act.eval,p1]) p2 p3 p4 q2
       ·cases hk
      ·cases hk
     ·cases hk
 case panic x=>
  simp only[hop,copK]at hk;cases hx:copd x with
  |none=>simp [hx]at hk
  |some x'=>
   simp [hx]at hk;subst hk;obtain⟨hoks,q1,q2⟩:=hst.1 hgv;have hv:=opv hoks x x' hx (by simp [Io.opds]);generalize hA:lkv s.env x'=av at q1 q2 hv;cases av<;>simp only[isF]at q1<;>first|exact q1.elim|skip
   rename_i t v;obtain⟨y,e1,k1⟩:=hv;have hrun:(execOp a.eval o).run P w= .halt (.panic (.iface t y)) w:=by
    simp [execOp,hop,e1,Instr.panic,goPanic]
   unfold wpOpIn;simp only[ho,hw,hgv,WB];refine⟨λ_ _=>trivial,?_⟩;have:(o.semAt (FR r).round a.eval).run P w= .halt (.panic (.iface t y)) w:=by rw[IH m0];exact hrun
   rw[this];exact hQ _ _ _ _ _ _ q2 ⟨g,.iface t y,hR,hT,hmn,rfl,⟨y,rfl,k1⟩,hD⟩
 case call c=>
  obtain⟨callee,args,ts⟩:=c;cases callee;case invoke rv mt=>rw[hop]at hk;simp [copK,copk]at hk
  case value f=>
   simp only[hop,copK]at hk;split at hk
   ·rename_i f' xs h1 h2;by_cases hmi:(mkv&&imp)=true
    ·rw[Vv hmi]at hk;cases hk;obtain⟨hoks,q3⟩:=hst.1 hgv;obtain⟨q1,q2⟩:=hoks;simp only[A5]at q3;generalize hA:lkv s.env f'=fv at q3;cases fv<;>(try simp only[]at q3)<;>first|exact q3.elim|skip
     rename_i ff first cap
     cases ff<;>(try simp only[]at q3)<;>first|exact q3.elim|skip
     rename_i fid;obtain⟨v,hpur,hKs⟩:=q3;obtain⟨fv,cv,e1,e2⟩:=callv hop h1 h2 q1 q2 hA;obtain⟨hcb,hq⟩:=hpur.quiet s.H s.n;refine Dq ho (by rw[hw,hgv]) m0 (I9 hop e1 hcb) ?_;refine⟨by simp [FR,Fence.wide],?_⟩;have hcalls:=hq g w _ hR e2;simp only[Y3]at hcalls;refine(callsIn_wide (n:=0-1)).2 (hcalls.mono ?_);rintro e w' ⟨g',out,H',n',⟨rfl,rfl,rfl⟩,he,r1,_,t1⟩;cases e with
     |panicked ch=>exact he.elim
     |outgrown=>exact he.elim
     |returned x=>
      exact hK _ _ _ hKs (EN (s:=s) (s1:=s) (base:=s.n) hT hmn hmn hE rfl hN hD hd r1 t1 (λ_=>he) zw) (by rw[Ev];exact V4 _)
    rw[V5 hmi]at hk;cases hk;cases imp with
    |false=>
     simp only[V6]at hst;obtain⟨v,hs,hKs⟩:=hst;rw[hgv]at hKs;obtain⟨q1,q2,q3⟩:=hs hgv;generalize hA:lkv s.env f'=fv at q3;cases fv<;>(try simp only[]at q3)<;>first|exact q3.elim|skip
     rename_i ff first cap
     cases ff<;>(try simp only[]at q3)<;>first|exact q3.elim|skip
     rename_i fid;obtain⟨fv,cv,e1,e2⟩:=callv hop h1 h2 q1 q2 hA;obtain⟨hcb,hq⟩:=q3;refine Dq ho (by rw[hw,hgv]) m0 (I9 hop e1 hcb) ?_;refine⟨by simp [FR,Fence.wide],?_⟩;have hcalls:=hq g w _ hR e2;simp only[Y3]at hcalls;refine(callsIn_wide (n:=0-1)).2 (hcalls.mono ?_);rintro e w' ⟨g',out,H',n',⟨rfl,rfl,rfl⟩,he,r1,_,t1⟩;cases e with
     |panicked ch=>exact he.elim
     |outgrown=>exact he.elim
     |returned x=>
      exact hK _ _ _ hKs (EN (s:=s) (s1:=s) (base:=s.n) hT hmn hmn hE rfl hN hD hd r1 t1 (λ_=>he) zw) (by rw[Ev];exact V4 _)
    |true=>
     simp only[V3]at hst;obtain⟨hoks,q3⟩:=hst.1 hgv;obtain⟨q1,q2⟩:=hoks;simp only[A5]at q3;generalize hA:lkv s.env f'=fv at q3;cases fv<;>(try simp only[]at q3)<;>first|exact q3.elim|skip
     rename_i ff first cap
     by_cases hy:∃l,ff= .yield l
     ·obtain⟨l,rfl⟩:=hy;cases first with
      |cons _ _=>exact q3.elim
      |nil=>cases cap with
       |cons _ _=>exact q3.elim
       |nil=>
        have hf:=CY hR.gl hE h1 q1;rw[hA]at hf;obtain⟨x',c',e1,k1,k2⟩:=hf;have e2:x'= #[]:=by apply X5;simpa [VRels]using k1
        have e3:c'= #[]:=by apply X5;simpa [VRels]using k2
        subst e2;subst e3;have hargs:=DD (g:=g) (ρ:=a.eval) (ρ':=lkv s.env) args.toList xs h2 (λx x' e hm=>CY hR.gl hE e (Gy q2 x' hm));obtain⟨f2,tmps,as,bd,r1,r2⟩:=q3 r g w _ hR hargs;have hrun:(execOp a.eval o).run P w= .ok (.round l f2 tmps as bd) w:=by
         have:(execOp a.eval o).run P w=(Instr.yield l (args.map a.eval)).run P w:=by
          simp [execOp,hop,resolve,e1,Deferred.ofValue,invoke]
         rw[this,<-r1];congr 2;apply X5;simp
        refine Dq ho (by rw[hw,hgv]) m0 hrun ?_;rw[Oper.uponIn_round];refine⟨by simp [FR,Fence.wide],r2.mono ?_⟩;rintro e w' ⟨b,g',H',n',rfl,hr,p1,hn',p2⟩;exact hK _ _ _ hr (EN (s:=s) (s1:={s with H:=H',n:=n'}) (base:=s.n) hT zp hmn hE rfl hN hD hd p1 p2 (λ_=>rfl) zw) (by rw[Ev];exact hn')
     cases ff<;>(try simp only[]at q3)<;>first|exact q3.elim|exact absurd ⟨_,rfl⟩ hy|skip
     rename_i fid;obtain⟨fv,cv,e1,e2⟩:=callv hop h1 h2 q1 q2 hA;obtain⟨hcb,hq⟩:=q3;refine Dq ho (by rw[hw,hgv]) m0 (I9 hop e1 hcb) ?_;refine⟨by simp [FR,Fence.wide],?_⟩;have hcalls:=hq g w _ hR e2;simp only[Y3]at hcalls;refine(callsIn_wide (n:=0-1)).2 (hcalls.mono ?_);rintro e w' ⟨g',out,H',n',hr,he,r1,hn',t1⟩;cases e with
     |outgrown=>cases out<;>exact he.elim
     |panicked ch=>
      cases out with
      |ret v=>exact he.elim
      |pan v=>
       obtain⟨x,rfl,k1⟩:=he;exact hQ _ _ _ _ _ _ hr ⟨g',x,r1,hT.trans (t1.floor hmn),zo,rfl,k1,hD.step t1⟩
     |returned x=>
      cases out with
      |pan v=>exact he.elim
      |ret v=>exact hK _ _ _ hr (EN (s:=s) (s1:={s with H:=H',n:=n'}) (base:=s.n) hT zp hmn hE rfl hN hD hd r1 t1 (λ_=>he) zw) (by rw[Ev];exact hn')
   ·cases hk
  case builtin b=>
   cases b;case append=>
    simp only[hop,copK]at hk;split at hk
    ·rename_i t u x y hts hargs;have e1:ts= #[t,u]:=by apply X5;simpa using hts
     have e2:args= #[x,y]:=by apply X5;simpa using hargs
     subst e1;subst e2;split at hk
     ·rename_i e x' y' hu hx hy;have srcv:∀{inf:TypeInfo} {str:Bool} {l':List Fs},(str=true->inf.size=1)->VRel g (lkv s.env y') (a.eval y)->Bz s.H (lkv s.env) inf.size y' str=some l'->Src P g w inf.size l' (a.eval y):=by
       intro inf str l' h6 hvy hB;cases str with
       |true=>
        simp only[Bz]at hB;generalize lkv s.env y'=yv at hB hvy;cases yv<;>(try simp only[]at hB)<;>first|(cases hB;done)|skip
        cases hB;rw[h6 rfl];exact LP hvy
       |false=>
        simp only[Bz]at hB;generalize lkv s.env y'=yv at hB hvy;cases yv<;>(try simp only[]at hB)<;>first|(cases hB;done)|skip
        ·split at hB
         ·rename_i hc;cases hB;exact TM hR hvy hc
         ·cases hB
        ·split at hB
         ·rename_i ho;split at hB
          ·rename_i hc;obtain⟨c1,c2,c3⟩:=hc;subst c1;subst c2;cases hB;exact Pm hR hvy ho c3
          ·cases hB
         ·cases hB
      have appr:∀{inf:TypeInfo} {za:Fs} {du:TypeDesc} {str:Bool},P.info? e=some inf->Br P e=some za->P.underlying u=some du->(∀k,du≠ .int k)->k= .appR i inf.size inf.bytes za x' y' str->(str=true->inf.size=1)->
        wpOpIn (FR r) 0 P ops Qc i Kc a w:=by
       intro inf za du str h1 h2 h3 h4 h5 h6;subst h5;obtain⟨hoks,q⟩:=hst.1 hgv;have d7:base+i<s.n:=hbn rfl;have hvx:=opv hoks x x' hx (by simp [Io.opds]);have hvy:=opv hoks y y' hy (by simp [Io.opds]);simp only[A5]at q;obtain⟨v,w',g',H',v',p1,p2,p3,p4,p5⟩:=Nn (m:=base) (ty:=o.type) (K:=λH' v=>K ({s with H:=H'}.put o.dst true v)) hR hu h3 h4 h1 h2 hvx (λl' hl'=>srcv h6 hvy hl') d7 (Wx _ _) q;exact finH hgv (by simp [execOp,hop,resolve,invoke,builtin,p1]) p2 p3 p4 p5
      have app:∀{inf:TypeInfo} {za:Fs} {du:TypeDesc} {str:Bool},P.info? e=some inf->Br P e=some za->P.underlying u=some du->(∀k,du≠ .int k)->k= .app i inf.size inf.bytes x' y' str->(str=true->inf.size=1)->
        wpOpIn (FR r) 0 P ops Qc i Kc a w:=by
       intro inf za du str h1 h2 h3 h4 h5 h6;subst h5;obtain⟨hoks,q⟩:=hst.1 hgv;have d7:base+i<s.n:=hbn rfl;have hvx:=opv hoks x x' hx (by simp [Io.opds]);have hvy:=opv hoks y y' hy (by simp [Io.opds]);simp only[A5]at q;generalize hA:lkv s.env x'=av at q hvx;generalize hB:Bz s.H (lkv s.env) inf.size y' str=bv at q;cases av<;>(try simp only[]at q)<;>first|exact q.elim|skip
       rename_i tok l;cases bv<;>(try simp only[]at q)<;>first|exact q.elim|skip
       rename_i l';obtain⟨q1,q2,q3,q4,q5,hKs⟩:=q;have hsrc:Src P g w inf.size l' (a.eval y):=by
        cases str with
        |true=>
         simp only[Bz]at hB;generalize lkv s.env y'=yv at hB hvy;cases yv<;>(try simp only[]at hB)<;>first|(cases hB;done)|skip
         cases hB;rw[h6 rfl];exact LP hvy
        |false=>
         simp only[Bz]at hB;generalize lkv s.env y'=yv at hB hvy;cases yv<;>(try simp only[]at hB)<;>first|(cases hB;done)|skip
         ·split at hB
          ·rename_i hc;cases hB;exact TM hR hvy hc
          ·cases hB
         ·split at hB
          ·rename_i ho;split at hB
           ·rename_i hc;obtain⟨c1,c2,c3⟩:=hc;subst c1;subst c2;cases hB;exact Pm hR hvy ho c3
           ·cases hB
          ·cases hB
       obtain⟨v,w',g',p1,p2,p3,p4,p5⟩:=Pn (m:=base) (ty:=o.type) hR hu h3 h4 h1 h2 hvx hsrc q1 d7 (Wx _ _) q2 q3 q4;exact finH hgv (by simp [execOp,hop,resolve,invoke,builtin,p1]) p2 p3 p4 hKs
      have appz:∀{inf:TypeInfo} {za:Fs} {kn:IntKind},P.info? e=some inf->Br P e=some za->P.underlying u=some (.int kn)->k= .appZ i inf.size inf.bytes za x' y'->
        wpOpIn (FR r) 0 P ops Qc i Kc a w:=by
       intro inf za kn h1 h2 h3 h5;subst h5;obtain⟨hoks,q⟩:=hst.1 hgv;have d7:base+i<s.n:=hbn rfl;have hvx:=opv hoks x x' hx (by simp [Io.opds]);have hvy:=opv hoks y y' hy (by simp [Io.opds]);simp only[A5]at q;obtain⟨v,w',g',H',v',p1,p2,p3,p4,p5⟩:=Nm (m:=base) (ty:=o.type) (K:=λH' v=>K ({s with H:=H'}.put o.dst true v)) hR hu h3 h1 h2 hvx hvy d7 (Wx _ _) q;exact finH hgv (by simp [execOp,hop,resolve,invoke,builtin,p1]) p2 p3 p4 p5
      split at hk
      ·rename_i inf za h1 h2 h3;split at hk
       ·rename_i hs1;cases mkv with
        |true=>cases hk;exact appr h1 h2 h3 zw rfl (λ_=>hs1)
        |false=>cases hk;exact app h1 h2 h3 zw rfl (λ_=>hs1)
       ·cases hk
      ·rename_i inf za e' h1 h2 h3;split at hk
       ·cases mkv with
        |true=>cases hk;exact appr h1 h2 h3 zw rfl zw
        |false=>cases hk;exact app h1 h2 h3 zw rfl zw
       ·cases hk
      ·rename_i inf za kn h1 h2 h3;cases hk;exact appz h1 h2 h3 rfl
      ·cases hk
     ·cases hk
    ·cases hk
   case len=>
    by_cases hp:∃t x kt e,ts.toList=[t]/\args.toList=[x]/\P.underlying t=some (.map kt e)
    ·obtain⟨t,x,kt,e,hts,hargs,hu⟩:=hp;have e1:ts= #[t]:=by apply X5;simpa using hts
     have e2:args= #[x]:=by apply X5;simpa using hargs
     subst e1;subst e2;simp only[hop,copK,hu]at hk;cases hx:copd x with
     |none=>simp [hx]at hk
     |some x'=>
      simp [hx]at hk;subst hk;obtain⟨hoks,q1,q2⟩:=hst.1 hgv;simp only[W6,Wh]at q1 q2;obtain⟨p1,v,p2,p3⟩:=Nl (ty:=o.type) hR hu (opv hoks x x' hx (by simp [Io.opds])) q1;rw[p1]at q2;exact finH hgv (by simp [execOp,hop,resolve,invoke,builtin,p2]) p3 hR (Yv.refl _ _ _ _) q2
    ·cases hts:ts.toList with
     |nil=>rw[hop]at hk;simp [copK,hts]at hk
     |cons t tr=>
      cases tr with
      |cons _ _=>rw[hop]at hk;simp [copK,hts]at hk
      |nil=>
       cases hargs:args.toList with
       |nil=>rw[hop]at hk;simp [copK,hts,hargs]at hk
       |cons x xr=>
        cases xr with
        |cons _ _=>rw[hop]at hk;simp [copK,hts,hargs]at hk
        |nil=>
         refine other ?_;rw[hop];simp only[copK,hts,hargs];split
         ·rename_i kt e hu;exact absurd ⟨t,x,kt,e,hts,hargs,hu⟩ hp
         ·rfl
   case copy=>
    simp only[hop,copK]at hk;split at hk
    ·rename_i t u x y hts hargs;have e1:ts= #[t,u]:=by apply X5;simpa using hts
     have e2:args= #[x,y]:=by apply X5;simpa using hargs
     subst e1;subst e2;split at hk
     ·rename_i e x' y' hu hx hy;have fin:∀{inf:TypeInfo} {str:Bool},P.info? e=some inf->(str=true->inf.size=1)->k= .ext (.cpy inf.size str) [x',y']->wpOpIn (FR r) 0 P ops Qc i Kc a w:=by
       intro inf str h1 h6 h5;subst h5;obtain⟨hoks,q1,q2⟩:=hst.1 hgv;simp only[W6,Wh]at q1 q2;obtain⟨v,w',p1,p2,p3,p4⟩:=KD (m:=base) (u:=u) (ty:=o.type) hR hu h1 h6 (opv hoks x x' hx (by simp [Io.opds])) (opv hoks y y' hy (by simp [Io.opds])) q1;exact finH hgv (by simp [execOp,hop,resolve,invoke,builtin,p1]) p2 p3 p4 q2
      split at hk
      ·rename_i inf h1 h2;split at hk
       ·rename_i hs1;cases hk;exact fin h1 (λ_=>hs1) rfl
       ·cases hk
      ·rename_i inf e' h1 h2;by_cases hb:mkv=true/\inf.size=1
       ·rw[Vv hb]at hk;cases hk;obtain⟨hoks,q1,q2⟩:=hst.1 hgv;simp only[W6,Wh]at q1 q2;obtain⟨v,w',p1,p2,p3,p4⟩:=P1 (m:=base) (u:=u) (ty:=o.type) hR hu h1 hb.2 (opv hoks x x' hx (by simp [Io.opds])) (opv hoks y y' hy (by simp [Io.opds])) q1;exact finH hgv (by simp [execOp,hop,resolve,invoke,builtin,p1]) p2 p3 p4 q2
       ·rw[V5 hb]at hk;cases hk;exact fin h1 zw rfl
      ·cases hk
     ·cases hk
    ·cases hk
   all_goals exact other (by rw[hop];first|rfl|simp [copK])
 case buildSlice t len parts=>
  simp only[hop,copK]at hk;cases mkv with
  |false=>
   simp only[W5,Wf]at hk;cases h1:copk P false (.buildSlice t len parts)with
   |none=>simp [h1]at hk
   |some k'=>simp [h1]at hk;exact value (by rw[hop];exact h1) hk.symm
  |true=>
   simp only[WB]at hk;split at hk
   ·rename_i e hu;split at hk
    ·rename_i z sz ps hz hsz hcp;cases hk;obtain⟨hoks,q1,q2⟩:=hst.1 hgv;simp only[xE]at q1 q2;have d7:base+i<s.n:=hbn rfl;obtain⟨v,w',g',p1,p2,p3,p4,p5⟩:=Pq (m:=base) hR hu hz hsz hcp (λx x' a b=>opv hoks x x' a b) q1.1 d7 (Wx _ _) q1.2.1 q1.2.2.2;exact finH hgv (by simp [execOp,hop,p1]) p2 p3 p4 q2
    ·cases hk
   ·cases hk
 case makeMap t r=>
  cases r with
  |some r=>rw[hop]at hk;simp [copK,copk]at hk
  |none=>
   simp only[hop,copK]at hk;split at hk
   ·rename_i kt e hu;cases hk;obtain⟨hoks,q1,q2⟩:=hst.1 hgv;simp only[Wh,xE]at q1 q2;have d7:base+i<s.n:=hbn rfl;obtain⟨v,w',g',p1,p2,p3,p4⟩:=Pw (m:=base) (P:=P) hR q1 d7 (Wx _ _) t;exact finH hgv (by simp [execOp,hop,p1]) p2 p3 p4 q2
   ·cases hk
 case lookup t x ix ok=>
  simp only[hop,copK]at hk;split at hk
  ·rename_i kt e x' ix' hu hx hix;split at hk
   ·rename_i kk z h1 h2;cases hk;obtain⟨hoks,q1,q2⟩:=hst.1 hgv;simp only[W6,Wh]at q1 q2;obtain⟨p1,v,p2,p3⟩:=Ni hR hu h1 h2 (opv hoks x x' hx (by simp [Io.opds])) (opv hoks ix ix' hix (by simp [Io.opds])) q1;rw[p1]at q2;exact finH hgv (by simp [execOp,hop,p2]) p3 hR (Yv.refl _ _ _ _) q2
   ·cases hk
  ·cases hk
 case mapUpdate t mm kk x=>exact put (t:=t) (mm:=mm) (kk:=kk) (x:=x) (by rw[hop]at hk;exact hk) (by simp [execOp,hop])
 case insert t mm kk x=>exact put (t:=t) (mm:=mm) (kk:=kk) (x:=x) (by rw[hop]at hk;exact hk) (by simp [execOp,hop])
 case range t x=>
  simp only[hop,copK]at hk;split at hk
  ·rename_i x' hu hx;cases hk;obtain⟨hoks,q1,q2⟩:=hst.1 hgv;simp only[W6,Wh]at q1 q2;have hv:=opv hoks x x' hx (by simp [Io.opds]);generalize lkv s.env x'=av at hv q1 q2;cases av<;>simp only[xE]at q1 q2<;>(try exact q1.elim);rename_i sv;have hv':a.eval x= .string ⟨sv.toArray⟩:=hv;have d7:base+i<s.n:=hbn rfl;obtain⟨v,w',g',p1,p2,p3,p4⟩:=Nf (m:=base) hR q1 d7 (Wx _ _) hu sv;exact finH hgv (by simp [execOp,hop,hv',p1]) p2 p3 p4 q2
  ·rename_i kt e x' hu hx;cases hk;obtain⟨hoks,q1,q2⟩:=hst.1 hgv;simp only[W6,Wh]at q1 q2;have hv:=opv hoks x x' hx (by simp [Io.opds]);generalize lkv s.env x'=av at hv q1 q2;cases av<;>simp only[xE]at q1 q2<;>(try exact q1.elim);rename_i mi;cases hh:hget s.H mi with
   |none=>rw[hh]at q1;exact q1.elim
   |some ob=>
    rw[hh]at q1 q2;cases ob<;>simp only[]at q1 q2<;>(try exact q1.elim);have d7:base+i<s.n:=hbn rfl;obtain⟨v,w',g',p1,p2,p3,p4⟩:=Ng (m:=base) (P:=P) hR q1 d7 (Wx _ _) hu hh hv;exact finH hgv (by simp [execOp,hop,p1]) p2 p3 p4 q2
  ·cases hk
 case next x b=>
  cases b with
  |false=>
   simp only[hop,copK]at hk;cases hx:copd x with
   |none=>simp [hx]at hk
   |some x'=>
    simp [hx]at hk;subst hk;obtain⟨hoks,q1⟩:=hst.1 hgv;have q1:Hg s.H (λH' v=>K ({s with H:=H'}.put o.dst true v)) (lkv s.env x'):=by simpa [A5]using q1
    obtain⟨v,w',g',H',v',p1,p2,p3,p4,p5⟩:=Px (m:=base) (P:=P) (ty:=o.type) (K:=λH' v=>K ({s with H:=H'}.put o.dst true v)) hR (opv hoks x x' hx (by simp [Io.opds])) q1;exact finH hgv (by simp [execOp,hop,p1]) p2 p3 p4 p5
  |true=>
   simp only[hop,copK]at hk;cases hx:copd x with
   |none=>simp [hx]at hk
   |some x'=>
    simp [hx]at hk;subst hk;obtain⟨hoks,q1,q2⟩:=hst.1 hgv;simp only[W6,Wh]at q1 q2;have hv:=opv hoks x x' hx (by simp [Io.opds]);generalize lkv s.env x'=av at hv q1 q2;cases av<;>simp only[xE]at q1 q2<;>(try exact q1.elim);rename_i id off;cases off with
    |succ o=>simp []at q1
    |zero=>
     simp only[]at q1 q2;cases hh:hget s.H id with
     |none=>rw[hh]at q1;exact q1.elim
     |some ob=>
      rw[hh]at q1 q2;cases ob<;>simp only[]at q1 q2<;>(try exact q1.elim);obtain⟨v,w',p1,p2,p3,p4⟩:=LR (m:=base) (P:=P) hR hh hv o.type;exact finH hgv (by simp [execOp,hop,p1]) p2 p3 p4 q2
 case entry x=>
  simp only[hop,copK]at hk;cases hx:copd x with
  |none=>simp [hx]at hk
  |some x'=>
   simp [hx]at hk;subst hk;obtain⟨hoks,q1,q2⟩:=hst.1 hgv;simp only[W6,Wh]at q1 q2;obtain⟨p1,v,p2,p3⟩:=Nh (P:=P) (w:=w) hR (opv hoks x x' hx (by simp [Io.opds])) q1;rw[p1]at q2;exact finH hgv (by simp [execOp,hop,p2]) p3 hR (Yv.refl _ _ _ _) q2
 case convert sT dT x=>
  by_cases hp:∃k,P.underlying sT=some (.int k)/\P.underlying dT=some .string
  ·obtain⟨kk,h1,h2⟩:=hp;simp only[hop,copK,h1,h2]at hk;cases hx:copd x with
   |none=>simp [hx]at hk
   |some x'=>
    simp [hx]at hk;subst hk;obtain⟨hoks,q1,q2⟩:=hst.1 hgv;simp only[W6,Wh]at q1 q2;have hv:=opv hoks x x' hx (by simp [Io.opds]);generalize lkv s.env x'=av at hv q1 q2;cases av<;>simp only[xE]at q1 q2<;>(try exact q1.elim);rename_i kx nx;have hv':a.eval x= .int kx nx:=hv;refine finH hgv (v:=.str (Utf8.encode nx).data.toList) (x:=.string (Utf8.encode nx)) (w':=w) ?_ (by simp [VRel]) hR (Yv.refl _ _ _ _) q2;simp [execOp,hop,hv',run_convert_int_string w sT dT kx nx (by rw[h1];rfl) h2]
  ·refine other ?_;rw[hop];simp only[copK];split
   ·rename_i kk h1 h2;exact absurd ⟨kk,h1,h2⟩ hp
   ·rfl
 case binOp bo t X Y yt=>
  by_cases hp:(bo= .eql\/bo= .neq)/\∃c kd,Y= .const c/\nilT P t c=some kd
  ·obtain⟨l5,c,kd,rfl,hnt⟩:=hp;obtain⟨nq,hq⟩:∃nq:Bool,(bo= .eql/\nq=false)\/(bo= .neq/\nq=true):=l5.elim (λh=>⟨false,.inl ⟨h,rfl⟩⟩) (λh=>⟨true,.inr ⟨h,rfl⟩⟩);have hk':(copd X).map (λa=>Io.ext (.nileq kd nq) [a])=some k:=by
    rcases hq with⟨rfl,rfl⟩|⟨rfl,rfl⟩<;>simpa [hop,copK,hnt]using hk
   cases hx:copd X with
   |none=>simp [hx]at hk'
   |some x'=>
    simp [hx]at hk';subst hk';obtain⟨hoks,q1,q2⟩:=hst.1 hgv;simp only[W6,Wh]at q1 q2;obtain⟨p1,v,p2,p3⟩:=LS (P:=P) (w:=w) (X:=X) hq hnt (opv hoks X x' hx (by simp [Io.opds])) q1;rw[p1]at q2;refine finH hgv ?_ p3 hR (Yv.refl _ _ _ _) q2;have hc:a.eval (.const c)=c:=rfl;simp only[Sem.run_bind]at p2;cases he:Sem.run P (eqGuard bo t X (.const c) (a.eval X) c) w<;>simp [he,Result.andThen]at p2;rename_i u w2;have p4:(Sem.run P (binOp bo t (a.eval X) c) w2)= .ok v w:=by simpa [Result.andThen]using p2
    simp [execOp,hop,hc,he,Result.andThen,p4]
  ·by_cases hp2:(bo= .eql\/bo= .neq)/\∃c,Y= .const c/\Na P t c=true
   ·obtain⟨l5,c,rfl,hns⟩:=hp2;have hnt:nilT P t c=none:=by
     cases q:nilT P t c with
     |none=>rfl
     |some kd=>exact absurd ⟨l5,c,kd,rfl,q⟩ hp
    obtain⟨nq,hq⟩:∃nq:Bool,(bo= .eql/\nq=false)\/(bo= .neq/\nq=true):=l5.elim (λh=>⟨false,.inl ⟨h,rfl⟩⟩) (λh=>⟨true,.inr ⟨h,rfl⟩⟩);have hk':(copd X).map (λa=>Io.nils nq a)=some k:=by
     rcases hq with⟨rfl,rfl⟩|⟨rfl,rfl⟩<;>simpa [hop,copK,hnt,hns]using hk
    cases hx:copd X with
    |none=>simp [hx]at hk'
    |some x'=>
     simp [hx]at hk';subst hk';obtain⟨hoks,q1⟩:=hst.1 hgv;obtain⟨b,p2,p3⟩:=Nk (P:=P) (w:=w) (X:=X) (K:=λb=>K (s.put o.dst true (.bool b))) hq hns (opv hoks X x' hx (by simp [Io.opds])) (show FU _ _ _ from q1);refine finH hgv (v:=.bool b) (x:=.bool b) (w':=w) ?_ rfl hR (Yv.refl _ _ _ _) p3;have hc:a.eval (.const c)=c:=rfl;simp only[Sem.run_bind]at p2;cases he:Sem.run P (eqGuard bo t X (.const c) (a.eval X) c) w<;>simp [he,Result.andThen]at p2;rename_i u w2;have p4:(Sem.run P (binOp bo t (a.eval X) c) w2)= .ok (.bool b) w:=by simpa [Result.andThen]using p2
     simp [execOp,hop,hc,he,Result.andThen,p4]
   refine other ?_;rw[hop];have a1:∀c,(bo= .eql\/bo= .neq)->Y= .const c->nilT P t c=none:=λc h1 h2=>by
    cases q:nilT P t c with
    |none=>rfl
    |some kd=>exact absurd ⟨h1,c,kd,h2,q⟩ hp
   have a2:∀c,(bo= .eql\/bo= .neq)->Y= .const c->¬Na P t c=true:=λc h1 h2 q=>hp2 ⟨h1,c,h2,q⟩
   cases bo<;>cases Y<;>first|rfl|(rename_i c;simp only[copK];rw[a1 c zw rfl];simp only[a2 c zw rfl];done)|(rename_i c;simp only[copK];rw[a1 c zw rfl];simp only[];rw[V5 (a2 c zw rfl)])
 case typeAssert x xt t ok=>
  simp only[hop,copK]at hk;split at hk
  ·cases hk
  ·rename_i hi;split at hk
   ·rename_i x' z hx hz;cases hk;obtain⟨hoks,q1,q2⟩:=hst.1 hgv;simp only[W6,Wh]at q1 q2;obtain⟨p1,v,p2,p3⟩:=Py (xt:=xt) (w:=w) (by simpa using hi) hz (opv hoks x x' hx (by simp [Io.opds])) q1;rw[p1]at q2;exact finH hgv (by simp [execOp,hop,p2]) p3 hR (Yv.refl _ _ _ _) q2
   ·cases hk
 all_goals exact other (by rw[hop];first|rfl|simp [copK])
end
end
section
def EEq:Option (Bool×Fs)->Option (Bool×Fs)->Prop
 |none,none=>True
 |some (g,v),some (g',v')=>g=g'/\(g=true->v=v')
 |_,_=>False
theorem EEq.rfl':∀x,EEq x x
 |none=>trivial
 |some (g,v)=>⟨rfl,λ_=>rfl⟩
theorem EEq.symm:∀{x y},EEq x y->EEq y x
 |none,none,_=>trivial
 |some _,some _,⟨h1,h2⟩=>⟨h1.symm,λh=>(h2 (h1▸h)).symm⟩
 |none,some _,h=>h.elim
 |some _,none,h=>h.elim
theorem EEq.trans:∀{x y z},EEq x y->EEq y z->EEq x z
 |none,none,none,_,_=>trivial
 |some _,some _,some _,⟨h1,h2⟩,⟨h3,h4⟩=>⟨h1.trans h3,λh=>(h2 h).trans (h4 (h1▸h))⟩
 |none,some _,_,h,_=>h.elim
 |some _,none,_,h,_=>h.elim
 |none,none,some _,_,h=>h.elim
 |some _,some _,none,_,h=>h.elim
def SEq(kp:List Nat)(s s':AS):Prop:=(∀t,EEq (eget s.env t) (eget s'.env t)/\(t∈kp->eget s.env t=eget s'.env t))/\s.H=s'.H/\s.n=s'.n
def SEq.trans{kp:List Nat}{a b c:AS}(h:SEq kp a b)(k:SEq kp b c):SEq kp a c:=
 ⟨λt=>⟨(h.1 t).1.trans (k.1 t).1,λm=>((h.1 t).2 m).trans ((k.1 t).2 m)⟩,h.2.1.trans k.2.1,h.2.2.trans k.2.2⟩
def Look(o:Z9)(env env':List (Nat×Bool×Fs)):Prop:=
 (∀i,Yy.t i∈o.k.opds->EEq (eget env i) (eget env' i))/\∀i w,o.guard=some (i,w)->EEq (eget env i) (eget env' i)
variable {o:Z9} {env env':List (Nat×Bool×Fs)}
theorem lk_eq{i:Nat}(h:EEq (eget env i) (eget env' i)):(lk env (.t i)).1=(lk env' (.t i)).1/\((lk env (.t i)).1=true->lkv env (.t i)=lkv env' (.t i)):=by
 simp only[lk,lkv];cases h1:eget env i with
 |none=>cases h2:eget env' i with
  |none=>simp
  |some y=>simp [h1,h2,EEq]at h
 |some x=>cases h2:eget env' i with
  |none=>simp [h1,h2,EEq]at h
  |some y=>
   obtain⟨g,v⟩:=x;obtain⟨g',v'⟩:=y;simp only[h1,h2,EEq]at h;exact h
theorem Cs(h:Look o env env'){x:Yy}(hx:x∈o.k.opds):
  (lk env x).1=(lk env' x).1/\((lk env x).1=true->lkv env x=lkv env' x):=by
 cases x with
 |t i=>exact lk_eq (h.1 i hx)
 |c v=>exact⟨rfl,λ_=>rfl⟩
theorem By(h:Look o env env'):gok env o.guard->gok env' o.guard:=by
 cases hg:o.guard with
 |none=>exact id
 |some gw=>
  obtain⟨i,w⟩:=gw;have h1:=h.2 i w hg;simp only[gok];cases e1:eget env i with
  |none=>intro h;exact h.elim
  |some x=>cases e2:eget env' i with
   |none=>simp [e1,e2,EEq]at h1
   |some y=>
    obtain⟨g,v⟩:=x;obtain⟨g',v'⟩:=y;simp only[e1,e2,EEq]at h1;intro k q;have:=h1.1;subst this;rw[<-h1.2 q];exact k q
theorem Ct(h:Look o env env'):gvb env o.guard=gvb env' o.guard:=by
 cases hg:o.guard with
 |none=>rfl
 |some gw=>
  obtain⟨i,w⟩:=gw;have h1:=lk_eq (h.2 i w hg);simp only[gvb];rw[<-h1.1];cases hh:(lk env (.t i)).1 with
  |false=>rfl
  |true=>rw[h1.2 hh]
theorem LT:∀{l:List Yy},oks env l↔∀x∈l,(lk env x).1=true
 |[]=>by simp [oks]
 |y::l=>by simp [oks,LT (l:=l)]
theorem JA(h:Look o env env'){l:List Yy}(hl:∀x∈l,x∈o.k.opds):oks env l->oks env' l:=by grind [LT,Cs]
theorem JB(h:Look o env env'){l:List Yy}(hl:∀x∈l,x∈o.k.opds)(i5:oks env l):∀x∈l,lkv env x=lkv env' x:=
 λx hx=>(Cs h (hl x hx)).2 (LT.1 i5 x hx)
theorem KF{H:AC}{ρ ρ':Yy->Fs}:∀(k:Z1),(∀x∈k.opds,ρ x=ρ' x)->evk H ρ k=evk H ρ' k:=by
 intro k h;cases k with
 |mnmx mx kk xs=>
  simp only[Z1.opds]at h;have h1:(∀x∈xs,isI kk (ρ x))↔∀x∈xs,isI kk (ρ' x):=⟨λa x hx=>h x hx▸a x hx,λa x hx=>(h x hx).symm▸a x hx⟩;simp only[evk,evMM,h1];congr 2;cases xs with
  |nil=>rfl
  |cons x r=>
   simp only[];rw[h x zw];have:∀(l:List Yy) (m:Int),(∀y∈l,ρ y=ρ' y)->l.foldl (λm y=>if mx=true then max m (toI (ρ y))else min m (toI (ρ y))) m=l.foldl (λm y=>if mx=true then max m (toI (ρ' y))else min m (toI (ρ' y))) m:=by
    intro l;induction l with
    |nil=>intros;rfl
    |cons y l ih=>intro m hl;simp only[X3];rw[hl y zw];exact ih _ λz hz=>hl z (by simp [hz])
   exact this r _ λy hy=>h y (by simp [hy])
 |build z ps=>
  simp only[Z1.opds,WL]at h;have h0:∀p∈ps,ρ p.2.2=ρ' p.2.2:=λp hp=>h _ ⟨p,hp,rfl⟩
  have h1:(∀p∈ps,nT (ρ p.2.2)/\(ρ p.2.2).cells.length=p.2.1/\p.1+p.2.1<=z.length)↔∀p∈ps,nT (ρ' p.2.2)/\(ρ' p.2.2).cells.length=p.2.1/\p.1+p.2.1<=z.length:=
   ⟨λa p hp=>h0 p hp▸a p hp,λa p hp=>(h0 p hp).symm▸a p hp⟩
  simp only[evk,evB,h1];congr 2;have:∀(l:List (Nat×Nat×Yy)) (m:List Fs),(∀p∈l,ρ p.2.2=ρ' p.2.2)->l.foldl (λcs p=>splice cs p.1 (ρ p.2.2).cells) m=l.foldl (λcs p=>splice cs p.1 (ρ' p.2.2).cells) m:=by
   intro l;induction l with
   |nil=>intros;rfl
   |cons y l ih=>intro m hl;simp only[X3];rw[hl y zw];exact ih _ λz hz=>hl z (by simp [hz])
  exact this ps _ h0
 |bs e n z ps=>
  simp only[Z1.opds,WL]at h;have h0:∀p∈ps,ρ p.2=ρ' p.2:=λp hp=>h _ ⟨p,hp,rfl⟩
  have h1:(∀p∈ps,nT (ρ p.2)/\(ρ p.2).cells.length=e/\p.1<n)↔∀p∈ps,nT (ρ' p.2)/\(ρ' p.2).cells.length=e/\p.1<n:=
   ⟨λa p hp=>h0 p hp▸a p hp,λa p hp=>(h0 p hp).symm▸a p hp⟩
  simp only[evk,evS,h1];congr 2;have:∀(l:List (Nat×Yy)) (m:List Fs),(∀p∈l,ρ p.2=ρ' p.2)->l.foldl (λl p=>l.set p.1 (ρ p.2)) m=l.foldl (λl p=>l.set p.1 (ρ' p.2)) m:=by
   intro l;induction l with
   |nil=>intros;rfl
   |cons y l ih=>intro m hl;simp only[X3];rw[hl y zw];exact ih _ λz hz=>hl z (by simp [hz])
  exact this ps _ h0
 |fn f a b=>
  simp only[Z1.opds,WH]at h;simp only[evk];rw[Wz (λx hx=>h x (.inl hx)),Wz (λx hx=>h x (.inr hx))]
 |slS x lo hi=>
  have hx:=h x (by simp [Z1.opds]);have hl:∀y,lo=some y->ρ y=ρ' y:=λy e=>h y (by simp [Z1.opds,e])
  have hh:∀y,hi=some y->ρ y=ρ' y:=λy e=>h y (by simp [Z1.opds,e])
  cases lo<;>cases hi<;>simp only[evk,bnd,bndI,hx]<;>(try rw[hl _ rfl])<;>(try rw[hh _ rfl])
 |slp n x lo hi=>
  have hx:=h x (by simp [Z1.opds]);have hl:∀y,lo=some y->ρ y=ρ' y:=λy e=>h y (by simp [Z1.opds,e])
  have hh:∀y,hi=some y->ρ y=ρ' y:=λy e=>h y (by simp [Z1.opds,e])
  cases lo<;>cases hi<;>simp only[evk,bnd,bndI,hx]<;>(try rw[hl _ rfl])<;>(try rw[hh _ rfl])
 |sl e x lo hi mx=>
  have hx:=h x (by simp [Z1.opds]);have hl:∀y,lo=some y->ρ y=ρ' y:=λy e=>h y (by simp [Z1.opds,e])
  have hh:∀y,hi=some y->ρ y=ρ' y:=λy e=>h y (by simp [Z1.opds,e])
  have hm:∀y,mx=some y->ρ y=ρ' y:=λy e=>h y (by simp [Z1.opds,e])
  have b1:∀d,bnd ρ d lo=bnd ρ' d lo:=by intro d;cases lo with
   |none=>rfl
   |some y=>simp only[bnd];rw[hl y rfl]
  have b2:∀d,bnd ρ d hi=bnd ρ' d hi:=by intro d;cases hi with
   |none=>rfl
   |some y=>simp only[bnd];rw[hh y rfl]
  have b3:bndI ρ lo=bndI ρ' lo:=by cases lo with
   |none=>rfl
   |some y=>simp only[bndI];rw[hl y rfl]
  have b4:bndI ρ hi=bndI ρ' hi:=by cases hi with
   |none=>rfl
   |some y=>simp only[bndI];rw[hh y rfl]
  have b5:bndI ρ mx=bndI ρ' mx:=by cases mx with
   |none=>rfl
   |some y=>simp only[bndI];rw[hm y rfl]
  have b6:(mx.map λm=>toI (ρ m))=mx.map λm=>toI (ρ' m):=by cases mx with
   |none=>rfl
   |some y=>simp only[Wt];rw[hm y rfl]
  have b7:∀(a b:Int),(∀m,mx=some m->a<=toI (ρ m)/\toI (ρ m)<=b)=∀m,mx=some m->a<=toI (ρ' m)/\toI (ρ' m)<=b:=by simp_all
  have b8:∀(id e' off len cap:Nat),Eu e ρ lo hi id e' off len cap mx=Eu e ρ' lo hi id e' off len cap mx:=λid e' off len cap=>by
   cases mx with
   |none=>simp only[Eu,b1,b2,b3,b4]
   |some m=>simp only[Eu,b1,b2,b3,b4,hm m rfl]
  simp only[evk,hx,b1,b2,b3,b4,b5,b6,b7,b8]
 |_=>first
  |(simp only[Z1.opds,Wp,Xz,or_false,forall_eq_or_imp,forall_eq]at h;simp only[evk,h];done)
  |(simp only[Z1.opds,Wp,Xz,or_false,forall_eq_or_imp,forall_eq]at h;obtain⟨h1,h2⟩:=h;simp only[evk,h1,h2])
end
section
variable {P:Program} {Qp:Fs->AC->Nat->Prop} {base:Nat}
theorem Dr(s:AS)(d:Option Nat)(g:Bool)(v:Fs)(t:Nat):eget (s.put d g v).env t=if d=some t then some (g,v)else eget s.env t:=by
 cases d with
 |none=>simp [AS.put]
 |some d=>simp [AS.put,eget]
theorem Ba(s:AS)(d:Option Nat)(g:Bool)(v:Fs):(s.put d g v).H=s.H:=by cases d<;>rfl
theorem Dj(s:AS)(d:Option Nat)(g:Bool)(v:Fs):(s.put d g v).n=s.n:=by cases d<;>rfl
theorem BX{o:Z9}{K K':AS->Prop}{s1 s:AS}(hl:Look o s1.env s.env)(hH:s1.H=s.H)(hn:s1.n=s.n)
  (hK:∀H n g v v',(g=true->v=v')->(s1=s->v=v')->(o.guard=none->g=true)->K ({s1 with H:=H,n:=n}.put o.dst g v)->K' ({s with H:=H,n:=n}.put o.dst g v')):
  AU P Qp base o K s1->AU P Qp base o K' s:=by
 obtain⟨dst,guard,k⟩:=o;have hg:=Ct hl;have hgn:guard=none->gvb s1.env guard=true:=by rintro rfl;rfl
 simp only at hg hK;have rho:oks s1.env k.opds->∀x∈k.opds,lkv s1.env x=lkv s.env x:=λh=>JB hl (l:=k.opds) (λx hx=>hx) h
 have oksT:oks s1.env k.opds->oks s.env k.opds:=JA hl (l:=k.opds) (λx hx=>hx);rintro⟨h0,h1⟩;refine⟨By hl h0,?_⟩;cases k with
 |v k=>
  simp only at h1⊢;have e:gvb s1.env guard=true->evk s1.H (lkv s1.env) k=evk s.H (lkv s.env) k:=λq=>by rw[hH];exact KF k (rho (h1.1 q).1)
  refine⟨λq=>?_,?_⟩
  ·rw[<-hg]at q;exact⟨oksT (h1.1 q).1,e q▸(h1.1 q).2⟩
  ·have:=hK s1.H s1.n _ _ (evk s.H (lkv s.env) k).2 (λq=>by rw[e q]) (λq=>by rw[q]) hgn h1.2;rw[hH,hn,hg]at this;exact this
 |pick c a b=>
  simp only at h1⊢;have l1:=Cs hl (x:=c) (by simp [Io.opds]);have l2:=Cs hl (x:=a) (by simp [Io.opds]);have l3:=Cs hl (x:=b) (by simp [Io.opds]);have ec:gvb s1.env guard=true->lkv s1.env c=lkv s.env c:=λq=>l1.2 (h1.1 q).1
  have sd:gvb s.env guard=true->(lk s.env c).1=true/\isB (lkv s.env c)/\(toB (lkv s.env c)=true->(lk s.env a).1=true)/\(toB (lkv s.env c)=false->(lk s.env b).1=true):=λq=>by
   rw[<-hg]at q;obtain⟨q1,q2,q3,q4⟩:=h1.1 q;rw[ec q]at q2 q3 q4;rw[<-l1.1,<-l2.1,<-l3.1];exact⟨q1,q2,q3,q4⟩
  refine⟨sd,?_⟩;have:=hK s1.H s1.n _ _ (sel (toB (lkv s.env c)) (lkv s.env a) (lkv s.env b)) (λq=>by
   have hsel:∀(t:Bool) (x y x' y':Fs),(t=true->x=x')->(t=false->y=y')->sel t x y=sel t x' y':=by
    intro t x y x' y' p1 p2;cases t with
    |true=>have:=p1 rfl;subst this;cases x<;>cases y<;>cases y'<;>rfl
    |false=>have:=p2 rfl;subst this;cases y<;>cases x<;>cases x'<;>rfl
   rw[<-ec q];obtain⟨q1,q2,q3,q4⟩:=h1.1 q;exact hsel _ _ _ _ _ (λp=>l2.2 (q3 p)) (λp=>l3.2 (q4 p))) (λq=>by rw[q]) hgn h1.2
  rw[hH,hn,hg]at this;exact this
 |call qt f args=>
  cases qt with
  |true=>
   simp only at h1⊢;obtain⟨r,h1,h2⟩:=h1;refine⟨r,λq=>?_,?_⟩
   ·rw[<-hg]at q;obtain⟨q1,q2,q3⟩:=h1 q;have q5:oks s1.env (Io.call true f args).opds:=⟨q1,q2⟩;have rh:=rho q5;have e1:lkv s1.env f=lkv s.env f:=rh f (by simp [Io.opds]);have e2:args.map (lkv s1.env)=args.map (lkv s.env):=Wz λx hx=>rh x (by simp [Io.opds,hx])
    refine⟨(oksT q5).1,(oksT q5).2,?_⟩;rw[e1,e2,hH,hn]at q3;exact q3
   ·have:=hK s1.H s1.n _ _ r (λq=>rfl) (λq=>rfl) hgn h2;rw[hH,hn,hg]at this;exact this
  |false=>
   simp only at h1⊢;rw[<-hg];refine⟨λq=>?_,λq=>?_⟩
   ·obtain⟨q1,q2⟩:=h1.1 q;refine⟨oksT q1,?_⟩;have rh:=rho q1;have e1:lkv s1.env f=lkv s.env f:=rh f (by simp [Io.opds]);have e2:args.map (lkv s1.env)=args.map (lkv s.env):=Wz λx hx=>rh x (by simp [Io.opds,hx])
    simp only[A5]at q2⊢;rw[e1,e2,hH,hn]at q2;generalize lkv s.env f=fv at q2⊢;cases fv<;>(try simp only[]at q2)<;>first|exact q2.elim|skip
    rename_i ff first cap
    cases ff with
    |func fid=>
     refine AN.mono q2 λout H' n' hh=>?_
     cases out with
     |ret v=>exact hK H' n' true v v (λ_=>rfl) (λ_=>rfl) (λ_=>rfl) hh
     |pan v=>exact hh
    |yield l=>
     cases first with
     |cons _ _=>exact q2.elim
     |nil=>cases cap with
      |cons _ _=>exact q2.elim
      |nil=>exact B2.mono q2 λb H' n' hh=>hK H' n' true (.bool b) (.bool b) (λ_=>rfl) (λ_=>rfl) (λ_=>rfl) hh
    |_=>exact q2.elim
   ·have:=hK s1.H s1.n false (.tup []) (.tup []) zw (λ_=>rfl) (λq'=>by have:=hgn q';rw[q]at this;cases this) (h1.2 q);rw[hH,hn]at this;exact this
 |pan x=>
  simp only at h1⊢;rw[<-hg];refine⟨λq=>?_,λq=>?_⟩
  ·simp_all [Io.opds,A5]
  ·have:=hK s1.H s1.n false (.tup []) (.tup []) zw (λ_=>rfl) (λq'=>by have:=hgn q';rw[q]at this;cases this) (h1.2 q);rw[hH,hn]at this;exact this
 |ext x xs=>
  simp only at h1⊢;rw[<-hg];refine⟨λq=>?_,λq=>?_⟩
  ·obtain⟨q1,q2⟩:=h1.1 q;refine⟨oksT q1,?_⟩;have rh:=rho q1;have e2:xs.map (lkv s1.env)=xs.map (lkv s.env):=Wz λz hz=>rh z (by simp [Io.opds,hz])
   simp only[A5]at q2⊢;rw[e2,hH]at q2;refine⟨q2.1,?_⟩;have:=hK _ s1.n true _ _ (λ_=>rfl) (λ_=>rfl) (λ_=>rfl) q2.2;rw[hn]at this;exact this
  ·have:=hK s1.H s1.n false (.tup []) (.tup []) zw (λ_=>rfl) (λq'=>by have:=hgn q';rw[q]at this;cases this) (h1.2 q);rw[hH,hn]at this;exact this
 |appR rel esz bytes zero x y str=>
  simp only at h1⊢;rw[<-hg];refine⟨λq=>?_,λq=>?_⟩
  ·obtain⟨q1,q2⟩:=h1.1 q;refine⟨oksT q1,?_⟩;have rh:=rho q1;have e1:lkv s1.env x=lkv s.env x:=rh x (by simp [Io.opds]);have e2:Bz s1.H (lkv s1.env) esz y str=Bz s.H (lkv s.env) esz y str:=by simp_all [Io.opds,Bz]
   simp only[A5]at q2⊢;rw[e1,e2,hH]at q2;refine E6 (λH' v hh=>?_) q2;have:=hK H' s1.n true _ _ (λ_=>rfl) (λ_=>rfl) (λ_=>rfl) hh;rw[hn]at this;exact this
  ·have:=hK s1.H s1.n false (.tup []) (.tup []) zw (λ_=>rfl) (λq'=>by have:=hgn q';rw[q]at this;cases this) (h1.2 q);rw[hH,hn]at this;exact this
 |appZ rel esz bytes zero x y=>
  simp only at h1⊢;rw[<-hg];refine⟨λq=>?_,λq=>?_⟩
  ·obtain⟨q1,q2⟩:=h1.1 q;refine⟨oksT q1,?_⟩;have rh:=rho q1;have e1:lkv s1.env x=lkv s.env x:=rh x (by simp [Io.opds]);have e2:lkv s1.env y=lkv s.env y:=rh y (by simp [Io.opds]);simp only[A5]at q2⊢;rw[e1,e2,hH]at q2;refine K6 (λH' v hh=>?_) q2;have:=hK H' s1.n true _ _ (λ_=>rfl) (λ_=>rfl) (λ_=>rfl) hh;rw[hn]at this;exact this
  ·have:=hK s1.H s1.n false (.tup []) (.tup []) zw (λ_=>rfl) (λq'=>by have:=hgn q';rw[q]at this;cases this) (h1.2 q);rw[hH,hn]at this;exact this
 |cpu f args=>
  simp only at h1⊢;rw[<-hg];refine⟨λq=>?_,λq=>?_⟩
  ·obtain⟨q1,q2⟩:=h1.1 q;refine⟨oksT q1,?_⟩;have rh:=rho q1;have e1:lkv s1.env f=lkv s.env f:=rh f (by simp [Io.opds]);have e2:args.map (lkv s1.env)=args.map (lkv s.env):=Wz λx hx=>rh x (by simp [Io.opds,hx])
   simp only[A5]at q2⊢;rw[e1,e2]at q2;generalize lkv s.env f=fv at q2⊢;cases fv<;>(try simp only[]at q2)<;>first|exact q2.elim|skip
   rename_i ff first cap
   cases ff<;>(try simp only[]at q2)<;>first|exact q2.elim|skip
   obtain⟨r,p1,p2⟩:=q2;have:=hK s1.H s1.n true r r (λ_=>rfl) (λ_=>rfl) (λ_=>rfl) p2;rw[hH,hn]at this;exact⟨r,p1,this⟩
  ·have:=hK s1.H s1.n false (.tup []) (.tup []) zw (λ_=>rfl) (λq'=>by have:=hgn q';rw[q]at this;cases this) (h1.2 q);rw[hH,hn]at this;exact this
 |nils nq x=>
  simp only at h1⊢;rw[<-hg];refine⟨λq=>?_,λq=>?_⟩
  ·obtain⟨q1,q2⟩:=h1.1 q;refine⟨oksT q1,?_⟩;have rh:=rho q1;have e1:lkv s1.env x=lkv s.env x:=rh x (by simp [Io.opds]);simp only[A5]at q2⊢;rw[e1]at q2;refine K7 (λb hh=>?_) q2;have:=hK s1.H s1.n true _ _ (λ_=>rfl) (λ_=>rfl) (λ_=>rfl) hh;rw[hH,hn]at this;exact this
  ·have:=hK s1.H s1.n false (.tup []) (.tup []) zw (λ_=>rfl) (λq'=>by have:=hgn q';rw[q]at this;cases this) (h1.2 q);rw[hH,hn]at this;exact this
 |mnx x=>
  simp only at h1⊢;rw[<-hg];refine⟨λq=>?_,λq=>?_⟩
  ·obtain⟨q1,q2⟩:=h1.1 q;refine⟨oksT q1,?_⟩;have rh:=rho q1;have e1:lkv s1.env x=lkv s.env x:=rh x (by simp [Io.opds]);simp only[A5]at q2⊢;rw[e1,hH]at q2;refine NS (λH' v hh=>?_) q2;have:=hK H' s1.n true _ _ (λ_=>rfl) (λ_=>rfl) (λ_=>rfl) hh;rw[hn]at this;exact this
  ·have:=hK s1.H s1.n false (.tup []) (.tup []) zw (λ_=>rfl) (λq'=>by have:=hgn q';rw[q]at this;cases this) (h1.2 q);rw[hH,hn]at this;exact this
 |slA nn x lo hi=>
  simp only at h1⊢;rw[<-hg];refine⟨λq=>?_,λq=>?_⟩
  ·obtain⟨q1,q2⟩:=h1.1 q;refine⟨oksT q1,?_⟩;have rh:=rho q1;have e1:lkv s1.env x=lkv s.env x:=rh x (by simp [Io.opds]);have eb:∀(y:Option Yy),(∀z,y=some z->z∈(Io.slA nn x lo hi).opds)->(bndI (lkv s1.env) y↔bndI (lkv s.env) y)/\∀d,bnd (lkv s1.env) d y=bnd (lkv s.env) d y:=by
    intro y hy;cases y with
    |none=>exact⟨Iff.rfl,λ_=>rfl⟩
    |some z=>have:=rh z (hy z rfl);exact⟨by simp only[bndI,this],λd=>by simp only[bnd,this]⟩
   have b1:=eb lo (by rintro z rfl;simp [Io.opds]);have b2:=eb hi (by rintro z rfl;simp [Io.opds]);simp only[A5]at q2⊢;rw[e1,hH,b1.2,b2.2]at q2;refine⟨b1.1.1 q2.1,b2.1.1 q2.2.1,NR (λH' v hh=>?_) q2.2.2⟩;have:=hK H' s1.n true _ _ (λ_=>rfl) (λ_=>rfl) (λ_=>rfl) hh;rw[hn]at this;exact this
  ·have:=hK s1.H s1.n false (.tup []) (.tup []) zw (λ_=>rfl) (λq'=>by have:=hgn q';rw[q]at this;cases this) (h1.2 q);rw[hH,hn]at this;exact this
 |alloc rel cs=>
  simp only at h1⊢;rw[<-hg];refine⟨λq=>?_,λq=>?_⟩
  ·obtain⟨q1,q2⟩:=h1.1 q;refine⟨oksT q1,?_⟩;simp only[A5]at q2⊢;refine⟨hH▸q2.1,?_⟩;have:=hK _ s1.n true _ _ (λ_=>rfl) (λ_=>rfl) (λ_=>rfl) q2.2;rw[hH,hn]at this;exact this
  ·have:=hK s1.H s1.n false (.tup []) (.tup []) zw (λ_=>rfl) (λq'=>by have:=hgn q';rw[q]at this;cases this) (h1.2 q);rw[hH,hn]at this;exact this
 |box rel sz x=>
  simp only at h1⊢;rw[<-hg];refine⟨λq=>?_,λq=>?_⟩
  ·obtain⟨q1,q2⟩:=h1.1 q;refine⟨oksT q1,?_⟩;have rh:=rho q1;have e1:lkv s1.env x=lkv s.env x:=rh x (by simp [Io.opds]);simp only[A5]at q2⊢;rw[e1]at q2;refine⟨hH▸q2.1,q2.2.1,q2.2.2.1,?_⟩;have:=hK _ s1.n true _ _ (λ_=>rfl) (λ_=>rfl) (λ_=>rfl) q2.2.2.2;rw[hH,hn]at this;exact this
  ·have:=hK s1.H s1.n false (.tup []) (.tup []) zw (λ_=>rfl) (λq'=>by have:=hgn q';rw[q]at this;cases this) (h1.2 q);rw[hH,hn]at this;exact this
 |mks rel esz bytes zero x=>
  simp only at h1⊢;rw[<-hg];refine⟨λq=>?_,λq=>?_⟩
  ·obtain⟨q1,q2⟩:=h1.1 q;refine⟨oksT q1,?_⟩;have rh:=rho q1;have e1:lkv s1.env x=lkv s.env x:=rh x (by simp [Io.opds]);simp only[A5]at q2⊢;rw[e1]at q2;obtain⟨p1,p2,p3,p4,p5,p6,p7⟩:=q2;refine⟨hH▸p1,p2,p3,p4,p5,p6,?_⟩;have:=hK _ s1.n true _ _ (λ_=>rfl) (λ_=>rfl) (λ_=>rfl) p7;rw[hH,hn]at this;exact this
  ·have:=hK s1.H s1.n false (.tup []) (.tup []) zw (λ_=>rfl) (λq'=>by have:=hgn q';rw[q]at this;cases this) (h1.2 q);rw[hH,hn]at this;exact this
 |st sz a x=>
  simp only at h1⊢;rw[<-hg];refine⟨λq=>?_,λq=>?_⟩
  ·grind [Io.opds,A5]
  ·have:=hK s1.H s1.n false (.tup []) (.tup []) zw (λ_=>rfl) (λq'=>by have:=hgn q';rw[q]at this;cases this) (h1.2 q);rw[hH,hn]at this;exact this
 |app rel esz bytes x y str=>
  simp only at h1⊢;rw[<-hg];refine⟨λq=>?_,λq=>?_⟩
  ·obtain⟨q1,q2⟩:=h1.1 q;refine⟨oksT q1,?_⟩;have rh:=rho q1;have e1:lkv s1.env x=lkv s.env x:=rh x (by simp [Io.opds]);have e2:Bz s1.H (lkv s1.env) esz y str=Bz s.H (lkv s.env) esz y str:=by
    have:=rh y (by simp [Io.opds]);cases str<;>simp only[Bz,this,hH]
   simp only[A5]at q2⊢;rw[e1,e2]at q2;generalize lkv s.env x=av at q2⊢;generalize Bz s.H (lkv s.env) esz y str=bv at q2⊢;cases av<;>(try simp only[]at q2)<;>first|exact q2.elim|skip
   rename_i tok l;cases bv<;>(try simp only[]at q2)<;>first|exact q2.elim|skip
   simp only[]at q2⊢;obtain⟨p1,p2,p3,p4,p5,p6⟩:=q2;refine⟨hH▸p1,hH▸p2,p3,p4,p5,?_⟩;have:=hK _ s1.n true _ _ (λ_=>rfl) (λ_=>rfl) (λ_=>rfl) p6;rw[hH,hn]at this;exact this
  ·have:=hK s1.H s1.n false (.tup []) (.tup []) zw (λ_=>rfl) (λq'=>by have:=hgn q';rw[q]at this;cases this) (h1.2 q);rw[hH,hn]at this;exact this
theorem Ds{o:Z9}{K K':AS->Prop}{s:AS}(h:∀s',K s'->K' s'):AU P Qp base o K s->AU P Qp base o K' s:=by
 refine BX ⟨λ_ _=>EEq.rfl' _,λ_ _ _=>EEq.rfl' _⟩ rfl rfl ?_;intro H n g v v' h1 h2 h3 h4;rw[<-h2 rfl];exact h _ h4
end
end Go.AM
