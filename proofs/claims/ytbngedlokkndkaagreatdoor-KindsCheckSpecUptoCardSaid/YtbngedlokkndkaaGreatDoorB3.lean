/-
  The abstract machine, part L: operations that make or change objects, and calls; one step of a region · The abstract mac.
  Conditions: none beyond those of its parts.
-/
import Derived.Test.YtbngedlokkndkaaGreatDoorB2
import Derived.MapKept
import Derived.Lib.OthersKept
import Derived.Laws.Runes
import Derived.Laws.IdiomRangeMap
import Derived.Carry
import Derived.WideKeyRuns
import Derived.Lib.AppendZerosOnto

set_option maxRecDepth 20000
set_option linter.all false
namespace Go.AM
section
variable {P:Program} {g:z8} {H:AB} {n m:Nat} {w:World}
variable {c:Array Value} {id sz:Nat} {t:TypeId} {v:Value}
theorem Yr(R:x6 g H n w)(h0:AD H id=none)(s5:id<n)(hm:m<=id){a:Fs}(hv:AP g a v)(hn:nT a):
  ∃g',x6 g' (sA H id (.box a.cells)) n (w.alloc (.cells v.cells t))/\q8 m g H w g' (sA H id (.box a.cells)) (w.alloc (.cells v.cells t))/\g.le g'/\AP g' (.ptr id 0) (.pointer (some ⟨w.heap.size,0,none⟩)):=by
 have l9:=sG.length _ _ hv.cells;simp only[pq]at l9;have tX:(w.alloc (.cells v.cells t)).heap[w.heap.size]?=some (.cells v.cells t (0,0)):=by show(w.heap.push _)[w.heap.size]?=_;simp
 have hle0:g.β id=none:=by
  cases hb:g.β id with
  |none=>rfl
  |some L'=>exact absurd h0 (R.uu id L' hb).1
 obtain⟨r1,r2,r3⟩:=R.new (m:=m) (w':=w.alloc (.cells v.cells t)) rfl rfl rfl rfl h0 s5 hm (L:=⟨w.heap.size,0,a.cells.length⟩) rfl (ob:=.box a.cells) (by
  have hle:g.le ⟨λi=>if i=id then some ⟨w.heap.size,0,a.cells.length⟩else g.β i,g.σ⟩:=⟨λi L h=>by
   show(if i=id then _ else g.β i)=some L;rw[og (by rintro rfl;rw[hle0]at h;cases h)];exact h,λ_ _ _ h=>h⟩
  refine⟨⟨w.heap.size,0,a.cells.length⟩,v.cells,t,zw,rfl,rfl,tX,l9,?_⟩;exact sL.of _ v.cells.toList 0 (sG.mono hle _ _ hv.cells) (λj x hx=>by simpa using hx) (hv.one hn))
 exact⟨_,r1,r2,r3,⟨_,by simp;rfl,rfl,rfl⟩⟩
theorem WG(R:x6 g H n w)(h0:AD H id=none)(s5:id<n)(hm:m<=id){a:Fs}(hv:AP g a v)(hn:nT a):
  ∃w' g',(Instr.box t v).run P w= .ok (.pointer (some ⟨w.heap.size,0,none⟩)) w'/\x6 g' (sA H id (.box a.cells)) n w'/\q8 m g H w g' (sA H id (.box a.cells)) w'/\g.le g'/\AP g' (.ptr id 0) (.pointer (some ⟨w.heap.size,0,none⟩)):=by
 obtain⟨g',r1,r2,r3,r4⟩:=Yr (m:=m) (t:=t) R h0 s5 hm hv hn;exact⟨_,g',by simp [Instr.box,newVar,newRow],r1,r2,r3,r4⟩
theorem RK(R:x6 g H n w)(h0:AD H id=none)(s5:id<n)(hm:m<=id){z:Fs}(hz:B6 P t=some z):
  ∃w' g',(Instr.alloc t true (.tuple #[])).run P w= .ok (.pointer (some ⟨w.heap.size,0,none⟩)) w'/\x6 g' (sA H id (.box z.cells)) n w'/\q8 m g H w g' (sA H id (.box z.cells)) w'/\g.le g'/\AP g' (.ptr id 0) (.pointer (some ⟨w.heap.size,0,none⟩)):=by
 obtain⟨i,zv,hi,hzz,hr,hzs,hl,h0',hnt⟩:=Bu hz;obtain⟨g',r1,r2,r3,r4⟩:=Yr (m:=m) (t:=t) R h0 s5 hm (hr g) hnt;exact⟨_,g',by simp [Instr.alloc,zeroValue,typeInfo,hi,hzz,newVar,newRow],r1,r2,r3,r4⟩
theorem Jg{b o:Nat}{e:TypeId}(hs:FG P t=some sz)(hv:v.cells.size=sz)(h1:∀x∈v.cells.toList,x.oneCell'=true)(hb:w.heap[b]?=some (.cells c e (0,0)))(tO:o+sz<=c.size):
  (Instr.storeAt t (.pointer (some ⟨b,o,none⟩)) v).run P w= .ok () (w.setRow b (c.toList.take o++v.cells.toList++c.toList.drop (o+sz)).toArray):=by
 have sY:=run_storeCells_at (P:=P) b o e v.cells.toList 0 c w hb (by simp;omega) h1;simp only[qQ,pq,hv]at sY;simp [Instr.storeAt,Instr.sureAddr,storeVar,Bj hs,hv,sY]
theorem Jh(R:x6 g H n w){ob ob':xq}{L:Loc}(h0:AD H id=some ob)(hown:ob.owns=true)(hL:g.β id=some L){c':Array Value}{e:TypeId}(hb:w.heap[L.sO]?=some (.cells c e (0,0)))
  (tB:c'.size=c.size) (hout:∀o,(o<L.lo\/L.hi<=o)->c'[o]?=c[o]?) (hob:FE g (w.setRow L.sO c') id ob'):
  x6 g (sA H id ob') n (w.setRow L.sO c')/\q8 m g H w g (sA H id ob') (w.setRow L.sO c'):=
 R.upd h0 hown hL rfl rfl rfl zw (λb sZ=>setRow_other w L.sO b c' sZ) (.inl ⟨c,e,(0,0),c',hb,setRow_heap w L.sO c c' e (0,0) hb,tB,hout⟩) hob
theorem Mh{vc:Array Value}{p:Nat}(hs:vc.size=sz)(tO:p+sz<=c.size)(o:Nat):(c.toList.take p++vc.toList++c.toList.drop (p+sz)).toArray[o]?=if p<=o/\o<p+sz then vc[o-p]? else c[o]?:=by grind
theorem RL{vc:Array Value}{p:Nat}(hs:vc.size=sz)(tO:p+sz<=c.size):(c.toList.take p++vc.toList++c.toList.drop (p+sz)).toArray.size=c.size:=by simp;omega
theorem Ys(R:x6 g H n w){ad x:Fs}{u:Value}{K:AB->Prop}(hs:FG P t=some sz)(hu:AP g ad u)(hv:AP g x v)(hn:nT x)(hl:x.cells.length=sz)(h:Ng H sz x K ad):
  ∃H' w',(Instr.storeAt t u v).run P w= .ok () w'/\K H'/\x6 g H' n w'/\q8 m g H w g H' w':=by
 have hvl:=sG.length _ _ hv.cells;simp only[pq]at hvl;have hvs:v.cells.size=sz:=zo
 cases ad<;>simp only[Ng]at h<;>first|exact h.elim|skip
 case ptr id off=>
  obtain⟨L,h1,h2,rfl⟩:=hu;cases ho:AD H id with
  |none=>simp [ho]at h
  |some ob=>
   cases ob<;>simp only[ho]at h<;>first|exact h.elim|skip
   case box cs=>
    obtain⟨tO,hK⟩:=h;obtain⟨L',c,e,k1,k2,k3,k4,k5,k6⟩:=R.obj id _ ho;rw[h1]at k1;cases k1;have sP:=Jg (w:=w) (o:=off) hs hvs (hv.one hn) k4 zo;generalize hc':(c.toList.take off++v.cells.toList++c.toList.drop (off+sz)).toArray=c' at sP;have hsz':c'.size=c.size:=by subst hc';simp;omega
    have tX:=setRow_heap w L.sO c c' e (0,0) k4;obtain⟨vs,q1,q2,q3⟩:=k6.list;have hvs':vs=c.toList:=by
     apply List.ext_getElem?;intro j;have hl1:=sG.length _ _ q1;by_cases hj:j<vs.length
     ·grind
     ·simp_all
    subst hvs';have uE:sG g (sQ cs off x.cells) c'.toList:=by
     subst hc';have:=sG.sQ (off:=off) q1 hv.cells;simpa [hvs]using this
    obtain⟨r1,r2⟩:=Jh (m:=m) R ho rfl h1 k4 hsz' (λo ho'=>by
     have:c.size<=o:=zo
     rw[qw zo,qw zo]) (ob':=.box (sQ cs off x.cells)) (by
      have l9:=sG.length _ _ uE;simp only[pq]at l9;refine⟨L,c',e,h1,h2,zo,tX,zo,sL.of _ _ 0 uE (λj y hy=>by simpa using hy) ?_⟩;subst hc';intro y hy;simp only[pI]at hy;rcases hy with(hy|hy)|hy
      ·exact q3 y (rD hy)
      ·exact hv.one hn y hy
      ·exact q3 y (rE hy))
    exact⟨_,_,sP,hK,r1,r2⟩
 case ap id esz i off=>
  obtain⟨L,h1,h2,rfl⟩:=hu;cases ho:AD H id with
  |none=>simp [ho]at h
  |some ob=>
   cases ob<;>simp only[ho]at h<;>first|exact h.elim|skip
   case arr e' l=>
    obtain⟨rfl,hi,tW,hK⟩:=h;obtain⟨L',c,e,k1,k2,k3,k4,k5,k6⟩:=R.obj id _ ho;rw[h1]at k1;cases k1;obtain⟨old,o1,o2,o3⟩:=sK.elem i l 0 k6 hi;simp only[pn]at o3
    obtain⟨z,z1,z2,z3,z4⟩:∃z:Value,AP g (Bw (l[i]?.getD (.sH [])) off sz e' x).2 z/\EM e' z/\off+sz<=e'/\∀j,j<e'->z.cells[j]?=if off<=j/\j<off+sz then v.cells[j-off]? else old.cells[j]?:=by
     by_cases sX:off=0/\sz=e'
     ·obtain⟨rfl,rfl⟩:=sX;rw[OE]at tW⊢;exact⟨v,hv,⟨hvs,hv.one hn⟩,zo,λj hj=>by rw[oE ⟨zo,zo⟩];congr 1⟩
     ·rw[o8 hi,oQ]at tW⊢;have o1':AP g l[i] old:=by simpa [o8 hi]using o1
      cases hli:l[i]<;>simp only[Bw,sX,hli,pb]at tW<;>first|exact tW.elim|skip
      rename_i cs;obtain⟨hcl,tO⟩:=tW;rw[hli]at o1';obtain⟨vs,rfl,p1,p2⟩:=o1';simp only[Bw,sX,pb];have uE:=sG.sQ (off:=off) p1 hv.cells;have hvl2:=sG.length _ _ p1;simp only[pq]at hvl2 uE;have hone:=hv.one hn;rw[hvs]at uE;generalize v.cells=vc at hvs hone uE⊢;have ux:∀y∈(vs.toList.take off++vc.toList++vs.toList.drop (off+sz)),y.oneCell'=true:=by
       intro y hy;simp only[pI]at hy;rcases hy with(hy|hy)|hy
       ·exact p2 y (rD hy)
       ·exact hone y hy
       ·exact p2 y (rE hy)
      refine⟨.agg (vs.toList.take off++vc.toList++vs.toList.drop (off+sz)).toArray,⟨_,rfl,by simpa using uE,ux⟩,⟨?_,ux⟩,tO,λj hj=>?_⟩
      ·show(vs.toList.take off++vc.toList++vs.toList.drop (off+sz)).toArray.size=e';rw[RL hvs zo];omega
      ·exact Mh hvs zo j
    have tO:i*e'+e'<=c.size:=by
     rw[<-k5];have:(i+1)*e'<=l.length*e':=qu _ hi;rw[pN]at this;omega
    have sP:=Jg (w:=w) (o:=i*e'+off) hs hvs (hv.one hn) k4 zo;generalize hc':(c.toList.take (i*e'+off)++v.cells.toList++c.toList.drop (i*e'+off+sz)).toArray=c' at sP;have hsz':c'.size=c.size:=by subst hc';simp;omega
    have tX:=setRow_heap w L.sO c c' e (0,0) k4;have AD:∀o,c'[o]?=if i*e'+off<=o/\o<i*e'+off+sz then v.cells[o-(i*e'+off)]? else c[o]?:=by
     intro o;subst hc';exact Mh hvs zo o
    obtain⟨r1,r2⟩:=Jh (m:=m) R ho rfl h1 k4 hsz' (λo ho'=>by
     have:c.size<=o:=zo
     rw[qw zo,qw zo]) (ob':=.arr e' (l.set i (Bw (l[i]?.getD (.sH [])) off sz e' x).2)) (by
      refine⟨L,c',e,h1,h2,zo,tX,by rw[qN];omega,?_⟩;refine sK.set z1 z2 i l 0 hi (λj y hy=>?_) (λj hj=>?_) k6
      ·have hj:j<e':=by rw[<-z2.1];exact(oU.1 hy).1
       rw[z4 j hj]at hy;rw[pn,AD];by_cases q:off<=j/\j<off+sz
       ·grind
       ·grind
      ·rw[AD,og zo])
    exact⟨_,_,sP,hK,r1,r2⟩
end
section
section
variable {P:Program} {g:z8} {H:AB} {n m:Nat} {w:World}
variable {z:Fs} {l:List Fs} {esz id s:Nat} {ρ':zx->Fs} {t e:TypeId} {i:TypeInfo} {y:Value}
theorem sK.list{f:Nat->Option Value}:∀(l:List Fs) (o:Nat),sK g esz f o l->
  ∃vs:List Value,vs.length=l.length*esz/\(∀(j:Nat) x,vs[j]?=some x->f (o+j)=some x)/\(∀x∈vs,x.oneCell'=true)/\sK g esz (λj=>vs[j]?) 0 l
 |[],o,_=>⟨[],zw,zw,zw,zt⟩
 |e::l,o,⟨⟨v,h1,h2,h3⟩,h4⟩=>by
  obtain⟨vs,k1,k2,k3,k4⟩:=sK.list l (o+esz) h4;have hl:v.cells.toList.length=esz:=by simpa using h2.1
  refine⟨v.cells.toList++vs,by rw[ou,hl,k1,oI,pN];omega,?_,?_,?_⟩
  ·grind
  ·intro x hx;rcases pI.1 hx with hx|hx
   ·exact h2.2 x hx
   ·exact k3 x hx
  ·refine⟨⟨v,h1,h2,λj x hx=>?_⟩,?_⟩
   ·grind
   ·have shift:∀(l:List Fs) (o:Nat),sK g esz (λj=>vs[j]?) o l->sK g esz (λj=>(v.cells.toList++vs)[j]?) (o+esz) l:=by
     intro l;induction l with
     |nil=>intro o _;trivial
     |cons e' l ih=>
      rintro o ⟨⟨u,q1,q2,q3⟩,q4⟩;refine⟨⟨u,q1,q2,λj x hx=>?_⟩,?_⟩
      ·grind
      ·have:=ih (o+esz) q4;exact this
    have:=shift l 0 k4;exact this
def gD(P:Program)(g:z8)(w:World)(esz:Nat)(l':List Fs)(y:Value):Prop:=
 ∃news:List Value,news.length=l'.length*esz/\(∀v∈news,v.oneCell'=true)/\sK g esz (λo=>news[o]?) 0 l'/\
  ∀w':World,w'.heap=w.heap->(Builtin.lenOf y).run P w'= .ok l'.length w'/\(Builtin.firstCells esz l'.length y).run P w'= .ok news.toArray w'
theorem OU{w w':World}(h:w'.heap=w.heap)(a:Addr):w'.cell? a=w.cell? a:=by simp [World.cell?,h]
theorem Yt(R:x6 g H n w){tok:xv}(h:AP g (.sl tok l) y)(he:tok.esz=esz\/l.length=0):gD P g w esz l y:=by
 rcases h with⟨rfl,rfl,_⟩|⟨_,b,o,cap,⟨sp,rfl,uE⟩,_,sY,_⟩
 ·exact⟨[],zw,zw,zt,λw' _=>⟨by simp [Builtin.lenOf],by simp [Builtin.firstCells]⟩⟩
 ·by_cases hl:l=[]
  ·subst hl;refine⟨[],zw,zw,zt,λw' _=>⟨by simp [Builtin.lenOf],?_⟩⟩;have:=run_firstCells_some (P:=P) w' esz 0 ⟨b,o,sp⟩ 0 cap [] zw zw;simpa using this
  ·obtain rfl:sp=none:=uE.resolve_right λq=>hl q.1
   have tu:tok.esz=esz:=he.resolve_right (by simpa using hl);rw[tu]at sY;obtain⟨vs,k1,k2,k3,k4⟩:=sY.list;refine⟨vs,k1,k3,k4,λw' hw=>⟨by simp [Builtin.lenOf],?_⟩⟩;exact run_firstCells_some (P:=P) w' esz l.length ⟨b,o,none⟩ l.length cap vs k1 (λj v hv=>by rw[Bt,OU hw];exact R.σw _ _ _ (k2 j v hv))
theorem Uf(R:x6 g H n w){off len cap:Nat}(h:AP g (.ref id esz off len cap) y)(ho:AD H id=some (.arr esz l))(hl:off+len<=l.length):gD P g w esz ((l.drop off).take len) y:=by
 obtain⟨L,k1,k2,rfl⟩:=h;obtain⟨L',c,e,j1,j2,j3,j4,j5,j6⟩:=R.obj id _ ho;rw[k1]at j1;cases j1;have l9:((l.drop off).take len).length=len:=by simp;omega
 have sY:=sK.take len _ _ (sK.drop off _ _ j6);rw[pn]at sY;obtain⟨vs,p1,p2,p3,p4⟩:=sY.list;rw[l9]at p1;refine⟨vs,by rw[l9];exact p1,p3,p4,λw' hw=>⟨by simp [Builtin.lenOf,l9],?_⟩⟩;rw[l9];refine run_firstCells_some (P:=P) w' esz len ⟨L.sO,off*esz,none⟩ len cap vs p1 (λj v hv=>?_);rw[Bt,OU hw,BE j4];exact p2 j v hv
theorem Pi{s:List UInt8}(h:AP g (.str s) y):gD P g w 1 (s.map λb=>.int .u8 b.toNat) y:=by
 have hy:y= .string ⟨s.toArray⟩:=h;subst hy;have tB:ByteArray.size ⟨s.toArray⟩=s.length:=by show s.toArray.size=_;simp
 refine⟨s.map λb=>.int .u8 b.toNat,zw,?_,?_,λw' _=>⟨by simp [Builtin.lenOf,tB],?_⟩⟩
 ·intro v hv;obtain⟨b,_,rfl⟩:=pz.1 hv;rfl
 ·have:∀(t:List UInt8) (o:Nat) (f:Nat->Option Value),(∀j (x:UInt8),t[j]?=some x->f (o+j)=some (.int .u8 x.toNat))->sK g 1 f o (t.map λb=>.int .u8 b.toNat):=by
   intro t;induction t with
   |nil=>intro o f _;trivial
   |cons b t ih=>
    intro o f hf;refine⟨⟨.int .u8 b.toNat,rfl,⟨rfl,by simp [Value.cells,Value.oneCell']⟩,?_⟩,ih (o+1) f λj x hx=>?_⟩
    ·grind [Value.cells]
    ·have:=hf (j+1) x (by simpa using hx);rwa[show o+(j+1)=o+1+j from by omega]at this
  exact this s 0 _ λj x hx=>by simp [hx]
 ·have hex:(ByteArray.extract ⟨s.toArray⟩ 0 s.length).data=s.toArray:=by
   rw[ByteArray.data_extract];simp
  simp [Builtin.firstCells]
section
variable {t u ty e:TypeId} {i:TypeInfo} {z:Value} {du:TypeDesc} (ht:P.underlying t=some (.slice e)) (hu:P.underlying u=some du) (hdu:∀k,du≠ .int k) (hi:P.info? e=some i) (hz:i.zero=some z)
include ht hu hdu hi hz
theorem DS{base:Option Addr}{sLen sCap k:Nat}{y:Value}{news:Array Value}(l9:(Builtin.lenOf y).run P w= .ok k w)(tX:(Builtin.firstCells i.size k y).run P w= .ok news w)(hr:sLen+k<=sCap):
  (Builtin.append_ #[t,u] ty #[.slice base sLen sCap,y]).run P w=match base with
   |none=>.ok (.slice none (sLen+k) sCap) w
   |some a=>((storeCells (a.add (sLen*i.size)) news.toList).run P w).andThen λ_ w'=>.ok (.slice (some a) (sLen+k) sCap) w':=by
 have hz0:(match du with| .int _=>true|_=>false)=false:=by cases du<;>first|rfl|exact absurd rfl (hdu _)
 cases base with
 |none=>simp [Builtin.append_,run_underlying ht,run_underlying hu,sizeOf,typeInfo,hi,l9,tX,hr]
 |some a=>simp [Builtin.append_,run_underlying ht,run_underlying hu,sizeOf,typeInfo,hi,l9,tX,hr]
theorem Ji{base:Option Addr}{sLen sCap k:Nat}{y:Value}{olds news:Array Value}(l9:(Builtin.lenOf y).run P w= .ok k w)(hold:(Builtin.firstCells i.size sLen (.slice base sLen sCap)).run P w.drew= .ok olds w.drew)
  (tX:(Builtin.firstCells i.size k y).run P w.drew= .ok news w.drew) (hr:sCap<sLen+k) (tO:Builtin.nextslicecap (sLen+k) sCap*i.bytes<=281474976710656) (h63:sLen+k<=9223372036854775807):
  (Builtin.append_ #[t,u] ty #[.slice base sLen sCap,y]).run P w=
   .ok (.slice (some ⟨w.heap.size,0,none⟩) (sLen+k) (grownCap w (sLen+k) sCap e)) (w.drew.alloc (.cells (olds++news++Builtin.zeroCells z.cells (grownCap w (sLen+k) sCap e-(sLen+k))) e)):=by
 have hz0:(match du with| .int _=>true|_=>false)=false:=by cases du<;>first|rfl|exact absurd rfl (hdu _)
 have hn:¬(sLen+k<=sCap):=zo
 have h63':¬(9223372036854775807<((sLen:Int)+(k:Int))):=zo
 have h48':¬(281474976710656<Builtin.nextslicecap (sLen+k) sCap*i.bytes):=zo
 simp [Builtin.append_,run_underlying ht,run_underlying hu,sizeOf,typeInfo,zeroValue,hi,hz,l9,hn,h63',h48',Question.forced,hold,tX,newRow,grownCap]
end
theorem WH(R:x6 g H n w){u ty:TypeId}{du:TypeDesc}{za:Fs}(ht:P.underlying t=some (.slice e))(hu:P.underlying u=some du)(hdu:∀k,du≠ .int k)(hi:P.info? e=some i)(hza:B6 P e=some za)
  {tok:xv} {l':List Fs} {x:Value} (hx:AP g (.sl tok l) x) (hsrc:gD P g w i.size l' y) (h0:AD H id=none) (s5:id<n) (hm:m<=id) (t9:At H i.size tok) (hsm:small (l.length+l'.length) i.bytes) (uz:l.length+l'.length<=35184372088832):
  ∃v w' g',(Builtin.append_ #[t,u] ty #[x,y]).run P w= .ok v w'/\AP g' (.sl (.own id i.size) (l++l')) v/\x6 g' (sA (AR H tok) id .tok) n w'/\q8 m g H w g' (sA (AR H tok) id .tok) w'/\g.le g':=by
 obtain⟨i',z,v7,hzz,hr,hzs,hl,hpos,hnt⟩:=Bu hza;rw[hi]at v7;cases v7;obtain⟨news,s1,s2,s3,s4⟩:=hsrc;obtain⟨c1,c2⟩:=s4 w rfl;obtain⟨d1,d2⟩:=s4 w.drew rfl;have vf:(l++l').length=l.length+l'.length:=zw
 have grow:∀(base:Option Addr) (sCap:Nat) (olds:List Value),x= .slice base l.length sCap->olds.length=l.length*i.size->(∀v∈olds,v.oneCell'=true)->sK g i.size (λo=>olds[o]?) 0 l->
   (Builtin.firstCells i.size l.length (.slice base l.length sCap)).run P w.drew= .ok olds.toArray w.drew->sCap<l.length+l'.length->
   ∃v w' g',(Builtin.append_ #[t,u] ty #[x,y]).run P w= .ok v w'/\AP g' (.sl (.own id i.size) (l++l')) v/\x6 g' (sA (AR H tok) id .tok) n w'/\q8 m g H w g' (sA (AR H tok) id .tok) w'/\g.le g':=by
  intro base sCap olds ud o1 o2 o3 o4 hgt;subst ud;have tO:Builtin.nextslicecap (l.length+l'.length) sCap*i.bytes<=281474976710656:=growslice_fits hgt (by simp only[small]at hsm;omega);have sP:=Ji (ty:=ty) ht hu hdu hi hzz c1 o4 d2 hgt tO zo;generalize hcap:grownCap w (l.length+l'.length) sCap e=cap at sP;have hge:l.length+l'.length<=cap:=by rw[<-hcap];exact grownCap_ge _ _ _ _
  generalize hcs:(olds.toArray++news.toArray++Builtin.zeroCells z.cells (cap-(l.length+l'.length)):Array Value)=cs at sP;have hcsz:cs.size=cap*i.size:=by
   subst hcs;simp only[Array.size_append,List.size_toArray,size_zeroCells,hzs,o1,s1,<-pN];congr 1;omega
  have hcsget:∀o,o<(l.length+l'.length)*i.size->cs[o]?=(olds++news)[o]?:=by grind
  have hk:∃Hk,AR H tok=Hk/\x6 g Hk n w/\q8 m g H w g Hk w/\AD Hk id=none:=by
   cases tok with
   |own i0 e0=>
    obtain⟨_,h1⟩:=t9;obtain⟨r1,r2⟩:=R.kill (m:=m) h1;refine⟨_,rfl,r1,r2,?_⟩;simp only[AR];rw[AN,og (by rintro rfl;rw[h0]at h1;cases h1)];exact h0
   |nil=>exact⟨_,rfl,R,q8.refl _ _ _ _,h0⟩
   |none e0=>exact⟨_,rfl,R,q8.refl _ _ _ _,h0⟩
   |exact e0=>exact⟨_,rfl,R,q8.refl _ _ _ _,h0⟩
  obtain⟨Hk,hHk,rk,tk,h0k⟩:=hk;rw[hHk];have hnewb:(w.drew.alloc (.cells cs e)).heap[w.heap.size]?=some (.cells cs e (0,0)):=by show(w.heap.push _)[w.heap.size]?=_;simp
  obtain⟨r1,r2,r3⟩:=rk.new' (m:=m) (w':=w.drew.alloc (.cells cs e)) (x:=.cells cs e) rfl rfl rfl rfl h0k s5 hm (L:=⟨w.heap.size,(l.length+l'.length)*i.size,cap*i.size⟩) rfl (ob:=.tok)
   (σ':=λb o=>if b=w.heap.size/\o<(l.length+l'.length)*i.size then cs[o]? else g.σ b o)
   (λb o v h=>by
    have hb:b≠w.heap.size:=by
     rintro rfl;have:=R.σw _ _ _ h;simp [World.cell?]at this
    show(if b=w.heap.size/\o<(l.length+l'.length)*i.size then cs[o]? else g.σ b o)=some v;rw[og (by simp [hb])];exact h)
   (λb o v h=>by
    by_cases hb:b=w.heap.size/\o<(l.length+l'.length)*i.size
    ·rw[oE hb]at h;obtain⟨rfl,am⟩:=hb;exact .inr ⟨rfl,by rw[BE hnewb];exact h,.inl am⟩
    ·rw[og hb]at h;exact .inl h)
   ⟨_,by simp;rfl,λ_=>⟨cs,e,hnewb,by rw[hcsz];exact od _⟩⟩
  refine⟨_,_,_,sP,?_,r1,tk.trans r2,r3⟩;refine .inr ⟨zt,w.heap.size,0,cap,⟨none,by rw[vf],.inl rfl⟩,by rw[vf];exact hge,?_,by simp [vf]⟩;simp only[xv.esz];have sY:sK g i.size (λo=>(olds++news)[o]?) 0 (l++l'):=by
   refine sK.append l l' 0 (sK.mono (.refl g) (λo v hv=>?_) _ _ _ o3) ?_
   ·grind
   ·have shift:∀(l2:List Fs) (o:Nat),sK g i.size (λo=>news[o]?) o l2->sK g i.size (λo=>(olds++news)[o]?) (o+l.length*i.size) l2:=by
     intro l2;induction l2 with
     |nil=>intro o _;trivial
     |cons e' l2 ih=>
      rintro o ⟨⟨q,q1,q2,q3⟩,q4⟩;refine⟨⟨q,q1,q2,λj x hx=>?_⟩,?_⟩
      ·grind
      ·grind
    have:=shift l' 0 s3;simpa using this
  refine sK.eq (l++l') 0 (λj _ hj=>?_) (sK.mono r3 (λ_ _ h=>h) _ _ _ sY);rw[vf,pn]at hj;simp only[hj,sb,pG];exact hcsget j hj
 rcases hx with⟨rfl,rfl,l6⟩|⟨htok,b,o,cap,⟨sp,rfl,uE⟩,hcap,sY,hk⟩
 ·
  by_cases sf:l'=[]
  ·subst sf;have sP:=DS (ty:=ty) (w:=w) (base:=none) (sLen:=0) (sCap:=0) ht hu hdu hi hzz c1 c2 zw;have uE:∃Hk,AR H tok=Hk/\((Hk=H/\True)\/∃i0 e0,tok= .own i0 e0/\Hk=sA H i0 .dead/\AD H i0=some .tok):=by
    cases tok with
    |own i0 e0=>exact⟨_,rfl,.inr ⟨i0,e0,rfl,rfl,t9.2⟩⟩
    |nil=>exact⟨_,rfl,.inl ⟨rfl,zt⟩⟩
    |none e0=>exact⟨_,rfl,.inl ⟨rfl,zt⟩⟩
    |exact e0=>exact⟨_,rfl,.inl ⟨rfl,zt⟩⟩
   obtain⟨Hk,hHk,hcase⟩:=uE;have hR:x6 g Hk n w/\q8 m g H w g Hk w/\AD Hk id=none:=by
    rcases hcase with⟨rfl,_⟩|⟨i0,e0,_,rfl,h1⟩
    ·exact⟨R,q8.refl _ _ _ _,h0⟩
    ·obtain⟨r1,r2⟩:=R.kill (m:=m) h1;exact⟨r1,r2,by rw[AN,og (by rintro rfl;rw[h0]at h1;cases h1)];exact h0⟩
   rw[hHk];obtain⟨r1,r2,r3⟩:=hR.1.split (m:=m) hR.2.2 s5 hm (L:=⟨0,0,0⟩) (H':=Hk) (.inl ⟨rfl,od _⟩) (σ':=g.σ) (λ_ _ _ h=>h) (λ_ _ _ h=>.inl h);exact⟨_,_,_,sP,.inl ⟨rfl,rfl,_,by simp;rfl⟩,r1,hR.2.1.trans r2,r3⟩
  ·have hpos':0<l'.length:=by cases l' with|nil=>exact absurd rfl sf|cons _ _=>simp
   exact grow none 0 [] rfl zw zw zt (by simp [Builtin.firstCells]) (by simpa using hpos')
 ·by_cases hodd:sp=none;case neg=>
   obtain⟨rfl,hq⟩:=uE.resolve_left hodd;have hc0:cap=0:=by
    rcases hq with q|⟨e',rfl⟩
    ·exact q
    ·exact t9.elim
   subst hc0;by_cases sf:l'=[]
   ·subst sf;have sP:=DS (ty:=ty) (w:=w) (base:=some ⟨b,o,sp⟩) (sLen:=0) (sCap:=0) ht hu hdu hi hzz c1 c2 zw;have hn0:news=[]:=pt (by rw[s1];simp);subst hn0;have hadd0:(⟨b,o,sp⟩:Addr).add (0*i.size)=⟨b,o,sp⟩:=by rw[qR];rfl
    simp only[storeCells,Sem.run_pure,Result.andThen_ok]at sP;have hsp2:∃Hk,AR H tok=Hk/\((Hk=H/\True)\/∃i0 e0,tok= .own i0 e0/\Hk=sA H i0 .dead/\AD H i0=some .tok):=by
     cases tok with
     |own i0 e0=>exact⟨_,rfl,.inr ⟨i0,e0,rfl,rfl,t9.2⟩⟩
     |nil=>exact⟨_,rfl,.inl ⟨rfl,zt⟩⟩
     |none e0=>exact⟨_,rfl,.inl ⟨rfl,zt⟩⟩
     |exact e0=>exact⟨_,rfl,.inl ⟨rfl,zt⟩⟩
    obtain⟨Hk,hHk,hcase⟩:=hsp2;have hR:x6 g Hk n w/\q8 m g H w g Hk w/\AD Hk id=none:=by
     rcases hcase with⟨rfl,_⟩|⟨i0,e0,_,rfl,h1⟩
     ·exact⟨R,q8.refl _ _ _ _,h0⟩
     ·obtain⟨r1,r2⟩:=R.kill (m:=m) h1;exact⟨r1,r2,by rw[AN,og (by rintro rfl;rw[h0]at h1;cases h1)];exact h0⟩
    rw[hHk];obtain⟨r1,r2,r3⟩:=hR.1.split (m:=m) hR.2.2 s5 hm (L:=⟨b,o,o⟩) (H':=Hk) (.inl ⟨rfl,od _⟩) (σ':=g.σ) (λ_ _ _ h=>h) (λ_ _ _ h=>.inl h);refine⟨_,_,_,sP,.inr ⟨zt,b,o,0,⟨sp,zw,.inr ⟨rfl,.inl rfl⟩⟩,zw,zt,zw⟩,r1,hR.2.1.trans r2,r3⟩
   ·have hpos':0<l'.length:=by cases l' with|nil=>exact absurd rfl sf|cons _ _=>simp
    refine grow (some ⟨b,o,sp⟩) 0 [] rfl zw zw zt ?_ (by simpa using hpos');simpa using run_firstCells_some (P:=P) w.drew i.size 0 ⟨b,o,sp⟩ 0 0 [] zw zw
  subst hodd;have hte:tok.esz=i.size:=by
   cases tok with
   |nil=>exact htok.elim
   |none e0=>exact t9.elim
   |exact e0=>exact t9
   |own i0 e0=>exact t9.1
  rw[hte]at sY;by_cases hroom:l.length+l'.length<=cap
  ·have sP:=DS (ty:=ty) (w:=w) (base:=some ⟨b,o,none⟩) (sLen:=l.length) (sCap:=cap) ht hu hdu hi hzz c1 c2 hroom;simp only[Bt]at sP;cases tok with
   |nil=>exact htok.elim
   |none e0=>exact t9.elim
   |exact e0=>
    simp only[]at hk;have sf:l'=[]:=pt zo;subst sf;have hn0:news=[]:=pt (by rw[s1];simp);subst hn0;simp only[storeCells,Sem.run_pure,Result.andThen_ok]at sP;obtain⟨r1,r2,r3⟩:=R.split (m:=m) h0 s5 hm (L:=⟨b,o+l.length*i.size,o+cap*i.size⟩) (H':=H) (.inl ⟨rfl,by simp only[];rw[hk];exact od _⟩) (σ':=g.σ) (λ_ _ _ h=>h) (λ_ _ _ h=>.inl h);refine⟨_,_,_,sP,.inr ⟨zt,b,o,cap,⟨none,zw,.inl rfl⟩,by simpa using hcap,?_,?_⟩,r1,r2,r3⟩
    ·simp only[oR,xv.esz];exact sK.mono r3 (λ_ _ h=>h) _ _ _ sY
    ·simp
   |own i0 e0=>
    obtain⟨he0,htok0⟩:=t9;subst he0;simp only[]at hk;obtain⟨L',k1,k2⟩:=R.obj i0 .tok htok0;rw[hk]at k1;cases k1;simp only[]at k2
    have hstore:∃w1,(storeCells ⟨b,o+l.length*i.size,none⟩ news).run P w= .ok () w1/\x6 g (sA H i0 .tok) n w1/\q8 m g H w g (sA H i0 .tok) w1/\
      (∀j v,news[j]?=some v->w1.cell? ⟨b,o+l.length*i.size+j,none⟩=some v):=by
     by_cases hn0:news=[]
     ·subst hn0;have hsame:sA H i0 .tok=H:=by
       funext k;show(if i0=k then some xq.tok else H k)=H k;by_cases hk':i0=k
       ·subst hk';rw[oE rfl];exact htok0.symm
       ·rw[og hk']
      exact⟨w,by simp [storeCells],by rw[hsame];exact R,by rw[hsame];exact q8.refl _ _ _ _,zw⟩
     ·have hl1:0<l'.length:=by
       rcases Nat.eq_zero_or_pos l'.length with h|h
       ·simp_all
       ·exact h
      have hmul:l.length*i.size+l'.length*i.size<=cap*i.size:=by rw[<-pN];exact qu _ hroom
      have hlpos:0<l'.length*i.size:=Nat.mul_pos hl1 (Nat.pos_of_ne_zero hpos);obtain⟨c,ee,q1,q2⟩:=k2 zo;have sY:=run_storeCells_at (P:=P) b (o+l.length*i.size) ee news 0 c w q1 (by rw[s1];omega) s2;simp only[qQ]at sY;generalize hc':(c.toList.take (o+l.length*i.size)++news++c.toList.drop (o+l.length*i.size+news.length)).toArray=c' at sY;have hsz':c'.size=c.size:=by subst hc';simp;omega
      have AD:∀p,c'[p]?=if o+l.length*i.size<=p/\p<o+l.length*i.size+news.length then news[p-(o+l.length*i.size)]? else c[p]?:=by
       intro p;subst hc';rw[<-pJ];simp only[];by_cases p1:p<o+l.length*i.size
       ·rw[og zo,oT,pH (by simp;omega),List.getElem?_take_of_lt p1,pJ]
       ·by_cases p2:p<o+l.length*i.size+news.length
        ·rw[oE ⟨zo,p2⟩,oT,pB (by simp;omega),pH (by simp;omega)];simp only[oJ,pq];congr 1;omega
        ·rw[og zo,pB (by simp;omega),rp,pJ];congr 1;simp only[ou,oJ,pq];omega
      have hnb:=setRow_heap w b c c' ee (0,0) q1;obtain⟨r1,r2⟩:=Jh (m:=m) R htok0 rfl hk q1 hsz' (λp hp=>by
       rw[AD,og];simp only[]at hp;rw[s1];omega) (ob':=.tok) ⟨_,hk,λ_=>⟨c',ee,hnb,by rw[hsz'];exact q2⟩⟩
      refine⟨_,sY,r1,r2,λj v hj=>?_⟩;have tz:=(pK.1 hj).1;rw[BE hnb,AD,oE zo,show o+l.length*i.size+j-(o+l.length*i.size)=j from by omega];exact hj
    obtain⟨w1,hst1,rr1,tt1,tK⟩:=hstore;simp only[hst1,Result.andThen_ok]at sP;have h0':AD (sA H i0 .tok) id=none:=by
     rw[AN,og (by rintro rfl;rw[h0]at htok0;cases htok0)];exact h0
    have hmul:l.length*i.size+l'.length*i.size<=cap*i.size:=by rw[<-pN];exact qu _ hroom
    obtain⟨r1,r2,r3⟩:=rr1.split (m:=m) h0' s5 hm (L:=⟨b,o+(l.length+l'.length)*i.size,o+cap*i.size⟩) (H':=sA (sA H i0 .tok) i0 .dead)
     (.inr ⟨i0,_,rfl,AC _ _ _,hk,by simp only[pN];omega⟩)
     (σ':=λb' p=>if b'=b/\o+l.length*i.size<=p/\p<o+(l.length+l'.length)*i.size then w1.cell? ⟨b,p,none⟩else g.σ b' p)
     (λb' p v h=>by
      show(if b'=b/\o+l.length*i.size<=p/\p<o+(l.length+l'.length)*i.size then w1.cell? ⟨b,p,none⟩else g.σ b' p)=some v;by_cases hb:b'=b/\o+l.length*i.size<=p/\p<o+(l.length+l'.length)*i.size
      ·obtain⟨rfl,am,hb3⟩:=hb;rw[oE ⟨rfl,am,hb3⟩];exact rr1.σw _ _ _ h
      ·rw[og hb];exact h)
     (λb' p v h=>by
      by_cases hb:b'=b/\o+l.length*i.size<=p/\p<o+(l.length+l'.length)*i.size
      ·rw[oE hb]at h;obtain⟨rfl,am,hb3⟩:=hb;refine .inr ⟨rfl,hb3,h,i0,_,rfl,AC _ _ _,hk,am,?_⟩;simp only[pN]at hb3;simp only[];omega
      ·rw[og hb]at h;exact .inl h)
    have hkill:sA (sA (sA H i0 .tok) i0 .dead) id .tok=sA (AR H (.own i0 i.size)) id .tok:=by rw[AH];rfl
    rw[hkill]at r1 r2;refine⟨_,_,_,sP,.inr ⟨zt,b,o,cap,⟨none,by rw[vf],.inl rfl⟩,by rw[vf];exact hroom,?_,by simp [vf]⟩,r1,tt1.trans r2,r3⟩;refine sK.append (esz:=i.size) l l' o (sK.mono r3 (λp v hv=>r3.σ b p v hv) _ _ _ sY) ?_;have shift:∀(l2:List Fs) (p:Nat),p+l2.length*i.size<=l'.length*i.size->sK g i.size (λo=>news[o]?) p l2->
      sK ⟨λk=>if k=id then some ⟨b,o+(l.length+l'.length)*i.size,o+cap*i.size⟩else g.β k,λb' p=>if b'=b/\o+l.length*i.size<=p/\p<o+(l.length+l'.length)*i.size then w1.cell? ⟨b,p,none⟩else g.σ b' p⟩ i.size
       ((λb' p=>if b'=b/\o+l.length*i.size<=p/\p<o+(l.length+l'.length)*i.size then w1.cell? ⟨b,p,none⟩else g.σ b' p) b) (o+l.length*i.size+p) l2:=by
     intro l2;induction l2 with
     |nil=>intro p _ _;trivial
     |cons e' l2 ih=>
      rintro p hp ⟨⟨q,q1,q2,q3⟩,q4⟩;rw[oI,pN]at hp;refine⟨⟨q,AP.mono r3 _ _ q1,q2,λj v hv=>?_⟩,?_⟩
      ·grind
      ·grind
    have:=shift l' 0 zo s3;simpa using this
  ·obtain⟨vs,v1,v2,v3,v4⟩:=sY.list;exact grow (some ⟨b,o,none⟩) cap vs rfl v1 v3 v4 (run_firstCells_some (P:=P) w.drew i.size l.length ⟨b,o,none⟩ l.length cap vs v1 (λj v hv=>by rw[Bt];exact R.σw _ _ _ (v2 j v hv))) zo
theorem WI(R:x6 g H n w){a:Fs}{u:Value}(hu:P.underlying t=some (.slice e))(hi:P.info? e=some i)(hz:B6 P e=some z)(tB:FG P e=some s)
  (hx:AP g a u) (h0:AD H id=none) (s5:id<n) (hm:m<=id) (h1:Cl a) (h2:0<=BV a) (h3:small (BV a).toNat i.bytes) (h4:BV a<=35184372088832):
  ∃v w' g',(Instr.makeSlice t u u).run P w= .ok v w'/\AP g' (.ref id s 0 (BV a).toNat (BV a).toNat) v/\x6 g' (sA H id (.arr s (List.replicate (BV a).toNat z))) n w'/\q8 m g H w g' (sA H id (.arr s (List.replicate (BV a).toNat z))) w'/\g.le g':=by
 obtain⟨k,c,rfl,rfl⟩:=Cg h1 hx;obtain⟨i',zv,v7,hzz,hr,hzs,hl,hp0,hnt⟩:=Bu hz;rw[hi]at v7;cases v7;obtain⟨i'',d,hi'',hd,hss,hpos⟩:=Dg tB;rw[hi]at hi'';cases hi'';subst hss;simp only[BV]at h2 h3 h4⊢;have hb:(i.bytes:Int)*c<=281474976710656:=by grind [small,Int.toNat_natCast,Nat.mul_comm]
 have sP:=run_make (P:=P) w t e i zv hu hi hzz k k c c h2 (rH _) hb zo;have hnewb:(w.alloc (.cells (madeCells zv.cells (c.toNat*i.size)) e)).heap[w.heap.size]?=some (.cells (madeCells zv.cells (c.toNat*i.size)) e (0,0)):=by show(w.heap.push _)[w.heap.size]?=_;simp
 have hb0:g.β id=none:=by
  cases hb:g.β id with
  |none=>rfl
  |some L'=>exact absurd h0 (R.uu id L' hb).1
 obtain⟨r1,r2,r3⟩:=R.new (m:=m) (w':=w.alloc (.cells (madeCells zv.cells (c.toNat*i.size)) e)) rfl rfl rfl rfl h0 s5 hm (L:=⟨w.heap.size,0,c.toNat*i.size⟩) rfl (ob:=.arr i.size (List.replicate c.toNat z)) (by
  refine⟨⟨w.heap.size,0,c.toNat*i.size⟩,_,e,zw,rfl,by rw[size_madeCells],hnewb,by rw[size_madeCells];simp,?_⟩;refine sK.replicate (hr _) ⟨hzs,(hr ⟨λ_=>none,λ_ _=>none⟩).one hnt⟩ _ _ λa ha j x hx=>?_
  simp only[pn];have:=C2 (z:=zv.cells) (k:=c.toNat) ha hx
  rwa[hzs]at this)
 exact⟨_,_,_,sP,⟨_,by simp;rfl,rfl,zw⟩,r1,r2,r3⟩
theorem WJ(R:x6 g H n w){l c:Int}(hu:P.underlying t=some (.slice e))(hi:P.info? e=some i)(hz:B6 P e=some z)(tB:FG P e=some s)
  (h0:AD H id=none) (s5:id<n) (hm:m<=id) (sf:0<=l) (hc0:0<=c) (h1:l.toNat<=c.toNat) (h3:small c.toNat i.bytes) (h4:c.toNat<=35184372088832):
  ∃v w' g',(Instr.makeSlice t (.int .i64 l) (.int .i64 c)).run P w= .ok v w'/\AP g' (.ref id s 0 l.toNat c.toNat) v/\x6 g' (sA H id (.arr s (List.replicate c.toNat z))) n w'/\q8 m g H w g' (sA H id (.arr s (List.replicate c.toNat z))) w'/\g.le g':=by
 obtain⟨i',zv,v7,hzz,hr,hzs,hl,hp0,hnt⟩:=Bu hz;rw[hi]at v7;cases v7;obtain⟨i'',d,hi'',hd,hss,hpos⟩:=Dg tB;rw[hi]at hi'';cases hi'';subst hss;have hb:(i.bytes:Int)*c<=281474976710656:=by
  obtain⟨k,rfl⟩:=Int.eq_ofNat_of_zero_le hc0;simp only[small,oH]at h3;rw[<-Int.natCast_mul,Nat.mul_comm];omega
 have sP:=run_make (P:=P) w t e i zv hu hi hzz .i64 .i64 l c sf zo hb zo;have hnewb:(w.alloc (.cells (madeCells zv.cells (c.toNat*i.size)) e)).heap[w.heap.size]?=some (.cells (madeCells zv.cells (c.toNat*i.size)) e (0,0)):=by show(w.heap.push _)[w.heap.size]?=_;simp
 have hb0:g.β id=none:=by
  cases hb:g.β id with
  |none=>rfl
  |some L'=>exact absurd h0 (R.uu id L' hb).1
 obtain⟨r1,r2,r3⟩:=R.new (m:=m) (w':=w.alloc (.cells (madeCells zv.cells (c.toNat*i.size)) e)) rfl rfl rfl rfl h0 s5 hm (L:=⟨w.heap.size,0,c.toNat*i.size⟩) rfl (ob:=.arr i.size (List.replicate c.toNat z)) (by
  refine⟨⟨w.heap.size,0,c.toNat*i.size⟩,_,e,zw,rfl,by rw[size_madeCells],hnewb,by rw[size_madeCells];simp,?_⟩;refine sK.replicate (hr _) ⟨hzs,(hr ⟨λ_=>none,λ_ _=>none⟩).one hnt⟩ _ _ λa ha j x hx=>?_
  simp only[pn];have:=C2 (z:=zv.cells) (k:=c.toNat) ha hx
  rwa[hzs]at this)
 exact⟨_,_,_,sP,⟨_,by simp;rfl,rfl,zw⟩,r1,r2,r3⟩
theorem RM{n:Nat}:∀(ps:List (Nat×zx)),YT esz n (ps.map (·.1)) ((ps.map (·.2)).map ρ')->∀p∈ps,nT (ρ' p.2)/\(ρ' p.2).cells.length=esz/\p.1<n
 |[],_,p,hp=>by simp at hp
 |q::ps,h,p,hp=>by
  obtain⟨a,b,c,d⟩:=h;rcases ph.1 hp with rfl|hp
  ·exact⟨a,b,c⟩
  ·exact RM ps d p hp
theorem OV:∀(ps:List (Nat×zx)) (l:List Fs),YU (ps.map (·.1)) ((ps.map (·.2)).map ρ') l=ps.foldl (λl p=>l.set p.1 (ρ' p.2)) l
 |[],_=>rfl
 |_::ps,l=>OV ps _
theorem WK(R:x6 g H n w){len:Nat}{parts:Array (Nat×Operand)}{ps:List (Nat×zx)}{ρ:Operand->Value}(hu:P.underlying t=some (.slice e))(hz:B6 P e=some z)(tB:FG P e=some s)
  (hc:E8 parts.toList=some ps) (hv:∀x x',Aw x=some x'->x'∈ps.map (·.2)->AP g (ρ' x') (ρ x)) (h0:AD H id=none) (s5:id<n) (hm:m<=id)
  (h1:YT s len (ps.map (·.1)) ((ps.map (·.2)).map ρ')) (h3:len*s<=16777216):
  ∃v w' g',(Instr.buildSlice t len (parts.map λ(i,x)=>(i,ρ x))).run P w= .ok v w'/\AP g' (.ref id s 0 len len) v/\
   x6 g' (sA H id (.arr s (YU (ps.map (·.1)) ((ps.map (·.2)).map ρ') (List.replicate len z)))) n w'/\q8 m g H w g' (sA H id (.arr s (YU (ps.map (·.1)) ((ps.map (·.2)).map ρ') (List.replicate len z)))) w'/\g.le g':=by
 obtain⟨cells,sP,hcs,q3⟩:=Yg (w:=w) hu hz tB hc hv (RM ps h1) h3;rw[OV];have hL:(ps.foldl (λl p=>l.set p.1 (ρ' p.2)) (List.replicate len z)).length=len:=by rw[Hh];simp
 have hnewb:(w.alloc (.cells cells e)).heap[w.heap.size]?=some (.cells cells e (0,0)):=by show(w.heap.push _)[w.heap.size]?=_;simp
 obtain⟨r1,r2,r3⟩:=R.new (m:=m) (w':=w.alloc (.cells cells e)) rfl rfl rfl rfl h0 s5 hm (L:=⟨w.heap.size,0,len*s⟩) rfl (ob:=.arr s (ps.foldl (λl p=>l.set p.1 (ρ' p.2)) (List.replicate len z))) (by
  refine⟨⟨w.heap.size,0,len*s⟩,_,e,zw,rfl,hcs.symm,hnewb,by rw[hcs,hL],?_⟩;refine sK.mono (g:=g) (g':=⟨λi=>if i=id then some ⟨w.heap.size,0,len*s⟩else g.β i,g.σ⟩) ⟨λi L h=>?_,λ_ _ _ h=>h⟩ (λ_ _ h=>h) _ _ _ q3;show(if i=id then _ else _)=_;rw[og (by rintro rfl;exact absurd h0 (R.uu i L h).1)];exact h)
 exact⟨_,_,_,sP,⟨_,by simp;rfl,rfl,zw⟩,r1,r2,r3⟩
end
def Mi{x:Value}(h:x.oneCell'=true):EM 1 x/\∀(j:Nat) y,x.cells[j]?=some y->j=0/\y=x:=by
 cases x<;>simp [Value.oneCell']at h<;>refine⟨⟨rfl,by simp [Value.cells,Value.oneCell']⟩,λj y e=>?_⟩<;>(cases j with
  |zero=>simp [Value.cells]at e;exact⟨rfl,e.symm⟩
  |succ j=>simp [Value.cells]at e)
variable {H:AB} {g:z8} {n m id:Nat} {w:World}
theorem sL.stab1{f:Nat->Option Value}:∀(cs:List Fs) (o:Nat),sL g f o cs->sK g 1 f o cs
 |[],_,_=>trivial
 |c::cs,o,⟨⟨x,h1,h2,h3⟩,h⟩=>⟨⟨x,h2,(Mi h3).1,λj y e=>by
   obtain⟨rfl,rfl⟩:=(Mi h3).2 j y e;exact h1⟩,sL.stab1 cs (o+1) h⟩
theorem WL{P:Program}(R:x6 g H n w){t e:TypeId}{nn:Nat}{x:Operand}{lo hi:Option Operand}{x':zx}{l' h':Option zx}{ρ:Operand->Value}{ρ':zx->Fs}{K:AB->Fs->Prop}
  (hu:P.underlying t=some (.array nn e)) (tB:FG P e=some 1) (vf:DG lo=some l') (hhi:DG hi=some h') (hx:AP g (ρ' x') (ρ x))
  (hv:∀y y',Aw y=some y'->(l'=some y'\/h'=some y')->AP g (ρ' y') (ρ y)) (b1:CK ρ' l') (b2:CK ρ' h') (h:Hc H nn (sS ρ' 0 l') (sS ρ' nn h') K (ρ' x')):
  ∃v H' v',(Instr.sliceAt t (ρ x) (lo.map ρ) (hi.map ρ) none).run P w= .ok v w/\AP g v' v/\x6 g H' n w/\q8 m g H w g H' w/\K H' v':=by
 generalize ρ' x'=av at h hx;unfold Hc at h;split at h;case h_2=>exact h.elim
 rename_i id;obtain⟨L,k1,k2,k3⟩:=hx;have main:∀uY hi0:Int,sS ρ' 0 l'=uY->sS ρ' nn h'=hi0->0<=uY->uY<=hi0->hi0<=nn->uY<nn->
   (Instr.sliceAt t (ρ x) (lo.map ρ) (hi.map ρ) none).run P w= .ok (.slice (some ⟨L.sO,uY.toNat*1,none⟩) (hi0.toNat-uY.toNat) (nn-uY.toNat)) w:=by
  intro uY hi0 e1 e2 c1 c2 c3 c4;have hb:=DH (P:=P) (g:=g) (w:=w) (isSlice:=false) (len:=nn) (cap:=nn) (ρ:=ρ) (ρ':=ρ') (mx:=none) (mx':=none) vf hhi rfl (λy y' a b=>hv y y' a (by simpa using b)) b1 b2 zt zw zo zo (by rw[CZ];omega) (by rw[CZ];exact rH _);rw[e1,e2,CZ]at hb;have sZ:¬nn=uY.toNat:=zo
  rw[k3];simp only[qd]at hb;simp only[Instr.sliceAt,Sem.run_bind,run_underlying hu,Result.andThen_ok,Instr.sureAddr,Sem.run_pure,hb,Bj tB,Bt,oH,sZ,pb];simp
 split at h
 ·rename_i cs ho;obtain⟨c0,c1,c2,c3,c4,hK⟩:=h;obtain⟨L',c,e0,j1,j2,j3,j4,j5,j6⟩:=R.obj id _ ho;rw[k1]at j1;cases j1;obtain⟨r1,t1⟩:=R.upd (m:=m) (w':=w) (ob':=.arr 1 cs) ho rfl k1 rfl rfl rfl rfl (λ_ _=>rfl) (.inl ⟨c,e0,(0,0),c,j4,j4,rfl,λ_ _=>rfl⟩)
   ⟨L,c,e0,k1,j2,by rw[j3,j5],j4,by rw[j5];simp,sL.stab1 cs 0 j6⟩
  exact⟨_,_,.ref id 1 _ _ _,main _ _ rfl rfl c1 c2 c3 c4,⟨L,k1,k2,rfl⟩,r1,t1,hK⟩
 ·rename_i e' cs ho;obtain⟨rfl,c0,c1,c2,c3,c4,hK⟩:=h;exact⟨_,_,.ref id 1 _ _ _,main _ _ rfl rfl c1 c2 c3 c4,⟨L,k1,k2,rfl⟩,R,q8.refl _ _ _ _,hK⟩
 ·exact h.elim
theorem WM{P:Program}(R:x6 g H n w){t e:TypeId}{nn:Nat}{x:Operand}{lo hi:Option Operand}{x':zx}{l' h':Option zx}{ρ:Operand->Value}{ρ':zx->Fs}
  (hu:P.underlying t=some (.array nn e)) (tB:FG P e=some 1) (vf:DG lo=some l') (hhi:DG hi=some h') (hx:AP g (ρ' x') (ρ x))
  (hv:∀y y',Aw y=some y'->(l'=some y'\/h'=some y')->AP g (ρ' y') (ρ y)) (h:(BN H ρ' (.slp nn x' l' h')).1):
  ∃v,(Instr.sliceAt t (ρ x) (lo.map ρ) (hi.map ρ) none).run P w= .ok v w/\AP g (BN H ρ' (.slp nn x' l' h')).2 v:=by
 simp only[BN]at h⊢;generalize ρ' x'=av at h hx⊢;split at h;case h_2=>exact h.elim
 rename_i id;obtain⟨L,k1,k2,k3⟩:=hx;obtain⟨b1,b2,c1,c2,c3,c4⟩:=h;have hb:=DH (P:=P) (g:=g) (w:=w) (isSlice:=false) (len:=nn) (cap:=nn) (ρ:=ρ) (ρ':=ρ') (mx:=none) (mx':=none) vf hhi rfl (λy y' a b=>hv y y' a (by simpa using b)) b1 b2 zt zw zo zo (by rw[CZ];omega) (by rw[CZ];exact rH _);rw[CZ]at hb;have sZ:¬nn=(sS ρ' 0 l').toNat:=zo
 refine⟨.slice (some ⟨L.sO,(sS ρ' 0 l').toNat*1,none⟩) ((sS ρ' nn h').toNat-(sS ρ' 0 l').toNat) (nn-(sS ρ' 0 l').toNat),?_,L,k1,k2,rfl⟩;rw[k3];simp only[qd]at hb;simp only[Instr.sliceAt,Sem.run_bind,run_underlying hu,Result.andThen_ok,Instr.sureAddr,Sem.run_pure,hb,Bj tB,Bt,oH,sZ,pb];simp
theorem sK.pstab1{f:Nat->Option Value}:∀(cs:List Fs) (o:Nat),cs.all Id=true->sK g 1 f o cs->sL g f o cs
 |[],_,_,_=>trivial
 |c::cs,o,hi,⟨⟨x,h1,h2,h3⟩,h⟩=>by
  rw[qJ,oo]at hi;refine⟨⟨x,?_,h1,?_⟩,sK.pstab1 cs (o+1) hi.2 h⟩
  ·cases c<;>simp [Id]at hi;have e:x=_:=h1;subst e;exact h3 0 _ (by simp [Value.cells])
  ·cases c<;>simp [Id]at hi;have e:x=_:=h1;subst e;rfl
theorem x6.rebox(R:x6 g H n w){cs:List Fs}(ho:AD H id=some (.arr 1 cs))(hi:cs.all Id=true):
  x6 g (sA H id (.box cs)) n w/\q8 m g H w g (sA H id (.box cs)) w:=by
 obtain⟨L,c,e0,j1,j2,j3,j4,j5,j6⟩:=R.obj id _ ho;rw[qI]at j5;exact R.upd (m:=m) (w':=w) (ob':=.box cs) ho rfl j1 rfl rfl rfl rfl (λ_ _=>rfl) (.inl ⟨c,e0,(0,0),c,j4,j4,rfl,λ_ _=>rfl⟩)
   ⟨L,c,e0,j1,j2,by rw[j3,j5],j4,j5.symm,sK.pstab1 cs 0 hi j6⟩
theorem x6.unbox(R:x6 g H n w){cs:List Fs}(ho:AD H id=some (.box cs)):
  x6 g (sA H id (.arr 1 cs)) n w/\q8 m g H w g (sA H id (.arr 1 cs)) w:=by
 obtain⟨L,c,e0,j1,j2,j3,j4,j5,j6⟩:=R.obj id _ ho;exact R.upd (m:=m) (w':=w) (ob':=.arr 1 cs) ho rfl j1 rfl rfl rfl rfl (λ_ _=>rfl) (.inl ⟨c,e0,(0,0),c,j4,j4,rfl,λ_ _=>rfl⟩)
   ⟨L,c,e0,j1,j2,by rw[j3,j5],j4,by rw[j5];simp,sL.stab1 cs 0 j6⟩
theorem x6.freeze(r:x6 g H n w){e:Nat}{l:List Fs}(h0:AD H id=some (.arr e l)):
  ∃σ',x6 ⟨g.β,σ'⟩ (sA H id (.frz e l)) n w/\q8 m g H w ⟨g.β,σ'⟩ (sA H id (.frz e l)) w:=by
 obtain⟨L,c,t,j1,j2,j3,j4,j5,j6⟩:=r.obj id _ h0
 let σ':Nat->Nat->Option Value:=λb o=>if b=L.sO/\o<c.size then c[o]? else g.σ b o
 have tK:∀o,w.cell? ⟨L.sO,o,none⟩=c[o]?:=λo=>BE j4 o
 have hσ:∀b o v,g.σ b o=some v->σ' b o=some v:=by
  intro b o v h;show(if b=L.sO/\o<c.size then c[o]? else g.σ b o)=some v;split
  ·rename_i q;have:=r.σw b o v h;rw[q.1,tK]at this;exact this
  ·exact h
 have tX:∀b o v,σ' b o=some v->g.σ b o=some v\/(b=L.sO/\o<c.size):=by grind
 have hle:g.le ⟨g.β,σ'⟩:=⟨λ_ _ h=>h,hσ⟩;have low:∀i oi,AD (sA H id (.frz e l)) i=some oi->oi.owns=true->i≠id/\AD H i=some oi:=by
  intro i oi q1 q2;rw[AN]at q1;by_cases e:id=i
  ·rw[oE e]at q1;cases q1;simp [xq.owns]at q2
  ·rw[og e]at q1;exact⟨Ne.symm e,q1⟩
 refine⟨σ',⟨?_,?_,?_,?_,?_,?_,EN.mono (g:=g) (g':=⟨g.β,σ'⟩) hle r.gl,r.gz⟩,⟨hle,λ_ _ h=>.inl h,rfl,rfl,rfl,od _,λb ob hb=>by rw[hb];exact Iu.same _ _,?_,?_⟩⟩
 ·intro b o v h;have h':(if b=L.sO/\o<c.size then c[o]? else g.σ b o)=some v:=h;split at h'
  ·rename_i q;rw[q.1,tK];exact h'
  ·exact r.σw b o v h'
 ·intro i oi h;rw[AN]at h;by_cases e1:id=i
  ·rw[oE e1]at h;cases h;subst e1;refine⟨L,j1,j2,?_⟩;refine sK.mono (g:=g) (g':=⟨g.β,σ'⟩) hle (λo x q=>?_) e l 0 j6;show(if L.sO=L.sO/\o<c.size then c[o]? else g.σ L.sO o)=some x;rw[oE ⟨rfl,(oU.1 q).1⟩];exact q
  ·rw[og e1]at h;exact FE.ext (w:=w) (w':=w) (λ_ _ x=>x) hle oi (r.obj i oi h)
 ·intro i L' h;refine⟨?_,(r.uu i L' h).2⟩;rw[AN];by_cases e:id=i
  ·simp [e]
  ·rw[og e];exact(r.uu i L' h).1
 ·intro i oi h;rw[AN]at h;by_cases e:id=i
  ·subst e;exact r.hd id _ h0
  ·rw[og e]at h;exact r.hd i oi h
 ·intro i j oi oj Li Lj sZ q1 q2 q3 q4 q5 q6 hb;exact r.ap i j oi oj Li Lj sZ (low i oi q1 q3).2 (low j oj q2 q4).2 q3 q4 q5 q6 hb
 ·intro i oi L' o q1 q2 q3 q4 q5;obtain⟨p1,p2⟩:=low i oi q1 q2;have hn:=r.un i oi L' o p2 q2 q3 q4 q5;cases hs:σ' L'.sO o with
  |none=>exact hs
  |some v=>
   rcases tX _ _ _ hs with h|⟨h1,h2⟩
   ·rw[hn]at h;cases h
   ·exfalso;rcases r.ap i id oi _ L' L p1 p2 h0 q2 rfl q3 j1 h1 with k|k|k|k<;>omega
 ·rintro b o hb ⟨i,oi,Li,q1,q2,q3,q4,q5,q6⟩;exact⟨i,oi,Li,(low i oi q1 q2).2,q2,q3,q4,q5,q6⟩
 ·intro b o v hb h;rcases tX b o v h with h|⟨h1,h2⟩
  ·exact .inl h
  ·exact .inr ⟨id,_,L,h0,rfl,j1,h1.symm,zo,zo⟩
end
end Go.AM
namespace Go.AM
open Go.Lib Go.MapKept Go.RowKit
section
variable {P:Program} {g:z8} {H:AB} {n m:Nat} {w:World}
def cZ(P:Program)(kt:KT)(t:TypeId):Prop:=match kt with
 | .arr n k=>∃e,P.underlying t=some (.array n e)/\P.underlying e=some (.int k)/\FG P e=some 1
 |kt=>∃d,P.underlying t=some d/\∀(g:z8) k x,kt.is k->AP g k x->IsKey d x
variable {k av mv:Fs} {op:BinOp} {ok:Bool} {kt:KT} {id base:Nat} {X:Operand} {t e:TypeId} {x y c:Value}
theorem Yu(h:kD P t=some kt):cZ P kt t:=by
 unfold kD at h;split at h;case h_5=>cases h
 case h_4=>
  rename_i hu;split at h
  ·rename_i h1 h2;cases h;exact⟨_,hu,h1,h2⟩
  ·cases h
 all_goals
  rename_i hu;cases h;refine⟨_,hu,λg k x hk hx=>?_⟩;cases k<;>simp only[KT.is]at hk<;>first|exact hk.elim|skip
  have hx':=hx;simp only[AP]at hx';subst hx';first|exact hk|(subst hk;rfl)|trivial|(simp [IsKey];done)|(simp [IsKey,hk];done)
theorem RN{k:IntKind}:∀{n:Nat} {xs ys:List Fs},Nf k n xs->Nf k n ys->ED (List.replicate n 0) xs ys
 |0,[],[],_,_=>trivial
 |n+1,a::xs,b::ys,h1,h2=>by
  cases a<;>(try exact h1.elim);cases b<;>(try exact h2.elim);obtain⟨rfl,h1⟩:=h1;obtain⟨rfl,h2⟩:=h2;exact⟨rfl,RN h1 h2⟩
 |0,_::_,_,h1,_=>by cases h1
 |0,[],_::_,_,h2=>by cases h2
 |n+1,[],_,h1,_=>by cases h1
 |n+1,_::_,[],_,h2=>by cases h2
theorem RO{k:IntKind}:∀{n:Nat} {xs ys:List Fs} {us vs:List Value},Nf k n xs->Nf k n ys->sG g xs us->sG g ys vs->(tN xs ys=true↔us=vs)
 |0,xs,ys,us,vs,h1,h2,hx,hy=>by
  cases xs with
  |cons _ _=>cases h1
  |nil=>cases ys with
   |cons _ _=>cases h2
   |nil=>
    have hx':us=[]:=hx;have ug:vs=[]:=hy;subst hx';subst ug;simp [tN]
 |n+1,xs,ys,us,vs,h1,h2,hx,hy=>by
  cases xs with
  |nil=>cases h1
  |cons a xs=>cases ys with
   |nil=>cases h2
   |cons b ys=>
    cases a<;>(try exact h1.elim);cases b<;>(try exact h2.elim);obtain⟨rfl,h1⟩:=h1;obtain⟨rfl,h2⟩:=h2;obtain⟨u,r1,rfl,q2,q3⟩:=hx;obtain⟨v,r2,rfl,q5,q6⟩:=hy;have q2':u= .int _ _:=q2;have q5':v= .int _ _:=q5;subst q2';subst q5';have ih:=RO h1 h2 q3 q6;simp [tN,HQ,ih]
theorem Ug{a b:Fs}(ha:kt.is a)(hb:kt.is b)(hx:AP g a x)(hy:AP g b y):(HQ a b=true↔x=y):=by
 cases kt with
 |arr n k=>
  cases a<;>(try exact ha.elim);cases b<;>(try exact hb.elim);obtain⟨us,rfl,k1,-⟩:=hx;obtain⟨vs,rfl,k2,-⟩:=hy;have:=RO ha hb k1 k2;simp only[HQ,this,Value.agg.injEq];exact⟨λe=>by rw[<-Array.toList_inj];exact e,λe=>by rw[e]⟩
 |_=>
  cases a<;>simp only[KT.is]at ha<;>(try exact ha.elim)<;>cases b<;>simp only[KT.is]at hb<;>(try exact hb.elim)<;>simp only[AP]at hx hy<;>subst hx<;>subst hy<;>
   first|(subst ha;subst hb;simp [HQ];done)|(simp [HQ];done)|(simp only[HQ,oC,Value.string.injEq];exact⟨λe=>by rw[e],str_inj⟩)
theorem Mj(hs:FG P e=some 1){k:IntKind}(he:P.underlying e=some (.int k)):∃i,P.info? e=some i/\P.cellsOf e=1:=by
 unfold FG at hs;rw[he]at hs;cases hq:P.info? e with
 |none=>rw[hq]at hs;cases hs
 |some i=>rw[hq]at hs;exact⟨i,rfl,by simp only[Program.cellsOf,hq];exact(show ¬i.size=0/\i.size=1 by simpa using hs).2⟩
theorem KR(h:cZ P kt t)(hk:kt.is k)(hx:AP g k x)(em:Bool):(Instr.checkKey em 10000 t x).run P w= .ok () w:=by
 cases kt with
 |arr n kd=>
  obtain⟨e,h1,h2,h3⟩:=h;obtain⟨i,hi,hi1⟩:=Mj h3 h2;cases k<;>(try exact hk.elim);rename_i xs;obtain⟨us,rfl,k1,-⟩:=hx;have sX:∀(m o:Nat) (as:List Fs),Nf kd m as->sG g as (us.toList.drop o)->∀j,o<=j->j<o+m->∃z,us[j]?=some (.int kd z):=by
   intro m;induction m with
   |zero=>intro o as _ _ j h1 h2;omega
   |succ m ih=>
    intro o as ha hv j hj1 hj2;cases as with
    |nil=>cases ha
    |cons a as=>
     cases a<;>(try exact ha.elim);obtain⟨rfl,ha⟩:=ha;obtain⟨u,r1,q1,q2,q3⟩:=hv;have q2':u= .int _ _:=q2;subst q2';by_cases e:j=o
     ·subst e;exact⟨_,by have:=congrArg (λl:List Value=>l[0]?) q1;simpa using this⟩
     ·refine ih (o+1) as ha ?_ j zo zo;have:=congrArg (λl:List Value=>l.drop 1) q1;simp at this;rw[this];exact q3
  have sX:=sX n 0 xs hk (by simpa using k1);have he:∀w,(isAgg e).run P w= .ok false w:=λw=>by simp [isAgg,run_underlying h2]
  rw[show(10000:Nat)=9999+1 from rfl,Instr.checkKey];simp only[Sem.run_bind,run_underlying h1,Result.andThen_ok];simp only[Std.Legacy.Range.forIn_eq_forIn_range',Std.Legacy.Range.size,Nat.sub_zero,Nat.add_one_sub_one,Nat.div_one];have w9:∀j∈List.range' 0 n,∃z,us[j]?=some (.int kd z):=λj hj=>sX j (oq _) (by
   have:=List.mem_range'.1 hj;omega)
  generalize List.range' 0 n=is at w9;induction is with
  |nil=>simp
  |cons j is ih=>
   obtain⟨z,hz⟩:=w9 j zw;have p2:(Instr.checkKey em 9999 e (.int kd z)).run P w= .ok () w:=by
    rw[show(9999:Nat)=9998+1 from rfl];exact run_checkKey h2 (show IsKey (.int kd) (.int kd z)from rfl) em 9998
   simp only[List.forIn_cons,Sem.run_bind,Bj h3,Result.andThen_ok,qI,Bh he hz,p2,Sem.run_pure];exact ih (λy hy=>w9 y (by simp [hy]))
 |_=>
  obtain⟨d,h1,h2⟩:=h;exact run_checkKey h1 (h2 g k x hk hx) em 9999
theorem WN(h:cZ P kt t)(hk:kt.is k)(hx:AP g k x):(Instr.keyThatStays x x).run P w= .ok x w:=by
 cases kt with
 |arr n kd=>
  cases k<;>(try exact hk.elim);rename_i xs;obtain⟨us,rfl,k1,-⟩:=hx;have sX:∀(m:Nat) (as:List Fs) (vs:List Value),Nf kd m as->sG g as vs->∀v∈vs,∃z,v= .int kd z:=by
   intro m;induction m with
   |zero=>
    intro as vs ha hv v hm;cases as with
    |cons _ _=>cases ha
    |nil=>have hv':vs=[]:=hv;subst hv';cases hm
   |succ m ih=>
    intro as vs ha hv v hm;cases as with
    |nil=>cases ha
    |cons a as=>
     cases a<;>(try exact ha.elim);obtain⟨rfl,ha⟩:=ha;obtain⟨u,r1,rfl,q2,q3⟩:=hv;have q2':u= .int _ _:=q2;subst q2';rcases ph.1 hm with rfl|hm
     ·exact⟨_,rfl⟩
     ·exact ih as r1 ha q3 v hm
  have hs:Instr.sameBits 10000 (.agg us) (.agg us)=true:=by
   rw[show(10000:Nat)=9999+1 from rfl,Instr.sameBits,oo];refine⟨zw,?_⟩;rw[oM];rintro⟨a,b⟩ hab;have hz:∀l:List Value,(a,b)∈l.zip l->a=b/\a∈l:=by
    intro l;induction l with
    |nil=>intro h;cases h
    |cons q l ih=>
     intro h;rcases ph.1 h with h|h
     ·cases h;exact⟨rfl,zw⟩
     ·exact⟨(ih h).1,by simp [(ih h).2]⟩
   obtain⟨rfl,hm⟩:=hz _ hab;obtain⟨z,rfl⟩:=sX n xs us.toList hk k1 a hm;simp [Instr.sameBits]
  simp [Instr.keyThatStays,hs]
 |_=>
  obtain⟨d,h1,h2⟩:=h;exact run_keyThatStays (h2 g k x hk hx)
theorem Mk(hd:cZ P kt t)(hk:kt.is k)(hx:AP g k x)(es:List (Fs×Fs×Nat))(tD:List MapEntry)(hf:D6 kt es)(hm:Dt g es tD):
  (BZ k es=none/\(Instr.findKey t x tD).run P w= .ok none w/\∀v y c,AP g v y->Dt g (EE k v c es) (tD++[{key:=x,val:=y,born:=c}]))\/
  (∃j e v0,BZ k es=some v0/\tD[j]?=some e/\(Instr.findKey t x tD).run P w= .ok (some (j,e.val)) w/\AP g v0 e.val/\e.key=x/\∀v y c,AP g v y->Dt g (EE k v c es) (tD.set j {e with key:=x,val:=y})):=by
 have key:∀(F:List MapEntry->Nat->Option (Nat×Value)->Prop),(∀i,F [] i none)->(∀e es i r,kt.is k->(x=e.key->F (e::es) i (some (i,e.val)))/\((∃k',kt.is k'/\AP g k' e.key)->x≠e.key->F es (i+1) r->F (e::es) i r))->
   ∀(es:List (Fs×Fs×Nat)) (tD:List MapEntry) (i:Nat),D6 kt es->Dt g es tD->
   (BZ k es=none/\F tD i none/\∀v y c,AP g v y->Dt g (EE k v c es) (tD++[{key:=x,val:=y,born:=c}]))\/
   (∃j e v0,BZ k es=some v0/\tD[j]?=some e/\F tD i (some (i+j,e.val))/\AP g v0 e.val/\e.key=x/\∀v y c,AP g v y->Dt g (EE k v c es) (tD.set j {e with key:=x,val:=y})):=by
  intro F F0 F1 es;induction es with
  |nil=>
   intro tD i _ h;have h0:tD=[]:=h;subst h0;exact .inl ⟨rfl,F0 i,λv y c hv=>⟨_,_,rfl,hx,hv,rfl,rfl⟩⟩
  |cons q r ih=>
   obtain⟨k',v',b⟩:=q;intro tD i hf h;obtain⟨e,es2,rfl,h1,h2,h3,h4⟩:=h;obtain⟨f1,f2⟩:=hf;have hc:=Ug hk f1 hx h1;by_cases ud:x=e.key
   ·have hc1:HQ k k'=true:=hc.2 ud;refine .inr ⟨0,e,v',by simp [BZ,hc1],rfl,(F1 e es2 i none hk).1 ud,h2,ud.symm,λv y c hv=>?_⟩;simp only[EE,hc1,pG,List.set_cons_zero];exact⟨_,_,rfl,by rw[ud];exact h1,hv,h3,h4⟩
   ·have hc1:¬HQ k k'=true:=λz=>ud (hc.1 z)
    rcases ih es2 (i+1) f2 h4 with⟨p1,p2,p3⟩|⟨j,e2,v0,p1,p2,p3,p4,p5,p6⟩
    ·refine .inl ⟨by simp [BZ,hc1,p1],(F1 e es2 i _ hk).2 ⟨k',f1,h1⟩ ud p2,λv y c hv=>?_⟩;simp only[EE,hc1,pp];exact⟨_,_,rfl,h1,h2,h3,p3 v y c hv⟩
    ·refine .inr ⟨j+1,e2,v0,by simp [BZ,hc1,p1],by simpa using p2,(F1 e es2 i _ hk).2 ⟨k',f1,h1⟩ ud (by rw[show i+(j+1)=i+1+j by omega];exact p3),p4,p5,λv y c hv=>?_⟩;simp only[EE,hc1,List.set_cons_succ];exact⟨_,_,rfl,h1,h2,h3,p6 v y c hv⟩
 cases kt with
 |arr n kd=>
  obtain⟨e,h1,h2,h3⟩:=hd;obtain⟨ii,hi,hi1⟩:=Mj h3 h2;have hw:(Instr.findKey t x tD).run P w=(Instr.findAsking t x tD).run P w:=run_findKey_eq w (by rw[h1]) x tD;rw[hw];have heq:∀k' y,KT.is (.arr n kd) k'->AP g k' y->∃r,(Op.equal t x y).run P w= .ok r w/\(r=true↔x=y):=by
   intro k' y hk' hy;have hcr:=Ug (kt:=.arr n kd) hk hk' hx hy;cases k<;>(try exact hk.elim);cases k'<;>(try exact hk'.elim);rename_i xs ys;obtain⟨us,rfl,k1,-⟩:=hx;obtain⟨vs,rfl,k2,-⟩:=hy;have he:=run_equalIn_array (P:=P) w 9999 us vs h1 hi;rw[hi1,List.range_eq_range',I2 (g:=g) (w:=w) (d:=9998) h2 n 0 xs ys (by simpa using k1) (by simpa using k2) (RN hk hk')]at he;simp only[HQ]at hcr;exact⟨_,by rw[Op.equal,show Op.maxDepth=9999+1 from rfl,he],hcr⟩
  have:=key (λl i r=>(Instr.findAsking t x l i).run P w= .ok r w) (λi=>by simp [Instr.findAsking]) (λe es i r _=>⟨λhq=>?_,λ⟨k',q1,q2⟩ hq hF=>?_⟩) es tD 0 hf hm
  ·simp_all
  ·obtain⟨q,hq1,hq2⟩:=heq k x hk hx;have:q=true:=hq2.2 rfl;subst this;rw[Instr.findAsking,Sem.run_bind,<-hq,hq1];simp
  ·obtain⟨q,hq1,hq2⟩:=heq k' e.key q1 q2;have:q=false:=by cases q with
    |true=>exact absurd (hq2.1 rfl) hq
    |false=>rfl
   subst this;rw[Instr.findAsking,Sem.run_bind,hq1];simp [hF]
 |_=>
  obtain⟨d,h1,h2⟩:=hd;have hkx:=h2 g k x hk hx;have:=key (λl i r=>Instr.findNow d x l i=some r) (λi=>rfl) (λe es i r _=>⟨λhq=>?_,λ⟨k',q1,q2⟩ hq hF=>?_⟩) es tD 0 hf hm
  ·rcases this with⟨q1,q2,q3⟩|⟨j,e,v0,q1,q2,q3,q4⟩
   ·exact .inl ⟨q1,run_findKey h1 q2,q3⟩
   ·exact .inr ⟨j,e,v0,q1,q2,by rw[pn]at q3;exact run_findKey h1 q3,q4⟩
  ·obtain⟨q,hq2,hiff⟩:=sameNow_of_keys hkx hkx;have:q=true:=hiff.2 rfl;subst this;simp only[Instr.findNow,<-hq,hq2]
  ·obtain⟨q,hq2,hiff⟩:=sameNow_of_keys hkx (h2 g k' e.key q1 q2);have:q=false:=by cases q with
    |true=>exact absurd (hiff.1 rfl) hq
    |false=>rfl
   subst this;simp only[Instr.findNow,hq2,hF]
theorem Ml:∀(es:List (Fs×Fs×Nat)) (tD:List MapEntry),Dt g es tD->∀e'∈tD,∃e∈es,AP g e.1 e'.key/\AP g e.2.1 e'.val/\e'.born=e.2.2
 |[],tD,h,e',he=>by have h0:tD=[]:=h;subst h0;cases he
 |(k,v,b)::r,tD,h,e',he=>by
  obtain⟨e,es2,rfl,h1,h2,h3,h4⟩:=h;rcases ph.1 he with rfl|he
  ·exact⟨(k,v,b),po,h1,h2,h3⟩
  ·obtain⟨x,hx,hh⟩:=Ml r es2 h4 e' he;exact⟨x,pE _ hx,hh⟩
theorem OW:∀(es:List (Fs×Fs×Nat)) (tD:List MapEntry),Dt g es tD->∀e∈es,∃e'∈tD,e'.born=e.2.2
 |(k,v,b)::r,tD,h,e,he=>by
  obtain⟨x,es2,rfl,h1,h2,h3,h4⟩:=h;rcases ph.1 he with rfl|he
  ·exact⟨x,po,h3⟩
  ·obtain⟨y,hy,hh⟩:=OW r es2 h4 e he;exact⟨y,pE _ hy,hh⟩
theorem Lc(w:World)(ty:TypeId)(bi bm since c0:Nat)(seen:Array Nat)(es:Array MapEntry)(clock:Nat)(hi:w.heap[bi]?=some (.mapIter (some bm) since seen c0))(hb:w.heap[bm]?=some (.map es clock))(hold:∀x∈es.toList,x.born<since)(hsc:since<=c0):
  ((leftOf es seen).size=0/\(Instr.next (.pointer (some ⟨bi,0,none⟩)) false ty).run P w= .ok (.tuple #[.bool false]) w)\/
  ∃e∈(leftOf es seen).toList,∃w1:World,(w1=w\/w1=w.drew)/\(Instr.next (.pointer (some ⟨bi,0,none⟩)) false ty).run P w= .ok (.tuple #[.bool true,e.key,e.val]) {w1 with heap:=w1.heap.setIfInBounds bi (.mapIter (some bm) since (seen.push e.born) clock)}:=by
 simp only[Instr.next,getObj,Sem.run_bind,Sem.run,hi,hb,Result.andThen,next_test_false seen es since c0 hold hsc,oP,pb];unfold leftOf;have ux:∀x∈(Array.filter (λe=>!seen.contains e.born) es).toList,x.born<since:=λx hx=>hold x (by simp at hx⊢;exact hx.1)
 generalize Array.filter (λe=>!seen.contains e.born) es=L at ux⊢;have e1:L.filter (λx=>decide (x.born<since))=L:=Array.filter_eq_self.2 (λx hx=>by simpa using ux x (by simpa using hx));have e2:L.filter (λx=>decide (x.born≥since))= #[]:=by simp_all
 simp only[e1,e2,Array.append_empty];by_cases h0:L.size=0
 ·simp_all [choose,Sem.run,Question.forced]
 ·right;have sZ:L.isEmpty=false:=by simp [Array.isEmpty,h0]
  simp only[sZ,oP,pb,Array.empty_append,Array.size_map];have hch:∃(j:Nat) (w1:World),j<L.size/\(w1=w\/w1=w.drew)/\(choose (Question.mapNext L.size)).run P w= .ok j w1:=by
   by_cases hf:L.size<=1
   ·exact⟨0,w,zo,.inl rfl,by simp [choose,Sem.run,Question.forced,hf]⟩
   ·exact⟨_,w.drew,Nat.mod_lt _ zo,.inr rfl,by
     simp only[choose,Sem.run,Question.forced,oC,hf,pb,Question.cut];rfl⟩
  obtain⟨j,w1,hj,me,sP⟩:=hch;refine⟨L[j],zw,w1,me,?_⟩;have hh:w1.heap=w.heap:=by rcases me with rfl|rfl<;>rfl
  have sA:∀o':Obj,(setObj bi o').run P w1= .ok () {w1 with heap:=w1.heap.setIfInBounds bi o'}:=λo'=>by
   simp only[setObj,Sem.run];rw[hh,hi]
  simp only[sP,Array.getElem?_map,qj hj,pr,Sem.run_bind,sA,Result.andThen];rfl
theorem Uh(R:x6 g H n w)(h0:AD H id=none)(s5:id<n)(hm:m<=id)(o:Obj)(ob:xq)(hob:∀g':z8,g'.β id=some ⟨w.heap.size,0,1⟩->FE g' (w.alloc o) id ob):
  ∃g',x6 g' (sA H id ob) n (w.alloc o)/\q8 m g H w g' (sA H id ob) (w.alloc o)/\g.le g'/\g'.β id=some ⟨w.heap.size,0,1⟩:=by
 obtain⟨r1,r2,r3⟩:=R.new (m:=m) (w':=w.alloc o) (x:=o) rfl rfl rfl rfl h0 s5 hm (L:=⟨w.heap.size,0,1⟩) rfl (ob:=ob) (hob _ zw);exact⟨_,r1,r2,r3,zw⟩
theorem Pj(R:x6 g H n w){ob ob':xq}{L:Loc}{o o':Obj}(h0:AD H id=some ob)(hown:ob.owns=true)(hL:g.β id=some L)(hl:L.lo=0)(hh:L.hi=1)(hb:w.heap[L.sO]?=some o)(hnc:∀c e fz,o≠ .cells c e fz)
  (hob:FE g {w with heap:=w.heap.setIfInBounds L.sO o'} id ob'):
  x6 g (sA H id ob') n {w with heap:=w.heap.setIfInBounds L.sO o'}/\q8 m g H w g (sA H id ob') {w with heap:=w.heap.setIfInBounds L.sO o'}:=
 R.upd (m:=m) h0 hown hL rfl rfl rfl zw (λb tp=>(heap_set hb).2 b tp) (.inr ⟨hl,hh,o,hb,hnc⟩) hob
theorem WO(R:x6 g H n w)(h0:AD H id=none)(s5:id<n)(hm:m<=id)(t:TypeId):
  ∃v w' g',(Instr.makeMap t none).run P w= .ok v w'/\AP g' (.mp id) v/\x6 g' (sA H id (.map [] 0)) n w'/\q8 m g H w g' (sA H id (.map [] 0)) w':=by
 obtain⟨g',r1,r2,r3,hb⟩:=Uh (m:=m) R h0 s5 hm (.map #[] 0) (.map [] 0) λg' hb=>⟨_, #[],hb,rfl,rfl,(heap_alloc w _).1,rfl⟩
 exact⟨_,_,g',run_makeMap t w,⟨_,hb,rfl⟩,r1,r2⟩
theorem S1(R:x6 g H n w)(h0:AD H id=none)(s5:id<n)(hm:m<=id)(ht:P.underlying t=some .string)(s:List UInt8):
  ∃v w' g',(Instr.range t (.string ⟨s.toArray⟩)).run P w= .ok v w'/\AP g' (.ptr id 0) v/\x6 g' (sA H id (.sit s 0)) n w'/\q8 m g H w g' (sA H id (.sit s 0)) w':=by
 obtain⟨g',r1,r2,r3,hb⟩:=Uh (m:=m) R h0 s5 hm (.stringIter ⟨s.toArray⟩ 0) (.sit s 0) λg' hb=>⟨_,hb,rfl,rfl,(heap_alloc w _).1⟩
 exact⟨_,_,g',run_range_string w t _ ht,⟨_,hb,rfl,rfl⟩,r1,r2⟩
theorem RP(R:x6 g H n w){s:List UInt8}{pos:Nat}(h0:AD H id=some (.sit s pos))(hx:AP g (.ptr id 0) x)(ty:TypeId):
  ∃v w',(Instr.next x true ty).run P w= .ok v w'/\AP g (if pos<s.length then .sH [.bool true,.int .i64 pos,.int .i32 (Utf8.decode ⟨s.toArray⟩ pos).1]else .sH [.bool false]) v/\
   x6 g (if pos<s.length then sA H id (.sit s (pos+(Utf8.decode ⟨s.toArray⟩ pos).2))else H) n w'/\q8 m g H w g (if pos<s.length then sA H id (.sit s (pos+(Utf8.decode ⟨s.toArray⟩ pos).2))else H) w':=by
 obtain⟨L,hL,hl,rfl⟩:=hx;obtain⟨L',hL',hl',hh',hb⟩:=R.obj id _ h0;rw[hL]at hL';cases hL';by_cases hp:pos<s.length
 ·have hp':pos<(⟨s.toArray⟩:ByteArray).size:=by show pos<s.toArray.size;simpa using hp
  rw[oE hp,oE hp];obtain⟨r1,r2⟩:=Pj (m:=m) (ob':=.sit s (pos+(Utf8.decode ⟨s.toArray⟩ pos).2)) (o':=.stringIter ⟨s.toArray⟩ (pos+(Utf8.decode ⟨s.toArray⟩ pos).2)) R h0 rfl hL hl hh' hb zw ⟨L,hL,hl,hh',(heap_set hb).1⟩;exact⟨_,_,run_next_any_at w L.sO _ pos ty hb hp',⟨_,rfl,_,_,rfl,rfl,_,_,rfl,rfl,_,_,rfl,rfl,rfl⟩,r1,r2⟩
 ·have hp':¬pos<(⟨s.toArray⟩:ByteArray).size:=by show ¬pos<s.toArray.size;simpa using hp
  rw[og hp,og hp];exact⟨_,_,run_next_end_at w L.sO _ pos ty hb hp',⟨_,rfl,_,_,rfl,rfl,rfl⟩,R,q8.refl _ _ _ _⟩
theorem S2(R:x6 g H n w)(h0:AD H id=none)(s5:id<n)(hm:m<=id){kt:TypeId}(ht:P.underlying t=some (.map kt e)){mi c:Nat}{es:List (Fs×Fs×Nat)}(ho:AD H mi=some (.map es c))(hx:AP g (.mp mi) x):
  ∃v w' g',(Instr.range t x).run P w= .ok v w'/\AP g' (.ptr id 0) v/\x6 g' (sA H id (.mit mi c [] c)) n w'/\q8 m g H w g' (sA H id (.mit mi c [] c)) w':=by
 obtain⟨L,hL,rfl⟩:=hx;obtain⟨L',tD,hL',hl',hh',hb,hm'⟩:=R.obj mi _ ho;rw[hL]at hL';cases hL';have sZ:mi≠id:=λe=>by rw[e,h0]at ho;cases ho
 obtain⟨r1,r2,r3⟩:=R.new (m:=m) (w':=w.alloc (.mapIter (some L.sO) c #[] c)) (x:=.mapIter (some L.sO) c #[] c) rfl rfl rfl rfl h0 s5 hm (L:=⟨w.heap.size,0,1⟩) rfl (ob:=.mit mi c [] c) ⟨⟨w.heap.size,0,1⟩,L,zw,rfl,rfl,(heap_alloc w _).1,by simp [sZ,hL],od _⟩;exact⟨_,_,_,run_range_map w t kt e L.sO tD c ht hb,⟨⟨w.heap.size,0,1⟩,zw,rfl,rfl⟩,r1,r2⟩
theorem WP(R:x6 g H n w){ty:TypeId}{K:AB->Fs->Prop}(hx:AP g av x)(h:Ik H K av):
  ∃v w' g' H' v',(Instr.next x false ty).run P w= .ok v w'/\AP g' v' v/\x6 g' H' n w'/\q8 m g H w g' H' w'/\K H' v':=by
 unfold Ik at h;split at h;case h_2=>exact h.elim
 rename_i id;split at h;case h_2=>exact h.elim
 rename_i mi c seen la s5;split at h;case h_2=>exact h.elim
 rename_i es tV hm;obtain⟨hclk,k1,k2,k3⟩:=h;obtain⟨L,hL,hl,rfl⟩:=hx;obtain⟨L',Lm,hL',hl',hh',hb,hLm,hc⟩:=R.obj id _ s5;rw[hL]at hL';cases hL';obtain⟨Lm',tD,hm1,hm2,hm3,hm4,hm5⟩:=R.obj mi _ hm;rw[hLm]at hm1;cases hm1;have hold:∀y∈tD.toList,y.born<c:=λy hy=>by
  obtain⟨e,he,_,_,q⟩:=Ml es _ hm5 y hy;rw[q];exact k1 e he
 rcases Lc (P:=P) w ty L.sO Lm.sO c la seen.toArray tD tV hb hm4 hold hc with⟨p1,p2⟩|⟨e',tu,w1,hw1,p2⟩
 ·refine⟨_,w,g,H,.sH [.bool false],p2,⟨_,rfl,_,_,rfl,rfl,rfl⟩,R,q8.refl _ _ _ _,k2 ?_⟩;refine List.filter_eq_nil_iff.2 λe he hs=>?_
  obtain⟨y,hy,q⟩:=OW es _ hm5 e he;have:y∈(leftOf tD seen.toArray).toList:=by simp_all [leftOf,qn]
  have h0:(leftOf tD seen.toArray)= #[]:=Array.eq_empty_of_size_eq_zero p1;rw[h0]at this;simp at this
 ·have ux:e'∈tD.toList/\¬e'.born∈seen:=by
   unfold leftOf at tu;rw[Array.toList_filter,qn]at tu;exact⟨tu.1,by simpa using tu.2⟩
  obtain⟨e,he,q1,q2,q3⟩:=Ml es _ hm5 e' ux.1;have hk:=k3 e (qn.2 ⟨he,by rw[<-q3];simpa using ux.2⟩);have hww:w1.heap=w.heap/\w1.os=w.os/\w1.tape=w.tape/\w1.output=w.output:=by rcases hw1 with rfl|rfl<;>exact⟨rfl,rfl,rfl,rfl⟩
  have sA:(w1.heap.setIfInBounds L.sO (.mapIter (some Lm.sO) c (seen.toArray.push e'.born) tV))[L.sO]?=some (.mapIter (some Lm.sO) c (seen++[e.2.2]).toArray tV):=by
   rw[hww.1,(heap_set hb).1,q3];simp
  obtain⟨r1,r2⟩:=R.upd (m:=m) (w':={w1 with heap:=w1.heap.setIfInBounds L.sO (.mapIter (some Lm.sO) c (seen.toArray.push e'.born) tV)}) (ob':=.mit mi c (seen++[e.2.2]) tV) s5 rfl hL hww.2.1 hww.2.2.1 hww.2.2.2 (by simp [hww.1]) (λb tp=>by rw[show({w1 with heap:=w1.heap.setIfInBounds L.sO (.mapIter (some Lm.sO) c (seen.toArray.push e'.born) tV)}:World).heap=w.heap.setIfInBounds L.sO (.mapIter (some Lm.sO) c (seen.toArray.push e'.born) tV)by rw[<-hww.1]];exact(heap_set hb).2 b tp) (.inr ⟨hl,hh',_,hb,zw⟩)
   ⟨L,Lm,hL,hl,hh',sA,hLm,hclk⟩
  exact⟨_,_,g,_,.sH [.bool true,e.1,e.2.1],p2,⟨_,rfl,_,_,rfl,rfl,_,_,rfl,q1,_,_,rfl,q2,rfl⟩,r1,r2,hk⟩
theorem OX(s:Nat):∀(es:List (Fs×Fs×Nat)) (tD:List MapEntry),Dt g es tD->∀k v,MV s es=some (k,v)->∃e,tD.find? (·.born==s)=some e/\AP g k e.key/\AP g v e.val
 |[],tD,h,k,v,hm=>by cases hm
 |(k0,v0,b)::r,tD,h,k,v,hm=>by
  obtain⟨e,es2,rfl,h1,h2,h3,h4⟩:=h
  rw[MV]at hm
  by_cases hb:b=s
  ·simp_all
  ·rw[og hb]at hm
   obtain⟨e2,q1,q2,q3⟩:=OX s r es2 h4 k v hm
   exact⟨e2,by
    rw[List.find?_cons];have:(e.born==s)=false:=by simpa [h3]using hb
    rw[this];exact q1,q2,q3⟩
theorem S3(R:x6 g H n w)(hx:AP g av x)(h:(xE base .ment H [av]).1):
  (xE base .ment H [av]).2.1=H/\∃v,(Instr.entry x).run P w= .ok v w/\AP g (xE base .ment H [av]).2.2 v:=by
 cases av<;>simp only[xE]at h<;>(try exact h.elim);rename_i id off;cases off with
 |succ o=>simp []at h
 |zero=>
  simp only[xE]at h⊢;cases ho:AD H id with
  |none=>rw[ho]at h;exact h.elim
  |some ob=>
   rw[ho]at h;cases ob<;>simp only[]at h<;>(try exact h.elim);rename_i mi c seen last;try simp only[]
   cases hs:Iw H mi seen with
   |none=>simp_all
   |some kv=>
    obtain⟨k,v⟩:=kv;rw[hs]at h;cases hm:AD H mi with
    |none=>rw[hm]at h;exact h.elim
    |some om=>
     rw[hm]at h;cases om<;>(try exact h.elim);rename_i es tV;have h:tV=last:=h;subst h;refine⟨rfl,?_⟩;unfold Iw at hs;rw[hm]at hs;try simp only[]at hs
     cases hl:seen.getLast? with
     |none=>rw[hl]at hs;cases hs
     |some s=>
      rw[hl]at hs;obtain⟨L,hL,sf,rfl⟩:=hx;obtain⟨L',Lm,hL',hl',hh',hb,hLm,hc⟩:=R.obj id _ ho;rw[hL]at hL';cases hL';obtain⟨Lm',tD,hm1,hm2,hm3,hm4,hm5⟩:=R.obj mi _ hm;rw[hLm]at hm1;cases hm1;obtain⟨e,q1,q2,q3⟩:=OX s es _ hm5 k v hs;refine⟨.tuple #[e.key,e.val],?_,⟨_,rfl,_,_,rfl,q2,_,_,rfl,q3,rfl⟩⟩;have hback:seen.toArray.back?=some s:=by rw[Array.back?_eq_getElem?];simpa [List.getLast?_eq_getElem?]using hl
      have hfind:tD.find? (·.born==s)=some e:=by rw[<-Array.find?_toList];exact q1
      simp only[Instr.entry,getObj,Sem.run_bind,Sem.run,hb,hm4,Result.andThen,hback,bne_self_eq_false,oP,pb,hfind];rfl
theorem Mm{zero:Fs}{o:Option Fs}{z:Value}{b:Bool}(hz:AP g zero z)(h:o=none/\x=z/\b=false\/∃v,o=some v/\AP g v x/\b=true):
  AP g (Cm zero ok o) (if ok=true then .tuple #[x,.bool b]else x):=by
 unfold Cm;rcases h with⟨rfl,rfl,rfl⟩|⟨v,rfl,hv,rfl⟩
 ·cases ok with
  |true=>exact⟨_,rfl,_,_,rfl,hz,_,_,rfl,rfl,rfl⟩
  |false=>exact hz
 ·cases ok with
  |true=>exact⟨_,rfl,_,_,rfl,hv,_,_,rfl,rfl,rfl⟩
  |false=>exact hv
theorem S4(R:x6 g H n w){kt:TypeId}{kk:KT}{z:Fs}(hu:P.underlying t=some (.map kt e))(hk:kD P kt=some kk)(hz:B6 P e=some z)(hx:AP g mv x)(hy:AP g k y)
  (h:(xE base (.look kk z ok) H [mv,k]).1):(xE base (.look kk z ok) H [mv,k]).2.1=H/\∃v,(Instr.lookup t x y ok).run P w= .ok v w/\AP g (xE base (.look kk z ok) H [mv,k]).2.2 v:=by
 have hkd:=Yu hk;obtain⟨i,zv,hi,hzz,hr,hzs,hl,hp0,hnt⟩:=Bu hz;have hzrun:(zeroValue e).run P w= .ok zv w:=by simp [zeroValue,typeInfo,hi,hzz,Result.andThen]
 cases mv<;>simp only[xE]at h<;>(try exact h.elim);case mp id=>
  simp only[xE];cases ho:AD H id with
  |none=>rw[ho]at h;exact h.elim
  |some ob=>
   rw[ho]at h;cases ob<;>simp only[]at h<;>(try exact h.elim);rename_i es clock;obtain⟨h1,h2⟩:=h;obtain⟨L,hL,rfl⟩:=hx;obtain⟨L',tD,hL',hl',hh',hb,hm'⟩:=R.obj id _ ho;rw[hL]at hL';cases hL';refine⟨rfl,?_⟩;have hkx:=λem=>KR (w:=w) hkd h1 hy em
   rcases Mk (w:=w) hkd h1 hy es tD.toList h2 hm' with⟨p1,p2,p3⟩|⟨j,e2,v0,p1,p2,p3,p4,p5,p6⟩
   ·refine⟨if ok=true then .tuple #[zv,.bool false]else zv,?_,Mm (hr g) (.inl ⟨p1,rfl,rfl⟩)⟩;simp only[Instr.lookup,Sem.run_bind,run_underlying hu,Result.andThen_ok,MapKept.run_getObj_map hb,Sem.run_pure,hkx,p2,hzrun]
   ·refine⟨if ok=true then .tuple #[e2.val,.bool true]else e2.val,?_,Mm (hr g) (.inr ⟨v0,p1,p4,rfl⟩)⟩;simp only[Instr.lookup,Sem.run_bind,run_underlying hu,Result.andThen_ok,MapKept.run_getObj_map hb,Sem.run_pure,hkx,p3]
 case nilmp=>
  simp only[xE];have hx':x= .map none:=hx;subst hx';refine⟨zt,if ok=true then .tuple #[zv,.bool false]else zv,?_,Mm (hr g) (.inl ⟨rfl,rfl,rfl⟩)⟩;have hkx:=λem=>KR (w:=w) hkd h hy em
  have hf:(Instr.findKey kt y ([]:List MapEntry)).run P w= .ok none w:=by
   rcases Mk (w:=w) hkd h hy [] [] zt rfl with⟨-,q,-⟩|⟨j,e,v0,q,-⟩
   ·exact q
   ·cases q
  simp only[Instr.lookup,Sem.run_bind,run_underlying hu,Result.andThen_ok,Sem.run_pure,hkx,hf,hzrun]
theorem S5(R:x6 g H n w){kt:TypeId}{kk:KT}{v:Fs}{z:Value}(hu:P.underlying t=some (.map kt e))(hk:kD P kt=some kk)(hx:AP g mv x)(hy:AP g k y)(hv:AP g v z)
  (h:(xE base (.mput kk) H [mv,k,v]).1):∃w',(Instr.mapUpdate t x y z).run P w= .ok () w'/\(xE base (.mput kk) H [mv,k,v]).2.2= .sH []/\x6 g (xE base (.mput kk) H [mv,k,v]).2.1 n w'/\q8 m g H w g (xE base (.mput kk) H [mv,k,v]).2.1 w':=by
 have hkd:=Yu hk;cases mv<;>simp only[xE]at h<;>(try exact h.elim);rename_i id;simp only[xE];cases ho:AD H id with
 |none=>rw[ho]at h;exact h.elim
 |some ob=>
  rw[ho]at h;cases ob<;>simp only[]at h<;>(try exact h.elim);rename_i es clock;obtain⟨h1,h2,-⟩:=h;obtain⟨L,hL,rfl⟩:=hx;obtain⟨L',tD,hL',hl',hh',hb,hm'⟩:=R.obj id _ ho;rw[hL]at hL';cases hL';have hkx:=λem=>KR (w:=w) hkd h1 hy em
  rcases Mk (w:=w) hkd h1 hy es tD.toList h2 hm' with⟨p1,p2,p3⟩|⟨j,e2,v0,p1,p2,p3,p4,p5,p6⟩
  ·obtain⟨r1,r2⟩:=Pj (m:=m) (ob':=.map (EE k v clock es) (clock+1)) (o':=.map (tD.push {key:=y,val:=z,born:=clock}) (clock+1)) R ho rfl hL hl' hh' hb zw
    ⟨L,_,hL,hl',hh',(heap_set hb).1,by rw[Array.toList_push];exact p3 v z clock hv⟩
   refine⟨_,?_,rfl,by simpa [p1]using r1,by simpa [p1]using r2⟩;simp only[Instr.mapUpdate,Sem.run_bind,run_underlying hu,Result.andThen_ok,MapKept.run_getObj_map hb,hkx,p2,run_setObj_map _ hb]
  ·have hj:tD[j]?=some e2:=by rw[<-pJ];exact p2
   have hmod:(tD.modify j λe=>{e with key:=y,val:=z}).toList=tD.toList.set j {e2 with key:=y,val:=z}:=by simp_all [Array.toList_modify,List.modify_eq_set]
   obtain⟨r1,r2⟩:=Pj (m:=m) (ob':=.map (EE k v clock es) clock) (o':=.map (tD.modify j λe=>{e with key:=y,val:=z}) clock) R ho rfl hL hl' hh' hb zw
    ⟨L,_,hL,hl',hh',(heap_set hb).1,by rw[hmod];exact p6 v z clock hv⟩
   refine⟨_,?_,rfl,by simpa [p1]using r1,by simpa [p1]using r2⟩;have hkk:((tD[j]?).map (·.key)).getD y=y:=by rw[hj];exact p5
   simp only[Instr.mapUpdate,Sem.run_bind,run_underlying hu,Result.andThen_ok,MapKept.run_getObj_map hb,hkx,p3,hkk,WN hkd h1 hy,run_setObj_map _ hb]
theorem C3{d:TypeDesc}(hu:P.underlying t=some d)(x c:Value)(r:Bool)(h:match d,x,c with
   | .interface _,.nilIface,.nilIface=>r=true
   | .interface _,.iface _ _,.nilIface=>r=false
   | .pointer _,.pointer none,.pointer none=>r=true
   | .pointer _,.pointer (some _),.pointer none=>r=false
   | .func ..,.nilFunc,.nilFunc=>r=true
   | .func ..,.func ..,.nilFunc=>r=false
   |_,_,_=>False):(Op.equal t x c).run P w= .ok r w:=by
 rw[Op.equal,show Op.maxDepth=9999+1 from rfl,Op.equalIn];simp only[Sem.run_bind,run_underlying hu,Result.andThen_ok];split at h<;>first|exact h.elim|(subst h;rfl)
theorem Er{r:Bool}(tE:op= .eql\/op= .neq)(h1:eqGuard op t X (.const c) x c=pure ())(hx:∀k n,x≠ .int k n)(hf:∀k n,x≠ .float k n)(hc:∀k n m,x≠ .complex k n m)(hs:∀b,x≠ .string b)
  (h2:(Op.equal t x c).run P w= .ok r w):(do eqGuard op t X (.const c) x c;binOp op t x c:Sem Value).run P w= .ok (.bool (if op= .neq then !r else r)) w:=by
 rw[Sem.run_bind,h1];simp only[Sem.run_pure,Result.andThen_ok];rcases tE with rfl|rfl
 ·simp_all [binOp,Result.andThen]
 ·simp_all [binOp,Result.andThen]
theorem S6{nq:Bool}{K:Bool->Prop}(tE:(op= .eql/\nq=false)\/(op= .neq/\nq=true))(hn:OM P t c=true)(hx:AP g av x)(h:Gs K nq av):
  ∃b,(do eqGuard op t X (.const c) x c;binOp op t x c:Sem Value).run P w= .ok (.bool b) w/\K b:=by
 have hop':op= .eql\/op= .neq:=tE.imp (·.1) (·.1);unfold OM at hn;split at hn;case h_2=>cases hn
 rename_i e cl cc hu;have fin:∀(r:Bool),(if op= .neq then !r else r)=(if nq=true then !r else r):=by grind
 have key:∀a n m,x= .slice a n m->(do eqGuard op t X (.const (.slice none cl cc)) x (.slice none cl cc);binOp op t x (.slice none cl cc):Sem Value).run P w= .ok (.bool (if nq=true then !a.isNone else a.isNone)) w:=by
  rintro a n m rfl;have he:(Op.equal t (.slice a n m) (.slice none cl cc)).run P w= .ok a.isNone w:=by
   rw[Op.equal,show Op.maxDepth=9999+1 from rfl,Op.equalIn];simp only[Sem.run_bind,run_underlying hu,Result.andThen_ok];cases a<;>rfl
  have:=Er (X:=X) hop' (eqGuard_at_slice ..) zw zw zw zw he;rw[fin]at this;exact this
 unfold Gs at h;split at h
 ·rename_i s0;rcases hx with⟨_,rfl,_⟩|⟨hf,_⟩
  ·exact⟨_,key none 0 0 rfl,by cases nq<;>exact h⟩
  ·exact hf.elim
 ·rcases hx with⟨_,rfl,_⟩|⟨_,b,o,cap,⟨sp,rfl,_⟩,_⟩
  ·exact⟨_,key none 0 0 rfl,by cases nq<;>first|exact h.1|exact h.2⟩
  ·exact⟨_,key _ _ _ rfl,by cases nq<;>first|exact h.1|exact h.2⟩
 ·rcases hx with⟨q,_⟩|⟨_,b,o,cap,⟨sp,rfl,_⟩,_⟩
  ·cases q
  ·exact⟨_,key _ _ _ rfl,by cases nq<;>exact h⟩
 ·obtain⟨L,_,_,rfl⟩:=hx;exact⟨_,key _ _ _ rfl,by cases nq<;>exact h⟩
 ·exact h.elim
theorem RQ{nq:Bool}{kd:Nat}(tE:(op= .eql/\nq=false)\/(op= .neq/\nq=true))(hn:PZ P t c=some kd)(hx:AP g av x)(h:(xE base (.tH kd nq) H [av]).1):
  (xE base (.tH kd nq) H [av]).2.1=H/\∃v,(do eqGuard op t X (.const c) x c;binOp op t x c:Sem Value).run P w= .ok v w/\AP g (xE base (.tH kd nq) H [av]).2.2 v:=by
 have hop':op= .eql\/op= .neq:=tE.imp (·.1) (·.1);have fin:∀(r:Bool),(if op= .neq then !r else r)=(if nq=true then !r else r):=by grind
 unfold PZ at hn;split at hn
 ·rename_i ms hu;cases hn;cases av<;>simp only[xE]at h<;>(try exact h.elim)
  ·obtain⟨z,rfl,_⟩:=hx;exact⟨rfl,_,Er (r:=false) hop' (eqGuard_at_iface ..) zw zw zw zw (C3 hu _ _ _ rfl),by rw[fin];simp [xE,AP]⟩
  ·have hx':x= .nilIface:=hx;subst hx';exact⟨rfl,_,Er (r:=true) hop' (eqGuard_nil_constR ..) zw zw zw zw (C3 hu _ _ _ rfl),by rw[fin];cases nq<;>simp [xE,AP]⟩
 ·rename_i e hu;cases hn;have hp:∃a,x= .pointer a/\(xE base (.tH 1 nq) H [av])=(True,H,.bool (if nq=true then !a.isNone else a.isNone)):=by
   cases av<;>simp only[xE]at h<;>(try exact h.elim)<;>simp only[AP]at hx
   ·exact⟨_,hx,by cases nq<;>simp [xE]⟩
   ·obtain⟨L,_,_,hx⟩:=hx;exact⟨_,hx,by cases nq<;>simp [xE]⟩
   ·obtain⟨b,o,hx,_⟩:=hx;exact⟨_,hx,by cases nq<;>simp [xE]⟩
   ·exact⟨_,hx,by cases nq<;>simp [xE]⟩
   ·obtain⟨L,_,_,hx⟩:=hx;exact⟨_,hx,by cases nq<;>simp [xE]⟩
   ·obtain⟨a,hx⟩:=hx;exact⟨_,hx,by cases nq<;>simp [xE]⟩
  obtain⟨a,rfl,he⟩:=hp;rw[he];cases a with
  |none=>exact⟨rfl,_,Er (r:=true) hop' (eqGuard_at_pointer ..) zw zw zw zw (C3 hu _ _ _ rfl),by rw[fin];cases nq<;>simp [AP]⟩
  |some a=>exact⟨rfl,_,Er (r:=false) hop' (eqGuard_at_pointer ..) zw zw zw zw (C3 hu _ _ _ rfl),by rw[fin];cases nq<;>simp [AP]⟩
 ·rename_i ps rs vd hu;cases hn;cases av<;>simp only[xE]at h<;>(try exact h.elim)
  ·obtain⟨x',c',rfl,_,_⟩:=hx;exact⟨rfl,_,Er (r:=false) hop' (eqGuard_at_func ..) zw zw zw zw (C3 hu _ _ _ rfl),by rw[fin];cases nq<;>simp [xE,AP]⟩
  ·have hx':x= .nilFunc:=hx;subst hx';exact⟨rfl,_,Er (r:=true) hop' (eqGuard_at_nilFunc ..) zw zw zw zw (C3 hu _ _ _ rfl),by rw[fin];cases nq<;>simp [xE,AP]⟩
 ·cases hn
theorem WQ{xt:TypeId}{z:Fs}(hi:Ss P t=false)(hz:B6 P t=some z)(hx:AP g av x)(h:(xE base (.tas t ok z) H [av]).1):
  (xE base (.tas t ok z) H [av]).2.1=H/\∃v,(Instr.typeAssert x xt t ok).run P w= .ok v w/\AP g (xE base (.tas t ok z) H [av]).2.2 v:=by
 obtain⟨i,zv,hinf,hzz,hr,hzs,hl,hp0,hnt⟩:=Bu hz;have hzrun:(zeroValue t).run P w= .ok zv w:=by simp [zeroValue,typeInfo,hinf,hzz,Result.andThen]
 unfold Ss at hi;split at hi
 ·cases hi
 ·cases hi
 rename_i hne1 hne2;obtain⟨d,hu⟩:∃d,P.underlying t=some d:=by
  cases hh:P.underlying t with
  |none=>exact absurd hh hne2
  |some d=>exact⟨d,rfl⟩
 have hd:∀ms,d≠ .interface ms:=λms e=>by subst e;exact hne1 ms hu
 cases av<;>cases ok<;>simp only[xE]at h⊢ <;>(try exact h.elim)
 ·obtain⟨y,rfl,hy⟩:=hx;subst h;refine⟨zt,y,?_,hy⟩;cases d<;>first|exact absurd rfl (hd _)|simp [Instr.typeAssert,run_underlying hu,Result.andThen]
 ·obtain⟨y,rfl,hy⟩:=hx;rename_i t' v';by_cases e:t'=t
  ·subst e;refine⟨zt,.tuple #[y,.bool true],?_,by simp only[pG];exact⟨_,rfl,_,_,rfl,hy,_,_,rfl,rfl,rfl⟩⟩;cases d<;>first|exact absurd rfl (hd _)|simp [Instr.typeAssert,run_underlying hu,Result.andThen]
  ·refine⟨zt,.tuple #[zv,.bool false],?_,by simp only[e,pb];exact⟨_,rfl,_,_,rfl,hr g,_,_,rfl,rfl,rfl⟩⟩;cases d<;>first|exact absurd rfl (hd _)|simp [Instr.typeAssert,run_underlying hu,Result.andThen,e,hzrun]
 ·have hx':x= .nilIface:=hx;subst hx';refine⟨zt,.tuple #[zv,.bool false],?_,⟨_,rfl,_,_,rfl,hr g,_,_,rfl,rfl,rfl⟩⟩;cases d<;>first|exact absurd rfl (hd _)|simp [Instr.typeAssert,run_underlying hu,Result.andThen,hzrun]
theorem K8:∀(es:List (Fs×Fs×Nat)) (tD:List MapEntry),Dt g es tD->tD.length=es.length
 |[],tD,h=>by have h0:tD=[]:=h;subst h0;rfl
 |(k,v,b)::r,tD,h=>by
  obtain⟨e,es2,rfl,_,_,_,h4⟩:=h;simp [K8 r es2 h4]
theorem S7(R:x6 g H n w){kt:TypeId}{ty:TypeId}(hu:P.underlying t=some (.map kt e))(hx:AP g mv x)(h:(xE base .mlen H [mv]).1):
  (xE base .mlen H [mv]).2.1=H/\∃v,(Builtin.len_ #[t] ty #[x]).run P w= .ok v w/\AP g (xE base .mlen H [mv]).2.2 v:=by
 cases mv<;>simp only[xE]at h<;>(try exact h.elim);case mp id=>
  simp only[xE];cases ho:AD H id with
  |none=>rw[ho]at h;exact h.elim
  |some ob=>
   rw[ho]at h;cases ob<;>simp only[]at h<;>(try exact h.elim);rename_i es clock;obtain⟨L,hL,rfl⟩:=hx;obtain⟨L',tD,hL',hl',hh',hb,hm'⟩:=R.obj id _ ho;rw[hL]at hL';cases hL';have l9:=K8 es _ hm';simp only[pq]at l9;refine⟨rfl,_,by simp only[Builtin.len_,List.getElem?_toArray,pQ,Sem.run_bind,run_underlying hu,Result.andThen_ok,MapKept.run_getObj_map hb,Sem.run_pure];rfl,?_⟩;simp [AP,goInt,l9]
 case nilmp=>
  simp only[xE];have hx':x= .map none:=hx;subst hx';refine⟨zt,_,by simp only[Builtin.len_,List.getElem?_toArray,pQ,Sem.run_bind,run_underlying hu,Result.andThen_ok,Sem.run_pure];rfl,?_⟩;simp [AP,goInt]
end
end Go.AM
namespace Go.AM
theorem sK.place{g:z8}{esz:Nat}{vs:List Value}{f:Nat->Option Value}{o:Nat}(h:∀(j:Nat) x,vs[j]?=some x->f (o+j)=some x):∀(l:List Fs) (p:Nat),sK g esz (λj=>vs[j]?) p l->sK g esz f (o+p) l
 |[],_,_=>trivial
 |e::l,p,⟨⟨u,q1,q2,q3⟩,q4⟩=>⟨⟨u,q1,q2,λj x hx=>by rw[Nat.add_assoc];exact h _ _ (q3 j x hx)⟩,by
   have:=sK.place h l (p+esz) q4
   rwa[<-Nat.add_assoc]at this⟩
section
variable {P:Program} {g:z8} {H:AB} {n m:Nat} {w:World}
theorem OY(R:x6 g H n w){e:TypeId}{i:TypeInfo}{za:Fs}(hi:P.info? e=some i)(hza:B6 P e=some za){z:Value}(hzz0:i.zero=some z)
  {lo l':List Fs} {olds news:List Value} (s1:news.length=l'.length*i.size) (s3:sK g i.size (λo=>news[o]?) 0 l') {id:Nat} (h0:AD H id=none) (s5:id<n) (hm:m<=id)
  (o2:olds.length=lo.length*i.size) (o3:sK g i.size (λo=>olds[o]?) 0 lo) {cap:Nat} (hge:lo.length+l'.length<=cap) {act:Sem Value}
  (sP:act.run P w= .ok (.slice (some ⟨w.heap.size,0,none⟩) (lo.length+l'.length) cap) (w.drew.alloc (.cells (olds.toArray++news.toArray++Builtin.zeroCells z.cells (cap-(lo.length+l'.length))) e))):
  ∃v w' g',act.run P w= .ok v w'/\AP g' (.ref id i.size 0 (lo.length+l'.length) cap) v/\
   x6 g' (sA H id (.arr i.size (lo++l'++List.replicate (cap-(lo.length+l'.length)) za))) n w'/\q8 m g H w g' (sA H id (.arr i.size (lo++l'++List.replicate (cap-(lo.length+l'.length)) za))) w':=by
 obtain⟨i',z',v7,hzz,hr,hzs,hl,hpos,hnt⟩:=Bu hza;rw[hi]at v7;cases v7;rw[hzz0]at hzz;cases hzz;generalize hcs:(olds.toArray++news.toArray++Builtin.zeroCells z.cells (cap-(lo.length+l'.length)):Array Value)=cs at sP;have hmul:(lo.length+l'.length)*i.size+(cap-(lo.length+l'.length))*i.size=cap*i.size:=by rw[<-pN];congr 1;omega
 have hcsz:cs.size=cap*i.size:=by grind [Array.size_append,List.size_toArray,size_zeroCells,Nat.add_mul]
 have ecs:cs.toList=olds++(news++(madeCells z.cells ((cap-(lo.length+l'.length))*z.cells.size)).toList):=by
  subst hcs;simp only[Array.toList_append,oT];rfl
 have q1:∀(j:Nat) x,olds[j]?=some x->cs[0+j]?=some x:=by grind
 have q2:∀(j:Nat) x,news[j]?=some x->cs[lo.length*i.size+j]?=some x:=λj x hx=>by
  rw[<-pJ,ecs,pB (by rw[o2];omega),show lo.length*i.size+j-olds.length=j by rw[o2];omega,pH (pK.1 hx).1];exact hx
 have q3:∀a,a<cap-(lo.length+l'.length)->∀(j:Nat) x,z.cells[j]?=some x->cs[(lo.length+l'.length)*i.size+a*i.size+j]?=some x:=by
  intro a ha j x hx;have h1:=C2 (z:=z.cells) (k:=cap-(lo.length+l'.length)) ha hx;have e2:(lo.length+l'.length)*i.size+a*i.size+j=olds.length+(news.length+(a*i.size+j)):=by rw[o2,s1,pN];omega
  rw[<-pJ,ecs,e2,pB (py _ _),Nat.add_sub_cancel_left,pB (py _ _),Nat.add_sub_cancel_left,pJ];rw[hzs]at h1⊢;exact h1
 have hnewb:(w.drew.alloc (.cells cs e)).heap[w.heap.size]?=some (.cells cs e (0,0)):=by show(w.heap.push _)[w.heap.size]?=_;simp
 obtain⟨r1,r2,r3⟩:=R.new (m:=m) (w':=w.drew.alloc (.cells cs e)) (x:=.cells cs e) rfl rfl rfl rfl h0 s5 hm (L:=⟨w.heap.size,0,cap*i.size⟩) rfl (ob:=.arr i.size (lo++l'++List.replicate (cap-(lo.length+l'.length)) za)) (by
  have hb0:g.β id=none:=by
   cases hb:g.β id with
   |none=>rfl
   |some L'=>exact absurd h0 (R.uu id L' hb).1
  have hle:g.le ⟨λk=>if k=id then some ⟨w.heap.size,0,cap*i.size⟩else g.β k,g.σ⟩:=⟨λk L' h=>by
   show(if k=id then _ else g.β k)=some L';rw[og (by rintro rfl;rw[hb0]at h;cases h)];exact h,λ_ _ _ h=>h⟩
  refine⟨⟨w.heap.size,0,cap*i.size⟩,cs,e,zw,rfl,hcsz.symm,hnewb,?_,?_⟩
  ·grind
  ·refine sK.mono (f:=λj=>cs[j]?) hle (λ_ _ h=>h) _ _ _ ?_;refine sK.append _ _ 0 (sK.append _ _ 0 ?_ ?_) ?_
   ·exact sK.place (o:=0) q1 lo 0 o3
   ·have:=sK.place (f:=λj=>cs[j]?) (o:=lo.length*i.size) q2 l' 0 s3
    rwa[qQ,<-pn (lo.length*i.size)]at this
   ·refine sK.replicate (hr _) ⟨hzs,(hr ⟨λ_=>none,λ_ _=>none⟩).one hnt⟩ _ _ λa ha j x hx=>?_
    have:=q3 a ha j x hx;simpa using this)
 exact⟨_,_,_,sP,⟨⟨w.heap.size,0,cap*i.size⟩,zw,rfl,zw⟩,r1,r2⟩
theorem Gv(R:x6 g H n w){t u ty e:TypeId}{i:TypeInfo}{du:TypeDesc}{za:Fs}(ht:P.underlying t=some (.slice e))(hu:P.underlying u=some du)(hdu:∀k,du≠ .int k)(hi:P.info? e=some i)(hza:B6 P e=some za)
  {lo l':List Fs} {y:Value} {sCap:Nat} {base:Option Addr} {olds:List Value} (hsrc:gD P g w i.size l' y) {id:Nat} (h0:AD H id=none) (s5:id<n) (hm:m<=id) (hsm:small (lo.length+l'.length) i.bytes) (uz:lo.length+l'.length<=35184372088832)
  (o2:olds.length=lo.length*i.size) (o3:sK g i.size (λo=>olds[o]?) 0 lo) (o4:(Builtin.firstCells i.size lo.length (.slice base lo.length sCap)).run P w.drew= .ok olds.toArray w.drew) (hgt:sCap<lo.length+l'.length):
  ∃cap v w' g',lo.length+l'.length<=cap/\(Builtin.append_ #[t,u] ty #[.slice base lo.length sCap,y]).run P w= .ok v w'/\AP g' (.ref id i.size 0 (lo.length+l'.length) cap) v/\
   x6 g' (sA H id (.arr i.size (lo++l'++List.replicate (cap-(lo.length+l'.length)) za))) n w'/\q8 m g H w g' (sA H id (.arr i.size (lo++l'++List.replicate (cap-(lo.length+l'.length)) za))) w':=by
 obtain⟨i',z,v7,hzz,hr,hzs,hl,hpos,hnt⟩:=Bu hza;rw[hi]at v7;cases v7;obtain⟨news,s1,s2,s3,s4⟩:=hsrc;obtain⟨c1,c2⟩:=s4 w rfl;obtain⟨d1,d2⟩:=s4 w.drew rfl;have tO:Builtin.nextslicecap (lo.length+l'.length) sCap*i.bytes<=281474976710656:=growslice_fits hgt (by simp only[small]at hsm;omega);have sP:=Ji (ty:=ty) ht hu hdu hi hzz c1 o4 d2 hgt tO zo;have hge:lo.length+l'.length<=grownCap w (lo.length+l'.length) sCap e:=grownCap_ge _ _ _ _;obtain⟨v,w',g',p1,p2,p3,p4⟩:=OY (m:=m) R hi hza hzz s1 s3 h0 s5 hm o2 o3 hge sP;exact⟨_,v,w',g',hge,p1,p2,p3,p4⟩
theorem S8(R:x6 g H n w){t u ty e:TypeId}{i:TypeInfo}{kn:IntKind}{za:Fs}(ht:P.underlying t=some (.slice e))(hu:P.underlying u=some (.int kn))(hi:P.info? e=some i)(hza:B6 P e=some za)
  {av bv:Fs} {x y:Value} {K:AB->Fs->Prop} (hx:AP g av x) (hy:AP g bv y) {id:Nat} (s5:id<n) (hm:m<=id) (h:He H id i.size i.bytes za K av bv):
  ∃v w' g' H' v',(Builtin.append_ #[t,u] ty #[x,y]).run P w= .ok v w'/\AP g' v' v/\x6 g' H' n w'/\q8 m g H w g' H' w'/\K H' v':=by
 obtain⟨i',z,v7,hzz,hr,hzs,hl,hpos,hnt⟩:=Bu hza;rw[hi]at v7;cases v7;unfold He at h;split at h;case h_2=>exact h.elim
 rename_i kq k;obtain⟨hk0,h⟩:=h;obtain⟨j,rfl⟩:=Int.eq_ofNat_of_zero_le hk0;simp only[oH]at h;have ug:y= .int kq j:=hy;subst ug;have hx':x= .slice none 0 0:=by
  rcases hx with⟨-,e,-⟩|⟨q,-⟩
  ·exact e
  ·exact q.elim
 subst hx';simp only[EO,pd,pf,pn,oW]at h;obtain⟨h0,h1,h2,-,hsm,uz,k1,k2⟩:=h;by_cases hj:j=0
 ·subst hj;refine⟨.slice none 0 0,w,g,H,.sl .nil [],?_,hx,R,q8.refl _ _ _ _,k1 rfl⟩;simp [Builtin.append_,run_underlying ht,run_underlying hu,sizeOf,typeInfo,hi,asInt,asIntOf,IntKind.wrap_i64]
 ·have hb:j*i.bytes<=35184372088832:=hsm;have sP:=Go.Lib.run_append_grow_zeros (P:=P) w t u ty e i z kq kn ht hu hi hzz none 0 0 [] (by simp [Builtin.firstCells]) j zo (Nat.pos_of_ne_zero hpos) zo zo zo (growslice_fits zo (by simp only[pn];omega));have hge:([]:List Fs).length+(List.replicate j za).length<=grownCap w (0+j) 0 e:=by simpa using grownCap_ge w (0+j) 0 e
  have tB:(Builtin.zeroCells z.cells j).size=j*i.size:=by rw[size_zeroCells,hzs]
  obtain⟨v,w',g',p1,p2,p3,p4⟩:=OY (m:=m) (lo:=[]) (l':=List.replicate j za) (olds:=[]) (news:=(Builtin.zeroCells z.cells j).toList) R hi hza hzz (by simpa using tB) (by
   refine sK.replicate (hr _) ⟨hzs,(hr ⟨λ_=>none,λ_ _=>none⟩).one hnt⟩ _ _ λa ha o x hx=>?_
   have:=C2 (z:=z.cells) (k:=j) ha hx;rw[hzs]at this;rw[pn,pJ];show(madeCells z.cells (j*z.cells.size))[a*i.size+o]?=some x;rw[hzs];exact this) h0 s5 hm zw zt hge (act:=Builtin.append_ #[t,u] ty #[.slice none 0 0,.int kq j]) (by simpa using sP)
  simp only[pd,pf,pn,oW]at p2 p3 p4;exact⟨v,w',g',_,_,p1,p2,p3,p4,k2 (by simp [List.replicate_eq_nil_iff,hj]) _ (by simpa using hge)⟩
theorem Yv{esz:Nat}{b:Nat}{c:Array Value}{e:TypeId}{l:List Fs}{len cap:Nat}(hb:w.heap[b]?=some (.cells c e (0,0)))(sY:sK g esz (λo=>c[o]?) 0 l)(hl:len<=l.length):
  ∃olds:List Value,olds.length=(l.take len).length*esz/\sK g esz (λo=>olds[o]?) 0 (l.take len)/\(Builtin.firstCells esz (l.take len).length (.slice (some ⟨b,0,none⟩) (l.take len).length cap)).run P w.drew= .ok olds.toArray w.drew:=by
 obtain⟨vs,v1,v2,v3,v4⟩:=(sK.take len _ _ sY).list;refine⟨vs,v1,v4,run_firstCells_some (P:=P) w.drew esz _ ⟨b,0,none⟩ _ cap vs v1 λj v hv=>?_⟩;rw[Bt];have hb':w.drew.heap[b]?=some (.cells c e (0,0)):=hb;rw[BE hb'];exact v2 j v hv
theorem S9(R:x6 g H n w){t u ty e:TypeId}{i:TypeInfo}{du:TypeDesc}{za:Fs}(ht:P.underlying t=some (.slice e))(hu:P.underlying u=some du)(hdu:∀k,du≠ .int k)(hi:P.info? e=some i)(hza:B6 P e=some za)
  {av:Fs} {bv:Option (List Fs)} {x y:Value} {K:AB->Fs->Prop} (hx:AP g av x) (hsrc:∀l',bv=some l'->gD P g w i.size l' y) {id:Nat} (s5:id<n) (hm:m<=id) (h:EO H id i.size i.bytes za K av bv):
  ∃v w' g' H' v',(Builtin.append_ #[t,u] ty #[x,y]).run P w= .ok v w'/\AP g' v' v/\x6 g' H' n w'/\q8 m g H w g' H' w'/\K H' v':=by
 obtain⟨i',z,v7,hzz,hr,hzs,hl,hpos,hnt⟩:=Bu hza;rw[hi]at v7;cases v7;unfold EO at h;split at h;case h_3=>exact h.elim
 case h_1 tok l l'=>
  obtain⟨h0,h1,h2,l6,hsm,uz,k1,k2⟩:=h;have hs:=hsrc l' rfl;by_cases sf:l'=[]
  ·subst sf;obtain⟨news,s1,s2,s3,s4⟩:=hs;obtain⟨c1,c2⟩:=s4 w rfl;have hn0:news=[]:=pt (by rw[s1];simp);subst hn0;have hx':=hx;rcases hx with⟨rfl,rfl,sj⟩|⟨htok,b,o,cap,⟨sp,rfl,uE⟩,hcap,sY,hk⟩
   ·have sP:=DS (ty:=ty) (w:=w) (base:=none) (sLen:=0) (sCap:=0) ht hu hdu hi hzz c1 c2 zw;exact⟨_,_,g,H,_,sP,hx',R,q8.refl _ _ _ _,k1 rfl⟩
   ·have sP:=DS (ty:=ty) (w:=w) (base:=some ⟨b,o,sp⟩) (sLen:=l.length) (sCap:=cap) ht hu hdu hi hzz c1 c2 (by simpa using hcap);simp only[storeCells,Sem.run_pure,Result.andThen_ok,pd,qQ]at sP;exact⟨_,_,g,H,_,sP,hx',R,q8.refl _ _ _ _,k1 rfl⟩
  ·have hpos':0<l'.length:=by cases l' with|nil=>exact absurd rfl sf|cons _ _=>simp
   rcases hx with⟨rfl,rfl,sj⟩|⟨htok,b,o,cap,⟨sp,rfl,uE⟩,hcap,sY,hk⟩
   ·obtain⟨cap,v,w',g',e1,e2,e3,e4,e5⟩:=Gv (m:=m) (ty:=ty) (lo:=[]) (base:=none) (sCap:=0) (olds:=[]) R ht hu hdu hi hza hs h0 s5 hm hsm uz zw zt (by simp [Builtin.firstCells]) (by simpa using hpos');exact⟨v,w',g',_,_,e2,e3,e4,e5,k2 sf cap e1⟩
   ·have sj:tok= .exact i.size:=by
     rcases l6 with rfl|rfl
     ·exact htok.elim
     ·rfl
    subst sj;by_cases hodd:sp=none;case neg=>
     obtain⟨rfl,hq⟩:=uE.resolve_left hodd;have hc0:cap=0:=by
      rcases hq with q|⟨e',q⟩
      ·exact q
      ·cases q
     subst hc0;obtain⟨uT,v,w',g',e1,e2,e3,e4,e5⟩:=Gv (m:=m) (ty:=ty) (lo:=[]) (base:=some ⟨b,o,sp⟩) (sCap:=0) (olds:=[]) R ht hu hdu hi hza hs h0 s5 hm hsm uz zw zt (by simpa using run_firstCells_some (P:=P) w.drew i.size 0 ⟨b,o,sp⟩ 0 0 [] zw zw) (by simpa using hpos');exact⟨v,w',g',_,_,e2,e3,e4,e5,k2 sf uT e1⟩
    subst hodd;simp only[xv.esz]at sY;simp only[]at hk;obtain⟨vs,v1,v2,v3,v4⟩:=sY.list;obtain⟨uT,v,w',g',e1,e2,e3,e4,e5⟩:=Gv (m:=m) (ty:=ty) (lo:=l) (base:=some ⟨b,o,none⟩) (sCap:=cap) (olds:=vs) R ht hu hdu hi hza hs h0 s5 hm hsm uz v1 v4
     (run_firstCells_some (P:=P) w.drew i.size l.length ⟨b,o,none⟩ l.length cap vs v1 (λj v hv=>by rw[Bt];exact R.σw _ _ _ (v2 j v hv))) zo
    exact⟨v,w',g',_,_,e2,e3,e4,e5,k2 sf uT e1⟩
 case h_2 i0 e0 off len cap l'=>
  obtain⟨h0,h1,h2,rfl,rfl,hsm,uz,sw⟩:=h;split at sw;case h_2=>exact sw.elim
  rename_i e' l ho;obtain⟨rfl,hlc,hle,k1,k2⟩:=sw;have hs:=hsrc l' rfl;obtain⟨L,hL,sf,rfl⟩:=hx;obtain⟨L',c,ee,j1,j2,j3,j4,j5,j6⟩:=R.obj i0 _ ho;rw[hL]at j1;cases j1;have tM:(l.take len).length=len:=by simp;omega
  simp only[qR];by_cases hroom:len+l'.length<=cap
  ·obtain⟨news,s1,s2,s3,s4⟩:=hs;obtain⟨c1,c2⟩:=s4 w rfl;have sP:=DS (ty:=ty) (w:=w) (base:=some ⟨L.sO,0,none⟩) (sLen:=len) (sCap:=cap) ht hu hdu hi hzz c1 c2 hroom;simp only[Bt,pn]at sP;have hmul:len*i.size+l'.length*i.size<=cap*i.size:=by rw[<-pN];exact qu _ hroom
   have hcsz:c.size=cap*i.size:=by rw[<-j5,hlc]
   have sY:=run_storeCells_at (P:=P) L.sO (len*i.size) ee news 0 c w j4 (by rw[s1];omega) s2;simp only[qQ]at sY;generalize hc':(c.toList.take (len*i.size)++news++c.toList.drop (len*i.size+news.length)).toArray=c' at sY;have hsz':c'.size=c.size:=by subst hc';simp;omega
   have q1:∀j,j<len*i.size->c'[j]?=c[j]?:=by
    intro j hj;subst hc';rw[<-pJ];simp only[];rw[oT,pH (by simp;omega),List.getElem?_take_of_lt hj,pJ]
   have q2:∀(j:Nat) x,news[j]?=some x->c'[len*i.size+j]?=some x:=by
    intro j x hx;have hj:=(pK.1 hx).1;subst hc';rw[<-pJ];simp only[];rw[oT,pB (by simp;omega),pH (by simp;omega)];rw[<-hx];congr 1;simp;omega
   have q3:∀j,(len+l'.length)*i.size<=j->c'[j]?=c[j]?:=by
    intro j hj;rw[pN]at hj;subst hc';rw[<-pJ];simp only[];rw[pB (by simp;omega),rp,pJ];congr 1;simp;omega
   have hob:FE g (w.setRow L.sO c') i0 (.arr i.size (l.take len++l'++l.drop (len+l'.length))):=by
    refine⟨L,c',ee,hL,sf,by rw[j3,hsz'],setRow_heap w L.sO c c' ee (0,0) j4,?_,?_⟩
    ·grind
    ·refine sK.append _ _ 0 (sK.append _ _ 0 ?_ ?_) ?_
     ·refine sK.eq _ 0 (λj _ hj=>?_) (sK.take len _ _ j6);rw[tM,pn]at hj;exact q1 j hj
     ·have:=sK.place (f:=λj=>c'[j]?) (o:=len*i.size) q2 l' 0 s3
      rwa[qQ,<-pn (len*i.size),<-tM]at this
     ·have hd:=sK.drop (len+l'.length) _ _ j6;simp only[ou,tM,pn]at hd⊢;exact sK.eq _ _ (λj hj _=>q3 j hj) hd
   obtain⟨r1,r2⟩:=Jh (m:=m) R ho rfl hL j4 hsz' (λo ho'=>by
    rcases ho' with h|h
    ·rw[sf]at h;omega
    ·rw[j3]at h;rw[qw zo,qw zo]) hob
   simp only[sY,Result.andThen_ok]at sP;exact⟨_,_,g,_,.ref i0 i.size 0 (len+l'.length) cap,sP,⟨L,hL,sf,zw⟩,r1,r2,k1 hroom⟩
  ·obtain⟨olds,o2,o3,o4⟩:=Yv (P:=P) (cap:=cap) j4 j6 (len:=len) zo;rw[tM]at o4;obtain⟨uT,v,w',g',e1,e2,e3,e4,e5⟩:=Gv (m:=m) (ty:=ty) (lo:=l.take len) (base:=some ⟨L.sO,0,none⟩) (sCap:=cap) (olds:=olds) R ht hu hdu hi hza hs h0 s5 hm (by rw[tM];exact hsm) (by rw[tM];exact uz) o2 o3 (by rw[tM];exact o4) (by rw[tM];omega);rw[tM]at e1 e2 e3 e4 e5;exact⟨v,w',g',_,_,e2,e3,e4,e5,k2 zo uT e1⟩
theorem Ui(esz:Nat):∀(n:Nat) (cs:List Fs),(grp esz n cs).length=n
 |0,_=>rfl
 |n+1,cs=>by rw[grp,oI,Ui esz n]
theorem sL.dropO{g:z8}{f:Nat->Option Value}:∀(cs:List Fs) (o k:Nat),sL g f o cs->sL g f (o+k) (cs.drop k)
 |[],o,k,_=>by rw[List.drop_nil];trivial
 |a::cs,o,0,h=>h
 |a::cs,o,k+1,h=>by
  rw[List.drop_succ_cons,show o+(k+1)=o+1+k by omega];exact sL.dropO cs (o+1) k h.2
theorem sL.vals{g:z8}{f:Nat->Option Value}:∀(cs:List Fs) (o k:Nat),sL g f o cs->k<=cs.length->∃vs:List Value,vs.length=k/\sG g (cs.take k) vs/\(∀v∈vs,v.oneCell'=true)/\∀(j:Nat) x,vs[j]?=some x->f (o+j)=some x
 |cs,o,0,_,_=>⟨[],rfl,rfl,zw,zw⟩
 |[],o,k+1,_,h=>by simp at h
 |a::cs,o,k+1,h,hk=>by
  obtain⟨⟨x,h1,h2,h3⟩,h4⟩:=h;obtain⟨vs,q1,q2,q3,q4⟩:=sL.vals cs (o+1) k h4 (by simpa using hk);refine⟨x::vs,by simp [q1],⟨x,vs,rfl,h2,q2⟩,?_,λj y hy=>?_⟩
  ·simp_all
  ·grind
theorem sL.grp{g:z8}{f:Nat->Option Value}{esz:Nat}:∀(n:Nat) (cs:List Fs) (o:Nat),sL g f o cs->cs.length=n*esz->sK g esz f o (grp esz n cs)
 |0,_,_,_,_=>trivial
 |n+1,cs,o,h,hl=>by
  have hm:esz<=cs.length:=by rw[hl,pN];omega
  obtain⟨vs,q1,q2,q3,q4⟩:=sL.vals cs o esz h hm;refine⟨⟨.agg vs.toArray,⟨vs.toArray,rfl,by simpa using q2,by simpa using q3⟩,⟨by simpa [Value.cells]using q1,by simpa [Value.cells]using q3⟩,λj x hx=>q4 j x (by simpa [Value.cells]using hx)⟩,?_⟩;exact sL.grp n _ _ (sL.dropO cs o esz h) (by rw[pi,hl,pN];omega)
theorem WR{P:Program}{g:z8}{H:AB}{n m:Nat}{w:World}(R:x6 g H n w){t e:TypeId}{nn k:Nat}{x:Operand}{lo hi:Option Operand}{x':zx}{l' h':Option zx}{ρ:Operand->Value}{ρ':zx->Fs}{base:Nat}
  (hu:P.underlying t=some (.array nn e)) (tB:FG P e=some k) (vf:DG lo=some l') (hhi:DG hi=some h') (hx:AP g (ρ' x') (ρ x))
  (hv:∀y y',Aw y=some y'->(l'=some y'\/h'=some y')->AP g (ρ' y') (ρ y)) (h:(xE base (.slx nn k l'.isSome h'.isSome) H ((x'::(l'.toList++h'.toList)).map ρ')).1):
  ∃v,(Instr.sliceAt t (ρ x) (lo.map ρ) (hi.map ρ) none).run P w= .ok v w/\AP g (xE base (.slx nn k l'.isSome h'.isSome) H ((x'::(l'.toList++h'.toList)).map ρ')).2.2 v/\
   x6 g (xE base (.slx nn k l'.isSome h'.isSome) H ((x'::(l'.toList++h'.toList)).map ρ')).2.1 n w/\q8 m g H w g (xE base (.slx nn k l'.isSome h'.isSome) H ((x'::(l'.toList++h'.toList)).map ρ')).2.1 w:=by
 have red:CK ρ' l'/\CK ρ' h'/\xE base (.slx nn k l'.isSome h'.isSome) H ((x'::(l'.toList++h'.toList)).map ρ')=Ix H nn k (sS ρ' 0 l') (sS ρ' nn h') (ρ' x'):=by
  cases l' with
  |none=>cases h' with
   |none=>exact⟨zt,zt,rfl⟩
   |some b=>
    simp only[Option.isSome,Option.toList,oW,oL,pc]at h⊢;generalize hb:ρ' b=bv at h;cases bv<;>(try exact h.elim);exact⟨zt,by simp [CK,hb,Cl],by simp [sS,hb,BV,xE]⟩
  |some a=>cases h' with
   |none=>
    simp only[Option.isSome,Option.toList,oR,oL,pc]at h⊢;generalize ha:ρ' a=av at h;cases av<;>(try exact h.elim);exact⟨by simp [CK,ha,Cl],zt,by simp [sS,ha,BV,xE]⟩
   |some b=>
    simp only[Option.isSome,Option.toList,pp,oW,oL,pc]at h⊢;generalize ha:ρ' a=av at h;generalize hb:ρ' b=bv at h;cases av<;>(try exact h.elim);cases bv<;>(try exact h.elim);exact⟨by simp [CK,ha,Cl],by simp [CK,hb,Cl],by simp [sS,ha,hb,BV,xE]⟩
 obtain⟨b1,b2,he⟩:=red;rw[he]at h⊢;clear he;generalize ρ' x'=av at h hx;unfold Ix at h⊢;split at h;case h_2=>exact h.elim
 rename_i id;obtain⟨L,k1,k2,k3⟩:=hx;have main:∀uY hi0:Int,sS ρ' 0 l'=uY->sS ρ' nn h'=hi0->0<=uY->uY<=hi0->hi0<=nn->uY<nn->
   (Instr.sliceAt t (ρ x) (lo.map ρ) (hi.map ρ) none).run P w= .ok (.slice (some ⟨L.sO,uY.toNat*k,none⟩) (hi0.toNat-uY.toNat) (nn-uY.toNat)) w:=by
  intro uY hi0 e1 e2 c1 c2 c3 c4;have hb:=DH (P:=P) (g:=g) (w:=w) (isSlice:=false) (len:=nn) (cap:=nn) (ρ:=ρ) (ρ':=ρ') (mx:=none) (mx':=none) vf hhi rfl (λy y' a b=>hv y y' a (by simpa using b)) b1 b2 zt zw zo zo (by rw[CZ];omega) (by rw[CZ];exact rH _);rw[e1,e2,CZ]at hb;have sZ:¬nn=uY.toNat:=zo
  rw[k3];simp only[qd]at hb;simp only[Instr.sliceAt,Sem.run_bind,run_underlying hu,Result.andThen_ok,Instr.sureAddr,Sem.run_pure,hb,Bj tB,Bt,oH,sZ,pb];simp
 cases ho:AD H id with
 |none=>rw[ho]at h;exact h.elim
 |some ob=>
  rw[ho]at h;cases ob<;>(try exact h.elim)
  ·rename_i cs;obtain⟨c0,c1,c2,c3,c4⟩:=h;obtain⟨L',c,e0,j1,j2,j3,j4,j5,j6⟩:=R.obj id _ ho;rw[k1]at j1;cases j1;obtain⟨r1,t1⟩:=R.upd (m:=m) (w':=w) (ob':=.arr k (grp k nn cs)) ho rfl k1 rfl rfl rfl rfl (λ_ _=>rfl) (.inl ⟨c,e0,(0,0),c,j4,j4,rfl,λ_ _=>rfl⟩)
    ⟨L,c,e0,k1,j2,by rw[j3,j5],j4,by rw[j5,Ui,c0],sL.grp nn cs 0 j6 c0⟩
   exact⟨_,main _ _ rfl rfl c1 c2 c3 c4,⟨L,k1,k2,rfl⟩,r1,t1⟩
  ·rename_i e' cs;obtain⟨rfl,c0,c1,c2,c3,c4⟩:=h;exact⟨_,main _ _ rfl rfl c1 c2 c3 c4,⟨L,k1,k2,rfl⟩,R,q8.refl _ _ _ _⟩
def cb(P:Program)(g:z8)(w:World)(esz:Nat)(l':List Fs)(y:Value):Prop:=
 (Builtin.lenOf y).run P w= .ok l'.length w/\∀n,n<=l'.length->∃news:List Value,news.length=n*esz/\(∀v∈news,v.oneCell'=true)/\sK g esz (λo=>news[o]?) 0 (l'.take n)/\(Builtin.firstCells esz n y).run P w= .ok news.toArray w
theorem cd(R:x6 g H n w){esz:Nat}{tok:xv}{l:List Fs}{y:Value}(h:AP g (.sl tok l) y)(he:tok.esz=esz\/l.length=0):cb P g w esz l y:=by
 rcases h with⟨rfl,rfl,_⟩|⟨_,b,o,cap,⟨sp,rfl,uE⟩,_,sY,_⟩
 ·refine⟨by simp [Builtin.lenOf],λn hn=>?_⟩;have:n=0:=by simpa using hn
  subst this;exact⟨[],zw,zw,zt,by simp [Builtin.firstCells]⟩
 ·by_cases hl:l=[]
  ·subst hl;refine⟨by simp [Builtin.lenOf],λn hn=>?_⟩;have:n=0:=by simpa using hn
   subst this;have:=run_firstCells_some (P:=P) w esz 0 ⟨b,o,sp⟩ 0 cap [] zw zw;exact⟨[],zw,zw,zt,by simpa using this⟩
  ·obtain rfl:sp=none:=uE.resolve_right λq=>hl q.1
   have tu:tok.esz=esz:=he.resolve_right (by simpa using hl);rw[tu]at sY;refine⟨by simp [Builtin.lenOf],λn hn=>?_⟩;have tM:(l.take n).length=n:=by simp;omega
   obtain⟨vs,k1,k2,k3,k4⟩:=(sK.take n _ _ sY).list;rw[tM]at k1;refine⟨vs,k1,k3,k4,?_⟩;exact run_firstCells_some (P:=P) w esz n ⟨b,o,none⟩ l.length cap vs k1 (λj v hv=>by rw[Bt];exact R.σw _ _ _ (k2 j v hv))
theorem Yw(R:x6 g H n w){esz id off len cap:Nat}{l:List Fs}{y:Value}(h:AP g (.ref id esz off len cap) y)(ho:AD H id=some (.arr esz l))(hl:off+len<=l.length):cb P g w esz ((l.drop off).take len) y:=by
 obtain⟨L,k1,k2,rfl⟩:=h;obtain⟨L',c,e,j1,j2,j3,j4,j5,j6⟩:=R.obj id _ ho;rw[k1]at j1;cases j1;have l9:((l.drop off).take len).length=len:=by simp;omega
 have sY:=sK.take len _ _ (sK.drop off _ _ j6);rw[pn]at sY;refine⟨by simp [Builtin.lenOf,l9],λn hn=>?_⟩;have tM:(((l.drop off).take len).take n).length=n:=by rw[oJ];omega
 obtain⟨vs,p1,p2,p3,p4⟩:=(sK.take n _ _ sY).list;rw[tM]at p1;refine⟨vs,p1,p3,p4,?_⟩;refine run_firstCells_some (P:=P) w esz n ⟨L.sO,off*esz,none⟩ len cap vs p1 (λj v hv=>?_);rw[Bt,BE j4];exact p2 j v hv
theorem Yx{s:List UInt8}{y:Value}(h:AP g (.str s) y):cb P g w 1 (s.map λb=>.int .u8 b.toNat) y:=by
 have hy:y= .string ⟨s.toArray⟩:=h;subst hy;have tB:ByteArray.size ⟨s.toArray⟩=s.length:=by show s.toArray.size=_;simp
 refine⟨by simp [Builtin.lenOf,tB],λn hn=>?_⟩;simp only[o6]at hn;obtain⟨news,q1,q2,q3,q4⟩:=Pi (P:=P) (g:=g) (w:=w) (s:=s.take n) (y:=.string ⟨(s.take n).toArray⟩) rfl;refine⟨news,?_,q2,?_,?_⟩
 ·rw[q1];simp;omega
 ·rw[<-rc];exact q3
 ·grind [Builtin.firstCells,List.length_map,List.length_take,Nat.min_eq_left,ByteArray.data_extract]
theorem kg(R:x6 g H n w){esz:Nat}{yv:Fs}{y:Value}{str:Bool}{l':List Fs}(h6:str=true->esz=1)(hvy:AP g yv y)(hB:PU H esz yv str=some l'):cb P g w esz l' y:=by
 cases str with
 |true=>
  simp only[PU]at hB;cases yv<;>(try simp only[]at hB)<;>first|(cases hB;done)|skip
  cases hB;rw[h6 rfl];exact Yx hvy
 |false=>
  simp only[PU]at hB;cases yv<;>(try simp only[]at hB)<;>first|(cases hB;done)|skip
  ·split at hB
   ·rename_i hc;cases hB;exact cd R hvy hc
   ·cases hB
  ·split at hB
   ·rename_i ho;split at hB
    ·rename_i hc;obtain⟨c1,c2,c3⟩:=hc;subst c1;subst c2;cases hB;exact Yw R hvy ho c3
    ·cases hB
   ·cases hB
theorem OZ(R:x6 g H n w){t u ty e:TypeId}{i:TypeInfo}(ht:P.underlying t=some (.slice e))(hi:P.info? e=some i){av bv:Fs}{x y:Value}{str:Bool}(h6:str=true->i.size=1)(hx:AP g av x)(hy:AP g bv y){base:Nat}
  (h:(xE base (.cpy i.size str) H [av,bv]).1):
  ∃v w',(Builtin.copy_ #[t,u] ty #[x,y]).run P w= .ok v w'/\AP g (xE base (.cpy i.size str) H [av,bv]).2.2 v/\x6 g (xE base (.cpy i.size str) H [av,bv]).2.1 n w'/\q8 m g H w g (xE base (.cpy i.size str) H [av,bv]).2.1 w':=by
 cases av<;>simp only[xE]at h<;>(try exact h.elim);rename_i id e0 off len cap;simp only[xE];cases ho:AD H id with
 |none=>rw[ho]at h;exact h.elim
 |some ob=>
  rw[ho]at h;cases hs:PU H i.size bv str with
  |none=>rw[hs]at h;cases ob<;>exact h.elim
  |some l'=>
   rw[hs]at h;cases ob<;>(try exact h.elim);rename_i e' l;obtain⟨rfl,rfl,tO⟩:=h;obtain⟨c1,c2⟩:=kg (P:=P) R h6 hy hs;generalize hk:min l'.length len=k;have hk1:k<=l'.length:=zo
   have uR:k<=len:=zo
   obtain⟨news,s1,s2,s3,s4⟩:=c2 k hk1;have tM:(l'.take k).length=k:=by simp;omega
   obtain⟨L,hL,sf,rfl⟩:=hx;obtain⟨L',c,ee,j1,j2,j3,j4,j5,j6⟩:=R.obj id _ ho;rw[hL]at j1;cases j1;have hmul:off*i.size+k*i.size<=l.length*i.size:=by rw[<-pN];exact qu _ zo
   have sY:=run_storeCells_at (P:=P) L.sO (off*i.size) ee news 0 c w j4 (by rw[s1];omega) s2;simp only[qQ]at sY;have sP:(Builtin.copy_ #[t,u] ty #[.slice (some ⟨L.sO,off*i.size,none⟩) len cap,y]).run P w= .ok (goInt k) (w.setRow L.sO (c.toList.take (off*i.size)++news++c.toList.drop (off*i.size+news.length)).toArray):=by simp_all [Builtin.copy_,run_underlying,sizeOf,typeInfo,Result.andThen]
   generalize hc':(c.toList.take (off*i.size)++news++c.toList.drop (off*i.size+news.length)).toArray=c' at sP;have hsz':c'.size=c.size:=by subst hc';simp;omega
   have q1:∀j,j<off*i.size->c'[j]?=c[j]?:=by grind
   have q2:∀(j:Nat) x,news[j]?=some x->c'[off*i.size+j]?=some x:=by grind
   have q3:∀j,(off+k)*i.size<=j->c'[j]?=c[j]?:=by
    intro j hj;rw[pN]at hj;subst hc';rw[<-pJ];simp only[];rw[pB (by simp;omega),rp,pJ];congr 1;simp;omega
   have hof:(l.take off).length=off:=by simp;omega
   have hob:FE g (w.setRow L.sO c') id (.arr i.size (l.take off++l'.take k++l.drop (off+k))):=by
    refine⟨L,c',ee,hL,sf,by rw[j3,hsz'],setRow_heap w L.sO c c' ee (0,0) j4,?_,?_⟩
    ·rw[hsz',<-j5];simp only[ou,hof,tM,pi];congr 1;omega
    ·refine sK.append _ _ 0 (sK.append _ _ 0 ?_ ?_) ?_
     ·refine sK.eq _ 0 (λj _ hj=>?_) (sK.take off _ _ j6);rw[hof,pn]at hj;exact q1 j hj
     ·have:=sK.place (f:=λj=>c'[j]?) (o:=off*i.size) q2 (l'.take k) 0 s3
      rwa[qQ,<-pn (off*i.size),<-hof]at this
     ·have hd:=sK.drop (off+k) _ _ j6;simp only[ou,hof,tM,pn]at hd⊢;exact sK.eq _ _ (λj hj _=>q3 j hj) hd
   obtain⟨r1,r2⟩:=Jh (m:=m) R ho rfl hL j4 hsz' (λo ho'=>by
    rcases ho' with h|h
    ·rw[sf]at h;omega
    ·rw[j3]at h;rw[qw zo,qw zo]) hob
   subst hk;exact⟨_,_,sP,rfl,r1,r2⟩
theorem RU{cs:List Fs}{k:Nat}(h:cs.all Id=true):(cs.drop k).all Id=true:=oM.2 λx hx=>oM.1 h x (rE hx)
theorem KS{cs:List Fs}{k:Nat}(h:cs.all Id=true):(cs.take k).all Id=true:=oM.2 λx hx=>oM.1 h x (rD hx)
theorem WS(R:x6 g H n w){t u ty e:TypeId}{i:TypeInfo}(ht:P.underlying t=some (.slice e))(hi:P.info? e=some i)(h1:i.size=1){av bv:Fs}{x y:Value}(hx:AP g av x)(hy:AP g bv y){base:Nat}
  (h:(xE base .cpb H [av,bv]).1):
  ∃v w',(Builtin.copy_ #[t,u] ty #[x,y]).run P w= .ok v w'/\AP g (xE base .cpb H [av,bv]).2.2 v/\x6 g (xE base .cpb H [av,bv]).2.1 n w'/\q8 m g H w g (xE base .cpb H [av,bv]).2.1 w':=by
 simp only[xE]at h⊢;cases av<;>simp only[Vx]at h<;>(try exact h.elim);cases bv<;>simp only[]at h<;>(try exact h.elim);rename_i id e1 off len cap id2 e2 off2 len2 cap2;simp only[Vx];cases ho:AD H id with
 |none=>rw[ho]at h;exact h.elim
 |some ob=>
  rw[ho]at h;cases ob<;>(try exact h.elim);rename_i cs;obtain⟨rfl,rfl,rfl,h2,h3,h4⟩:=h;obtain⟨r1,t1⟩:=R.unbox (m:=m) ho;have hg:AD (sA H id2 (.arr 1 cs)) id2=some (.arr 1 cs):=AC ..;have hs:PU (sA H id2 (.arr 1 cs)) 1 (.ref id2 1 off2 len2 cap2) false=some ((cs.drop off2).take len2):=by
   simp only[PU,hg];rw[oE ⟨zt,zt,h3⟩]
  have hl:((cs.drop off2).take len2).length=len2:=by simp;omega
  have hq:(xE base (.cpy i.size false) (sA H id2 (.arr 1 cs)) [.ref id2 1 off len cap,.ref id2 1 off2 len2 cap2])=(1=1/\1=1/\off+len<=cs.length,sA (sA H id2 (.arr 1 cs)) id2 (.arr 1 (cs.take off++((cs.drop off2).take len2).take (min len2 len)++cs.drop (off+min len2 len))),.int .i64 (min len2 len:Nat)):=by
   rw[h1];simp only[xE,hg,hs,hl]
  obtain⟨v,w',p1,p2,p3,p4⟩:=OZ (m:=m) (P:=P) (u:=u) (ty:=ty) (base:=base) r1 ht hi (str:=false) (λq=>by cases q) hx hy (by rw[hq];exact⟨rfl,rfl,h2⟩);rw[hq]at p2 p3 p4;simp only[AH]at p3 p4;obtain⟨r2,t2⟩:=p3.rebox (m:=m) (AC ..) (by rw[List.all_append,List.all_append,KS h4,KS (KS (RU h4)),RU h4];rfl);simp only[AH]at r2 t2;exact⟨v,w',p1,p2,r2,(t1.trans p4).trans t2⟩
theorem x6.own{g:z8}{H:AB}{n m:Nat}{w:World}(r:x6 g H n w){id e:Nat}{l:List Fs}{len cap:Nat}(h0:AD H id=some (.arr e l))(hm:m<=n)(hlc:l.length=cap)(hle:len<=cap){v:Value}(hv:AP g (.ref id e 0 len cap) v):
  ∃g',AP g' (.sl (.own n e) (l.take len)) v/\x6 g' (sA (sA H id .dead) n .tok) (n+1) w/\q8 m g H w g' (sA (sA H id .dead) n .tok) w:=by
 obtain⟨L,c,t,j1,j2,j3,j4,j5,j6⟩:=r.obj id _ h0;obtain⟨L',k1,k2,rfl⟩:=hv;rw[j1]at k1;cases k1;have hcsz:c.size=cap*e:=by rw[<-j5,hlc]
 obtain⟨r1,t1⟩:=r.upd (m:=m) (w':=w) (ob':=.tok) h0 rfl j1 rfl rfl rfl rfl (λ_ _=>rfl) (.inl ⟨c,t,(0,0),c,j4,j4,rfl,λ_ _=>rfl⟩) ⟨L,j1,λ_=>⟨c,t,j4,by rw[j3];exact od _⟩⟩;have r1':x6 g (sA H id .tok) (n+1) w:=⟨r1.σw,r1.obj,r1.uu,λi ob h=>Nat.lt_succ_of_lt (r1.hd i ob h),r1.ap,r1.un,r1.gl,r1.gz⟩;have hn:AD (sA H id .tok) n=none:=by
  cases hh:AD (sA H id .tok) n with
  |none=>rfl
  |some ob=>exact absurd (r1.hd n ob hh) (Nat.lt_irrefl _)
 have tK:∀o,w.cell? ⟨L.sO,o,none⟩=c[o]?:=λo=>BE j4 o
 have e9:len*e<=cap*e:=qu _ hle;obtain⟨q1,q2,q3⟩:=r1'.split (m:=m) hn (Nat.lt_succ_self n) hm (L:=⟨L.sO,len*e,cap*e⟩) (H':=sA (sA H id .tok) id .dead)
  (.inr ⟨id,0,rfl,AC _ _ _,by rw[j1];congr 1;cases L;simp only[]at j2 j3⊢;rw[j2,j3,hcsz],oq _⟩)
  (σ':=λb o=>if b=L.sO/\o<len*e then c[o]? else g.σ b o)
  (λb o v h=>by
   show(if b=L.sO/\o<len*e then c[o]? else g.σ b o)=some v;split
   ·rename_i q;have:=r.σw b o v h;rw[q.1,tK]at this;exact this
   ·exact h)
  (λb o v h=>by
   by_cases q:b=L.sO/\o<len*e
   ·rw[oE q]at h;refine .inr ⟨q.1,q.2,by rw[q.1,tK];exact h,id,0,rfl,AC _ _ _,by rw[j1];congr 1;cases L;simp only[]at j2 j3⊢;rw[j2,j3,hcsz],oq _,?_⟩;simp only[];omega
   ·rw[og q]at h;exact .inl h)
 rw[AH]at q1 q2;refine⟨_,?_,q1,t1.trans q2⟩;have tM:(l.take len).length=len:=by simp;omega
 refine .inr ⟨zt,L.sO,0,cap,⟨none,by rw[tM];simp,.inl rfl⟩,by rw[tM];exact hle,?_,?_⟩
 ·simp only[xv.esz];refine sK.eq (f:=λo=>c[o]?) _ 0 (λj _ hj=>?_) (sK.mono q3 (λ_ _ h=>h) _ _ _ (sK.take len _ _ j6));rw[tM,pn]at hj;simp only[hj,sb,pG]
 ·simp [tM]
end
section
def Eg(m:Nat)(g0:z8)(H0:AB)(w0:World)(N:Nat)(D:DP)(s:AS)(a:Act)(w:World):Prop:=
 ∃g,x6 g s.H s.n w/\By g s.env a.tmps/\q8 m g0 H0 w0 g s.H w/\m<=s.n/\N<=a.tmps.size/\J4 D g s.H a.defers a.tmps w
def Nk(m:Nat)(g0:z8)(H0:AB)(w0:World)(D:DP)(ds:List Deferred)(tm:Array Value)(v:Fs)(H:AB)(n:Nat)(chain:List PanicEntry)(w:World):Prop:=
 ∃g x,x6 g H n w/\q8 m g0 H0 w0 g H w/\m<=n/\chain=[{v:=x,recovered:=false}]/\AP g v x/\J4 D g H ds tm w
variable {a:Act} {g:z8} {env:List (Nat×Bool×Fs)}
theorem Di(hgl:EN g)(he:By g env a.tmps){x:Operand}{x':zx}(h:Aw x=some x')(t9:(lk env x').1=true):AP g (AV env x') (a.eval x):=by
 cases x with
 |tmp t=>
  simp only[Aw]at h;cases h;simp only[lk,AV]at t9⊢;cases hg:BC env t with
  |none=>simp [hg]at t9
  |some gv=>
   obtain⟨gd,v⟩:=gv;simp only[hg]at t9⊢;obtain⟨x,h1,h2,_⟩:=he t gd v hg;have:a.eval (.tmp t)=x:=by simp [Act.eval,Array.getD_eq_getD_getElem?,h1]
   rw[this];exact h2 t9
 |const v=>
  simp only[Aw]at h;cases hc:Qx v with
  |none=>simp [hc]at h
  |some av=>simp [hc]at h;subst h;exact Q3 hc
 |global i=>
  simp only[Aw]at h;cases h;simp only[AV,lk];cases hi:Vu i with
  |none=>rfl
  |some cs=>exact⟨i,0,rfl,hgl i cs hi⟩
 |func f=>simp only[Aw]at h;cases h;exact⟨#[], #[],rfl,rfl,rfl⟩
theorem Jj:∀{l:List zx},Bz env l->∀x∈l,(lk env x).1=true
 |[],_,_,h=>by cases h
 |y::l,⟨h1,h2⟩,x,h=>by
  rcases ph.1 h with rfl|h
  ·exact h1
  ·exact Jj h2 x h
theorem IS(t i:Nat)(gv:Bool×Fs)(r:List (Nat×Bool×Fs)):BC ((t,gv)::r) i=if t=i then some gv else BC r i:=rfl
theorem By.put{s:AS}(e:By g s.env a.tmps){dst:Option Nat}{gd:Bool}{v:Fs}{x:Value}(hd:∀d,dst=some d->d<a.tmps.size)(h1:gd=true->AP g v x)(h2:gd=false->x=undef):
  By g (s.put dst gd v).env (a.put dst x).tmps:=by
 cases dst with
 |none=>exact e
 |some d=>
  intro t gd' v' h;simp only[AS.put,IS]at h;simp only[Act.put];by_cases ht:d=t
  ·simp_all
  ·rw[og ht]at h;obtain⟨y,k1,k2,k3⟩:=e t gd' v' h;exact⟨y,by rw[pX ht];exact k1,k2,k3⟩
theorem Yy(a:Act)(dst:Option Tmp)(x:Value):(a.put dst x).tmps.size=a.tmps.size:=by cases dst<;>simp [Act.put]
theorem TA(a:Act)(dst:Option Tmp)(x:Value):(a.put dst x).defers=a.defers:=by cases dst<;>rfl
theorem TB(s:AS)(dst:Option Nat)(gd:Bool)(v:Fs):(s.put dst gd v).H=s.H:=by cases dst<;>rfl
theorem GR(s:AS)(dst:Option Nat)(gd:Bool)(v:Fs):(s.put dst gd v).n=s.n:=by cases dst<;>rfl
theorem WT{ops:Array Oper}{o:Oper}{gd:Option (Nat×Bool)}(he:By g env a.tmps)(hc:Ma ops o.guard=some gd)(t9:GQ env gd):
  Region.wanted o (yielded ops a.tmps)=Be env gd:=by
 unfold Ma at hc;unfold Region.wanted;split at hc
 ·rename_i hg;cases hc;simp [hg,Be]
 ·rename_i j wt hg;split at hc
  ·rename_i d hd;cases hc;simp only[hg,GQ,AV,lk,Be,yielded,hd,rI]at t9⊢;cases hge:BC env d with
   |none=>simp [hge]at t9
   |some gv=>
    obtain⟨g0,v⟩:=gv;simp only[hge]at t9⊢;obtain⟨x,h1,h2,h3⟩:=he d g0 v hge;rw[h1];cases g0 with
    |true=>
     have t9:=t9 rfl;cases v<;>simp only[JV]at t9<;>first|exact t9.elim|skip
     have:=h2 rfl;simp only[AP]at this;subst this;simp [FZ]
    |false=>have:=h3 rfl;subst this;simp [undef]
  ·cases hc
section
variable {P:Program} {r:Option Nat} {m N:Nat} {g0:z8} {H0:AB} {w0:World} {D:DP} {ops:Array Oper}
variable {a:Act} {g:z8} {i:Nat} {o:Oper} {w:World}
theorem cf{H:AB}{dst:Option Nat}{x:Value}(hD:J4 D g H a.defers a.tmps w)(hd:∀d,dst=some d->d<N/\D.lo<=d):J4 D g H a.defers (a.put dst x).tmps w:=by
 cases dst with
 |none=>exact hD
 |some d=>exact hD.put (hd d rfl).2
theorem GB{s s1:AS}{w':World}{base:Nat}{dst:Option Nat}{gd:Bool}{v:Fs}{x:Value}(hR0:q8 m g0 H0 w0 g s.H w)(hn:m<=s1.n)(hb:m<=base)(he:By g s.env a.tmps)(henv:s1.env=s.env)(hN:N<=a.tmps.size)(hD:J4 D g s.H a.defers a.tmps w)
  (hd:∀d,dst=some d->d<N/\D.lo<=d) {g':z8} (r1:x6 g' s1.H s1.n w') (t1:q8 base g s.H w g' s1.H w') (hv:gd=true->AP g' v x) (hu:gd=false->x=undef):
  Eg m g0 H0 w0 N D (s1.put dst gd v) (a.put dst x) w':=
 ⟨g',by rw[TB,GR];exact r1,by
  have tu:By g' s1.env a.tmps:=by rw[henv];exact he.mono t1.le
  exact tu.put (λd h=>qg (hd d h).1 hN) hv hu,by rw[TB];exact hR0.trans (t1.floor hb),by rw[GR];exact hn,by rw[Yy];exact hN,by rw[TA,TB];exact(cf hD hd).step t1⟩
theorem Mn(h:∀c,o.op≠ .defer c)(ro:Option Nat)(ρ:Operand->Value):o.semAt ro ρ=execOp ρ o:=Oper.semAt_eq ro ρ o h
theorem Pk{mkv imp:Bool}{op:Op}{k:Io}(h:BD P mkv imp i op=some k):∀c,op≠ .defer c:=by
 rintro c rfl;simp [BD,CD]at h
theorem Fp{w':World}{K:Act->World->Prop}{Q:Exit->Act->World->Prop}{nx:Next}(ho:ops[i]?=some o)(hw:Region.wanted o (yielded ops a.tmps)=true)(sg:∀c,o.op≠ .defer c)
  (sP:(execOp a.eval o).run P w= .ok nx w') (h:o.uponIn (FR r) 0 P a K Q (.ok nx w')):wpOpIn (FR r) 0 P ops Q i K a w:=by
 unfold wpOpIn;simp only[ho,hw,pG];refine⟨λ_ _=>zt,?_⟩;have:(o.semAt (FR r).round a.eval).run P w= .ok nx w':=by rw[Mn sg];exact sP
 rw[this];exact h
theorem WU{K:Act->World->Prop}{Q:Exit->Act->World->Prop}(ho:ops[i]?=some o)(hw:Region.wanted o (yielded ops a.tmps)=false)
  (h:K (a.put o.dst undef) w):wpOpIn (FR r) 0 P ops Q i K a w:=by
 unfold wpOpIn;simp only[ho,hw,oP,pb];exact⟨λ_ _=>zt,h⟩
theorem Mo{f:Operand}{args:Array Operand}{ts:Array TypeId}{tF:FuncId}{first cap:Array Value}(ho:o.op= .call {callee:=.value f,args,argTypes:=ts})(hf:a.eval f= .func (.func tF) first cap)(hc:CF P tF):
  (execOp a.eval o).run P w= .ok (.enter tF (first++args.map a.eval++cap)) w:=by
 obtain⟨fn,h1,h2,h3⟩:=hc;have h3':¬fn.name= "runtime.NumGoroutine" :=by simpa using h3
 have h4:¬fn.body=none:=by cases hb:fn.body<;>simp_all
 simp [execOp,ho,resolve,hf,Deferred.ofValue,invoke,callFunc,h1,h3',h4]
theorem sG.append'{as bs:List Fs}{vs us:List Value}(h:sG g as vs)(k:sG g bs us):sG g (as++bs) (vs++us):=sG.append as vs bs us h k
theorem Mp{Qp:Fs->AB->Nat->Prop}{base:Nat}{mkv imp:Bool}{gd:Option (Nat×Bool)}{k:Io}{K:AS->Prop}{Kc:Act->World->Prop}{Qc:Exit->Act->World->Prop}{s:AS}
  (ho:ops[i]?=some o) (hg:Ma ops o.guard=some gd) (hk:BD P mkv imp i o.op=some k) (hstep:AX P Qp base ⟨o.dst,gd,k⟩ K s) (hsim:Eg m g0 H0 w0 N D s a w) (hb:m<=base)
  (hbn:k.news=true->base+i<s.n) (hd:∀d,o.dst=some d->d<N/\D.lo<=d)
  (hK:∀s' a' w',K s'->Eg m g0 H0 w0 N D s' a' w'->s.n<=s'.n->Kc a' w')
  (hQ:∀v H' n' chain a' w',Qp v H' n'->Nk m g0 H0 w0 D a'.defers a'.tmps v H' n' chain w'->Qc (.panic chain) a' w'):wpOpIn (FR r) 0 P ops Qc i Kc a w:=by
 obtain⟨g,hR,hE,hT,hmn,hN,hD⟩:=hsim;obtain⟨hgok,sY⟩:=hstep;have hw:=WT hE hg hgok;have sg:=Pk hk
 have skip:Be s.env gd=false->∀v,K (s.put o.dst false v)->wpOpIn (FR r) 0 P ops Qc i Kc a w:=λh v hKs=>
  WU ho (by rw[hw,h]) (hK _ _ _ hKs (GB (s:=s) (s1:=s) (base:=base) hT hmn hb hE rfl hN hD hd hR (q8.refl _ _ _ _) zw (λ_=>rfl)) (by rw[GR];exact od _))
 have fin:∀{s1:AS} {v:Fs} {x:Value} {w':World} {g':z8},Be s.env gd=true->s1.env=s.env->s1.n=s.n->(execOp a.eval o).run P w= .ok (.value x) w'->AP g' v x->x6 g' s1.H s1.n w'->q8 base g s.H w g' s1.H w'->K (s1.put o.dst true v)->
   wpOpIn (FR r) 0 P ops Qc i Kc a w:=by
  intro s1 v x w' g' tP henv w7 sP hv r1 t1 hKs;refine Fp ho (by rw[hw,tP]) sg sP ?_;exact hK _ _ _ hKs (GB (s:=s) (s1:=s1) (base:=base) hT zo hb hE henv hN hD hd r1 t1 (λ_=>hv) zw) (by rw[GR,w7];exact od _)
 have uG:∀{H':AB} {v:Fs} {x:Value} {w':World} {g':z8},Be s.env gd=true->(execOp a.eval o).run P w= .ok (.value x) w'->AP g' v x->x6 g' H' s.n w'->q8 base g s.H w g' H' w'->K ({s with H:=H'}.put o.dst true v)->
   wpOpIn (FR r) 0 P ops Qc i Kc a w:=λ{H'} _ _ _ _ h1 h2 h3 h4 h5 h6=>fin (s1:={s with H:=H'}) h1 rfl rfl h2 h3 h4 h5 h6
 have opv:∀{l:List zx},Bz s.env l->∀x x',Aw x=some x'->x'∈l->AP g (AV s.env x') (a.eval x):=λsV x x' e hm=>Di hR.gl hE e (Jj sV x' hm)
 have callv:∀{f:Operand} {f':zx} {args:Array Operand} {ts:Array TypeId} {xs:List zx},o.op= .call {callee:=.value f,args,argTypes:=ts}->Aw f=some f'->Im args.toList=some xs->(lk s.env f').1=true->Bz s.env xs->
   ∀{tF:FuncId} {first cap:List Fs},AV s.env f'= .fn (.func tF) first cap->∃fv cv,a.eval f= .func (.func tF) fv cv/\sG g (first++xs.map (AV s.env)++cap) (fv++args.map a.eval++cv).toList:=by
  intro f f' args ts xs h1 h2 h3 h4 h5 tF first cap h6
  have hf:=Di hR.gl hE h2 h4;rw[h6]at hf;obtain⟨fv,cv,e1,k1,k2⟩:=hf;refine⟨fv,cv,e1,?_⟩;have:=Eo (g:=g) (ρ:=a.eval) (ρ':=AV s.env) args.toList xs h3 (λx x' e hm=>Di hR.gl hE e (Jj h5 x' hm));simp only[Array.toList_append,Array.toList_map];exact sG.append' (sG.append' k1 this) k2
 by_cases tP:Be s.env gd=true;case neg=>grind
 case pos=>
 have value:∀{k':x0},CD P mkv o.op=some k'->k= .v k'->wpOpIn (FR r) 0 P ops Qc i Kc a w:=by
  intro k' h1 h2;subst h2;obtain⟨hs,hKs⟩:=sY;rw[tP]at hKs;obtain⟨sV,hside⟩:=hs tP;obtain⟨x,w',g',q1,q2,q3,q4⟩:=Sw (m:=base) hR h1 (opv sV) hside;exact fin (s1:=s) tP rfl rfl q1 q2 q3 q4 hKs
 have other:BD P mkv imp i o.op=(CD P mkv o.op).map .v->wpOpIn (FR r) 0 P ops Qc i Kc a w:=by
  intro e;rw[e]at hk;cases h1:CD P mkv o.op with
  |none=>simp [h1]at hk
  |some k'=>simp [h1]at hk;exact value h1 hk.symm
 have mksv:∀{t e:TypeId} {inf:TypeInfo} {z:Fs} {sz:Nat} {x:Operand} {x':zx} {l c:Operand},o.op= .makeSlice t l c->l=x->c=x->Aw x=some x'->P.underlying t=some (.slice e)->P.info? e=some inf->B6 P e=some z->FG P e=some sz->k= .mks i sz inf.bytes z x'->
   wpOpIn (FR r) 0 P ops Qc i Kc a w:=by
  intro t e inf z sz x x' l c tE e1 e2 e3 h1 h2 h3 h4 h5;subst e1;subst e2;subst h5;obtain⟨sV,q1,q2,q3,q4,q5,q6,hKs⟩:=sY.1 tP;have s5:base+i<s.n:=hbn rfl;obtain⟨v,w',g',p1,p2,p3,p4,p5⟩:=WI (m:=base) hR h1 h2 h3 h4 (opv sV c x' e3 (by simp [Io.sF])) q1 s5 (py _ _) q2 q3 q4 q5;exact uG tP (by simp [execOp,tE,p1]) p2 p3 p4 hKs
 have put:∀{t:TypeId} {mm kk x:Operand},V2 P t mm kk x=some k->(execOp a.eval o).run P w=((Instr.mapUpdate t (a.eval mm) (a.eval kk) (a.eval x)).run P w).andThen (λ_ w'=>.ok .skip w')->wpOpIn (FR r) 0 P ops Qc i Kc a w:=by
  intro t mm kk x hk hex;unfold V2 at hk;split at hk
  ·rename_i kt e m' k' x' hu h1 h2 h3;cases hkt:kD P kt with
   |none=>simp [hkt]at hk
   |some kq=>
    simp [hkt]at hk;subst hk;obtain⟨sV,q1,q2⟩:=sY.1 tP;simp only[oL,pc]at q1 q2;obtain⟨w',p1,p2,p3,p4⟩:=S5 (m:=base) hR hu hkt (opv sV mm m' h1 (by simp [Io.sF])) (opv sV kk k' h2 (by simp [Io.sF])) (opv sV x x' h3 (by simp [Io.sF])) q1;rw[p2]at q2;refine Fp ho (by rw[hw,tP]) sg (nx:=.skip) (w':=w') (by rw[hex,p1];rfl) ?_;exact hK _ _ _ q2 (GB (s:=s) (s1:={s with H:=_}) (base:=base) hT hmn hb hE rfl hN hD hd p3 p4 (λ_=>⟨#[],rfl,rfl⟩) zw) (by rw[GR];exact od _)
  ·cases hk
 cases tE:o.op;case pick c x y=>
  simp only[tE,BD]at hk;split at hk
  ·rename_i c' x' y' h1 h2 h3;cases hk;obtain⟨hs,hKs⟩:=sY;rw[tP]at hKs;obtain⟨hc1,uj,hc3,hc4⟩:=hs tP;obtain⟨bv,e1,e2⟩:=Ja uj (Di hR.gl hE h1 hc1);have hpick:(execOp a.eval o).run P w= .ok (.value (if bv then a.eval x else a.eval y)) w:=by simp [execOp,tE,e2,asBool]
   rw[e1]at hc3 hc4 hKs;simp only[FZ]at hc3 hc4 hKs;have hsel:∀(p q:Fs),(bv=true->AP g p (a.eval x))->(bv=false->AP g q (a.eval y))->AP g (QF bv p q) (if bv then a.eval x else a.eval y):=by
    intro p q hp hq;cases bv with
    |true=>cases p<;>cases q<;>simpa [QF]using hp rfl
    |false=>cases p<;>cases q<;>simpa [QF]using hq rfl
   exact fin (s1:=s) tP rfl rfl hpick (hsel _ _ (λhb=>Di hR.gl hE h2 (hc3 hb)) (λhb=>Di hR.gl hE h3 (hc4 hb))) hR (q8.refl _ _ _ _) hKs
  ·cases hk
 case alloc t=>
  simp only[tE,BD]at hk;cases hz:B6 P t with
  |none=>simp [hz]at hk
  |some z=>
   simp [hz]at hk;subst hk;obtain⟨sV,q1,hKs⟩:=sY.1 tP;have s5:base+i<s.n:=hbn rfl;obtain⟨w',g',p1,p2,p3,p4,p5⟩:=RK (m:=base) hR q1 s5 (py _ _) hz;exact uG tP (by simp [execOp,tE,p1]) p5 p2 p3 hKs
 case box t x=>
  simp only[tE,BD]at hk;split at hk
  ·rename_i sz x' h1 h2;cases hk;obtain⟨sV,q1,q2,q3,hKs⟩:=sY.1 tP;have s5:base+i<s.n:=hbn rfl;obtain⟨w',g',p1,p2,p3,p4,p5⟩:=WG (m:=base) (t:=t) (P:=P) hR q1 s5 (py _ _) (opv sV x x' h2 (by simp [Io.sF])) q2;exact uG tP (by simp [execOp,tE,p1]) p5 p2 p3 hKs
  ·cases hk
 case store t ad x=>
  simp only[tE,BD]at hk;split at hk
  ·rename_i sz ad' x' h1 h2 h3;cases hk;obtain⟨sV,q1,q2,q3⟩:=sY.1 tP;have hst':Ng s.H sz (AV s.env x') (λH'=>K ({s with H:=H'}.put o.dst true (.sH []))) (AV s.env ad'):=by
    generalize AV s.env ad'=av at q3⊢;cases av<;>exact q3
   obtain⟨H',w',p1,p2,p3,p4⟩:=Ys (m:=base) hR h1 (opv sV ad ad' h2 (by simp [Io.sF])) (opv sV x x' h3 (by simp [Io.sF])) q1 q2 hst';refine Fp ho (by rw[hw,tP]) sg (nx:=.skip) (w':=w') (by simp [execOp,tE,p1]) ?_;exact hK _ _ _ p2 (GB (s:=s) (s1:={s with H:=H'}) (base:=base) hT hmn hb hE rfl hN hD hd p3 p4 (λ_=>⟨#[],rfl,rfl⟩) zw) (by rw[GR];exact od _)
  ·cases hk
 case slice t x lo hi mx=>
  by_cases hp:∃n e,P.underlying t=some (.array n e)
  ·obtain⟨nn,e,hu⟩:=hp;simp only[tE,BD,hu]at hk;split at hk
   ·rename_i x' l' h' h2 h3 h4;split at hk
    ·rename_i tB;cases mkv with
     |true=>
      simp only[pG]at hk;cases hk;obtain⟨hs,hKs⟩:=sY;rw[tP]at hKs;obtain⟨sV,hside⟩:=hs tP;have hvx:=opv sV x x' h2 (by simp [x0.sF]);have hvo:∀y y',Aw y=some y'->(l'=some y'\/h'=some y')->AP g (AV s.env y') (a.eval y):=λy y' e1 e2=>opv sV y y' e1 (by rcases e2 with rfl|rfl<;>simp [x0.sF])
      obtain⟨v,p1,p2⟩:=WM hR hu tB h3 h4 hvx hvo hside;exact fin (s1:=s) tP rfl rfl (by simp [execOp,tE,p1]) p2 hR (q8.refl _ _ _ _) hKs
     |false=>
     simp only[oP,pb]at hk;cases hk;obtain⟨sV,b1,b2,q3⟩:=sY.1 tP;have hvx:=opv sV x x' h2 (by simp [Io.sF]);have hvo:∀y y',Aw y=some y'->(l'=some y'\/h'=some y')->AP g (AV s.env y') (a.eval y):=λy y' e1 e2=>opv sV y y' e1 (by rcases e2 with rfl|rfl<;>simp [Io.sF])
     obtain⟨v,H',v',p1,p2,p3,p4,p5⟩:=WL (m:=base) hR hu tB h3 h4 hvx hvo b1 b2 q3;exact uG tP (by simp [execOp,tE,p1]) p2 p3 p4 p5
    ·split at hk
     ·rename_i kk tB;split at hk
      ·cases hk;obtain⟨sV,q1,q2⟩:=sY.1 tP;have hvx:=opv sV x x' h2 (by simp [Io.sF]);have hvo:∀y y',Aw y=some y'->(l'=some y'\/h'=some y')->AP g (AV s.env y') (a.eval y):=λy y' e1 e2=>opv sV y y' e1 (by rcases e2 with rfl|rfl<;>simp [Io.sF])
       obtain⟨v,p1,p2,p3,p4⟩:=WR (m:=base) hR hu tB h3 h4 hvx hvo q1;exact uG tP (by simp [execOp,tE,p1]) p2 p3 p4 q2
      ·cases hk
     ·cases hk
   ·cases hk
  ·refine other ?_;rw[tE];simp only[BD];split
   ·rename_i nn e hu;exact absurd ⟨nn,e,hu⟩ hp
   ·rfl
 case makeSlice t l c=>
  cases mkv with
  |true=>exact other (by rw[tE];simp [BD])
  |false=>
   rw[tE]at hk;cases l<;>cases c<;>(try (simp [BD]at hk;done))
   ·rename_i l c;simp only[BD,oP,pb]at hk;split at hk
    ·rename_i hlc;subst hlc;split at hk
     ·rename_i e hu;split at hk
      ·rename_i inf z sz h1 h2 h3;cases hk;exact mksv tE rfl rfl rfl hu h1 h2 h3 rfl
      ·cases hk
     ·cases hk
    ·cases hk
   ·rename_i l c;cases l<;>(try (simp [BD]at hk;done));rename_i kl nl;cases kl<;>(try (simp [BD]at hk;done));cases c<;>(try (simp [BD]at hk;done));rename_i kc nc;cases kc<;>(try (simp [BD]at hk;done));simp only[BD,oP,pb]at hk;split at hk
    ·rename_i hlc;subst hlc;split at hk
     ·rename_i e hu;split at hk
      ·rename_i inf z sz h1 h2 h3;cases hk;exact mksv tE rfl rfl (x':=.c (.int .i64 nl)) (by simp [Aw,Qx,MZ]) hu h1 h2 h3 rfl
      ·cases hk
     ·cases hk
    ·split at hk
     ·rename_i hlc;split at hk
      ·rename_i e hu;split at hk
       ·rename_i inf z sz h1 h2 h3;cases hk;obtain⟨sV,q1,q2⟩:=sY.1 tP;simp only[pc,xE]at q1 q2;have s5:base+i<s.n:=hbn rfl;obtain⟨v,w',g',p1,p2,p3,p4,p5⟩:=WJ (m:=base) (P:=P) hR hu h1 h2 h3 q1.1 s5 (py _ _) hlc.1 hlc.2 q1.2.1 q1.2.2.1 q1.2.2.2;exact uG tP (by simp [execOp,tE,Act.eval,p1]) p2 p3 p4 q2
       ·cases hk
      ·cases hk
     ·cases hk
 case panic x=>
  simp only[tE,BD]at hk;cases hx:Aw x with
  |none=>simp [hx]at hk
  |some x'=>
   simp [hx]at hk;subst hk;obtain⟨sV,q1,q2⟩:=sY.1 tP;have hv:=opv sV x x' hx (by simp [Io.sF]);generalize hA:AV s.env x'=av at q1 q2 hv;cases av<;>simp only[Vw]at q1<;>first|exact q1.elim|skip
   rename_i t v;obtain⟨y,e1,k1⟩:=hv;have sP:(execOp a.eval o).run P w= .halt (.panic (.iface t y)) w:=by
    simp [execOp,tE,e1,Instr.panic,goPanic]
   unfold wpOpIn;simp only[ho,hw,tP,pG];refine⟨λ_ _=>zt,?_⟩;have:(o.semAt (FR r).round a.eval).run P w= .halt (.panic (.iface t y)) w:=by rw[Mn sg];exact sP
   rw[this];exact hQ _ _ _ _ _ _ q2 ⟨g,.iface t y,hR,hT,hmn,rfl,⟨y,rfl,k1⟩,hD⟩
 case call c=>
  obtain⟨callee,args,ts⟩:=c;cases callee;case invoke rv mt=>rw[tE]at hk;simp [BD,CD]at hk
  case value f=>
   simp only[tE,BD]at hk;split at hk
   ·rename_i f' xs h1 h2;by_cases hmi:(mkv&&imp)=true
    ·rw[oE hmi]at hk;cases hk;obtain⟨sV,q3⟩:=sY.1 tP;obtain⟨q1,q2⟩:=sV;simp only[BB]at q3;generalize hA:AV s.env f'=fv at q3;cases fv<;>(try simp only[]at q3)<;>first|exact q3.elim|skip
     rename_i ff first cap
     cases ff<;>(try simp only[]at q3)<;>first|exact q3.elim|skip
     rename_i tF;obtain⟨v,hpur,hKs⟩:=q3;obtain⟨fv,cv,e1,e2⟩:=callv tE h1 h2 q1 q2 hA;obtain⟨hcb,hq⟩:=hpur.quiet s.H s.n;refine Fp ho (by rw[hw,tP]) sg (Mo tE e1 hcb) ?_;refine⟨by simp [FR,Fence.wide],?_⟩;have uN:=hq g w _ hR e2;simp only[rF]at uN;refine(callsIn_wide (n:=0-1)).2 (uN.mono ?_);rintro e w' ⟨g',out,H',n',⟨rfl,rfl,rfl⟩,he,r1,_,t1⟩;cases e with
     |panicked ch=>exact he.elim
     |outgrown=>exact he.elim
     |returned x=>
      exact hK _ _ _ hKs (GB (s:=s) (s1:=s) (base:=s.n) hT hmn hmn hE rfl hN hD hd r1 t1 (λ_=>he) zw) (by rw[GR];exact od _)
    rw[og hmi]at hk;cases hk;cases imp with
    |false=>
     simp only[oh]at sY;obtain⟨v,hs,hKs⟩:=sY;rw[tP]at hKs;obtain⟨q1,q2,q3⟩:=hs tP;generalize hA:AV s.env f'=fv at q3;cases fv<;>(try simp only[]at q3)<;>first|exact q3.elim|skip
     rename_i ff first cap
     cases ff<;>(try simp only[]at q3)<;>first|exact q3.elim|skip
     rename_i tF;obtain⟨fv,cv,e1,e2⟩:=callv tE h1 h2 q1 q2 hA;obtain⟨hcb,hq⟩:=q3;refine Fp ho (by rw[hw,tP]) sg (Mo tE e1 hcb) ?_;refine⟨by simp [FR,Fence.wide],?_⟩;have uN:=hq g w _ hR e2;simp only[rF]at uN;refine(callsIn_wide (n:=0-1)).2 (uN.mono ?_);rintro e w' ⟨g',out,H',n',⟨rfl,rfl,rfl⟩,he,r1,_,t1⟩;cases e with
     |panicked ch=>exact he.elim
     |outgrown=>exact he.elim
     |returned x=>
      exact hK _ _ _ hKs (GB (s:=s) (s1:=s) (base:=s.n) hT hmn hmn hE rfl hN hD hd r1 t1 (λ_=>he) zw) (by rw[GR];exact od _)
    |true=>
     simp only[o9]at sY;obtain⟨sV,q3⟩:=sY.1 tP;obtain⟨q1,q2⟩:=sV;simp only[BB]at q3;generalize hA:AV s.env f'=fv at q3;cases fv<;>(try simp only[]at q3)<;>first|exact q3.elim|skip
     rename_i ff first cap
     by_cases hy:∃l,ff= .yield l
     ·obtain⟨l,rfl⟩:=hy;cases first with
      |cons _ _=>exact q3.elim
      |nil=>cases cap with
       |cons _ _=>exact q3.elim
       |nil=>
        have hf:=Di hR.gl hE h1 q1;rw[hA]at hf;obtain⟨x',c',e1,k1,k2⟩:=hf;have e2:x'= #[]:=by apply qe;simpa [sG]using k1
        have e3:c'= #[]:=by apply qe;simpa [sG]using k2
        subst e2;subst e3;have uv:=Eo (g:=g) (ρ:=a.eval) (ρ':=AV s.env) args.toList xs h2 (λx x' e hm=>Di hR.gl hE e (Jj q2 x' hm));obtain⟨f2,tmps,as,bd,r1,r2⟩:=q3 r g w _ hR uv;have sP:(execOp a.eval o).run P w= .ok (.round l f2 tmps as bd) w:=by
         have:(execOp a.eval o).run P w=(Instr.yield l (args.map a.eval)).run P w:=by
          simp [execOp,tE,resolve,e1,Deferred.ofValue,invoke]
         rw[this,<-r1];congr 2;apply qe;simp
        refine Fp ho (by rw[hw,tP]) sg sP ?_;rw[Oper.uponIn_round];refine⟨by simp [FR,Fence.wide],r2.mono ?_⟩;rintro e w' ⟨b,g',H',n',rfl,hr,p1,hn',p2⟩;exact hK _ _ _ hr (GB (s:=s) (s1:={s with H:=H',n:=n'}) (base:=s.n) hT zp hmn hE rfl hN hD hd p1 p2 (λ_=>rfl) zw) (by rw[GR];exact hn')
     cases ff<;>(try simp only[]at q3)<;>first|exact q3.elim|exact absurd ⟨_,rfl⟩ hy|skip
     rename_i tF;obtain⟨fv,cv,e1,e2⟩:=callv tE h1 h2 q1 q2 hA;obtain⟨hcb,hq⟩:=q3;refine Fp ho (by rw[hw,tP]) sg (Mo tE e1 hcb) ?_;refine⟨by simp [FR,Fence.wide],?_⟩;have uN:=hq g w _ hR e2;simp only[rF]at uN;refine(callsIn_wide (n:=0-1)).2 (uN.mono ?_);rintro e w' ⟨g',out,H',n',hr,he,r1,hn',t1⟩;cases e with
     |outgrown=>cases out<;>exact he.elim
     |panicked ch=>
      cases out with
      |ret v=>exact he.elim
      |tJ v=>
       obtain⟨x,rfl,k1⟩:=he;exact hQ _ _ _ _ _ _ hr ⟨g',x,r1,hT.trans (t1.floor hmn),zo,rfl,k1,hD.step t1⟩
     |returned x=>
      cases out with
      |tJ v=>exact he.elim
      |ret v=>exact hK _ _ _ hr (GB (s:=s) (s1:={s with H:=H',n:=n'}) (base:=s.n) hT zp hmn hE rfl hN hD hd r1 t1 (λ_=>he) zw) (by rw[GR];exact hn')
   ·cases hk
  case builtin b=>
   cases b;case append=>
    simp only[tE,BD]at hk;split at hk
    ·rename_i t u x y hts uv;have e1:ts= #[t,u]:=by apply qe;simpa using hts
     have e2:args= #[x,y]:=by apply qe;simpa using uv
     subst e1;subst e2;split at hk
     ·rename_i e x' y' hu hx hy;have srcv:∀{inf:TypeInfo} {str:Bool} {l':List Fs},(str=true->inf.size=1)->AP g (AV s.env y') (a.eval y)->CG s.H (AV s.env) inf.size y' str=some l'->gD P g w inf.size l' (a.eval y):=by
       intro inf str l' h6 hvy hB;cases str with
       |true=>
        simp only[CG]at hB;generalize AV s.env y'=yv at hB hvy;cases yv<;>(try simp only[]at hB)<;>first|(cases hB;done)|skip
        cases hB;rw[h6 rfl];exact Pi hvy
       |false=>
        simp only[CG]at hB;generalize AV s.env y'=yv at hB hvy;cases yv<;>(try simp only[]at hB)<;>first|(cases hB;done)|skip
        ·split at hB
         ·rename_i hc;cases hB;exact Yt hR hvy hc
         ·cases hB
        ·split at hB
         ·rename_i ho;split at hB
          ·rename_i hc;obtain⟨c1,c2,c3⟩:=hc;subst c1;subst c2;cases hB;exact Uf hR hvy ho c3
          ·cases hB
         ·cases hB
      have appr:∀{inf:TypeInfo} {za:Fs} {du:TypeDesc} {str:Bool},P.info? e=some inf->B6 P e=some za->P.underlying u=some du->(∀k,du≠ .int k)->k= .uF i inf.size inf.bytes za x' y' str->(str=true->inf.size=1)->
        wpOpIn (FR r) 0 P ops Qc i Kc a w:=by
       intro inf za du str h1 h2 h3 h4 h5 h6;subst h5;obtain⟨sV,q⟩:=sY.1 tP;have s5:base+i<s.n:=hbn rfl;have hvx:=opv sV x x' hx (by simp [Io.sF]);have hvy:=opv sV y y' hy (by simp [Io.sF]);simp only[BB]at q;obtain⟨v,w',g',H',v',p1,p2,p3,p4,p5⟩:=S9 (m:=base) (ty:=o.type) (K:=λH' v=>K ({s with H:=H'}.put o.dst true v)) hR hu h3 h4 h1 h2 hvx (λl' hl'=>srcv h6 hvy hl') s5 (py _ _) q;exact uG tP (by simp [execOp,tE,resolve,invoke,builtin,p1]) p2 p3 p4 p5
      have app:∀{inf:TypeInfo} {za:Fs} {du:TypeDesc} {str:Bool},P.info? e=some inf->B6 P e=some za->P.underlying u=some du->(∀k,du≠ .int k)->k= .app i inf.size inf.bytes x' y' str->(str=true->inf.size=1)->
        wpOpIn (FR r) 0 P ops Qc i Kc a w:=by
       intro inf za du str h1 h2 h3 h4 h5 h6;subst h5;obtain⟨sV,q⟩:=sY.1 tP;have s5:base+i<s.n:=hbn rfl;have hvx:=opv sV x x' hx (by simp [Io.sF]);have hvy:=opv sV y y' hy (by simp [Io.sF]);simp only[BB]at q;generalize hA:AV s.env x'=av at q hvx;generalize hB:CG s.H (AV s.env) inf.size y' str=bv at q;cases av<;>(try simp only[]at q)<;>first|exact q.elim|skip
       rename_i tok l;cases bv<;>(try simp only[]at q)<;>first|exact q.elim|skip
       rename_i l';obtain⟨q1,q2,q3,q4,q5,hKs⟩:=q;have hsrc:gD P g w inf.size l' (a.eval y):=by
        cases str with
        |true=>
         simp only[CG]at hB;generalize AV s.env y'=yv at hB hvy;cases yv<;>(try simp only[]at hB)<;>first|(cases hB;done)|skip
         cases hB;rw[h6 rfl];exact Pi hvy
        |false=>
         simp only[CG]at hB;generalize AV s.env y'=yv at hB hvy;cases yv<;>(try simp only[]at hB)<;>first|(cases hB;done)|skip
         ·split at hB
          ·rename_i hc;cases hB;exact Yt hR hvy hc
          ·cases hB
         ·split at hB
          ·rename_i ho;split at hB
           ·rename_i hc;obtain⟨c1,c2,c3⟩:=hc;subst c1;subst c2;cases hB;exact Uf hR hvy ho c3
           ·cases hB
          ·cases hB
       obtain⟨v,w',g',p1,p2,p3,p4,p5⟩:=WH (m:=base) (ty:=o.type) hR hu h3 h4 h1 h2 hvx hsrc q1 s5 (py _ _) q2 q3 q4;exact uG tP (by simp [execOp,tE,resolve,invoke,builtin,p1]) p2 p3 p4 hKs
      have appz:∀{inf:TypeInfo} {za:Fs} {kn:IntKind},P.info? e=some inf->B6 P e=some za->P.underlying u=some (.int kn)->k= .appZ i inf.size inf.bytes za x' y'->
        wpOpIn (FR r) 0 P ops Qc i Kc a w:=by
       intro inf za kn h1 h2 h3 h5;subst h5;obtain⟨sV,q⟩:=sY.1 tP;have s5:base+i<s.n:=hbn rfl;have hvx:=opv sV x x' hx (by simp [Io.sF]);have hvy:=opv sV y y' hy (by simp [Io.sF]);simp only[BB]at q;obtain⟨v,w',g',H',v',p1,p2,p3,p4,p5⟩:=S8 (m:=base) (ty:=o.type) (K:=λH' v=>K ({s with H:=H'}.put o.dst true v)) hR hu h3 h1 h2 hvx hvy s5 (py _ _) q;exact uG tP (by simp [execOp,tE,resolve,invoke,builtin,p1]) p2 p3 p4 p5
      split at hk
      ·rename_i inf za h1 h2 h3;split at hk
       ·rename_i uJ;cases mkv with
        |true=>cases hk;exact appr h1 h2 h3 zw rfl (λ_=>uJ)
        |false=>cases hk;exact app h1 h2 h3 zw rfl (λ_=>uJ)
       ·cases hk
      ·rename_i inf za e' h1 h2 h3;split at hk
       ·cases mkv with
        |true=>cases hk;exact appr h1 h2 h3 zw rfl zw
        |false=>cases hk;exact app h1 h2 h3 zw rfl zw
       ·cases hk
      ·rename_i inf za kn h1 h2 h3;cases hk;exact appz h1 h2 h3 rfl
      ·cases hk
     ·cases hk
    ·cases hk
   case len=>
    by_cases hp:∃t x kt e,ts.toList=[t]/\args.toList=[x]/\P.underlying t=some (.map kt e)
    ·obtain⟨t,x,kt,e,hts,uv,hu⟩:=hp;have e1:ts= #[t]:=by apply qe;simpa using hts
     have e2:args= #[x]:=by apply qe;simpa using uv
     subst e1;subst e2;simp only[tE,BD,hu]at hk;cases hx:Aw x with
     |none=>simp [hx]at hk
     |some x'=>
      simp [hx]at hk;subst hk;obtain⟨sV,q1,q2⟩:=sY.1 tP;simp only[oL,pc]at q1 q2;obtain⟨p1,v,p2,p3⟩:=S7 (ty:=o.type) hR hu (opv sV x x' hx (by simp [Io.sF])) q1;rw[p1]at q2;exact uG tP (by simp [execOp,tE,resolve,invoke,builtin,p2]) p3 hR (q8.refl _ _ _ _) q2
    ·cases hts:ts.toList with
     |nil=>rw[tE]at hk;simp [BD,hts]at hk
     |cons t tr=>
      cases tr with
      |cons _ _=>rw[tE]at hk;simp [BD,hts]at hk
      |nil=>
       cases uv:args.toList with
       |nil=>rw[tE]at hk;simp [BD,hts,uv]at hk
       |cons x xr=>
        cases xr with
        |cons _ _=>rw[tE]at hk;simp [BD,hts,uv]at hk
        |nil=>
         refine other ?_;rw[tE];simp only[BD,hts,uv];split
         ·rename_i kt e hu;exact absurd ⟨t,x,kt,e,hts,uv,hu⟩ hp
         ·rfl
   case copy=>
    simp only[tE,BD]at hk;split at hk
    ·rename_i t u x y hts uv;have e1:ts= #[t,u]:=by apply qe;simpa using hts
     have e2:args= #[x,y]:=by apply qe;simpa using uv
     subst e1;subst e2;split at hk
     ·rename_i e x' y' hu hx hy;have fin:∀{inf:TypeInfo} {str:Bool},P.info? e=some inf->(str=true->inf.size=1)->k= .ext (.cpy inf.size str) [x',y']->wpOpIn (FR r) 0 P ops Qc i Kc a w:=by
       intro inf str h1 h6 h5;subst h5;obtain⟨sV,q1,q2⟩:=sY.1 tP;simp only[oL,pc]at q1 q2;obtain⟨v,w',p1,p2,p3,p4⟩:=OZ (m:=base) (u:=u) (ty:=o.type) hR hu h1 h6 (opv sV x x' hx (by simp [Io.sF])) (opv sV y y' hy (by simp [Io.sF])) q1;exact uG tP (by simp [execOp,tE,resolve,invoke,builtin,p1]) p2 p3 p4 q2
      split at hk
      ·rename_i inf h1 h2;split at hk
       ·rename_i uJ;cases hk;exact fin h1 (λ_=>uJ) rfl
       ·cases hk
      ·rename_i inf e' h1 h2;by_cases hb:mkv=true/\inf.size=1
       ·rw[oE hb]at hk;cases hk;obtain⟨sV,q1,q2⟩:=sY.1 tP;simp only[oL,pc]at q1 q2;obtain⟨v,w',p1,p2,p3,p4⟩:=WS (m:=base) (u:=u) (ty:=o.type) hR hu h1 hb.2 (opv sV x x' hx (by simp [Io.sF])) (opv sV y y' hy (by simp [Io.sF])) q1;exact uG tP (by simp [execOp,tE,resolve,invoke,builtin,p1]) p2 p3 p4 q2
       ·rw[og hb]at hk;cases hk;exact fin h1 zw rfl
      ·cases hk
     ·cases hk
    ·cases hk
   all_goals exact other (by rw[tE];first|rfl|simp [BD])
 case buildSlice t len parts=>
  simp only[tE,BD]at hk;cases mkv with
  |false=>
   simp only[oP,pb]at hk;cases h1:CD P false (.buildSlice t len parts)with
   |none=>simp [h1]at hk
   |some k'=>simp [h1]at hk;exact value (by rw[tE];exact h1) hk.symm
  |true=>
   simp only[pG]at hk;split at hk
   ·rename_i e hu;split at hk
    ·rename_i z sz ps hz tB hcp;cases hk;obtain⟨sV,q1,q2⟩:=sY.1 tP;simp only[xE]at q1 q2;have s5:base+i<s.n:=hbn rfl;obtain⟨v,w',g',p1,p2,p3,p4,p5⟩:=WK (m:=base) hR hu hz tB hcp (λx x' a b=>opv sV x x' a b) q1.1 s5 (py _ _) q1.2.1 q1.2.2.2;exact uG tP (by simp [execOp,tE,p1]) p2 p3 p4 q2
    ·cases hk
   ·cases hk
 case makeMap t r=>
  cases r with
  |some r=>rw[tE]at hk;simp [BD,CD]at hk
  |none=>
   simp only[tE,BD]at hk;split at hk
   ·rename_i kt e hu;cases hk;obtain⟨sV,q1,q2⟩:=sY.1 tP;simp only[pc,xE]at q1 q2;have s5:base+i<s.n:=hbn rfl;obtain⟨v,w',g',p1,p2,p3,p4⟩:=WO (m:=base) (P:=P) hR q1 s5 (py _ _) t;exact uG tP (by simp [execOp,tE,p1]) p2 p3 p4 q2
   ·cases hk
 case lookup t x ix ok=>
  simp only[tE,BD]at hk;split at hk
  ·rename_i kt e x' ix' hu hx hix;split at hk
   ·rename_i kk z h1 h2;cases hk;obtain⟨sV,q1,q2⟩:=sY.1 tP;simp only[oL,pc]at q1 q2;obtain⟨p1,v,p2,p3⟩:=S4 hR hu h1 h2 (opv sV x x' hx (by simp [Io.sF])) (opv sV ix ix' hix (by simp [Io.sF])) q1;rw[p1]at q2;exact uG tP (by simp [execOp,tE,p2]) p3 hR (q8.refl _ _ _ _) q2
   ·cases hk
  ·cases hk
 case mapUpdate t mm kk x=>exact put (t:=t) (mm:=mm) (kk:=kk) (x:=x) (by rw[tE]at hk;exact hk) (by simp [execOp,tE])
 case insert t mm kk x=>exact put (t:=t) (mm:=mm) (kk:=kk) (x:=x) (by rw[tE]at hk;exact hk) (by simp [execOp,tE])
 case range t x=>
  simp only[tE,BD]at hk;split at hk
  ·rename_i x' hu hx;cases hk;obtain⟨sV,q1,q2⟩:=sY.1 tP;simp only[oL,pc]at q1 q2;have hv:=opv sV x x' hx (by simp [Io.sF]);generalize AV s.env x'=av at hv q1 q2;cases av<;>simp only[xE]at q1 q2<;>(try exact q1.elim);rename_i sv;have hv':a.eval x= .string ⟨sv.toArray⟩:=hv;have s5:base+i<s.n:=hbn rfl;obtain⟨v,w',g',p1,p2,p3,p4⟩:=S1 (m:=base) hR q1 s5 (py _ _) hu sv;exact uG tP (by simp [execOp,tE,hv',p1]) p2 p3 p4 q2
  ·rename_i kt e x' hu hx;cases hk;obtain⟨sV,q1,q2⟩:=sY.1 tP;simp only[oL,pc]at q1 q2;have hv:=opv sV x x' hx (by simp [Io.sF]);generalize AV s.env x'=av at hv q1 q2;cases av<;>simp only[xE]at q1 q2<;>(try exact q1.elim);rename_i mi;cases hh:AD s.H mi with
   |none=>rw[hh]at q1;exact q1.elim
   |some ob=>
    rw[hh]at q1 q2;cases ob<;>simp only[]at q1 q2<;>(try exact q1.elim);have s5:base+i<s.n:=hbn rfl;obtain⟨v,w',g',p1,p2,p3,p4⟩:=S2 (m:=base) (P:=P) hR q1 s5 (py _ _) hu hh hv;exact uG tP (by simp [execOp,tE,p1]) p2 p3 p4 q2
  ·cases hk
 case next x b=>
  cases b with
  |false=>
   simp only[tE,BD]at hk;cases hx:Aw x with
   |none=>simp [hx]at hk
   |some x'=>
    simp [hx]at hk;subst hk;obtain⟨sV,q1⟩:=sY.1 tP;have q1:Ik s.H (λH' v=>K ({s with H:=H'}.put o.dst true v)) (AV s.env x'):=by simpa [BB]using q1
    obtain⟨v,w',g',H',v',p1,p2,p3,p4,p5⟩:=WP (m:=base) (P:=P) (ty:=o.type) (K:=λH' v=>K ({s with H:=H'}.put o.dst true v)) hR (opv sV x x' hx (by simp [Io.sF])) q1;exact uG tP (by simp [execOp,tE,p1]) p2 p3 p4 p5
  |true=>
   simp only[tE,BD]at hk;cases hx:Aw x with
   |none=>simp [hx]at hk
   |some x'=>
    simp [hx]at hk;subst hk;obtain⟨sV,q1,q2⟩:=sY.1 tP;simp only[oL,pc]at q1 q2;have hv:=opv sV x x' hx (by simp [Io.sF]);generalize AV s.env x'=av at hv q1 q2;cases av<;>simp only[xE]at q1 q2<;>(try exact q1.elim);rename_i id off;cases off with
    |succ o=>simp []at q1
    |zero=>
     simp only[]at q1 q2;cases hh:AD s.H id with
     |none=>rw[hh]at q1;exact q1.elim
     |some ob=>
      rw[hh]at q1 q2;cases ob<;>simp only[]at q1 q2<;>(try exact q1.elim);obtain⟨v,w',p1,p2,p3,p4⟩:=RP (m:=base) (P:=P) hR hh hv o.type;exact uG tP (by simp [execOp,tE,p1]) p2 p3 p4 q2
 case entry x=>
  simp only[tE,BD]at hk;cases hx:Aw x with
  |none=>simp [hx]at hk
  |some x'=>
   simp [hx]at hk;subst hk;obtain⟨sV,q1,q2⟩:=sY.1 tP;simp only[oL,pc]at q1 q2;obtain⟨p1,v,p2,p3⟩:=S3 (P:=P) (w:=w) hR (opv sV x x' hx (by simp [Io.sF])) q1;rw[p1]at q2;exact uG tP (by simp [execOp,tE,p2]) p3 hR (q8.refl _ _ _ _) q2
 case convert sT dT x=>
  by_cases hp:∃k,P.underlying sT=some (.int k)/\P.underlying dT=some .string
  ·obtain⟨kk,h1,h2⟩:=hp;simp only[tE,BD,h1,h2]at hk;cases hx:Aw x with
   |none=>simp [hx]at hk
   |some x'=>
    simp [hx]at hk;subst hk;obtain⟨sV,q1,q2⟩:=sY.1 tP;simp only[oL,pc]at q1 q2;have hv:=opv sV x x' hx (by simp [Io.sF]);generalize AV s.env x'=av at hv q1 q2;cases av<;>simp only[xE]at q1 q2<;>(try exact q1.elim);rename_i kx nx;have hv':a.eval x= .int kx nx:=hv;refine uG tP (v:=.str (Utf8.encode nx).data.toList) (x:=.string (Utf8.encode nx)) (w':=w) ?_ (by simp [AP]) hR (q8.refl _ _ _ _) q2;simp [execOp,tE,hv',run_convert_int_string w sT dT kx nx (by rw[h1];rfl) h2]
  ·refine other ?_;rw[tE];simp only[BD];split
   ·rename_i kk h1 h2;exact absurd ⟨kk,h1,h2⟩ hp
   ·rfl
 case binOp bo t X Y yt=>
  by_cases hp:(bo= .eql\/bo= .neq)/\∃c kd,Y= .const c/\PZ P t c=some kd
  ·obtain⟨am,c,kd,rfl,hnt⟩:=hp;obtain⟨nq,hq⟩:∃nq:Bool,(bo= .eql/\nq=false)\/(bo= .neq/\nq=true):=am.elim (λh=>⟨false,.inl ⟨h,rfl⟩⟩) (λh=>⟨true,.inr ⟨h,rfl⟩⟩);have hk':(Aw X).map (λa=>Io.ext (.tH kd nq) [a])=some k:=by
    rcases hq with⟨rfl,rfl⟩|⟨rfl,rfl⟩<;>simpa [tE,BD,hnt]using hk
   cases hx:Aw X with
   |none=>simp [hx]at hk'
   |some x'=>
    simp [hx]at hk';subst hk';obtain⟨sV,q1,q2⟩:=sY.1 tP;simp only[oL,pc]at q1 q2;obtain⟨p1,v,p2,p3⟩:=RQ (P:=P) (w:=w) (X:=X) hq hnt (opv sV X x' hx (by simp [Io.sF])) q1;rw[p1]at q2;refine uG tP ?_ p3 hR (q8.refl _ _ _ _) q2;have hc:a.eval (.const c)=c:=rfl;simp only[Sem.run_bind]at p2;cases he:Sem.run P (eqGuard bo t X (.const c) (a.eval X) c) w<;>simp [he,Result.andThen]at p2;rename_i u w2;have p4:(Sem.run P (binOp bo t (a.eval X) c) w2)= .ok v w:=by simpa [Result.andThen]using p2
    simp [execOp,tE,hc,he,Result.andThen,p4]
  ·by_cases hp2:(bo= .eql\/bo= .neq)/\∃c,Y= .const c/\OM P t c=true
   ·obtain⟨am,c,rfl,hns⟩:=hp2;have hnt:PZ P t c=none:=by
     cases q:PZ P t c with
     |none=>rfl
     |some kd=>exact absurd ⟨am,c,kd,rfl,q⟩ hp
    obtain⟨nq,hq⟩:∃nq:Bool,(bo= .eql/\nq=false)\/(bo= .neq/\nq=true):=am.elim (λh=>⟨false,.inl ⟨h,rfl⟩⟩) (λh=>⟨true,.inr ⟨h,rfl⟩⟩);have hk':(Aw X).map (λa=>Io.nils nq a)=some k:=by
     rcases hq with⟨rfl,rfl⟩|⟨rfl,rfl⟩<;>simpa [tE,BD,hnt,hns]using hk
    cases hx:Aw X with
    |none=>simp [hx]at hk'
    |some x'=>
     simp [hx]at hk';subst hk';obtain⟨sV,q1⟩:=sY.1 tP;obtain⟨b,p2,p3⟩:=S6 (P:=P) (w:=w) (X:=X) (K:=λb=>K (s.put o.dst true (.bool b))) hq hns (opv sV X x' hx (by simp [Io.sF])) (show Gs _ _ _ from q1);refine uG tP (v:=.bool b) (x:=.bool b) (w':=w) ?_ rfl hR (q8.refl _ _ _ _) p3;have hc:a.eval (.const c)=c:=rfl;simp only[Sem.run_bind]at p2;cases he:Sem.run P (eqGuard bo t X (.const c) (a.eval X) c) w<;>simp [he,Result.andThen]at p2;rename_i u w2;have p4:(Sem.run P (binOp bo t (a.eval X) c) w2)= .ok (.bool b) w:=by simpa [Result.andThen]using p2
     simp [execOp,tE,hc,he,Result.andThen,p4]
   refine other ?_;rw[tE];have a1:∀c,(bo= .eql\/bo= .neq)->Y= .const c->PZ P t c=none:=λc h1 h2=>by
    cases q:PZ P t c with
    |none=>rfl
    |some kd=>exact absurd ⟨h1,c,kd,h2,q⟩ hp
   have a2:∀c,(bo= .eql\/bo= .neq)->Y= .const c->¬OM P t c=true:=λc h1 h2 q=>hp2 ⟨h1,c,h2,q⟩
   cases bo<;>cases Y<;>first|rfl|(rename_i c;simp only[BD];rw[a1 c zw rfl];simp only[a2 c zw rfl];done)|(rename_i c;simp only[BD];rw[a1 c zw rfl];simp only[];rw[og (a2 c zw rfl)])
 case typeAssert x xt t ok=>
  simp only[tE,BD]at hk;split at hk
  ·cases hk
  ·rename_i hi;split at hk
   ·rename_i x' z hx hz;cases hk;obtain⟨sV,q1,q2⟩:=sY.1 tP;simp only[oL,pc]at q1 q2;obtain⟨p1,v,p2,p3⟩:=WQ (xt:=xt) (w:=w) (by simpa using hi) hz (opv sV x x' hx (by simp [Io.sF])) q1;rw[p1]at q2;exact uG tP (by simp [execOp,tE,p2]) p3 hR (q8.refl _ _ _ _) q2
   ·cases hk
 all_goals exact other (by rw[tE];first|rfl|simp [BD])
end
end
section
def Ld:Option (Bool×Fs)->Option (Bool×Fs)->Prop
 |none,none=>True
 |some (g,v),some (g',v')=>g=g'/\(g=true->v=v')
 |_,_=>False
theorem Ld.rfl':∀x,Ld x x
 |none=>trivial
 |some (g,v)=>⟨rfl,λ_=>rfl⟩
theorem Ld.symm:∀{x y},Ld x y->Ld y x
 |none,none,_=>trivial
 |some _,some _,⟨h1,h2⟩=>⟨h1.symm,λh=>(h2 (h1▸h)).symm⟩
 |none,some _,h=>h.elim
 |some _,none,h=>h.elim
theorem Ld.trans:∀{x y z},Ld x y->Ld y z->Ld x z
 |none,none,none,_,_=>trivial
 |some _,some _,some _,⟨h1,h2⟩,⟨h3,h4⟩=>⟨h1.trans h3,λh=>(h2 h).trans (h4 (h1▸h))⟩
 |none,some _,_,h,_=>h.elim
 |some _,none,_,h,_=>h.elim
 |none,none,some _,_,h=>h.elim
 |some _,some _,none,_,h=>h.elim
def K9(kp:List Nat)(s s':AS):Prop:=(∀t,Ld (BC s.env t) (BC s'.env t)/\(t∈kp->BC s.env t=BC s'.env t))/\s.H=s'.H/\s.n=s'.n
def K9.trans{kp:List Nat}{a b c:AS}(h:K9 kp a b)(k:K9 kp b c):K9 kp a c:=
 ⟨λt=>⟨(h.1 t).1.trans (k.1 t).1,λm=>((h.1 t).2 m).trans ((k.1 t).2 m)⟩,h.2.1.trans k.2.1,h.2.2.trans k.2.2⟩
def Fg(o:xj)(env va:List (Nat×Bool×Fs)):Prop:=
 (∀i,zx.t i∈o.k.sF->Ld (BC env i) (BC va i))/\∀i w,o.guard=some (i,w)->Ld (BC env i) (BC va i)
variable {o:xj} {env va:List (Nat×Bool×Fs)}
theorem gE{i:Nat}(h:Ld (BC env i) (BC va i)):(lk env (.t i)).1=(lk va (.t i)).1/\((lk env (.t i)).1=true->AV env (.t i)=AV va (.t i)):=by
 simp only[lk,AV];cases h1:BC env i with
 |none=>cases h2:BC va i with
  |none=>simp
  |some y=>simp [h1,h2,Ld]at h
 |some x=>cases h2:BC va i with
  |none=>simp [h1,h2,Ld]at h
  |some y=>
   obtain⟨g,v⟩:=x;obtain⟨g',v'⟩:=y;simp only[h1,h2,Ld]at h;exact h
theorem ER(h:Fg o env va){x:zx}(hx:x∈o.k.sF):
  (lk env x).1=(lk va x).1/\((lk env x).1=true->AV env x=AV va x):=by
 cases x with
 |t i=>exact gE (h.1 i hx)
 |c v=>exact⟨rfl,λ_=>rfl⟩
theorem Cn(h:Fg o env va):GQ env o.guard->GQ va o.guard:=by
 cases hg:o.guard with
 |none=>exact id
 |some gw=>
  obtain⟨i,w⟩:=gw;have h1:=h.2 i w hg;simp only[GQ];cases e1:BC env i with
  |none=>intro h;exact h.elim
  |some x=>cases e2:BC va i with
   |none=>simp [e1,e2,Ld]at h1
   |some y=>
    obtain⟨g,v⟩:=x;obtain⟨g',v'⟩:=y;simp only[e1,e2,Ld]at h1;intro k q;have:=h1.1;subst this;rw[<-h1.2 q];exact k q
theorem ES(h:Fg o env va):Be env o.guard=Be va o.guard:=by
 cases hg:o.guard with
 |none=>rfl
 |some gw=>
  obtain⟨i,w⟩:=gw;have h1:=gE (h.2 i w hg);simp only[Be];rw[<-h1.1];cases hh:(lk env (.t i)).1 with
  |false=>rfl
  |true=>rw[h1.2 hh]
theorem Pm:∀{l:List zx},Bz env l↔∀x∈l,(lk env x).1=true
 |[]=>by simp [Bz]
 |y::l=>by simp [Bz,Pm (l:=l)]
theorem Mq(h:Fg o env va){l:List zx}(hl:∀x∈l,x∈o.k.sF):Bz env l->Bz va l:=by grind [Pm,ER]
theorem Mr(h:Fg o env va){l:List zx}(hl:∀x∈l,x∈o.k.sF)(t9:Bz env l):∀x∈l,AV env x=AV va x:=
 λx hx=>(ER h (hl x hx)).2 (Pm.1 t9 x hx)
theorem Oa{H:AB}{ρ ρ':zx->Fs}:∀(k:x0),(∀x∈k.sF,ρ x=ρ' x)->BN H ρ k=BN H ρ' k:=by
 intro k h;cases k with
 |mnmx mx kk xs=>
  simp only[x0.sF]at h;have h1:(∀x∈xs,Iv kk (ρ x))↔∀x∈xs,Iv kk (ρ' x):=⟨λa x hx=>h x hx▸a x hx,λa x hx=>(h x hx).symm▸a x hx⟩;simp only[BN,YS,h1];congr 2;cases xs with
  |nil=>rfl
  |cons x r=>
   simp only[];rw[h x zw];have:∀(l:List zx) (m:Int),(∀y∈l,ρ y=ρ' y)->l.foldl (λm y=>if mx=true then max m (BV (ρ y))else min m (BV (ρ y))) m=l.foldl (λm y=>if mx=true then max m (BV (ρ' y))else min m (BV (ρ' y))) m:=by
    intro l;induction l with
    |nil=>intros;rfl
    |cons y l ih=>intro m hl;simp only[qc];rw[hl y zw];exact ih _ λz hz=>hl z (by simp [hz])
   exact this r _ λy hy=>h y (by simp [hy])
 |build z ps=>
  simp only[x0.sF,pz]at h;have h0:∀p∈ps,ρ p.2.2=ρ' p.2.2:=λp hp=>h _ ⟨p,hp,rfl⟩
  have h1:(∀p∈ps,nT (ρ p.2.2)/\(ρ p.2.2).cells.length=p.2.1/\p.1+p.2.1<=z.length)↔∀p∈ps,nT (ρ' p.2.2)/\(ρ' p.2.2).cells.length=p.2.1/\p.1+p.2.1<=z.length:=
   ⟨λa p hp=>h0 p hp▸a p hp,λa p hp=>(h0 p hp).symm▸a p hp⟩
  simp only[BN,evB,h1];congr 2;have:∀(l:List (Nat×Nat×zx)) (m:List Fs),(∀p∈l,ρ p.2.2=ρ' p.2.2)->l.foldl (λcs p=>sQ cs p.1 (ρ p.2.2).cells) m=l.foldl (λcs p=>sQ cs p.1 (ρ' p.2.2).cells) m:=by
   intro l;induction l with
   |nil=>intros;rfl
   |cons y l ih=>intro m hl;simp only[qc];rw[hl y zw];exact ih _ λz hz=>hl z (by simp [hz])
  exact this ps _ h0
 |bs e n z ps=>
  simp only[x0.sF,pz]at h;have h0:∀p∈ps,ρ p.2=ρ' p.2:=λp hp=>h _ ⟨p,hp,rfl⟩
  have h1:(∀p∈ps,nT (ρ p.2)/\(ρ p.2).cells.length=e/\p.1<n)↔∀p∈ps,nT (ρ' p.2)/\(ρ' p.2).cells.length=e/\p.1<n:=
   ⟨λa p hp=>h0 p hp▸a p hp,λa p hp=>(h0 p hp).symm▸a p hp⟩
  simp only[BN,evS,h1];congr 2;have:∀(l:List (Nat×zx)) (m:List Fs),(∀p∈l,ρ p.2=ρ' p.2)->l.foldl (λl p=>l.set p.1 (ρ p.2)) m=l.foldl (λl p=>l.set p.1 (ρ' p.2)) m:=by
   intro l;induction l with
   |nil=>intros;rfl
   |cons y l ih=>intro m hl;simp only[qc];rw[hl y zw];exact ih _ λz hz=>hl z (by simp [hz])
  exact this ps _ h0
 |fn f a b=>
  simp only[x0.sF,pI]at h;simp only[BN];rw[pC (λx hx=>h x (.inl hx)),pC (λx hx=>h x (.inr hx))]
 |slS x lo hi=>
  have hx:=h x (by simp [x0.sF]);have hl:∀y,lo=some y->ρ y=ρ' y:=λy e=>h y (by simp [x0.sF,e])
  have hh:∀y,hi=some y->ρ y=ρ' y:=λy e=>h y (by simp [x0.sF,e])
  cases lo<;>cases hi<;>simp only[BN,sS,CK,hx]<;>(try rw[hl _ rfl])<;>(try rw[hh _ rfl])
 |slp n x lo hi=>
  have hx:=h x (by simp [x0.sF]);have hl:∀y,lo=some y->ρ y=ρ' y:=λy e=>h y (by simp [x0.sF,e])
  have hh:∀y,hi=some y->ρ y=ρ' y:=λy e=>h y (by simp [x0.sF,e])
  cases lo<;>cases hi<;>simp only[BN,sS,CK,hx]<;>(try rw[hl _ rfl])<;>(try rw[hh _ rfl])
 |sl e x lo hi mx=>
  have hx:=h x (by simp [x0.sF]);have hl:∀y,lo=some y->ρ y=ρ' y:=λy e=>h y (by simp [x0.sF,e])
  have hh:∀y,hi=some y->ρ y=ρ' y:=λy e=>h y (by simp [x0.sF,e])
  have hm:∀y,mx=some y->ρ y=ρ' y:=λy e=>h y (by simp [x0.sF,e])
  have b1:∀d,sS ρ d lo=sS ρ' d lo:=by intro d;cases lo with
   |none=>rfl
   |some y=>simp only[sS];rw[hl y rfl]
  have b2:∀d,sS ρ d hi=sS ρ' d hi:=by intro d;cases hi with
   |none=>rfl
   |some y=>simp only[sS];rw[hh y rfl]
  have b3:CK ρ lo=CK ρ' lo:=by cases lo with
   |none=>rfl
   |some y=>simp only[CK];rw[hl y rfl]
  have b4:CK ρ hi=CK ρ' hi:=by cases hi with
   |none=>rfl
   |some y=>simp only[CK];rw[hh y rfl]
  have b5:CK ρ mx=CK ρ' mx:=by cases mx with
   |none=>rfl
   |some y=>simp only[CK];rw[hm y rfl]
  have b6:(mx.map λm=>BV (ρ m))=mx.map λm=>BV (ρ' m):=by cases mx with
   |none=>rfl
   |some y=>simp only[pr];rw[hm y rfl]
  have b7:∀(a b:Int),(∀m,mx=some m->a<=BV (ρ m)/\BV (ρ m)<=b)=∀m,mx=some m->a<=BV (ρ' m)/\BV (ρ' m)<=b:=by simp_all
  have b8:∀(id e' off len cap:Nat),GP e ρ lo hi id e' off len cap mx=GP e ρ' lo hi id e' off len cap mx:=λid e' off len cap=>by
   cases mx with
   |none=>simp only[GP,b1,b2,b3,b4]
   |some m=>simp only[GP,b1,b2,b3,b4,hm m rfl]
  simp only[BN,hx,b1,b2,b3,b4,b5,b6,b7,b8]
 |_=>first
  |(simp only[x0.sF,ph,qV,or_false,forall_eq_or_imp,forall_eq]at h;simp only[BN,h];done)
  |(simp only[x0.sF,ph,qV,or_false,forall_eq_or_imp,forall_eq]at h;obtain⟨h1,h2⟩:=h;simp only[BN,h1,h2])
end
section
variable {P:Program} {Qp:Fs->AB->Nat->Prop} {base:Nat}
theorem Fq(s:AS)(d:Option Nat)(g:Bool)(v:Fs)(t:Nat):BC (s.put d g v).env t=if d=some t then some (g,v)else BC s.env t:=by
 cases d with
 |none=>simp [AS.put]
 |some d=>simp [AS.put,BC]
theorem Br(s:AS)(d:Option Nat)(g:Bool)(v:Fs):(s.put d g v).H=s.H:=by cases d<;>rfl
theorem D7(s:AS)(d:Option Nat)(g:Bool)(v:Fs):(s.put d g v).n=s.n:=by cases d<;>rfl
theorem CR{o:xj}{K K':AS->Prop}{s1 s:AS}(hl:Fg o s1.env s.env)(hH:s1.H=s.H)(hn:s1.n=s.n)
  (hK:∀H n g v v',(g=true->v=v')->(s1=s->v=v')->(o.guard=none->g=true)->K ({s1 with H:=H,n:=n}.put o.dst g v)->K' ({s with H:=H,n:=n}.put o.dst g v')):
  AX P Qp base o K s1->AX P Qp base o K' s:=by
 obtain⟨dst,guard,k⟩:=o;have hg:=ES hl;have hgn:guard=none->Be s1.env guard=true:=by rintro rfl;rfl
 simp only at hg hK;have rho:Bz s1.env k.sF->∀x∈k.sF,AV s1.env x=AV s.env x:=λh=>Mr hl (l:=k.sF) (λx hx=>hx) h
 have tT:Bz s1.env k.sF->Bz s.env k.sF:=Mq hl (l:=k.sF) (λx hx=>hx);rintro⟨h0,h1⟩;refine⟨Cn hl h0,?_⟩;cases k with
 |v k=>
  simp only at h1⊢;have e:Be s1.env guard=true->BN s1.H (AV s1.env) k=BN s.H (AV s.env) k:=λq=>by rw[hH];exact Oa k (rho (h1.1 q).1)
  refine⟨λq=>?_,?_⟩
  ·rw[<-hg]at q;exact⟨tT (h1.1 q).1,e q▸(h1.1 q).2⟩
  ·have:=hK s1.H s1.n _ _ (BN s.H (AV s.env) k).2 (λq=>by rw[e q]) (λq=>by rw[q]) hgn h1.2;rw[hH,hn,hg]at this;exact this
 |pick c a b=>
  simp only at h1⊢;have l1:=ER hl (x:=c) (by simp [Io.sF]);have l2:=ER hl (x:=a) (by simp [Io.sF]);have l3:=ER hl (x:=b) (by simp [Io.sF]);have ec:Be s1.env guard=true->AV s1.env c=AV s.env c:=λq=>l1.2 (h1.1 q).1
  have sd:Be s.env guard=true->(lk s.env c).1=true/\JV (AV s.env c)/\(FZ (AV s.env c)=true->(lk s.env a).1=true)/\(FZ (AV s.env c)=false->(lk s.env b).1=true):=λq=>by
   rw[<-hg]at q;obtain⟨q1,q2,q3,q4⟩:=h1.1 q;rw[ec q]at q2 q3 q4;rw[<-l1.1,<-l2.1,<-l3.1];exact⟨q1,q2,q3,q4⟩
  refine⟨sd,?_⟩;have:=hK s1.H s1.n _ _ (QF (FZ (AV s.env c)) (AV s.env a) (AV s.env b)) (λq=>by
   have hsel:∀(t:Bool) (x y x' y':Fs),(t=true->x=x')->(t=false->y=y')->QF t x y=QF t x' y':=by
    intro t x y x' y' p1 p2;cases t with
    |true=>have:=p1 rfl;subst this;cases x<;>cases y<;>cases y'<;>rfl
    |false=>have:=p2 rfl;subst this;cases y<;>cases x<;>cases x'<;>rfl
   rw[<-ec q];obtain⟨q1,q2,q3,q4⟩:=h1.1 q;exact hsel _ _ _ _ _ (λp=>l2.2 (q3 p)) (λp=>l3.2 (q4 p))) (λq=>by rw[q]) hgn h1.2
  rw[hH,hn,hg]at this;exact this
 |call qt f args=>
  cases qt with
  |true=>
   simp only at h1⊢;obtain⟨r,h1,h2⟩:=h1;refine⟨r,λq=>?_,?_⟩
   ·rw[<-hg]at q;obtain⟨q1,q2,q3⟩:=h1 q;have q5:Bz s1.env (Io.call true f args).sF:=⟨q1,q2⟩;have rh:=rho q5;have e1:AV s1.env f=AV s.env f:=rh f (by simp [Io.sF]);have e2:args.map (AV s1.env)=args.map (AV s.env):=pC λx hx=>rh x (by simp [Io.sF,hx])
    refine⟨(tT q5).1,(tT q5).2,?_⟩;rw[e1,e2,hH,hn]at q3;exact q3
   ·have:=hK s1.H s1.n _ _ r (λq=>rfl) (λq=>rfl) hgn h2;rw[hH,hn,hg]at this;exact this
  |false=>
   simp only at h1⊢;rw[<-hg];refine⟨λq=>?_,λq=>?_⟩
   ·obtain⟨q1,q2⟩:=h1.1 q;refine⟨tT q1,?_⟩;have rh:=rho q1;have e1:AV s1.env f=AV s.env f:=rh f (by simp [Io.sF]);have e2:args.map (AV s1.env)=args.map (AV s.env):=pC λx hx=>rh x (by simp [Io.sF,hx])
    simp only[BB]at q2⊢;rw[e1,e2,hH,hn]at q2;generalize AV s.env f=fv at q2⊢;cases fv<;>(try simp only[]at q2)<;>first|exact q2.elim|skip
    rename_i ff first cap
    cases ff with
    |func tF=>
     refine AO.mono q2 λout H' n' hh=>?_
     cases out with
     |ret v=>exact hK H' n' true v v (λ_=>rfl) (λ_=>rfl) (λ_=>rfl) hh
     |tJ v=>exact hh
    |yield l=>
     cases first with
     |cons _ _=>exact q2.elim
     |nil=>cases cap with
      |cons _ _=>exact q2.elim
      |nil=>exact Cf.mono q2 λb H' n' hh=>hK H' n' true (.bool b) (.bool b) (λ_=>rfl) (λ_=>rfl) (λ_=>rfl) hh
    |_=>exact q2.elim
   ·have:=hK s1.H s1.n false (.sH []) (.sH []) zw (λ_=>rfl) (λq'=>by have:=hgn q';rw[q]at this;cases this) (h1.2 q);rw[hH,hn]at this;exact this
 |tJ x=>
  simp only at h1⊢;rw[<-hg];refine⟨λq=>?_,λq=>?_⟩
  ·simp_all [Io.sF,BB]
  ·have:=hK s1.H s1.n false (.sH []) (.sH []) zw (λ_=>rfl) (λq'=>by have:=hgn q';rw[q]at this;cases this) (h1.2 q);rw[hH,hn]at this;exact this
 |ext x xs=>
  simp only at h1⊢;rw[<-hg];refine⟨λq=>?_,λq=>?_⟩
  ·obtain⟨q1,q2⟩:=h1.1 q;refine⟨tT q1,?_⟩;have rh:=rho q1;have e2:xs.map (AV s1.env)=xs.map (AV s.env):=pC λz hz=>rh z (by simp [Io.sF,hz])
   simp only[BB]at q2⊢;rw[e2,hH]at q2;refine⟨q2.1,?_⟩;have:=hK _ s1.n true _ _ (λ_=>rfl) (λ_=>rfl) (λ_=>rfl) q2.2;rw[hn]at this;exact this
  ·have:=hK s1.H s1.n false (.sH []) (.sH []) zw (λ_=>rfl) (λq'=>by have:=hgn q';rw[q]at this;cases this) (h1.2 q);rw[hH,hn]at this;exact this
 |uF rel esz bytes zero x y str=>
  simp only at h1⊢;rw[<-hg];refine⟨λq=>?_,λq=>?_⟩
  ·obtain⟨q1,q2⟩:=h1.1 q;refine⟨tT q1,?_⟩;have rh:=rho q1;have e1:AV s1.env x=AV s.env x:=rh x (by simp [Io.sF]);have e2:CG s1.H (AV s1.env) esz y str=CG s.H (AV s.env) esz y str:=by simp_all [Io.sF,CG]
   simp only[BB]at q2⊢;rw[e1,e2,hH]at q2;refine Hd (λH' v hh=>?_) q2;have:=hK H' s1.n true _ _ (λ_=>rfl) (λ_=>rfl) (λ_=>rfl) hh;rw[hn]at this;exact this
  ·have:=hK s1.H s1.n false (.sH []) (.sH []) zw (λ_=>rfl) (λq'=>by have:=hgn q';rw[q]at this;cases this) (h1.2 q);rw[hH,hn]at this;exact this
 |appZ rel esz bytes zero x y=>
  simp only at h1⊢;rw[<-hg];refine⟨λq=>?_,λq=>?_⟩
  ·obtain⟨q1,q2⟩:=h1.1 q;refine⟨tT q1,?_⟩;have rh:=rho q1;have e1:AV s1.env x=AV s.env x:=rh x (by simp [Io.sF]);have e2:AV s1.env y=AV s.env y:=rh y (by simp [Io.sF]);simp only[BB]at q2⊢;rw[e1,e2,hH]at q2;refine Ql (λH' v hh=>?_) q2;have:=hK H' s1.n true _ _ (λ_=>rfl) (λ_=>rfl) (λ_=>rfl) hh;rw[hn]at this;exact this
  ·have:=hK s1.H s1.n false (.sH []) (.sH []) zw (λ_=>rfl) (λq'=>by have:=hgn q';rw[q]at this;cases this) (h1.2 q);rw[hH,hn]at this;exact this
 |cpu f args=>
  simp only at h1⊢;rw[<-hg];refine⟨λq=>?_,λq=>?_⟩
  ·obtain⟨q1,q2⟩:=h1.1 q;refine⟨tT q1,?_⟩;have rh:=rho q1;have e1:AV s1.env f=AV s.env f:=rh f (by simp [Io.sF]);have e2:args.map (AV s1.env)=args.map (AV s.env):=pC λx hx=>rh x (by simp [Io.sF,hx])
   simp only[BB]at q2⊢;rw[e1,e2]at q2;generalize AV s.env f=fv at q2⊢;cases fv<;>(try simp only[]at q2)<;>first|exact q2.elim|skip
   rename_i ff first cap
   cases ff<;>(try simp only[]at q2)<;>first|exact q2.elim|skip
   obtain⟨r,p1,p2⟩:=q2;have:=hK s1.H s1.n true r r (λ_=>rfl) (λ_=>rfl) (λ_=>rfl) p2;rw[hH,hn]at this;exact⟨r,p1,this⟩
  ·have:=hK s1.H s1.n false (.sH []) (.sH []) zw (λ_=>rfl) (λq'=>by have:=hgn q';rw[q]at this;cases this) (h1.2 q);rw[hH,hn]at this;exact this
 |nils nq x=>
  simp only at h1⊢;rw[<-hg];refine⟨λq=>?_,λq=>?_⟩
  ·obtain⟨q1,q2⟩:=h1.1 q;refine⟨tT q1,?_⟩;have rh:=rho q1;have e1:AV s1.env x=AV s.env x:=rh x (by simp [Io.sF]);simp only[BB]at q2⊢;rw[e1]at q2;refine Qm (λb hh=>?_) q2;have:=hK s1.H s1.n true _ _ (λ_=>rfl) (λ_=>rfl) (λ_=>rfl) hh;rw[hH,hn]at this;exact this
  ·have:=hK s1.H s1.n false (.sH []) (.sH []) zw (λ_=>rfl) (λq'=>by have:=hgn q';rw[q]at this;cases this) (h1.2 q);rw[hH,hn]at this;exact this
 |mnx x=>
  simp only at h1⊢;rw[<-hg];refine⟨λq=>?_,λq=>?_⟩
  ·obtain⟨q1,q2⟩:=h1.1 q;refine⟨tT q1,?_⟩;have rh:=rho q1;have e1:AV s1.env x=AV s.env x:=rh x (by simp [Io.sF]);simp only[BB]at q2⊢;rw[e1,hH]at q2;refine Sk (λH' v hh=>?_) q2;have:=hK H' s1.n true _ _ (λ_=>rfl) (λ_=>rfl) (λ_=>rfl) hh;rw[hn]at this;exact this
  ·have:=hK s1.H s1.n false (.sH []) (.sH []) zw (λ_=>rfl) (λq'=>by have:=hgn q';rw[q]at this;cases this) (h1.2 q);rw[hH,hn]at this;exact this
 |slA nn x lo hi=>
  simp only at h1⊢;rw[<-hg];refine⟨λq=>?_,λq=>?_⟩
  ·obtain⟨q1,q2⟩:=h1.1 q;refine⟨tT q1,?_⟩;have rh:=rho q1;have e1:AV s1.env x=AV s.env x:=rh x (by simp [Io.sF]);have eb:∀(y:Option zx),(∀z,y=some z->z∈(Io.slA nn x lo hi).sF)->(CK (AV s1.env) y↔CK (AV s.env) y)/\∀d,sS (AV s1.env) d y=sS (AV s.env) d y:=by
    intro y hy;cases y with
    |none=>exact⟨Iff.rfl,λ_=>rfl⟩
    |some z=>have:=rh z (hy z rfl);exact⟨by simp only[CK,this],λd=>by simp only[sS,this]⟩
   have b1:=eb lo (by rintro z rfl;simp [Io.sF]);have b2:=eb hi (by rintro z rfl;simp [Io.sF]);simp only[BB]at q2⊢;rw[e1,hH,b1.2,b2.2]at q2;refine⟨b1.1.1 q2.1,b2.1.1 q2.2.1,Sj (λH' v hh=>?_) q2.2.2⟩;have:=hK H' s1.n true _ _ (λ_=>rfl) (λ_=>rfl) (λ_=>rfl) hh;rw[hn]at this;exact this
  ·have:=hK s1.H s1.n false (.sH []) (.sH []) zw (λ_=>rfl) (λq'=>by have:=hgn q';rw[q]at this;cases this) (h1.2 q);rw[hH,hn]at this;exact this
 |alloc rel cs=>
  simp only at h1⊢;rw[<-hg];refine⟨λq=>?_,λq=>?_⟩
  ·obtain⟨q1,q2⟩:=h1.1 q;refine⟨tT q1,?_⟩;simp only[BB]at q2⊢;refine⟨hH▸q2.1,?_⟩;have:=hK _ s1.n true _ _ (λ_=>rfl) (λ_=>rfl) (λ_=>rfl) q2.2;rw[hH,hn]at this;exact this
  ·have:=hK s1.H s1.n false (.sH []) (.sH []) zw (λ_=>rfl) (λq'=>by have:=hgn q';rw[q]at this;cases this) (h1.2 q);rw[hH,hn]at this;exact this
 |box rel sz x=>
  simp only at h1⊢;rw[<-hg];refine⟨λq=>?_,λq=>?_⟩
  ·obtain⟨q1,q2⟩:=h1.1 q;refine⟨tT q1,?_⟩;have rh:=rho q1;have e1:AV s1.env x=AV s.env x:=rh x (by simp [Io.sF]);simp only[BB]at q2⊢;rw[e1]at q2;refine⟨hH▸q2.1,q2.2.1,q2.2.2.1,?_⟩;have:=hK _ s1.n true _ _ (λ_=>rfl) (λ_=>rfl) (λ_=>rfl) q2.2.2.2;rw[hH,hn]at this;exact this
  ·have:=hK s1.H s1.n false (.sH []) (.sH []) zw (λ_=>rfl) (λq'=>by have:=hgn q';rw[q]at this;cases this) (h1.2 q);rw[hH,hn]at this;exact this
 |mks rel esz bytes zero x=>
  simp only at h1⊢;rw[<-hg];refine⟨λq=>?_,λq=>?_⟩
  ·obtain⟨q1,q2⟩:=h1.1 q;refine⟨tT q1,?_⟩;have rh:=rho q1;have e1:AV s1.env x=AV s.env x:=rh x (by simp [Io.sF]);simp only[BB]at q2⊢;rw[e1]at q2;obtain⟨p1,p2,p3,p4,p5,p6,p7⟩:=q2;refine⟨hH▸p1,p2,p3,p4,p5,p6,?_⟩;have:=hK _ s1.n true _ _ (λ_=>rfl) (λ_=>rfl) (λ_=>rfl) p7;rw[hH,hn]at this;exact this
  ·have:=hK s1.H s1.n false (.sH []) (.sH []) zw (λ_=>rfl) (λq'=>by have:=hgn q';rw[q]at this;cases this) (h1.2 q);rw[hH,hn]at this;exact this
 |st sz a x=>
  simp only at h1⊢;rw[<-hg];refine⟨λq=>?_,λq=>?_⟩
  ·grind [Io.sF,BB]
  ·have:=hK s1.H s1.n false (.sH []) (.sH []) zw (λ_=>rfl) (λq'=>by have:=hgn q';rw[q]at this;cases this) (h1.2 q);rw[hH,hn]at this;exact this
 |app rel esz bytes x y str=>
  simp only at h1⊢;rw[<-hg];refine⟨λq=>?_,λq=>?_⟩
  ·obtain⟨q1,q2⟩:=h1.1 q;refine⟨tT q1,?_⟩;have rh:=rho q1;have e1:AV s1.env x=AV s.env x:=rh x (by simp [Io.sF]);have e2:CG s1.H (AV s1.env) esz y str=CG s.H (AV s.env) esz y str:=by
    have:=rh y (by simp [Io.sF]);cases str<;>simp only[CG,this,hH]
   simp only[BB]at q2⊢;rw[e1,e2]at q2;generalize AV s.env x=av at q2⊢;generalize CG s.H (AV s.env) esz y str=bv at q2⊢;cases av<;>(try simp only[]at q2)<;>first|exact q2.elim|skip
   rename_i tok l;cases bv<;>(try simp only[]at q2)<;>first|exact q2.elim|skip
   simp only[]at q2⊢;obtain⟨p1,p2,p3,p4,p5,p6⟩:=q2;refine⟨hH▸p1,hH▸p2,p3,p4,p5,?_⟩;have:=hK _ s1.n true _ _ (λ_=>rfl) (λ_=>rfl) (λ_=>rfl) p6;rw[hH,hn]at this;exact this
  ·have:=hK s1.H s1.n false (.sH []) (.sH []) zw (λ_=>rfl) (λq'=>by have:=hgn q';rw[q]at this;cases this) (h1.2 q);rw[hH,hn]at this;exact this
theorem GC{o:xj}{K K':AS->Prop}{s:AS}(h:∀s',K s'->K' s'):AX P Qp base o K s->AX P Qp base o K' s:=by
 refine CR ⟨λ_ _=>Ld.rfl' _,λ_ _ _=>Ld.rfl' _⟩ rfl rfl ?_;intro H n g v v' h1 h2 h3 h4;rw[<-h2 rfl];exact h _ h4
end
end Go.AM
