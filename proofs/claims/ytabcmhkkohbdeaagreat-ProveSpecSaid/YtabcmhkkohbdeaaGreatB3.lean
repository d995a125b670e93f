/-
  Parts of the proof. Conditions: none.
-/
import Derived.Test.YtabcmhkkohbdeaaGreatB2
import Derived.MapKept
import Derived.Lib.OthersKept
import Derived.Laws.Runes
import Derived.Laws.IdiomRangeMap
import Derived.Carry
import Derived.WideKeyRuns
set_option maxRecDepth 20000
set_option linter.all false
namespace Go.AM
section
variable {P:Program} {g:q8} {H:AB} {n m:Nat} {w:World}
variable {c:Array Value} {id sz:Nat} {t:TypeId} {v:Value}
theorem bU(R:x7 g H n w)(h0:AD H id=none)(s5:id<n)(hm:m<=id){a:Fs}(hv:AR g a v)(hn:nT a):
  ∃g',x7 g' (wB H id (.box a.cells)) n (w.alloc (.cells v.cells t))/\q9 m g H w g' (wB H id (.box a.cells)) (w.alloc (.cells v.cells t))/\g.le g'/\AR g' (.ptr id 0) (.pointer (some ⟨w.heap.size,0,none⟩)):=by
 have hlen:=wI.length _ _ hv.cells;simp only[tq]at hlen;have yy:(w.alloc (.cells v.cells t)).heap[w.heap.size]?=some (.cells v.cells t (0,0)):=by show(w.heap.push _)[w.heap.size]?=_;simp
 have hle0:g.β id=none:=by
  cases hb:g.β id with
  |none=>rfl
  |some L'=>exact absurd h0 (R.yJ id L' hb).1
 obtain⟨r1,r2,r3⟩:=R.new (m:=m) (w':=w.alloc (.cells v.cells t)) rfl rfl rfl rfl h0 s5 hm (L:=⟨w.heap.size,0,a.cells.length⟩) rfl (ob:=.box a.cells) (by
  have hle:g.le ⟨λi=>if i=id then some ⟨w.heap.size,0,a.cells.length⟩else g.β i,g.σ⟩:=⟨λi L h=>by
   show(if i=id then _ else g.β i)=some L;rw[sg (by rintro rfl;rw[hle0]at h;cases h)];exact h,λ_ _ _ h=>h⟩
  refine⟨⟨w.heap.size,0,a.cells.length⟩,v.cells,t,zw,rfl,rfl,yy,hlen,?_⟩;exact wM.of _ v.cells.toList 0 (wI.mono hle _ _ hv.cells) (λj x hx=>by simpa using hx) (hv.one hn))
 exact⟨_,r1,r2,r3,⟨_,by simp;rfl,rfl,rfl⟩⟩
theorem X0(R:x7 g H n w)(h0:AD H id=none)(s5:id<n)(hm:m<=id){a:Fs}(hv:AR g a v)(hn:nT a):
  ∃w' g',(Instr.box t v).run P w= .ok (.pointer (some ⟨w.heap.size,0,none⟩)) w'/\x7 g' (wB H id (.box a.cells)) n w'/\q9 m g H w g' (wB H id (.box a.cells)) w'/\g.le g'/\AR g' (.ptr id 0) (.pointer (some ⟨w.heap.size,0,none⟩)):=by
 obtain⟨g',r1,r2,r3,r4⟩:=bU (m:=m) (t:=t) R h0 s5 hm hv hn;exact⟨_,g',by simp [Instr.box,newVar,newRow],r1,r2,r3,r4⟩
theorem So(R:x7 g H n w)(h0:AD H id=none)(s5:id<n)(hm:m<=id){z:Fs}(hz:Cf P t=some z):
  ∃w' g',(Instr.alloc t true (.tuple #[])).run P w= .ok (.pointer (some ⟨w.heap.size,0,none⟩)) w'/\x7 g' (wB H id (.box z.cells)) n w'/\q9 m g H w g' (wB H id (.box z.cells)) w'/\g.le g'/\AR g' (.ptr id 0) (.pointer (some ⟨w.heap.size,0,none⟩)):=by
 obtain⟨i,zv,hi,hzz,hr,hzs,hl,wj,hnt⟩:=Cg hz;obtain⟨g',r1,r2,r3,r4⟩:=bU (m:=m) (t:=t) R h0 s5 hm (hr g) hnt;exact⟨_,g',by simp [Instr.alloc,zeroValue,typeInfo,hi,hzz,newVar,newRow],r1,r2,r3,r4⟩
theorem KC{b o:Nat}{e:TypeId}(hs:Fp P t=some sz)(hv:v.cells.size=sz)(h1:∀x∈v.cells.toList,x.oneCell'=true)(hb:w.heap[b]?=some (.cells c e (0,0)))(yw:o+sz<=c.size):
  (Instr.storeAt t (.pointer (some ⟨b,o,none⟩)) v).run P w= .ok () (w.setRow b (c.toList.take o++v.cells.toList++c.toList.drop (o+sz)).toArray):=by
 have wX:=run_storeCells_at (P:=P) b o e v.cells.toList 0 c w hb (by simp;omega) h1;simp only[um,tq,hv]at wX;simp [Instr.storeAt,Instr.sureAddr,storeVar,Bz hs,hv,wX]
theorem KD(R:x7 g H n w){ob ob':x9}{L:Loc}(h0:AD H id=some ob)(hown:ob.owns=true)(hL:g.β id=some L){c':Array Value}{e:TypeId}(hb:w.heap[L.wR]?=some (.cells c e (0,0)))
  (xG:c'.size=c.size) (hout:∀o,(o<L.lo\/L.hi<=o)->c'[o]?=c[o]?) (hob:FT g (w.setRow L.wR c') id ob'):
  x7 g (wB H id ob') n (w.setRow L.wR c')/\q9 m g H w g (wB H id ob') (w.setRow L.wR c'):=
 R.upd h0 hown hL rfl rfl rfl zw (λb s8=>setRow_other w L.wR b c' s8) (.inl ⟨c,e,(0,0),c',hb,setRow_heap w L.wR c c' e (0,0) hb,xG,hout⟩) hob
theorem Ni{vc:Array Value}{p:Nat}(hs:vc.size=sz)(yw:p+sz<=c.size)(o:Nat):(c.toList.take p++vc.toList++c.toList.drop (p+sz)).toArray[o]?=if p<=o/\o<p+sz then vc[o-p]? else c[o]?:=by grind
theorem Sp{vc:Array Value}{p:Nat}(hs:vc.size=sz)(yw:p+sz<=c.size):(c.toList.take p++vc.toList++c.toList.drop (p+sz)).toArray.size=c.size:=by simp;omega
theorem bV(R:x7 g H n w){ad x:Fs}{u:Value}{K:AB->Prop}(hs:Fp P t=some sz)(hu:AR g ad u)(hv:AR g x v)(hn:nT x)(hl:x.cells.length=sz)(h:Ok H sz x K ad):
  ∃H' w',(Instr.storeAt t u v).run P w= .ok () w'/\K H'/\x7 g H' n w'/\q9 m g H w g H' w':=by
 have hvl:=wI.length _ _ hv.cells;simp only[tq]at hvl;have hvs:v.cells.size=sz:=zo
 cases ad<;>simp only[Ok]at h<;>first|exact h.elim|skip
 case ptr id off=>
  obtain⟨L,h1,h2,rfl⟩:=hu;cases ho:AD H id with
  |none=>simp [ho]at h
  |some ob=>
   cases ob<;>simp only[ho]at h<;>first|exact h.elim|skip
   case box cs=>
    obtain⟨yw,hK⟩:=h;obtain⟨L',c,e,k1,k2,k3,k4,k5,k6⟩:=R.obj id _ ho;rw[h1]at k1;cases k1;have wS:=KC (w:=w) (o:=off) hs hvs (hv.one hn) k4 zo;generalize hc':(c.toList.take off++v.cells.toList++c.toList.drop (off+sz)).toArray=c' at wS;have hsz':c'.size=c.size:=by subst hc';simp;omega
    have yy:=setRow_heap w L.wR c c' e (0,0) k4;obtain⟨vs,q1,q2,q3⟩:=k6.list;have hvs':vs=c.toList:=by
     apply uM;intro j;have hl1:=wI.length _ _ q1;by_cases hj:j<vs.length
     ·grind
     ·simp_all
    subst hvs';have yS:wI g (wZ cs off x.cells) c'.toList:=by
     subst hc';have:=wI.wZ (off:=off) q1 hv.cells;simpa [hvs]using this
    obtain⟨r1,r2⟩:=KD (m:=m) R ho rfl h1 k4 hsz' (λo ho'=>by
     have:c.size<=o:=zo
     rw[uz zo,uz zo]) (ob':=.box (wZ cs off x.cells)) (by
      have hlen:=wI.length _ _ yS;simp only[tq]at hlen;refine⟨L,c',e,h1,h2,zo,yy,zo,wM.of _ _ 0 yS (λj y hy=>by simpa using hy) ?_⟩;subst hc';intro y hy;simp only[tP]at hy;rcases hy with(hy|hy)|hy
      ·exact q3 y (vL hy)
      ·exact hv.one hn y hy
      ·exact q3 y (vM hy))
    exact⟨_,_,wS,hK,r1,r2⟩
 case ap id esz i off=>
  obtain⟨L,h1,h2,rfl⟩:=hu;cases ho:AD H id with
  |none=>simp [ho]at h
  |some ob=>
   cases ob<;>simp only[ho]at h<;>first|exact h.elim|skip
   case arr e' l=>
    obtain⟨rfl,hi,yC,hK⟩:=h;obtain⟨L',c,e,k1,k2,k3,k4,k5,k6⟩:=R.obj id _ ho;rw[h1]at k1;cases k1;obtain⟨old,o1,o2,o3⟩:=wL.elem i l 0 k6 hi;simp only[tx]at o3
    obtain⟨z,z1,z2,z3,z4⟩:∃z:Value,AR g (Di (l[i]?.getD (.wJ [])) off sz e' x).2 z/\GB e' z/\off+sz<=e'/\∀j,j<e'->z.cells[j]?=if off<=j/\j<off+sz then v.cells[j-off]? else old.cells[j]?:=by
     by_cases l5:off=0/\sz=e'
     ·obtain⟨rfl,rfl⟩:=l5;rw[Pf]at yC⊢;exact⟨v,hv,⟨hvs,hv.one hn⟩,zo,λj hj=>by rw[sn ⟨zo,zo⟩];congr 1⟩
     ·rw[rz hi,sw]at yC⊢;have o1':AR g l[i] old:=by simpa [rz hi]using o1
      cases hli:l[i]<;>simp only[Di,l5,hli,sY]at yC<;>first|exact yC.elim|skip
      rename_i cs;obtain⟨wi,yw⟩:=yC;rw[hli]at o1';obtain⟨vs,rfl,p1,p2⟩:=o1';simp only[Di,l5,sY];have yS:=wI.wZ (off:=off) p1 hv.cells;have hvl2:=wI.length _ _ p1;simp only[tq]at hvl2 yS;have hone:=hv.one hn;rw[hvs]at yS;generalize v.cells=vc at hvs hone yS⊢;have xJ:∀y∈(vs.toList.take off++vc.toList++vs.toList.drop (off+sz)),y.oneCell'=true:=by
       intro y hy;simp only[tP]at hy;rcases hy with(hy|hy)|hy
       ·exact p2 y (vL hy)
       ·exact hone y hy
       ·exact p2 y (vM hy)
      refine⟨.agg (vs.toList.take off++vc.toList++vs.toList.drop (off+sz)).toArray,⟨_,rfl,by simpa using yS,xJ⟩,⟨?_,xJ⟩,yw,λj hj=>?_⟩
      ·show(vs.toList.take off++vc.toList++vs.toList.drop (off+sz)).toArray.size=e';rw[Sp hvs zo];omega
      ·exact Ni hvs zo j
    have yw:i*e'+e'<=c.size:=by
     rw[<-k5];have:(i+1)*e'<=l.length*e':=tT _ hi;rw[tA]at this;omega
    have wS:=KC (w:=w) (o:=i*e'+off) hs hvs (hv.one hn) k4 zo;generalize hc':(c.toList.take (i*e'+off)++v.cells.toList++c.toList.drop (i*e'+off+sz)).toArray=c' at wS;have hsz':c'.size=c.size:=by subst hc';simp;omega
    have yy:=setRow_heap w L.wR c c' e (0,0) k4;have AD:∀o,c'[o]?=if i*e'+off<=o/\o<i*e'+off+sz then v.cells[o-(i*e'+off)]? else c[o]?:=by
     intro o;subst hc';exact Ni hvs zo o
    obtain⟨r1,r2⟩:=KD (m:=m) R ho rfl h1 k4 hsz' (λo ho'=>by
     have:c.size<=o:=zo
     rw[uz zo,uz zo]) (ob':=.arr e' (l.set i (Di (l[i]?.getD (.wJ [])) off sz e' x).2)) (by
      refine⟨L,c',e,h1,h2,zo,yy,by rw[tz];omega,?_⟩;refine wL.set z1 z2 i l 0 hi (λj y hy=>?_) (λj hj=>?_) k6
      ·have hj:j<e':=by rw[<-z2.1];exact(sW.1 hy).1
       rw[z4 j hj]at hy;rw[tx,AD];by_cases q:off<=j/\j<off+sz
       ·grind
       ·grind
      ·rw[AD,sg zo])
    exact⟨_,_,wS,hK,r1,r2⟩
end
section
section
variable {P:Program} {g:q8} {H:AB} {n m:Nat} {w:World}
variable {l:List Fs} {esz id:Nat} {ρ':zz->Fs} {t e:TypeId} {y:Value}
theorem wL.list{f:Nat->Option Value}:∀(l:List Fs) (o:Nat),wL g esz f o l->
  ∃vs:List Value,vs.length=l.length*esz/\(∀(j:Nat) x,vs[j]?=some x->f (o+j)=some x)/\(∀x∈vs,x.oneCell'=true)/\wL g esz (λj=>vs[j]?) 0 l
 |[],o,_=>⟨[],zw,zw,zw,zt⟩
 |e::l,o,⟨⟨v,h1,h2,h3⟩,h4⟩=>by
  obtain⟨vs,k1,k2,k3,k4⟩:=wL.list l (o+esz) h4;have hl:v.cells.toList.length=esz:=by simpa using h2.1
  refine⟨v.cells.toList++vs,by rw[sH,hl,k1,sM,tA];omega,?_,?_,?_⟩
  ·grind
  ·intro x hx;rcases tP.1 hx with hx|hx
   ·exact h2.2 x hx
   ·exact k3 x hx
  ·refine⟨⟨v,h1,h2,λj x hx=>?_⟩,?_⟩
   ·grind
   ·have shift:∀(l:List Fs) (o:Nat),wL g esz (λj=>vs[j]?) o l->wL g esz (λj=>(v.cells.toList++vs)[j]?) (o+esz) l:=by
     intro l;induction l with
     |nil=>intro o _;trivial
     |cons e' l ih=>
      rintro o ⟨⟨u,q1,q2,q3⟩,q4⟩;refine⟨⟨u,q1,q2,λj x hx=>?_⟩,?_⟩
      ·grind
      ·have:=ih (o+esz) q4;exact this
    have:=shift l 0 k4;exact this
def kB(P:Program)(g:q8)(w:World)(esz:Nat)(l':List Fs)(y:Value):Prop:=
 ∃news:List Value,news.length=l'.length*esz/\(∀v∈news,v.oneCell'=true)/\wL g esz (λo=>news[o]?) 0 l'/\
  ∀w':World,w'.heap=w.heap->(Builtin.lenOf y).run P w'= .ok l'.length w'/\(Builtin.firstCells esz l'.length y).run P w'= .ok news.toArray w'
theorem Pu{w w':World}(h:w'.heap=w.heap)(a:Addr):w'.cell? a=w.cell? a:=by simp [World.cell?,h]
theorem bW(R:x7 g H n w){tok:v8}(h:AR g (.sl tok l) y)(he:tok.esz=esz\/l.length=0):kB P g w esz l y:=by
 rcases h with⟨rfl,rfl,_⟩|⟨_,b,o,cap,⟨sp,rfl,yS⟩,_,wX,_⟩
 ·exact⟨[],zw,zw,zt,λw' _=>⟨by simp [Builtin.lenOf],by simp [Builtin.firstCells]⟩⟩
 ·by_cases hl:l=[]
  ·subst hl;refine⟨[],zw,zw,zt,λw' _=>⟨by simp [Builtin.lenOf],?_⟩⟩;have:=run_firstCells_some (P:=P) w' esz 0 ⟨b,o,sp⟩ 0 cap [] zw zw;simpa using this
  ·obtain rfl:sp=none:=yS.resolve_right λq=>hl q.1
   have he':tok.esz=esz:=he.resolve_right (by simpa using hl);rw[he']at wX;obtain⟨vs,k1,k2,k3,k4⟩:=wX.list;refine⟨vs,k1,k3,k4,λw' hw=>⟨by simp [Builtin.lenOf],?_⟩⟩;exact run_firstCells_some (P:=P) w' esz l.length ⟨b,o,none⟩ l.length cap vs k1 (λj v hv=>by rw[B4,Pu hw];exact R.σw _ _ _ (k2 j v hv))
theorem WY(R:x7 g H n w){off len cap:Nat}(h:AR g (.ref id esz off len cap) y)(ho:AD H id=some (.arr esz l))(hl:off+len<=l.length):kB P g w esz ((l.drop off).take len) y:=by
 obtain⟨L,k1,k2,rfl⟩:=h;obtain⟨L',c,e,j1,j2,j3,j4,j5,j6⟩:=R.obj id _ ho;rw[k1]at j1;cases j1;have hlen:((l.drop off).take len).length=len:=by simp;omega
 have wX:=wL.take len _ _ (wL.drop off _ _ j6);rw[tx]at wX;obtain⟨vs,p1,p2,p3,p4⟩:=wX.list;rw[hlen]at p1;refine⟨vs,by rw[hlen];exact p1,p3,p4,λw' hw=>⟨by simp [Builtin.lenOf,hlen],?_⟩⟩;rw[hlen];refine run_firstCells_some (P:=P) w' esz len ⟨L.wR,off*esz,none⟩ len cap vs p1 (λj v hv=>?_);rw[B4,Pu hw,BK j4];exact p2 j v hv
theorem Qx{s:List UInt8}(h:AR g (.str s) y):kB P g w 1 (s.map λb=>.int .u8 b.toNat) y:=by
 have hy:y= .string ⟨s.toArray⟩:=h;subst hy;have xG:ByteArray.size ⟨s.toArray⟩=s.length:=by show s.toArray.size=_;simp
 refine⟨s.map λb=>.int .u8 b.toNat,zw,?_,?_,λw' _=>⟨by simp [Builtin.lenOf,xG],?_⟩⟩
 ·intro v hv;obtain⟨b,_,rfl⟩:=tn.1 hv;rfl
 ·have:∀(t:List UInt8) (o:Nat) (f:Nat->Option Value),(∀j (x:UInt8),t[j]?=some x->f (o+j)=some (.int .u8 x.toNat))->wL g 1 f o (t.map λb=>.int .u8 b.toNat):=by
   intro t;induction t with
   |nil=>intro o f _;trivial
   |cons b t ih=>
    intro o f hf;refine⟨⟨.int .u8 b.toNat,rfl,⟨rfl,by simp [Value.cells,Value.oneCell']⟩,?_⟩,ih (o+1) f λj x hx=>?_⟩
    ·grind [Value.cells]
    ·have:=hf (j+1) x (by simpa using hx);rwa[show o+(j+1)=o+1+j from by omega]at this
  exact this s 0 _ λj x hx=>by simp [hx]
 ·have hex:(ByteArray.extract ⟨s.toArray⟩ 0 s.length).data=s.toArray:=by
   rw[ByteArray.data_extract];simp
  simp [Builtin.firstCells]
section
variable {t u ty e:TypeId} {i:TypeInfo} {z:Value} {du:TypeDesc} (ht:P.underlying t=some (.slice e)) (hu:P.underlying u=some du) (hdu:∀k,du≠ .int k) (hi:P.info? e=some i) (hz:i.zero=some z)
include ht hu hdu hi hz
theorem Df{base:Option Addr}{sLen sCap k:Nat}{y:Value}{news:Array Value}(hlen:(Builtin.lenOf y).run P w= .ok k w)(yy:(Builtin.firstCells i.size k y).run P w= .ok news w)(hr:sLen+k<=sCap):
  (Builtin.append_ #[t,u] ty #[.slice base sLen sCap,y]).run P w=match base with
   |none=>.ok (.slice none (sLen+k) sCap) w
   |some a=>((storeCells (a.add (sLen*i.size)) news.toList).run P w).andThen λ_ w'=>.ok (.slice (some a) (sLen+k) sCap) w':=by
 have hz0:(match du with| .int _=>true|_=>false)=false:=by cases du<;>first|rfl|exact absurd rfl (hdu _)
 cases base with
 |none=>simp [Builtin.append_,run_underlying ht,run_underlying hu,sizeOf,typeInfo,hi,hlen,yy,hr]
 |some a=>simp [Builtin.append_,run_underlying ht,run_underlying hu,sizeOf,typeInfo,hi,hlen,yy,hr]
theorem KE{base:Option Addr}{sLen sCap k:Nat}{y:Value}{olds news:Array Value}(hlen:(Builtin.lenOf y).run P w= .ok k w)(hold:(Builtin.firstCells i.size sLen (.slice base sLen sCap)).run P w.drew= .ok olds w.drew)
  (yy:(Builtin.firstCells i.size k y).run P w.drew= .ok news w.drew) (hr:sCap<sLen+k) (yw:Builtin.nextslicecap (sLen+k) sCap*i.bytes<=281474976710656) (h63:sLen+k<=9223372036854775807):
  (Builtin.append_ #[t,u] ty #[.slice base sLen sCap,y]).run P w=
   .ok (.slice (some ⟨w.heap.size,0,none⟩) (sLen+k) (grownCap w (sLen+k) sCap e)) (w.drew.alloc (.cells (olds++news++Builtin.zeroCells z.cells (grownCap w (sLen+k) sCap e-(sLen+k))) e)):=by
 have hz0:(match du with| .int _=>true|_=>false)=false:=by cases du<;>first|rfl|exact absurd rfl (hdu _)
 have hn:¬(sLen+k<=sCap):=zo
 have h63':¬(9223372036854775807<((sLen:Int)+(k:Int))):=zo
 have h48':¬(281474976710656<Builtin.nextslicecap (sLen+k) sCap*i.bytes):=zo
 simp [Builtin.append_,run_underlying ht,run_underlying hu,sizeOf,typeInfo,zeroValue,hi,hz,hlen,hn,h63',h48',Question.forced,hold,yy,newRow,grownCap]
end
theorem X1(R:x7 g H n w){u ty:TypeId}{i:TypeInfo}{du:TypeDesc}{za:Fs}(ht:P.underlying t=some (.slice e))(hu:P.underlying u=some du)(hdu:∀k,du≠ .int k)(hi:P.info? e=some i)(hza:Cf P e=some za)
  {tok:v8} {l':List Fs} {x:Value} (hx:AR g (.sl tok l) x) (hsrc:kB P g w i.size l' y) (h0:AD H id=none) (s5:id<n) (hm:m<=id) (s9:BB H i.size tok) (hsm:Al (l.length+l'.length) i.bytes) (ww:l.length+l'.length<=35184372088832):
  ∃v w' g',(Builtin.append_ #[t,u] ty #[x,y]).run P w= .ok v w'/\AR g' (.sl (.own id i.size) (l++l')) v/\x7 g' (wB (AU H tok) id .tok) n w'/\q9 m g H w g' (wB (AU H tok) id .tok) w'/\g.le g':=by
 obtain⟨i',z,z9,hzz,hr,hzs,hl,hpos,hnt⟩:=Cg hza;rw[hi]at z9;cases z9;obtain⟨news,s1,s2,s3,s4⟩:=hsrc;obtain⟨c1,c2⟩:=s4 w rfl;obtain⟨d1,d2⟩:=s4 w.drew rfl;have hlo:(l++l').length=l.length+l'.length:=zw
 have grow:∀(base:Option Addr) (sCap:Nat) (olds:List Value),x= .slice base l.length sCap->olds.length=l.length*i.size->(∀v∈olds,v.oneCell'=true)->wL g i.size (λo=>olds[o]?) 0 l->
   (Builtin.firstCells i.size l.length (.slice base l.length sCap)).run P w.drew= .ok olds.toArray w.drew->sCap<l.length+l'.length->
   ∃v w' g',(Builtin.append_ #[t,u] ty #[x,y]).run P w= .ok v w'/\AR g' (.sl (.own id i.size) (l++l')) v/\x7 g' (wB (AU H tok) id .tok) n w'/\q9 m g H w g' (wB (AU H tok) id .tok) w'/\g.le g':=by
  intro base sCap olds hxe o1 o2 o3 o4 hgt;subst hxe;have yw:Builtin.nextslicecap (l.length+l'.length) sCap*i.bytes<=281474976710656:=growslice_fits hgt (by simp only[Al]at hsm;omega);have wS:=KE (ty:=ty) ht hu hdu hi hzz c1 o4 d2 hgt yw zo;generalize xO:grownCap w (l.length+l'.length) sCap e=cap at wS;have hge:l.length+l'.length<=cap:=by rw[<-xO];exact grownCap_ge _ _ _ _
  generalize xl:(olds.toArray++news.toArray++Builtin.zeroCells z.cells (cap-(l.length+l'.length)):Array Value)=cs at wS;have hcsz:cs.size=cap*i.size:=by
   subst xl;simp only[Array.size_append,List.size_toArray,size_zeroCells,hzs,o1,s1,<-tA];congr 1;omega
  have hcsget:∀o,o<(l.length+l'.length)*i.size->cs[o]?=(olds++news)[o]?:=by grind
  have hk:∃Hk,AU H tok=Hk/\x7 g Hk n w/\q9 m g H w g Hk w/\AD Hk id=none:=by
   cases tok with
   |own i0 e0=>
    obtain⟨_,h1⟩:=s9;obtain⟨r1,r2⟩:=R.kill (m:=m) h1;refine⟨_,rfl,r1,r2,?_⟩;simp only[AU];rw[AT,sg (by rintro rfl;rw[h0]at h1;cases h1)];exact h0
   |nil=>exact⟨_,rfl,R,q9.refl _ _ _ _,h0⟩
   |none e0=>exact⟨_,rfl,R,q9.refl _ _ _ _,h0⟩
   |exact e0=>exact⟨_,rfl,R,q9.refl _ _ _ _,h0⟩
  obtain⟨Hk,hHk,rk,tk,h0k⟩:=hk;rw[hHk];have hnewb:(w.drew.alloc (.cells cs e)).heap[w.heap.size]?=some (.cells cs e (0,0)):=by show(w.heap.push _)[w.heap.size]?=_;simp
  obtain⟨r1,r2,r3⟩:=rk.new' (m:=m) (w':=w.drew.alloc (.cells cs e)) (x:=.cells cs e) rfl rfl rfl rfl h0k s5 hm (L:=⟨w.heap.size,(l.length+l'.length)*i.size,cap*i.size⟩) rfl (ob:=.tok)
   (σ':=λb o=>if b=w.heap.size/\o<(l.length+l'.length)*i.size then cs[o]? else g.σ b o)
   (λb o v h=>by
    have hb:b≠w.heap.size:=by
     rintro rfl;have:=R.σw _ _ _ h;simp [World.cell?]at this
    show(if b=w.heap.size/\o<(l.length+l'.length)*i.size then cs[o]? else g.σ b o)=some v;rw[sg (by simp [hb])];exact h)
   (λb o v h=>by
    by_cases hb:b=w.heap.size/\o<(l.length+l'.length)*i.size
    ·rw[sn hb]at h;obtain⟨rfl,my⟩:=hb;exact .inr ⟨rfl,by rw[BK hnewb];exact h,.inl my⟩
    ·rw[sg hb]at h;exact .inl h)
   ⟨_,by simp;rfl,λ_=>⟨cs,e,hnewb,by rw[hcsz];exact sj _⟩⟩
  refine⟨_,_,_,wS,?_,r1,tk.trans r2,r3⟩;refine .inr ⟨zt,w.heap.size,0,cap,⟨none,by rw[hlo],.inl rfl⟩,by rw[hlo];exact hge,?_,by simp [hlo]⟩;simp only[v8.esz];have wX:wL g i.size (λo=>(olds++news)[o]?) 0 (l++l'):=by
   refine wL.append l l' 0 (wL.mono (.refl g) (λo v hv=>?_) _ _ _ o3) ?_
   ·grind
   ·have shift:∀(l2:List Fs) (o:Nat),wL g i.size (λo=>news[o]?) o l2->wL g i.size (λo=>(olds++news)[o]?) (o+l.length*i.size) l2:=by
     intro l2;induction l2 with
     |nil=>intro o _;trivial
     |cons e' l2 ih=>
      rintro o ⟨⟨q,q1,q2,q3⟩,q4⟩;refine⟨⟨q,q1,q2,λj x hx=>?_⟩,?_⟩
      ·grind
      ·grind
    have:=shift l' 0 s3;simpa using this
  refine wL.eq (l++l') 0 (λj _ hj=>?_) (wL.mono r3 (λ_ _ h=>h) _ _ _ wX);rw[hlo,tx]at hj;simp only[hj,and_self,tD];exact hcsget j hj
 rcases hx with⟨rfl,rfl,l7⟩|⟨htok,b,o,cap,⟨sp,rfl,yS⟩,xO,wX,hk⟩
 ·
  by_cases hl0:l'=[]
  ·subst hl0;have wS:=Df (ty:=ty) (w:=w) (base:=none) (sLen:=0) (sCap:=0) ht hu hdu hi hzz c1 c2 zw;have yS:∃Hk,AU H tok=Hk/\((Hk=H/\True)\/∃i0 e0,tok= .own i0 e0/\Hk=wB H i0 .dead/\AD H i0=some .tok):=by
    cases tok with
    |own i0 e0=>exact⟨_,rfl,.inr ⟨i0,e0,rfl,rfl,s9.2⟩⟩
    |nil=>exact⟨_,rfl,.inl ⟨rfl,zt⟩⟩
    |none e0=>exact⟨_,rfl,.inl ⟨rfl,zt⟩⟩
    |exact e0=>exact⟨_,rfl,.inl ⟨rfl,zt⟩⟩
   obtain⟨Hk,hHk,hcase⟩:=yS;have hR:x7 g Hk n w/\q9 m g H w g Hk w/\AD Hk id=none:=by
    rcases hcase with⟨rfl,_⟩|⟨i0,e0,_,rfl,h1⟩
    ·exact⟨R,q9.refl _ _ _ _,h0⟩
    ·obtain⟨r1,r2⟩:=R.kill (m:=m) h1;exact⟨r1,r2,by rw[AT,sg (by rintro rfl;rw[h0]at h1;cases h1)];exact h0⟩
   rw[hHk];obtain⟨r1,r2,r3⟩:=hR.1.split (m:=m) hR.2.2 s5 hm (L:=⟨0,0,0⟩) (H':=Hk) (.inl ⟨rfl,sj _⟩) (σ':=g.σ) (λ_ _ _ h=>h) (λ_ _ _ h=>.inl h);exact⟨_,_,_,wS,.inl ⟨rfl,rfl,_,by simp;rfl⟩,r1,hR.2.1.trans r2,r3⟩
  ·have hpos':0<l'.length:=by cases l' with|nil=>exact absurd rfl hl0|cons _ _=>simp
   exact grow none 0 [] rfl zw zw zt (by simp [Builtin.firstCells]) (by simpa using hpos')
 ·by_cases hodd:sp=none;case neg=>
   obtain⟨rfl,hq⟩:=yS.resolve_left hodd;have ym:cap=0:=by
    rcases hq with q|⟨e',rfl⟩
    ·exact q
    ·exact s9.elim
   subst ym;by_cases hl0:l'=[]
   ·subst hl0;have wS:=Df (ty:=ty) (w:=w) (base:=some ⟨b,o,sp⟩) (sLen:=0) (sCap:=0) ht hu hdu hi hzz c1 c2 zw;have hn0:news=[]:=tv (by rw[s1];simp);subst hn0;have hadd0:(⟨b,o,sp⟩:Addr).add (0*i.size)=⟨b,o,sp⟩:=by rw[vi];rfl
    simp only[storeCells,Sem.run_pure,Result.andThen_ok]at wS;have hsp2:∃Hk,AU H tok=Hk/\((Hk=H/\True)\/∃i0 e0,tok= .own i0 e0/\Hk=wB H i0 .dead/\AD H i0=some .tok):=by
     cases tok with
     |own i0 e0=>exact⟨_,rfl,.inr ⟨i0,e0,rfl,rfl,s9.2⟩⟩
     |nil=>exact⟨_,rfl,.inl ⟨rfl,zt⟩⟩
     |none e0=>exact⟨_,rfl,.inl ⟨rfl,zt⟩⟩
     |exact e0=>exact⟨_,rfl,.inl ⟨rfl,zt⟩⟩
    obtain⟨Hk,hHk,hcase⟩:=hsp2;have hR:x7 g Hk n w/\q9 m g H w g Hk w/\AD Hk id=none:=by
     rcases hcase with⟨rfl,_⟩|⟨i0,e0,_,rfl,h1⟩
     ·exact⟨R,q9.refl _ _ _ _,h0⟩
     ·obtain⟨r1,r2⟩:=R.kill (m:=m) h1;exact⟨r1,r2,by rw[AT,sg (by rintro rfl;rw[h0]at h1;cases h1)];exact h0⟩
    rw[hHk];obtain⟨r1,r2,r3⟩:=hR.1.split (m:=m) hR.2.2 s5 hm (L:=⟨b,o,o⟩) (H':=Hk) (.inl ⟨rfl,sj _⟩) (σ':=g.σ) (λ_ _ _ h=>h) (λ_ _ _ h=>.inl h);refine⟨_,_,_,wS,.inr ⟨zt,b,o,0,⟨sp,zw,.inr ⟨rfl,.inl rfl⟩⟩,zw,zt,zw⟩,r1,hR.2.1.trans r2,r3⟩
   ·have hpos':0<l'.length:=by cases l' with|nil=>exact absurd rfl hl0|cons _ _=>simp
    refine grow (some ⟨b,o,sp⟩) 0 [] rfl zw zw zt ?_ (by simpa using hpos');simpa using run_firstCells_some (P:=P) w.drew i.size 0 ⟨b,o,sp⟩ 0 0 [] zw zw
  subst hodd;have hte:tok.esz=i.size:=by
   cases tok with
   |nil=>exact htok.elim
   |none e0=>exact s9.elim
   |exact e0=>exact s9
   |own i0 e0=>exact s9.1
  rw[hte]at wX;by_cases hroom:l.length+l'.length<=cap
  ·have wS:=Df (ty:=ty) (w:=w) (base:=some ⟨b,o,none⟩) (sLen:=l.length) (sCap:=cap) ht hu hdu hi hzz c1 c2 hroom;simp only[B4]at wS;cases tok with
   |nil=>exact htok.elim
   |none e0=>exact s9.elim
   |exact e0=>
    simp only[]at hk;have hl0:l'=[]:=tv zo;subst hl0;have hn0:news=[]:=tv (by rw[s1];simp);subst hn0;simp only[storeCells,Sem.run_pure,Result.andThen_ok]at wS;obtain⟨r1,r2,r3⟩:=R.split (m:=m) h0 s5 hm (L:=⟨b,o+l.length*i.size,o+cap*i.size⟩) (H':=H) (.inl ⟨rfl,by simp only[];rw[hk];exact sj _⟩) (σ':=g.σ) (λ_ _ _ h=>h) (λ_ _ _ h=>.inl h);refine⟨_,_,_,wS,.inr ⟨zt,b,o,cap,⟨none,zw,.inl rfl⟩,by simpa using xO,?_,?_⟩,r1,r2,r3⟩
    ·simp only[sR,v8.esz];exact wL.mono r3 (λ_ _ h=>h) _ _ _ wX
    ·simp
   |own i0 e0=>
    obtain⟨he0,htok0⟩:=s9;subst he0;simp only[]at hk;obtain⟨L',k1,k2⟩:=R.obj i0 .tok htok0;rw[hk]at k1;cases k1;simp only[]at k2
    have hstore:∃w1,(storeCells ⟨b,o+l.length*i.size,none⟩ news).run P w= .ok () w1/\x7 g (wB H i0 .tok) n w1/\q9 m g H w g (wB H i0 .tok) w1/\
      (∀j v,news[j]?=some v->w1.cell? ⟨b,o+l.length*i.size+j,none⟩=some v):=by
     by_cases hn0:news=[]
     ·subst hn0;have hsame:wB H i0 .tok=H:=by
       funext k;show(if i0=k then some x9.tok else H k)=H k;by_cases hk':i0=k
       ·subst hk';rw[sn rfl];exact htok0.symm
       ·rw[sg hk']
      exact⟨w,by simp [storeCells],by rw[hsame];exact R,by rw[hsame];exact q9.refl _ _ _ _,zw⟩
     ·have hl1:0<l'.length:=by
       rcases Nat.eq_zero_or_pos l'.length with h|h
       ·simp_all
       ·exact h
      have hmul:l.length*i.size+l'.length*i.size<=cap*i.size:=by rw[<-tA];exact tT _ hroom
      have hlpos:0<l'.length*i.size:=Nat.mul_pos hl1 (Nat.pos_of_ne_zero hpos);obtain⟨c,ee,q1,q2⟩:=k2 zo;have wX:=run_storeCells_at (P:=P) b (o+l.length*i.size) ee news 0 c w q1 (by rw[s1];omega) s2;simp only[um]at wX;generalize hc':(c.toList.take (o+l.length*i.size)++news++c.toList.drop (o+l.length*i.size+news.length)).toArray=c' at wX;have hsz':c'.size=c.size:=by subst hc';simp;omega
      have AD:∀p,c'[p]?=if o+l.length*i.size<=p/\p<o+l.length*i.size+news.length then news[p-(o+l.length*i.size)]? else c[p]?:=by
       intro p;subst hc';rw[<-tW];simp only[];by_cases p1:p<o+l.length*i.size
       ·rw[sg zo,te,tQ (by simp;omega),List.getElem?_take_of_lt p1,tW]
       ·by_cases p2:p<o+l.length*i.size+news.length
        ·rw[sn ⟨zo,p2⟩,te,tR (by simp;omega),tQ (by simp;omega)];simp only[sU,tq];congr 1;omega
        ·rw[sg zo,tR (by simp;omega),vY,tW];congr 1;simp only[sH,sU,tq];omega
      have xn:=setRow_heap w b c c' ee (0,0) q1;obtain⟨r1,r2⟩:=KD (m:=m) R htok0 rfl hk q1 hsz' (λp hp=>by
       rw[AD,sg];simp only[]at hp;rw[s1];omega) (ob':=.tok) ⟨_,hk,λ_=>⟨c',ee,xn,by rw[hsz'];exact q2⟩⟩
      refine⟨_,wX,r1,r2,λj v hj=>?_⟩;have hjl:=(t8.1 hj).1;rw[BK xn,AD,sn zo,show o+l.length*i.size+j-(o+l.length*i.size)=j from by omega];exact hj
    obtain⟨w1,hst1,rr1,tt1,xZ⟩:=hstore;simp only[hst1,Result.andThen_ok]at wS;have wj:AD (wB H i0 .tok) id=none:=by
     rw[AT,sg (by rintro rfl;rw[h0]at htok0;cases htok0)];exact h0
    have hmul:l.length*i.size+l'.length*i.size<=cap*i.size:=by rw[<-tA];exact tT _ hroom
    obtain⟨r1,r2,r3⟩:=rr1.split (m:=m) wj s5 hm (L:=⟨b,o+(l.length+l'.length)*i.size,o+cap*i.size⟩) (H':=wB (wB H i0 .tok) i0 .dead)
     (.inr ⟨i0,_,rfl,AC _ _ _,hk,by simp only[tA];omega⟩)
     (σ':=λb' p=>if b'=b/\o+l.length*i.size<=p/\p<o+(l.length+l'.length)*i.size then w1.cell? ⟨b,p,none⟩else g.σ b' p)
     (λb' p v h=>by
      show(if b'=b/\o+l.length*i.size<=p/\p<o+(l.length+l'.length)*i.size then w1.cell? ⟨b,p,none⟩else g.σ b' p)=some v;by_cases hb:b'=b/\o+l.length*i.size<=p/\p<o+(l.length+l'.length)*i.size
      ·obtain⟨rfl,my,hb3⟩:=hb;rw[sn ⟨rfl,my,hb3⟩];exact rr1.σw _ _ _ h
      ·rw[sg hb];exact h)
     (λb' p v h=>by
      by_cases hb:b'=b/\o+l.length*i.size<=p/\p<o+(l.length+l'.length)*i.size
      ·rw[sn hb]at h;obtain⟨rfl,my,hb3⟩:=hb;refine .inr ⟨rfl,hb3,h,i0,_,rfl,AC _ _ _,hk,my,?_⟩;simp only[tA]at hb3;simp only[];omega
      ·rw[sg hb]at h;exact .inl h)
    have hkill:wB (wB (wB H i0 .tok) i0 .dead) id .tok=wB (AU H (.own i0 i.size)) id .tok:=by rw[AW];rfl
    rw[hkill]at r1 r2;refine⟨_,_,_,wS,.inr ⟨zt,b,o,cap,⟨none,by rw[hlo],.inl rfl⟩,by rw[hlo];exact hroom,?_,by simp [hlo]⟩,r1,tt1.trans r2,r3⟩;refine wL.append (esz:=i.size) l l' o (wL.mono r3 (λp v hv=>r3.σ b p v hv) _ _ _ wX) ?_;have shift:∀(l2:List Fs) (p:Nat),p+l2.length*i.size<=l'.length*i.size->wL g i.size (λo=>news[o]?) p l2->
      wL ⟨λk=>if k=id then some ⟨b,o+(l.length+l'.length)*i.size,o+cap*i.size⟩else g.β k,λb' p=>if b'=b/\o+l.length*i.size<=p/\p<o+(l.length+l'.length)*i.size then w1.cell? ⟨b,p,none⟩else g.σ b' p⟩ i.size
       ((λb' p=>if b'=b/\o+l.length*i.size<=p/\p<o+(l.length+l'.length)*i.size then w1.cell? ⟨b,p,none⟩else g.σ b' p) b) (o+l.length*i.size+p) l2:=by
     intro l2;induction l2 with
     |nil=>intro p _ _;trivial
     |cons e' l2 ih=>
      rintro p hp ⟨⟨q,q1,q2,q3⟩,q4⟩;rw[sM,tA]at hp;refine⟨⟨q,AR.mono r3 _ _ q1,q2,λj v hv=>?_⟩,?_⟩
      ·grind
      ·grind
    have:=shift l' 0 zo s3;simpa using this
  ·obtain⟨vs,v1,v2,v3,v4⟩:=wX.list;exact grow (some ⟨b,o,none⟩) cap vs rfl v1 v3 v4 (run_firstCells_some (P:=P) w.drew i.size l.length ⟨b,o,none⟩ l.length cap vs v1 (λj v hv=>by rw[B4];exact R.σw _ _ _ (v2 j v hv))) zo
theorem X2(R:x7 g H n w){i:TypeInfo}{z:Fs}{s:Nat}{a:Fs}{u:Value}(hu:P.underlying t=some (.slice e))(hi:P.info? e=some i)(hz:Cf P e=some z)(xG:Fp P e=some s)
  (hx:AR g a u) (h0:AD H id=none) (s5:id<n) (hm:m<=id) (h1:C4 a) (h2:0<=A9 a) (h3:Al (A9 a).toNat i.bytes) (h4:A9 a<=35184372088832):
  ∃v w' g',(Instr.makeSlice t u u).run P w= .ok v w'/\AR g' (.ref id s 0 (A9 a).toNat (A9 a).toNat) v/\x7 g' (wB H id (.arr s (List.replicate (A9 a).toNat z))) n w'/\q9 m g H w g' (wB H id (.arr s (List.replicate (A9 a).toNat z))) w'/\g.le g':=by
 obtain⟨k,c,rfl,rfl⟩:=Cy h1 hx;obtain⟨i',zv,z9,hzz,hr,hzs,hl,hp0,hnt⟩:=Cg hz;rw[hi]at z9;cases z9;obtain⟨i'',d,hi'',hd,yg,hpos⟩:=EX xG;rw[hi]at hi'';cases hi'';subst yg;simp only[A9]at h2 h3 h4⊢;have hb:(i.bytes:Int)*c<=281474976710656:=by grind [Al,Int.toNat_natCast,Nat.mul_comm]
 have wS:=run_make (P:=P) w t e i zv hu hi hzz k k c c h2 (vA _) hb zo;have hnewb:(w.alloc (.cells (madeCells zv.cells (c.toNat*i.size)) e)).heap[w.heap.size]?=some (.cells (madeCells zv.cells (c.toNat*i.size)) e (0,0)):=by show(w.heap.push _)[w.heap.size]?=_;simp
 have hb0:g.β id=none:=by
  cases hb:g.β id with
  |none=>rfl
  |some L'=>exact absurd h0 (R.yJ id L' hb).1
 obtain⟨r1,r2,r3⟩:=R.new (m:=m) (w':=w.alloc (.cells (madeCells zv.cells (c.toNat*i.size)) e)) rfl rfl rfl rfl h0 s5 hm (L:=⟨w.heap.size,0,c.toNat*i.size⟩) rfl (ob:=.arr i.size (List.replicate c.toNat z)) (by
  refine⟨⟨w.heap.size,0,c.toNat*i.size⟩,_,e,zw,rfl,by rw[size_madeCells],hnewb,by rw[size_madeCells];simp,?_⟩;refine wL.replicate (hr _) ⟨hzs,(hr ⟨λ_=>none,λ_ _=>none⟩).one hnt⟩ _ _ λa ha j x hx=>?_
  simp only[tx];have:=FJ (z:=zv.cells) (k:=c.toNat) ha hx
  rwa[hzs]at this)
 exact⟨_,_,_,wS,⟨_,by simp;rfl,rfl,zw⟩,r1,r2,r3⟩
theorem Sq{n:Nat}:∀(ps:List (Nat×zz)),Xn esz n (ps.map (·.1)) ((ps.map (·.2)).map ρ')->∀p∈ps,nT (ρ' p.2)/\(ρ' p.2).cells.length=esz/\p.1<n
 |[],_,p,hp=>by simp at hp
 |q::ps,h,p,hp=>by
  obtain⟨a,b,c,d⟩:=h;rcases tg.1 hp with rfl|hp
  ·exact⟨a,b,c⟩
  ·exact Sq ps d p hp
theorem Pv:∀(ps:List (Nat×zz)) (l:List Fs),Xo (ps.map (·.1)) ((ps.map (·.2)).map ρ') l=ps.foldl (λl p=>l.set p.1 (ρ' p.2)) l
 |[],_=>rfl
 |_::ps,l=>Pv ps _
theorem X3(R:x7 g H n w){len s:Nat}{z:Fs}{parts:Array (Nat×Operand)}{ps:List (Nat×zz)}{ρ:Operand->Value}(hu:P.underlying t=some (.slice e))(hz:Cf P e=some z)(xG:Fp P e=some s)
  (hc:FI parts.toList=some ps) (hv:∀x x',Az x=some x'->x'∈ps.map (·.2)->AR g (ρ' x') (ρ x)) (h0:AD H id=none) (s5:id<n) (hm:m<=id)
  (h1:Xn s len (ps.map (·.1)) ((ps.map (·.2)).map ρ')) (h3:len*s<=16777216):
  ∃v w' g',(Instr.buildSlice t len (parts.map λ(i,x)=>(i,ρ x))).run P w= .ok v w'/\AR g' (.ref id s 0 len len) v/\
   x7 g' (wB H id (.arr s (Xo (ps.map (·.1)) ((ps.map (·.2)).map ρ') (List.replicate len z)))) n w'/\q9 m g H w g' (wB H id (.arr s (Xo (ps.map (·.1)) ((ps.map (·.2)).map ρ') (List.replicate len z)))) w'/\g.le g':=by
 obtain⟨cells,wS,xl,q3⟩:=bR (w:=w) hu hz xG hc hv (Sq ps h1) h3;rw[Pv];have hL:(ps.foldl (λl p=>l.set p.1 (ρ' p.2)) (List.replicate len z)).length=len:=by rw[IT];simp
 have hnewb:(w.alloc (.cells cells e)).heap[w.heap.size]?=some (.cells cells e (0,0)):=by show(w.heap.push _)[w.heap.size]?=_;simp
 obtain⟨r1,r2,r3⟩:=R.new (m:=m) (w':=w.alloc (.cells cells e)) rfl rfl rfl rfl h0 s5 hm (L:=⟨w.heap.size,0,len*s⟩) rfl (ob:=.arr s (ps.foldl (λl p=>l.set p.1 (ρ' p.2)) (List.replicate len z))) (by
  refine⟨⟨w.heap.size,0,len*s⟩,_,e,zw,rfl,xl.symm,hnewb,by rw[xl,hL],?_⟩;refine wL.mono (g:=g) (g':=⟨λi=>if i=id then some ⟨w.heap.size,0,len*s⟩else g.β i,g.σ⟩) ⟨λi L h=>?_,λ_ _ _ h=>h⟩ (λ_ _ h=>h) _ _ _ q3;show(if i=id then _ else _)=_;rw[sg (by rintro rfl;exact absurd h0 (R.yJ i L h).1)];exact h)
 exact⟨_,_,_,wS,⟨_,by simp;rfl,rfl,zw⟩,r1,r2,r3⟩
end
def Nj{x:Value}(h:x.oneCell'=true):GB 1 x/\∀(j:Nat) y,x.cells[j]?=some y->j=0/\y=x:=by
 cases x<;>simp [Value.oneCell']at h<;>refine⟨⟨rfl,by simp [Value.cells,Value.oneCell']⟩,λj y e=>?_⟩<;>(cases j with
  |zero=>simp [Value.cells]at e;exact⟨rfl,e.symm⟩
  |succ j=>simp [Value.cells]at e)
variable {g:q8}
theorem wM.stab1{f:Nat->Option Value}:∀(cs:List Fs) (o:Nat),wM g f o cs->wL g 1 f o cs
 |[],_,_=>trivial
 |c::cs,o,⟨⟨x,h1,h2,h3⟩,h⟩=>⟨⟨x,h2,(Nj h3).1,λj y e=>by
   obtain⟨rfl,rfl⟩:=(Nj h3).2 j y e;exact h1⟩,wM.stab1 cs (o+1) h⟩
theorem X4{P:Program}{H:AB}{n m:Nat}{w:World}(R:x7 g H n w){t e:TypeId}{nn:Nat}{x:Operand}{lo hi:Option Operand}{x':zz}{l' h':Option zz}{ρ:Operand->Value}{ρ':zz->Fs}{K:AB->Fs->Prop}
  (hu:P.underlying t=some (.array nn e)) (xG:Fp P e=some 1) (hlo:Dm lo=some l') (hhi:Dm hi=some h') (hx:AR g (ρ' x') (ρ x))
  (hv:∀y y',Az y=some y'->(l'=some y'\/h'=some y')->AR g (ρ' y') (ρ y)) (b1:Co ρ' l') (b2:Co ρ' h') (h:IQ H nn (wT ρ' 0 l') (wT ρ' nn h') K (ρ' x')):
  ∃v H' v',(Instr.sliceAt t (ρ x) (lo.map ρ) (hi.map ρ) none).run P w= .ok v w/\AR g v' v/\x7 g H' n w/\q9 m g H w g H' w/\K H' v':=by
 generalize ρ' x'=av at h hx;unfold IQ at h;split at h;case h_2=>exact h.elim
 rename_i id;obtain⟨L,k1,k2,k3⟩:=hx;have main:∀zc hi0:Int,wT ρ' 0 l'=zc->wT ρ' nn h'=hi0->0<=zc->zc<=hi0->hi0<=nn->zc<nn->
   (Instr.sliceAt t (ρ x) (lo.map ρ) (hi.map ρ) none).run P w= .ok (.slice (some ⟨L.wR,zc.toNat*1,none⟩) (hi0.toNat-zc.toNat) (nn-zc.toNat)) w:=by
  intro zc hi0 e1 e2 c1 c2 c3 c4;have hb:=D5 (P:=P) (g:=g) (w:=w) (isSlice:=false) (len:=nn) (cap:=nn) (ρ:=ρ) (ρ':=ρ') (mx:=none) (mx':=none) hlo hhi rfl (λy y' a b=>hv y y' a (by simpa using b)) b1 b2 zt zw zo zo (by rw[DT];omega) (by rw[DT];exact vA _);rw[e1,e2,DT]at hb;have s8:¬nn=zc.toNat:=zo
  rw[k3];simp only[tU]at hb;simp only[Instr.sliceAt,Sem.run_bind,run_underlying hu,Result.andThen_ok,Instr.sureAddr,Sem.run_pure,hb,Bz xG,B4,sm,s8,sY];simp
 split at h
 ·rename_i cs ho;obtain⟨c0,c1,c2,c3,c4,hK⟩:=h;obtain⟨L',c,e0,j1,j2,j3,j4,j5,j6⟩:=R.obj id _ ho;rw[k1]at j1;cases j1;obtain⟨r1,t1⟩:=R.upd (m:=m) (w':=w) (ob':=.arr 1 cs) ho rfl k1 rfl rfl rfl rfl (λ_ _=>rfl) (.inl ⟨c,e0,(0,0),c,j4,j4,rfl,λ_ _=>rfl⟩)
   ⟨L,c,e0,k1,j2,by rw[j3,j5],j4,by rw[j5];simp,wM.stab1 cs 0 j6⟩
  exact⟨_,_,.ref id 1 _ _ _,main _ _ rfl rfl c1 c2 c3 c4,⟨L,k1,k2,rfl⟩,r1,t1,hK⟩
 ·rename_i e' cs ho;obtain⟨rfl,c0,c1,c2,c3,c4,hK⟩:=h;exact⟨_,_,.ref id 1 _ _ _,main _ _ rfl rfl c1 c2 c3 c4,⟨L,k1,k2,rfl⟩,R,q9.refl _ _ _ _,hK⟩
 ·exact h.elim
theorem x7.freeze{H:AB}{n m:Nat}{w:World}(r:x7 g H n w){id e:Nat}{l:List Fs}(h0:AD H id=some (.arr e l)):
  ∃σ',x7 ⟨g.β,σ'⟩ (wB H id (.frz e l)) n w/\q9 m g H w ⟨g.β,σ'⟩ (wB H id (.frz e l)) w:=by
 obtain⟨L,c,t,j1,j2,j3,j4,j5,j6⟩:=r.obj id _ h0
 let σ':Nat->Nat->Option Value:=λb o=>if b=L.wR/\o<c.size then c[o]? else g.σ b o
 have xZ:∀o,w.cell? ⟨L.wR,o,none⟩=c[o]?:=λo=>BK j4 o
 have hσ:∀b o v,g.σ b o=some v->σ' b o=some v:=by
  intro b o v h;show(if b=L.wR/\o<c.size then c[o]? else g.σ b o)=some v;split
  ·rename_i q;have:=r.σw b o v h;rw[q.1,xZ]at this;exact this
  ·exact h
 have yy:∀b o v,σ' b o=some v->g.σ b o=some v\/(b=L.wR/\o<c.size):=by grind
 have hle:g.le ⟨g.β,σ'⟩:=⟨λ_ _ h=>h,hσ⟩;have low:∀i oi,AD (wB H id (.frz e l)) i=some oi->oi.owns=true->i≠id/\AD H i=some oi:=by
  intro i oi q1 q2;rw[AT]at q1;by_cases e:id=i
  ·rw[sn e]at q1;cases q1;simp [x9.owns]at q2
  ·rw[sg e]at q1;exact⟨Ne.symm e,q1⟩
 refine⟨σ',⟨?_,?_,?_,?_,?_,?_,Et.mono (g:=g) (g':=⟨g.β,σ'⟩) hle r.gl,r.gz⟩,⟨hle,λ_ _ h=>.inl h,rfl,rfl,rfl,sj _,λb ob hb=>by rw[hb];exact JQ.same _ _,?_,?_⟩⟩
 ·intro b o v h;have h':(if b=L.wR/\o<c.size then c[o]? else g.σ b o)=some v:=h;split at h'
  ·rename_i q;rw[q.1,xZ];exact h'
  ·exact r.σw b o v h'
 ·intro i oi h;rw[AT]at h;by_cases e1:id=i
  ·rw[sn e1]at h;cases h;subst e1;refine⟨L,j1,j2,?_⟩;refine wL.mono (g:=g) (g':=⟨g.β,σ'⟩) hle (λo x q=>?_) e l 0 j6;show(if L.wR=L.wR/\o<c.size then c[o]? else g.σ L.wR o)=some x;rw[sn ⟨rfl,(sW.1 q).1⟩];exact q
  ·rw[sg e1]at h;exact FT.ext (w:=w) (w':=w) (λ_ _ x=>x) hle oi (r.obj i oi h)
 ·intro i L' h;refine⟨?_,(r.yJ i L' h).2⟩;rw[AT];by_cases e:id=i
  ·simp [e]
  ·rw[sg e];exact(r.yJ i L' h).1
 ·intro i oi h;rw[AT]at h;by_cases e:id=i
  ·subst e;exact r.hd id _ h0
  ·rw[sg e]at h;exact r.hd i oi h
 ·intro i j oi oj Li Lj s8 q1 q2 q3 q4 q5 q6 hb;exact r.ap i j oi oj Li Lj s8 (low i oi q1 q3).2 (low j oj q2 q4).2 q3 q4 q5 q6 hb
 ·intro i oi L' o q1 q2 q3 q4 q5;obtain⟨p1,p2⟩:=low i oi q1 q2;have hn:=r.un i oi L' o p2 q2 q3 q4 q5;cases hs:σ' L'.wR o with
  |none=>exact hs
  |some v=>
   rcases yy _ _ _ hs with h|⟨h1,h2⟩
   ·rw[hn]at h;cases h
   ·exfalso;rcases r.ap i id oi _ L' L p1 p2 h0 q2 rfl q3 j1 h1 with k|k|k|k<;>omega
 ·rintro b o hb ⟨i,oi,Li,q1,q2,q3,q4,q5,q6⟩;exact⟨i,oi,Li,(low i oi q1 q2).2,q2,q3,q4,q5,q6⟩
 ·intro b o v hb h;rcases yy b o v h with h|⟨h1,h2⟩
  ·exact .inl h
  ·exact .inr ⟨id,_,L,h0,rfl,j1,h1.symm,zo,zo⟩
end
end Go.AM
namespace Go.AM
open Go.Lib Go.MapKept Go.RowKit
section
variable {P:Program} {g:q8} {H:AB} {n m:Nat} {w:World}
def gG(P:Program)(kt:KT)(t:TypeId):Prop:=match kt with
 | .arr n k=>∃e,P.underlying t=some (.array n e)/\P.underlying e=some (.int k)/\Fp P e=some 1
 |kt=>∃d,P.underlying t=some d/\∀(g:q8) k x,kt.is k->AR g k x->IsKey d x
variable {k av mv:Fs} {op:BinOp} {ok:Bool} {kt:KT} {id base:Nat} {X:Operand} {t e:TypeId} {x y c:Value}
theorem bX(h:oQ P t=some kt):gG P kt t:=by
 unfold oQ at h;split at h;case h_5=>cases h
 case h_4=>
  rename_i hu;split at h
  ·rename_i h1 h2;cases h;exact⟨_,hu,h1,h2⟩
  ·cases h
 all_goals
  rename_i hu;cases h;refine⟨_,hu,λg k x hk hx=>?_⟩;cases k<;>simp only[KT.is]at hk<;>first|exact hk.elim|skip
  have hx':=hx;simp only[AR]at hx';subst hx';first|exact hk|(subst hk;rfl)|trivial|(simp [IsKey];done)|(simp [IsKey,hk];done)
theorem Sr{k:IntKind}:∀{n:Nat} {xs ys:List Fs},Oi k n xs->Oi k n ys->D2 (List.replicate n 0) xs ys
 |0,[],[],_,_=>trivial
 |n+1,a::xs,b::ys,h1,h2=>by
  cases a<;>(try exact h1.elim);cases b<;>(try exact h2.elim);obtain⟨rfl,h1⟩:=h1;obtain⟨rfl,h2⟩:=h2;exact⟨rfl,Sr h1 h2⟩
 |0,_::_,_,h1,_=>by cases h1
 |0,[],_::_,_,h2=>by cases h2
 |n+1,[],_,h1,_=>by cases h1
 |n+1,_::_,[],_,h2=>by cases h2
theorem Ss{k:IntKind}:∀{n:Nat} {xs ys:List Fs} {us vs:List Value},Oi k n xs->Oi k n ys->wI g xs us->wI g ys vs->(xT xs ys=true↔us=vs)
 |0,xs,ys,us,vs,h1,h2,hx,hy=>by
  cases xs with
  |cons _ _=>cases h1
  |nil=>cases ys with
   |cons _ _=>cases h2
   |nil=>
    have hx':us=[]:=hx;have hy':vs=[]:=hy;subst hx';subst hy';simp [xT]
 |n+1,xs,ys,us,vs,h1,h2,hx,hy=>by
  cases xs with
  |nil=>cases h1
  |cons a xs=>cases ys with
   |nil=>cases h2
   |cons b ys=>
    cases a<;>(try exact h1.elim);cases b<;>(try exact h2.elim);obtain⟨rfl,h1⟩:=h1;obtain⟨rfl,h2⟩:=h2;obtain⟨u,r1,rfl,q2,q3⟩:=hx;obtain⟨v,r2,rfl,q5,q6⟩:=hy;have q2':u= .int _ _:=q2;have q5':v= .int _ _:=q5;subst q2';subst q5';have ih:=Ss h1 h2 q3 q6;simp [xT,ID,ih]
theorem WZ{a b:Fs}(ha:kt.is a)(hb:kt.is b)(hx:AR g a x)(hy:AR g b y):(ID a b=true↔x=y):=by
 cases kt with
 |arr n k=>
  cases a<;>(try exact ha.elim);cases b<;>(try exact hb.elim);obtain⟨us,rfl,k1,-⟩:=hx;obtain⟨vs,rfl,k2,-⟩:=hy;have:=Ss ha hb k1 k2;simp only[ID,this,Value.agg.injEq];exact⟨λe=>by rw[<-Array.toList_inj];exact e,λe=>by rw[e]⟩
 |_=>
  cases a<;>simp only[KT.is]at ha<;>(try exact ha.elim)<;>cases b<;>simp only[KT.is]at hb<;>(try exact hb.elim)<;>simp only[AR]at hx hy<;>subst hx<;>subst hy<;>
   first|(subst ha;subst hb;simp [ID];done)|(simp [ID];done)|(simp only[ID,si,Value.string.injEq];exact⟨λe=>by rw[e],str_inj⟩)
theorem Nk(hs:Fp P e=some 1){k:IntKind}(he:P.underlying e=some (.int k)):∃i,P.info? e=some i/\P.cellsOf e=1:=by
 unfold Fp at hs;rw[he]at hs;cases hq:P.info? e with
 |none=>rw[hq]at hs;cases hs
 |some i=>rw[hq]at hs;exact⟨i,rfl,by simp only[Program.cellsOf,hq];exact(show ¬i.size=0/\i.size=1 by simpa using hs).2⟩
theorem K7(h:gG P kt t)(hk:kt.is k)(hx:AR g k x)(em:Bool):(Instr.checkKey em 10000 t x).run P w= .ok () w:=by
 cases kt with
 |arr n kd=>
  obtain⟨e,h1,h2,h3⟩:=h;obtain⟨i,hi,hi1⟩:=Nk h3 h2;cases k<;>(try exact hk.elim);rename_i xs;obtain⟨us,rfl,k1,-⟩:=hx;have l5:∀(m o:Nat) (as:List Fs),Oi kd m as->wI g as (us.toList.drop o)->∀j,o<=j->j<o+m->∃z,us[j]?=some (.int kd z):=by
   intro m;induction m with
   |zero=>intro o as _ _ j h1 h2;omega
   |succ m ih=>
    intro o as ha hv j hj1 hj2;cases as with
    |nil=>cases ha
    |cons a as=>
     cases a<;>(try exact ha.elim);obtain⟨rfl,ha⟩:=ha;obtain⟨u,r1,q1,q2,q3⟩:=hv;have q2':u= .int _ _:=q2;subst q2';by_cases e:j=o
     ·subst e;exact⟨_,by have:=congrArg (λl:List Value=>l[0]?) q1;simpa using this⟩
     ·refine ih (o+1) as ha ?_ j zo zo;have:=congrArg (λl:List Value=>l.drop 1) q1;simp at this;rw[this];exact q3
  have l5:=l5 n 0 xs hk (by simpa using k1);have he:∀w,(isAgg e).run P w= .ok false w:=λw=>by simp [isAgg,run_underlying h2]
  rw[show(10000:Nat)=9999+1 from rfl,Instr.checkKey];simp only[Sem.run_bind,run_underlying h1,Result.andThen_ok];simp only[Std.Legacy.Range.forIn_eq_forIn_range',Std.Legacy.Range.size,Nat.sub_zero,Nat.add_one_sub_one,Nat.div_one];have wl:∀j∈List.range' 0 n,∃z,us[j]?=some (.int kd z):=λj hj=>l5 j (sk _) (by
   have:=List.mem_range'.1 hj;omega)
  generalize List.range' 0 n=is at wl;induction is with
  |nil=>simp
  |cons j is ih=>
   obtain⟨z,hz⟩:=wl j zw;have p2:(Instr.checkKey em 9999 e (.int kd z)).run P w= .ok () w:=by
    rw[show(9999:Nat)=9998+1 from rfl];exact run_checkKey h2 (show IsKey (.int kd) (.int kd z)from rfl) em 9998
   simp only[List.forIn_cons,Sem.run_bind,Bz h3,Result.andThen_ok,Nat.mul_one,Bu he hz,p2,Sem.run_pure];exact ih (λy hy=>wl y (by simp [hy]))
 |_=>
  obtain⟨d,h1,h2⟩:=h;exact run_checkKey h1 (h2 g k x hk hx) em 9999
theorem X5(h:gG P kt t)(hk:kt.is k)(hx:AR g k x):(Instr.keyThatStays x x).run P w= .ok x w:=by
 cases kt with
 |arr n kd=>
  cases k<;>(try exact hk.elim);rename_i xs;obtain⟨us,rfl,k1,-⟩:=hx;have l5:∀(m:Nat) (as:List Fs) (vs:List Value),Oi kd m as->wI g as vs->∀v∈vs,∃z,v= .int kd z:=by
   intro m;induction m with
   |zero=>
    intro as vs ha hv v hm;cases as with
    |cons _ _=>cases ha
    |nil=>have hv':vs=[]:=hv;subst hv';cases hm
   |succ m ih=>
    intro as vs ha hv v hm;cases as with
    |nil=>cases ha
    |cons a as=>
     cases a<;>(try exact ha.elim);obtain⟨rfl,ha⟩:=ha;obtain⟨u,r1,rfl,q2,q3⟩:=hv;have q2':u= .int _ _:=q2;subst q2';rcases tg.1 hm with rfl|hm
     ·exact⟨_,rfl⟩
     ·exact ih as r1 ha q3 v hm
  have hs:Instr.sameBits 10000 (.agg us) (.agg us)=true:=by
   rw[show(10000:Nat)=9999+1 from rfl,Instr.sameBits,sf];refine⟨zw,?_⟩;rw[sE];rintro⟨a,b⟩ xd;have hz:∀l:List Value,(a,b)∈l.zip l->a=b/\a∈l:=by
    intro l;induction l with
    |nil=>intro h;cases h
    |cons q l ih=>
     intro h;rcases tg.1 h with h|h
     ·cases h;exact⟨rfl,zw⟩
     ·exact⟨(ih h).1,by simp [(ih h).2]⟩
   obtain⟨rfl,hm⟩:=hz _ xd;obtain⟨z,rfl⟩:=l5 n xs us.toList hk k1 a hm;simp [Instr.sameBits]
  simp [Instr.keyThatStays,hs]
 |_=>
  obtain⟨d,h1,h2⟩:=h;exact run_keyThatStays (h2 g k x hk hx)
theorem Nl(hd:gG P kt t)(hk:kt.is k)(hx:AR g k x)(es:List (Fs×Fs×Nat))(xD:List MapEntry)(hf:EG kt es)(hm:D0 g es xD):
  (Bm k es=none/\(Instr.findKey t x xD).run P w= .ok none w/\∀v y c,AR g v y->D0 g (EQ k v c es) (xD++[{key:=x,val:=y,born:=c}]))\/
  (∃j e v0,Bm k es=some v0/\xD[j]?=some e/\(Instr.findKey t x xD).run P w= .ok (some (j,e.val)) w/\AR g v0 e.val/\e.key=x/\∀v y c,AR g v y->D0 g (EQ k v c es) (xD.set j {e with key:=x,val:=y})):=by
 have key:∀(F:List MapEntry->Nat->Option (Nat×Value)->Prop),(∀i,F [] i none)->(∀e es i r,kt.is k->(x=e.key->F (e::es) i (some (i,e.val)))/\((∃k',kt.is k'/\AR g k' e.key)->x≠e.key->F es (i+1) r->F (e::es) i r))->
   ∀(es:List (Fs×Fs×Nat)) (xD:List MapEntry) (i:Nat),EG kt es->D0 g es xD->
   (Bm k es=none/\F xD i none/\∀v y c,AR g v y->D0 g (EQ k v c es) (xD++[{key:=x,val:=y,born:=c}]))\/
   (∃j e v0,Bm k es=some v0/\xD[j]?=some e/\F xD i (some (i+j,e.val))/\AR g v0 e.val/\e.key=x/\∀v y c,AR g v y->D0 g (EQ k v c es) (xD.set j {e with key:=x,val:=y})):=by
  intro F F0 F1 es;induction es with
  |nil=>
   intro xD i _ h;have h0:xD=[]:=h;subst h0;exact .inl ⟨rfl,F0 i,λv y c hv=>⟨_,_,rfl,hx,hv,rfl,rfl⟩⟩
  |cons q r ih=>
   obtain⟨k',v',b⟩:=q;intro xD i hf h;obtain⟨e,es2,rfl,h1,h2,h3,h4⟩:=h;obtain⟨f1,f2⟩:=hf;have hc:=WZ hk f1 hx h1;by_cases hxe:x=e.key
   ·have hc1:ID k k'=true:=hc.2 hxe;refine .inr ⟨0,e,v',by simp [Bm,hc1],rfl,(F1 e es2 i none hk).1 hxe,h2,hxe.symm,λv y c hv=>?_⟩;simp only[EQ,hc1,tD,List.set_cons_zero];exact⟨_,_,rfl,by rw[hxe];exact h1,hv,h3,h4⟩
   ·have hc1:¬ID k k'=true:=λz=>hxe (hc.1 z)
    rcases ih es2 (i+1) f2 h4 with⟨p1,p2,p3⟩|⟨j,e2,v0,p1,p2,p3,p4,p5,p6⟩
    ·refine .inl ⟨by simp [Bm,hc1,p1],(F1 e es2 i _ hk).2 ⟨k',f1,h1⟩ hxe p2,λv y c hv=>?_⟩;simp only[EQ,hc1,sJ];exact⟨_,_,rfl,h1,h2,h3,p3 v y c hv⟩
    ·refine .inr ⟨j+1,e2,v0,by simp [Bm,hc1,p1],by simpa using p2,(F1 e es2 i _ hk).2 ⟨k',f1,h1⟩ hxe (by rw[show i+(j+1)=i+1+j by omega];exact p3),p4,p5,λv y c hv=>?_⟩;simp only[EQ,hc1,List.set_cons_succ];exact⟨_,_,rfl,h1,h2,h3,p6 v y c hv⟩
 cases kt with
 |arr n kd=>
  obtain⟨e,h1,h2,h3⟩:=hd;obtain⟨ii,hi,hi1⟩:=Nk h3 h2;have hw:(Instr.findKey t x xD).run P w=(Instr.findAsking t x xD).run P w:=run_findKey_eq w (by rw[h1]) x xD;rw[hw];have heq:∀k' y,KT.is (.arr n kd) k'->AR g k' y->∃r,(Op.equal t x y).run P w= .ok r w/\(r=true↔x=y):=by
   intro k' y hk' hy;have hcr:=WZ (kt:=.arr n kd) hk hk' hx hy;cases k<;>(try exact hk.elim);cases k'<;>(try exact hk'.elim);rename_i xs ys;obtain⟨us,rfl,k1,-⟩:=hx;obtain⟨vs,rfl,k2,-⟩:=hy;have he:=run_equalIn_array (P:=P) w 9999 us vs h1 hi;rw[hi1,List.range_eq_range',JX (g:=g) (w:=w) (d:=9998) h2 n 0 xs ys (by simpa using k1) (by simpa using k2) (Sr hk hk')]at he;simp only[ID]at hcr;exact⟨_,by rw[Op.equal,show Op.maxDepth=9999+1 from rfl,he],hcr⟩
  have:=key (λl i r=>(Instr.findAsking t x l i).run P w= .ok r w) (λi=>by simp [Instr.findAsking]) (λe es i r _=>⟨λhq=>?_,λ⟨k',q1,q2⟩ hq hF=>?_⟩) es xD 0 hf hm
  ·simp_all
  ·obtain⟨q,hq1,hq2⟩:=heq k x hk hx;have:q=true:=hq2.2 rfl;subst this;rw[Instr.findAsking,Sem.run_bind,<-hq,hq1];simp
  ·obtain⟨q,hq1,hq2⟩:=heq k' e.key q1 q2;have:q=false:=by cases q with
    |true=>exact absurd (hq2.1 rfl) hq
    |false=>rfl
   subst this;rw[Instr.findAsking,Sem.run_bind,hq1];simp [hF]
 |_=>
  obtain⟨d,h1,h2⟩:=hd;have hkx:=h2 g k x hk hx;have:=key (λl i r=>Instr.findNow d x l i=some r) (λi=>rfl) (λe es i r _=>⟨λhq=>?_,λ⟨k',q1,q2⟩ hq hF=>?_⟩) es xD 0 hf hm
  ·rcases this with⟨q1,q2,q3⟩|⟨j,e,v0,q1,q2,q3,q4⟩
   ·exact .inl ⟨q1,run_findKey h1 q2,q3⟩
   ·exact .inr ⟨j,e,v0,q1,q2,by rw[tx]at q3;exact run_findKey h1 q3,q4⟩
  ·obtain⟨q,hq2,hiff⟩:=sameNow_of_keys hkx hkx;have:q=true:=hiff.2 rfl;subst this;simp only[Instr.findNow,<-hq,hq2]
  ·obtain⟨q,hq2,hiff⟩:=sameNow_of_keys hkx (h2 g k' e.key q1 q2);have:q=false:=by cases q with
    |true=>exact absurd (hiff.1 rfl) hq
    |false=>rfl
   subst this;simp only[Instr.findNow,hq2,hF]
theorem Nm:∀(es:List (Fs×Fs×Nat)) (xD:List MapEntry),D0 g es xD->∀e'∈xD,∃e∈es,AR g e.1 e'.key/\AR g e.2.1 e'.val/\e'.born=e.2.2
 |[],xD,h,e',he=>by have h0:xD=[]:=h;subst h0;cases he
 |(k,v,b)::r,xD,h,e',he=>by
  obtain⟨e,es2,rfl,h1,h2,h3,h4⟩:=h;rcases tg.1 he with rfl|he
  ·exact⟨(k,v,b),tu,h1,h2,h3⟩
  ·obtain⟨x,hx,hh⟩:=Nm r es2 h4 e' he;exact⟨x,tM _ hx,hh⟩
theorem Pw:∀(es:List (Fs×Fs×Nat)) (xD:List MapEntry),D0 g es xD->∀e∈es,∃e'∈xD,e'.born=e.2.2
 |(k,v,b)::r,xD,h,e,he=>by
  obtain⟨x,es2,rfl,h1,h2,h3,h4⟩:=h;rcases tg.1 he with rfl|he
  ·exact⟨x,tu,h3⟩
  ·obtain⟨y,hy,hh⟩:=Pw r es2 h4 e he;exact⟨y,tM _ hy,hh⟩
theorem MY(w:World)(ty:TypeId)(bi bm since c0:Nat)(seen:Array Nat)(es:Array MapEntry)(clock:Nat)(hi:w.heap[bi]?=some (.mapIter (some bm) since seen c0))(hb:w.heap[bm]?=some (.map es clock))(hold:∀x∈es.toList,x.born<since)(hsc:since<=c0):
  ((leftOf es seen).size=0/\(Instr.next (.pointer (some ⟨bi,0,none⟩)) false ty).run P w= .ok (.tuple #[.bool false]) w)\/
  ∃e∈(leftOf es seen).toList,∃w1:World,(w1=w\/w1=w.drew)/\(Instr.next (.pointer (some ⟨bi,0,none⟩)) false ty).run P w= .ok (.tuple #[.bool true,e.key,e.val]) {w1 with heap:=w1.heap.setIfInBounds bi (.mapIter (some bm) since (seen.push e.born) clock)}:=by
 simp only[Instr.next,getObj,Sem.run_bind,Sem.run,hi,hb,Result.andThen,next_test_false seen es since c0 hold hsc,sN,sY];unfold leftOf;have xJ:∀x∈(Array.filter (λe=>!seen.contains e.born) es).toList,x.born<since:=λx hx=>hold x (by simp at hx⊢;exact hx.1)
 generalize Array.filter (λe=>!seen.contains e.born) es=L at xJ⊢;have e1:L.filter (λx=>decide (x.born<since))=L:=Array.filter_eq_self.2 (λx hx=>by simpa using xJ x (by simpa using hx));have e2:L.filter (λx=>decide (x.born≥since))= #[]:=by simp_all
 simp only[e1,e2,Array.append_empty];by_cases h0:L.size=0
 ·simp_all [choose,Sem.run,Question.forced]
 ·right;have s8:L.isEmpty=false:=by simp [Array.isEmpty,h0]
  simp only[s8,sN,sY,Array.empty_append,Array.size_map];have hch:∃(j:Nat) (w1:World),j<L.size/\(w1=w\/w1=w.drew)/\(choose (Question.mapNext L.size)).run P w= .ok j w1:=by
   by_cases hf:L.size<=1
   ·exact⟨0,w,zo,.inl rfl,by simp [choose,Sem.run,Question.forced,hf]⟩
   ·exact⟨_,w.drew,Nat.mod_lt _ zo,.inr rfl,by
     simp only[choose,Sem.run,Question.forced,si,hf,sY,Question.cut];rfl⟩
  obtain⟨j,w1,hj,wu,wS⟩:=hch;refine⟨L[j],zw,w1,wu,?_⟩;have hh:w1.heap=w.heap:=by rcases wu with rfl|rfl<;>rfl
  have wB:∀o':Obj,(setObj bi o').run P w1= .ok () {w1 with heap:=w1.heap.setIfInBounds bi o'}:=λo'=>by
   simp only[setObj,Sem.run];rw[hh,hi]
  simp only[wS,Array.getElem?_map,uu hj,td,Sem.run_bind,wB,Result.andThen];rfl
theorem Wa(R:x7 g H n w)(h0:AD H id=none)(s5:id<n)(hm:m<=id)(o:Obj)(ob:x9)(hob:∀g':q8,g'.β id=some ⟨w.heap.size,0,1⟩->FT g' (w.alloc o) id ob):
  ∃g',x7 g' (wB H id ob) n (w.alloc o)/\q9 m g H w g' (wB H id ob) (w.alloc o)/\g.le g'/\g'.β id=some ⟨w.heap.size,0,1⟩:=by
 obtain⟨r1,r2,r3⟩:=R.new (m:=m) (w':=w.alloc o) (x:=o) rfl rfl rfl rfl h0 s5 hm (L:=⟨w.heap.size,0,1⟩) rfl (ob:=ob) (hob _ zw);exact⟨_,r1,r2,r3,zw⟩
theorem Qy(R:x7 g H n w){ob ob':x9}{L:Loc}{o o':Obj}(h0:AD H id=some ob)(hown:ob.owns=true)(hL:g.β id=some L)(hl:L.lo=0)(hh:L.hi=1)(hb:w.heap[L.wR]?=some o)(hnc:∀c e fz,o≠ .cells c e fz)
  (hob:FT g {w with heap:=w.heap.setIfInBounds L.wR o'} id ob'):
  x7 g (wB H id ob') n {w with heap:=w.heap.setIfInBounds L.wR o'}/\q9 m g H w g (wB H id ob') {w with heap:=w.heap.setIfInBounds L.wR o'}:=
 R.upd (m:=m) h0 hown hL rfl rfl rfl zw (λb hbl=>(heap_set hb).2 b hbl) (.inr ⟨hl,hh,o,hb,hnc⟩) hob
theorem X6(R:x7 g H n w)(h0:AD H id=none)(s5:id<n)(hm:m<=id)(t:TypeId):
  ∃v w' g',(Instr.makeMap t none).run P w= .ok v w'/\AR g' (.mp id) v/\x7 g' (wB H id (.map [] 0)) n w'/\q9 m g H w g' (wB H id (.map [] 0)) w':=by
 obtain⟨g',r1,r2,r3,hb⟩:=Wa (m:=m) R h0 s5 hm (.map #[] 0) (.map [] 0) λg' hb=>⟨_, #[],hb,rfl,rfl,(heap_alloc w _).1,rfl⟩
 exact⟨_,_,g',run_makeMap t w,⟨_,hb,rfl⟩,r1,r2⟩
theorem Ua(R:x7 g H n w)(h0:AD H id=none)(s5:id<n)(hm:m<=id)(ht:P.underlying t=some .string)(s:List UInt8):
  ∃v w' g',(Instr.range t (.string ⟨s.toArray⟩)).run P w= .ok v w'/\AR g' (.ptr id 0) v/\x7 g' (wB H id (.sit s 0)) n w'/\q9 m g H w g' (wB H id (.sit s 0)) w':=by
 obtain⟨g',r1,r2,r3,hb⟩:=Wa (m:=m) R h0 s5 hm (.stringIter ⟨s.toArray⟩ 0) (.sit s 0) λg' hb=>⟨_,hb,rfl,rfl,(heap_alloc w _).1⟩
 exact⟨_,_,g',run_range_string w t _ ht,⟨_,hb,rfl,rfl⟩,r1,r2⟩
theorem St(R:x7 g H n w){s:List UInt8}{pos:Nat}(h0:AD H id=some (.sit s pos))(hx:AR g (.ptr id 0) x)(ty:TypeId):
  ∃v w',(Instr.next x true ty).run P w= .ok v w'/\AR g (if pos<s.length then .wJ [.bool true,.int .i64 pos,.int .i32 (Utf8.decode ⟨s.toArray⟩ pos).1]else .wJ [.bool false]) v/\
   x7 g (if pos<s.length then wB H id (.sit s (pos+(Utf8.decode ⟨s.toArray⟩ pos).2))else H) n w'/\q9 m g H w g (if pos<s.length then wB H id (.sit s (pos+(Utf8.decode ⟨s.toArray⟩ pos).2))else H) w':=by
 obtain⟨L,hL,hl,rfl⟩:=hx;obtain⟨L',hL',hl',hh',hb⟩:=R.obj id _ h0;rw[hL]at hL';cases hL';by_cases hp:pos<s.length
 ·have hp':pos<(⟨s.toArray⟩:ByteArray).size:=by show pos<s.toArray.size;simpa using hp
  rw[sn hp,sn hp];obtain⟨r1,r2⟩:=Qy (m:=m) (ob':=.sit s (pos+(Utf8.decode ⟨s.toArray⟩ pos).2)) (o':=.stringIter ⟨s.toArray⟩ (pos+(Utf8.decode ⟨s.toArray⟩ pos).2)) R h0 rfl hL hl hh' hb zw ⟨L,hL,hl,hh',(heap_set hb).1⟩;exact⟨_,_,run_next_any_at w L.wR _ pos ty hb hp',⟨_,rfl,_,_,rfl,rfl,_,_,rfl,rfl,_,_,rfl,rfl,rfl⟩,r1,r2⟩
 ·have hp':¬pos<(⟨s.toArray⟩:ByteArray).size:=by show ¬pos<s.toArray.size;simpa using hp
  rw[sg hp,sg hp];exact⟨_,_,run_next_end_at w L.wR _ pos ty hb hp',⟨_,rfl,_,_,rfl,rfl,rfl⟩,R,q9.refl _ _ _ _⟩
theorem Ub(R:x7 g H n w)(h0:AD H id=none)(s5:id<n)(hm:m<=id){kt:TypeId}(ht:P.underlying t=some (.map kt e)){mi c:Nat}{es:List (Fs×Fs×Nat)}(ho:AD H mi=some (.map es c))(hx:AR g (.mp mi) x):
  ∃v w' g',(Instr.range t x).run P w= .ok v w'/\AR g' (.ptr id 0) v/\x7 g' (wB H id (.mit mi c [] c)) n w'/\q9 m g H w g' (wB H id (.mit mi c [] c)) w':=by
 obtain⟨L,hL,rfl⟩:=hx;obtain⟨L',xD,hL',hl',hh',hb,hm'⟩:=R.obj mi _ ho;rw[hL]at hL';cases hL';have s8:mi≠id:=λe=>by rw[e,h0]at ho;cases ho
 obtain⟨r1,r2,r3⟩:=R.new (m:=m) (w':=w.alloc (.mapIter (some L.wR) c #[] c)) (x:=.mapIter (some L.wR) c #[] c) rfl rfl rfl rfl h0 s5 hm (L:=⟨w.heap.size,0,1⟩) rfl (ob:=.mit mi c [] c) ⟨⟨w.heap.size,0,1⟩,L,zw,rfl,rfl,(heap_alloc w _).1,by simp [s8,hL],sj _⟩;exact⟨_,_,_,run_range_map w t kt e L.wR xD c ht hb,⟨⟨w.heap.size,0,1⟩,zw,rfl,rfl⟩,r1,r2⟩
theorem X7(R:x7 g H n w){ty:TypeId}{K:AB->Fs->Prop}(hx:AR g av x)(h:JF H K av):
  ∃v w' g' H' v',(Instr.next x false ty).run P w= .ok v w'/\AR g' v' v/\x7 g' H' n w'/\q9 m g H w g' H' w'/\K H' v':=by
 unfold JF at h;split at h;case h_2=>exact h.elim
 rename_i id;split at h;case h_2=>exact h.elim
 rename_i mi c seen la s5;split at h;case h_2=>exact h.elim
 rename_i es yu hm;obtain⟨hclk,k1,k2,k3⟩:=h;obtain⟨L,hL,hl,rfl⟩:=hx;obtain⟨L',Lm,hL',hl',hh',hb,hLm,hc⟩:=R.obj id _ s5;rw[hL]at hL';cases hL';obtain⟨Lm',xD,hm1,yh,hm3,hm4,hm5⟩:=R.obj mi _ hm;rw[hLm]at hm1;cases hm1;have hold:∀y∈xD.toList,y.born<c:=λy hy=>by
  obtain⟨e,he,_,_,q⟩:=Nm es _ hm5 y hy;rw[q];exact k1 e he
 rcases MY (P:=P) w ty L.wR Lm.wR c la seen.toArray xD yu hb hm4 hold hc with⟨p1,p2⟩|⟨e',he',w1,hw1,p2⟩
 ·refine⟨_,w,g,H,.wJ [.bool false],p2,⟨_,rfl,_,_,rfl,rfl,rfl⟩,R,q9.refl _ _ _ _,k2 ?_⟩;refine vF.2 λe he hs=>?_
  obtain⟨y,hy,q⟩:=Pw es _ hm5 e he;have:y∈(leftOf xD seen.toArray).toList:=by simp_all [leftOf,tV]
  have h0:(leftOf xD seen.toArray)= #[]:=Array.eq_empty_of_size_eq_zero p1;rw[h0]at this;simp at this
 ·have xJ:e'∈xD.toList/\¬e'.born∈seen:=by
   unfold leftOf at he';rw[Array.toList_filter,tV]at he';exact⟨he'.1,by simpa using he'.2⟩
  obtain⟨e,he,q1,q2,q3⟩:=Nm es _ hm5 e' xJ.1;have hk:=k3 e (tV.2 ⟨he,by rw[<-q3];simpa using xJ.2⟩);have hww:w1.heap=w.heap/\w1.os=w.os/\w1.tape=w.tape/\w1.output=w.output:=by rcases hw1 with rfl|rfl<;>exact⟨rfl,rfl,rfl,rfl⟩
  have wB:(w1.heap.setIfInBounds L.wR (.mapIter (some Lm.wR) c (seen.toArray.push e'.born) yu))[L.wR]?=some (.mapIter (some Lm.wR) c (seen++[e.2.2]).toArray yu):=by
   rw[hww.1,(heap_set hb).1,q3];simp
  obtain⟨r1,r2⟩:=R.upd (m:=m) (w':={w1 with heap:=w1.heap.setIfInBounds L.wR (.mapIter (some Lm.wR) c (seen.toArray.push e'.born) yu)}) (ob':=.mit mi c (seen++[e.2.2]) yu) s5 rfl hL hww.2.1 hww.2.2.1 hww.2.2.2 (by simp [hww.1]) (λb hbl=>by rw[show({w1 with heap:=w1.heap.setIfInBounds L.wR (.mapIter (some Lm.wR) c (seen.toArray.push e'.born) yu)}:World).heap=w.heap.setIfInBounds L.wR (.mapIter (some Lm.wR) c (seen.toArray.push e'.born) yu)by rw[<-hww.1]];exact(heap_set hb).2 b hbl) (.inr ⟨hl,hh',_,hb,zw⟩)
   ⟨L,Lm,hL,hl,hh',wB,hLm,hclk⟩
  exact⟨_,_,g,_,.wJ [.bool true,e.1,e.2.1],p2,⟨_,rfl,_,_,rfl,rfl,_,_,rfl,q1,_,_,rfl,q2,rfl⟩,r1,r2,hk⟩
theorem Px(s:Nat):∀(es:List (Fs×Fs×Nat)) (xD:List MapEntry),D0 g es xD->∀k v,Pe s es=some (k,v)->∃e,xD.find? (·.born==s)=some e/\AR g k e.key/\AR g v e.val
 |[],xD,h,k,v,hm=>by cases hm
 |(k0,v0,b)::r,xD,h,k,v,hm=>by
  obtain⟨e,es2,rfl,h1,h2,h3,h4⟩:=h
  rw[Pe]at hm
  by_cases hb:b=s
  ·simp_all
  ·rw[sg hb]at hm
   obtain⟨e2,q1,q2,q3⟩:=Px s r es2 h4 k v hm
   exact⟨e2,by
    rw[List.find?_cons];have:(e.born==s)=false:=by simpa [h3]using hb
    rw[this];exact q1,q2,q3⟩
theorem Uc(R:x7 g H n w)(hx:AR g av x)(h:(xE base .ment H [av]).1):
  (xE base .ment H [av]).2.1=H/\∃v,(Instr.entry x).run P w= .ok v w/\AR g (xE base .ment H [av]).2.2 v:=by
 cases av<;>simp only[xE]at h<;>(try exact h.elim);rename_i id off;cases off with
 |succ o=>simp []at h
 |zero=>
  simp only[xE]at h⊢;cases ho:AD H id with
  |none=>rw[ho]at h;exact h.elim
  |some ob=>
   rw[ho]at h;cases ob<;>simp only[]at h<;>(try exact h.elim);rename_i mi c seen last;try simp only[]
   cases hs:NX H mi seen with
   |none=>simp_all
   |some kv=>
    obtain⟨k,v⟩:=kv;rw[hs]at h;cases hm:AD H mi with
    |none=>rw[hm]at h;exact h.elim
    |some om=>
     rw[hm]at h;cases om<;>(try exact h.elim);rename_i es yu;have h:yu=last:=h;subst h;refine⟨rfl,?_⟩;unfold NX at hs;rw[hm]at hs;try simp only[]at hs
     cases hl:seen.getLast? with
     |none=>rw[hl]at hs;cases hs
     |some s=>
      rw[hl]at hs;obtain⟨L,hL,hl0,rfl⟩:=hx;obtain⟨L',Lm,hL',hl',hh',hb,hLm,hc⟩:=R.obj id _ ho;rw[hL]at hL';cases hL';obtain⟨Lm',xD,hm1,yh,hm3,hm4,hm5⟩:=R.obj mi _ hm;rw[hLm]at hm1;cases hm1;obtain⟨e,q1,q2,q3⟩:=Px s es _ hm5 k v hs;refine⟨.tuple #[e.key,e.val],?_,⟨_,rfl,_,_,rfl,q2,_,_,rfl,q3,rfl⟩⟩;have hback:seen.toArray.back?=some s:=by rw[Array.back?_eq_getElem?];simpa [List.getLast?_eq_getElem?]using hl
      have hfind:xD.find? (·.born==s)=some e:=by rw[<-Array.find?_toList];exact q1
      simp only[Instr.entry,getObj,Sem.run_bind,Sem.run,hb,hm4,Result.andThen,hback,bne_self_eq_false,sN,sY,hfind];rfl
theorem Nn{zero:Fs}{o:Option Fs}{z:Value}{b:Bool}(hz:AR g zero z)(h:o=none/\x=z/\b=false\/∃v,o=some v/\AR g v x/\b=true):
  AR g (C5 zero ok o) (if ok=true then .tuple #[x,.bool b]else x):=by
 unfold C5;rcases h with⟨rfl,rfl,rfl⟩|⟨v,rfl,hv,rfl⟩
 ·cases ok with
  |true=>exact⟨_,rfl,_,_,rfl,hz,_,_,rfl,rfl,rfl⟩
  |false=>exact hz
 ·cases ok with
  |true=>exact⟨_,rfl,_,_,rfl,hv,_,_,rfl,rfl,rfl⟩
  |false=>exact hv
theorem Ud(R:x7 g H n w){kt:TypeId}{kk:KT}{z:Fs}(hu:P.underlying t=some (.map kt e))(hk:oQ P kt=some kk)(hz:Cf P e=some z)(hx:AR g mv x)(hy:AR g k y)
  (h:(xE base (.look kk z ok) H [mv,k]).1):(xE base (.look kk z ok) H [mv,k]).2.1=H/\∃v,(Instr.lookup t x y ok).run P w= .ok v w/\AR g (xE base (.look kk z ok) H [mv,k]).2.2 v:=by
 have hkd:=bX hk;obtain⟨i,zv,hi,hzz,hr,hzs,hl,hp0,hnt⟩:=Cg hz;have hzrun:(zeroValue e).run P w= .ok zv w:=by simp [zeroValue,typeInfo,hi,hzz,Result.andThen]
 cases mv<;>simp only[xE]at h<;>(try exact h.elim);case mp id=>
  simp only[xE];cases ho:AD H id with
  |none=>rw[ho]at h;exact h.elim
  |some ob=>
   rw[ho]at h;cases ob<;>simp only[]at h<;>(try exact h.elim);rename_i es clock;obtain⟨h1,h2⟩:=h;obtain⟨L,hL,rfl⟩:=hx;obtain⟨L',xD,hL',hl',hh',hb,hm'⟩:=R.obj id _ ho;rw[hL]at hL';cases hL';refine⟨rfl,?_⟩;have hkx:=λem=>K7 (w:=w) hkd h1 hy em
   rcases Nl (w:=w) hkd h1 hy es xD.toList h2 hm' with⟨p1,p2,p3⟩|⟨j,e2,v0,p1,p2,p3,p4,p5,p6⟩
   ·refine⟨if ok=true then .tuple #[zv,.bool false]else zv,?_,Nn (hr g) (.inl ⟨p1,rfl,rfl⟩)⟩;simp only[Instr.lookup,Sem.run_bind,run_underlying hu,Result.andThen_ok,MapKept.run_getObj_map hb,Sem.run_pure,hkx,p2,hzrun]
   ·refine⟨if ok=true then .tuple #[e2.val,.bool true]else e2.val,?_,Nn (hr g) (.inr ⟨v0,p1,p4,rfl⟩)⟩;simp only[Instr.lookup,Sem.run_bind,run_underlying hu,Result.andThen_ok,MapKept.run_getObj_map hb,Sem.run_pure,hkx,p3]
 case nilmp=>
  simp only[xE];have hx':x= .map none:=hx;subst hx';refine⟨zt,if ok=true then .tuple #[zv,.bool false]else zv,?_,Nn (hr g) (.inl ⟨rfl,rfl,rfl⟩)⟩;have hkx:=λem=>K7 (w:=w) hkd h hy em
  have hf:(Instr.findKey kt y ([]:List MapEntry)).run P w= .ok none w:=by
   rcases Nl (w:=w) hkd h hy [] [] zt rfl with⟨-,q,-⟩|⟨j,e,v0,q,-⟩
   ·exact q
   ·cases q
  simp only[Instr.lookup,Sem.run_bind,run_underlying hu,Result.andThen_ok,Sem.run_pure,hkx,hf,hzrun]
theorem Ue(R:x7 g H n w){kt:TypeId}{kk:KT}{v:Fs}{z:Value}(hu:P.underlying t=some (.map kt e))(hk:oQ P kt=some kk)(hx:AR g mv x)(hy:AR g k y)(hv:AR g v z)
  (h:(xE base (.mput kk) H [mv,k,v]).1):∃w',(Instr.mapUpdate t x y z).run P w= .ok () w'/\(xE base (.mput kk) H [mv,k,v]).2.2= .wJ []/\x7 g (xE base (.mput kk) H [mv,k,v]).2.1 n w'/\q9 m g H w g (xE base (.mput kk) H [mv,k,v]).2.1 w':=by
 have hkd:=bX hk;cases mv<;>simp only[xE]at h<;>(try exact h.elim);rename_i id;simp only[xE];cases ho:AD H id with
 |none=>rw[ho]at h;exact h.elim
 |some ob=>
  rw[ho]at h;cases ob<;>simp only[]at h<;>(try exact h.elim);rename_i es clock;obtain⟨h1,h2,-⟩:=h;obtain⟨L,hL,rfl⟩:=hx;obtain⟨L',xD,hL',hl',hh',hb,hm'⟩:=R.obj id _ ho;rw[hL]at hL';cases hL';have hkx:=λem=>K7 (w:=w) hkd h1 hy em
  rcases Nl (w:=w) hkd h1 hy es xD.toList h2 hm' with⟨p1,p2,p3⟩|⟨j,e2,v0,p1,p2,p3,p4,p5,p6⟩
  ·obtain⟨r1,r2⟩:=Qy (m:=m) (ob':=.map (EQ k v clock es) (clock+1)) (o':=.map (xD.push {key:=y,val:=z,born:=clock}) (clock+1)) R ho rfl hL hl' hh' hb zw
    ⟨L,_,hL,hl',hh',(heap_set hb).1,by rw[Array.toList_push];exact p3 v z clock hv⟩
   refine⟨_,?_,rfl,by simpa [p1]using r1,by simpa [p1]using r2⟩;simp only[Instr.mapUpdate,Sem.run_bind,run_underlying hu,Result.andThen_ok,MapKept.run_getObj_map hb,hkx,p2,run_setObj_map _ hb]
  ·have hj:xD[j]?=some e2:=by rw[<-tW];exact p2
   have hmod:(xD.modify j λe=>{e with key:=y,val:=z}).toList=xD.toList.set j {e2 with key:=y,val:=z}:=by simp_all [Array.toList_modify,List.modify_eq_set]
   obtain⟨r1,r2⟩:=Qy (m:=m) (ob':=.map (EQ k v clock es) clock) (o':=.map (xD.modify j λe=>{e with key:=y,val:=z}) clock) R ho rfl hL hl' hh' hb zw
    ⟨L,_,hL,hl',hh',(heap_set hb).1,by rw[hmod];exact p6 v z clock hv⟩
   refine⟨_,?_,rfl,by simpa [p1]using r1,by simpa [p1]using r2⟩;have hkk:((xD[j]?).map (·.key)).getD y=y:=by rw[hj];exact p5
   simp only[Instr.mapUpdate,Sem.run_bind,run_underlying hu,Result.andThen_ok,MapKept.run_getObj_map hb,hkx,p3,hkk,X5 hkd h1 hy,run_setObj_map _ hb]
theorem DK{d:TypeDesc}(hu:P.underlying t=some d)(x c:Value)(r:Bool)(h:match d,x,c with
   | .interface _,.nilIface,.nilIface=>r=true
   | .interface _,.iface _ _,.nilIface=>r=false
   | .pointer _,.pointer none,.pointer none=>r=true
   | .pointer _,.pointer (some _),.pointer none=>r=false
   | .func ..,.nilFunc,.nilFunc=>r=true
   | .func ..,.func ..,.nilFunc=>r=false
   |_,_,_=>False):(Op.equal t x c).run P w= .ok r w:=by
 rw[Op.equal,show Op.maxDepth=9999+1 from rfl,Op.equalIn];simp only[Sem.run_bind,run_underlying hu,Result.andThen_ok];split at h<;>first|exact h.elim|(subst h;rfl)
theorem Ex{r:Bool}(xI:op= .eql\/op= .neq)(h1:eqGuard op t X (.const c) x c=pure ())(hx:∀k n,x≠ .int k n)(hf:∀k n,x≠ .float k n)(hc:∀k n m,x≠ .complex k n m)(hs:∀b,x≠ .string b)
  (h2:(Op.equal t x c).run P w= .ok r w):(do eqGuard op t X (.const c) x c;binOp op t x c:Sem Value).run P w= .ok (.bool (if op= .neq then !r else r)) w:=by
 rw[Sem.run_bind,h1];simp only[Sem.run_pure,Result.andThen_ok];rcases xI with rfl|rfl
 ·simp_all [binOp,Result.andThen]
 ·simp_all [binOp,Result.andThen]
theorem Uf{nq:Bool}{K:Bool->Prop}(xI:(op= .eql/\nq=false)\/(op= .neq/\nq=true))(hn:Po P t c=true)(hx:AR g av x)(h:HP K nq av):
  ∃b,(do eqGuard op t X (.const c) x c;binOp op t x c:Sem Value).run P w= .ok (.bool b) w/\K b:=by
 have hop':op= .eql\/op= .neq:=xI.imp (·.1) (·.1);unfold Po at hn;split at hn;case h_2=>cases hn
 rename_i e cl cc hu;have fin:∀(r:Bool),(if op= .neq then !r else r)=(if nq=true then !r else r):=by grind
 have key:∀a n m,x= .slice a n m->(do eqGuard op t X (.const (.slice none cl cc)) x (.slice none cl cc);binOp op t x (.slice none cl cc):Sem Value).run P w= .ok (.bool (if nq=true then !a.isNone else a.isNone)) w:=by
  rintro a n m rfl;have he:(Op.equal t (.slice a n m) (.slice none cl cc)).run P w= .ok a.isNone w:=by
   rw[Op.equal,show Op.maxDepth=9999+1 from rfl,Op.equalIn];simp only[Sem.run_bind,run_underlying hu,Result.andThen_ok];cases a<;>rfl
  have:=Ex (X:=X) hop' (eqGuard_at_slice ..) zw zw zw zw he;rw[fin]at this;exact this
 unfold HP at h;split at h
 ·rename_i s0;rcases hx with⟨_,rfl,_⟩|⟨hf,_⟩
  ·exact⟨_,key none 0 0 rfl,by cases nq<;>exact h⟩
  ·exact hf.elim
 ·rcases hx with⟨_,rfl,_⟩|⟨_,b,o,cap,⟨sp,rfl,_⟩,_⟩
  ·exact⟨_,key none 0 0 rfl,by cases nq<;>first|exact h.1|exact h.2⟩
  ·exact⟨_,key _ _ _ rfl,by cases nq<;>first|exact h.1|exact h.2⟩
 ·rcases hx with⟨q,_⟩|⟨_,b,o,cap,⟨sp,rfl,_⟩,_⟩
  ·cases q
  ·exact⟨_,key _ _ _ rfl,by cases nq<;>exact h⟩
 ·obtain⟨L,_,_,rfl⟩:=hx;exact⟨_,key _ _ _ rfl,by cases nq<;>exact h⟩
 ·exact h.elim
theorem Su{nq:Bool}{kd:Nat}(xI:(op= .eql/\nq=false)\/(op= .neq/\nq=true))(hn:Qr P t c=some kd)(hx:AR g av x)(h:(xE base (.xP kd nq) H [av]).1):
  (xE base (.xP kd nq) H [av]).2.1=H/\∃v,(do eqGuard op t X (.const c) x c;binOp op t x c:Sem Value).run P w= .ok v w/\AR g (xE base (.xP kd nq) H [av]).2.2 v:=by
 have hop':op= .eql\/op= .neq:=xI.imp (·.1) (·.1);have fin:∀(r:Bool),(if op= .neq then !r else r)=(if nq=true then !r else r):=by grind
 unfold Qr at hn;split at hn
 ·rename_i ms hu;cases hn;cases av<;>simp only[xE]at h<;>(try exact h.elim)
  ·obtain⟨z,rfl,_⟩:=hx;exact⟨rfl,_,Ex (r:=false) hop' (eqGuard_at_iface ..) zw zw zw zw (DK hu _ _ _ rfl),by rw[fin];simp [xE,AR]⟩
  ·have hx':x= .nilIface:=hx;subst hx';exact⟨rfl,_,Ex (r:=true) hop' (eqGuard_nil_constR ..) zw zw zw zw (DK hu _ _ _ rfl),by rw[fin];cases nq<;>simp [xE,AR]⟩
 ·rename_i e hu;cases hn;have hp:∃a,x= .pointer a/\(xE base (.xP 1 nq) H [av])=(True,H,.bool (if nq=true then !a.isNone else a.isNone)):=by
   cases av<;>simp only[xE]at h<;>(try exact h.elim)<;>simp only[AR]at hx
   ·exact⟨_,hx,by cases nq<;>simp [xE]⟩
   ·obtain⟨L,_,_,hx⟩:=hx;exact⟨_,hx,by cases nq<;>simp [xE]⟩
   ·obtain⟨b,o,hx,_⟩:=hx;exact⟨_,hx,by cases nq<;>simp [xE]⟩
   ·exact⟨_,hx,by cases nq<;>simp [xE]⟩
   ·obtain⟨L,_,_,hx⟩:=hx;exact⟨_,hx,by cases nq<;>simp [xE]⟩
   ·obtain⟨a,hx⟩:=hx;exact⟨_,hx,by cases nq<;>simp [xE]⟩
  obtain⟨a,rfl,he⟩:=hp;rw[he];cases a with
  |none=>exact⟨rfl,_,Ex (r:=true) hop' (eqGuard_at_pointer ..) zw zw zw zw (DK hu _ _ _ rfl),by rw[fin];cases nq<;>simp [AR]⟩
  |some a=>exact⟨rfl,_,Ex (r:=false) hop' (eqGuard_at_pointer ..) zw zw zw zw (DK hu _ _ _ rfl),by rw[fin];cases nq<;>simp [AR]⟩
 ·rename_i ps rs vd hu;cases hn;cases av<;>simp only[xE]at h<;>(try exact h.elim)
  ·obtain⟨x',c',rfl,_,_⟩:=hx;exact⟨rfl,_,Ex (r:=false) hop' (eqGuard_at_func ..) zw zw zw zw (DK hu _ _ _ rfl),by rw[fin];cases nq<;>simp [xE,AR]⟩
  ·have hx':x= .nilFunc:=hx;subst hx';exact⟨rfl,_,Ex (r:=true) hop' (eqGuard_at_nilFunc ..) zw zw zw zw (DK hu _ _ _ rfl),by rw[fin];cases nq<;>simp [xE,AR]⟩
 ·cases hn
theorem X8{xt:TypeId}{z:Fs}(hi:UV P t=false)(hz:Cf P t=some z)(hx:AR g av x)(h:(xE base (.tas t ok z) H [av]).1):
  (xE base (.tas t ok z) H [av]).2.1=H/\∃v,(Instr.typeAssert x xt t ok).run P w= .ok v w/\AR g (xE base (.tas t ok z) H [av]).2.2 v:=by
 obtain⟨i,zv,hinf,hzz,hr,hzs,hl,hp0,hnt⟩:=Cg hz;have hzrun:(zeroValue t).run P w= .ok zv w:=by simp [zeroValue,typeInfo,hinf,hzz,Result.andThen]
 unfold UV at hi;split at hi
 ·cases hi
 ·cases hi
 rename_i hne1 hne2;obtain⟨d,hu⟩:∃d,P.underlying t=some d:=by
  cases hh:P.underlying t with
  |none=>exact absurd hh hne2
  |some d=>exact⟨d,rfl⟩
 have hd:∀ms,d≠ .interface ms:=λms e=>by subst e;exact hne1 ms hu
 cases av<;>cases ok<;>simp only[xE]at h⊢ <;>(try exact h.elim)
 ·obtain⟨y,rfl,hy⟩:=hx;subst h;refine⟨zt,y,?_,hy⟩;cases d<;>first|exact absurd rfl (hd _)|simp [Instr.typeAssert,run_underlying hu,Result.andThen]
 ·obtain⟨y,rfl,hy⟩:=hx;rename_i t' v';by_cases e:t'=t
  ·subst e;refine⟨zt,.tuple #[y,.bool true],?_,by simp only[tD];exact⟨_,rfl,_,_,rfl,hy,_,_,rfl,rfl,rfl⟩⟩;cases d<;>first|exact absurd rfl (hd _)|simp [Instr.typeAssert,run_underlying hu,Result.andThen]
  ·refine⟨zt,.tuple #[zv,.bool false],?_,by simp only[e,sY];exact⟨_,rfl,_,_,rfl,hr g,_,_,rfl,rfl,rfl⟩⟩;cases d<;>first|exact absurd rfl (hd _)|simp [Instr.typeAssert,run_underlying hu,Result.andThen,e,hzrun]
 ·have hx':x= .nilIface:=hx;subst hx';refine⟨zt,.tuple #[zv,.bool false],?_,⟨_,rfl,_,_,rfl,hr g,_,_,rfl,rfl,rfl⟩⟩;cases d<;>first|exact absurd rfl (hd _)|simp [Instr.typeAssert,run_underlying hu,Result.andThen,hzrun]
theorem L4:∀(es:List (Fs×Fs×Nat)) (xD:List MapEntry),D0 g es xD->xD.length=es.length
 |[],xD,h=>by have h0:xD=[]:=h;subst h0;rfl
 |(k,v,b)::r,xD,h=>by
  obtain⟨e,es2,rfl,_,_,_,h4⟩:=h;simp [L4 r es2 h4]
theorem Ug(R:x7 g H n w){kt:TypeId}{ty:TypeId}(hu:P.underlying t=some (.map kt e))(hx:AR g mv x)(h:(xE base .mlen H [mv]).1):
  (xE base .mlen H [mv]).2.1=H/\∃v,(Builtin.len_ #[t] ty #[x]).run P w= .ok v w/\AR g (xE base .mlen H [mv]).2.2 v:=by
 cases mv<;>simp only[xE]at h<;>(try exact h.elim);case mp id=>
  simp only[xE];cases ho:AD H id with
  |none=>rw[ho]at h;exact h.elim
  |some ob=>
   rw[ho]at h;cases ob<;>simp only[]at h<;>(try exact h.elim);rename_i es clock;obtain⟨L,hL,rfl⟩:=hx;obtain⟨L',xD,hL',hl',hh',hb,hm'⟩:=R.obj id _ ho;rw[hL]at hL';cases hL';have hlen:=L4 es _ hm';simp only[tq]at hlen;refine⟨rfl,_,by simp only[Builtin.len_,List.getElem?_toArray,u9,Sem.run_bind,run_underlying hu,Result.andThen_ok,MapKept.run_getObj_map hb,Sem.run_pure];rfl,?_⟩;simp [AR,goInt,hlen]
 case nilmp=>
  simp only[xE];have hx':x= .map none:=hx;subst hx';refine⟨zt,_,by simp only[Builtin.len_,List.getElem?_toArray,u9,Sem.run_bind,run_underlying hu,Result.andThen_ok,Sem.run_pure];rfl,?_⟩;simp [AR,goInt]
end
end Go.AM
namespace Go.AM
theorem wL.place{g:q8}{esz:Nat}{vs:List Value}{f:Nat->Option Value}{o:Nat}(h:∀(j:Nat) x,vs[j]?=some x->f (o+j)=some x):∀(l:List Fs) (p:Nat),wL g esz (λj=>vs[j]?) p l->wL g esz f (o+p) l
 |[],_,_=>trivial
 |e::l,p,⟨⟨u,q1,q2,q3⟩,q4⟩=>⟨⟨u,q1,q2,λj x hx=>by rw[Nat.add_assoc];exact h _ _ (q3 j x hx)⟩,by
   have:=wL.place h l (p+esz) q4
   rwa[<-Nat.add_assoc]at this⟩
section
variable {P:Program} {g:q8} {H:AB} {n m:Nat} {w:World}
theorem HS(R:x7 g H n w){t u ty e:TypeId}{i:TypeInfo}{du:TypeDesc}{za:Fs}(ht:P.underlying t=some (.slice e))(hu:P.underlying u=some du)(hdu:∀k,du≠ .int k)(hi:P.info? e=some i)(hza:Cf P e=some za)
  {lo l':List Fs} {y:Value} {sCap:Nat} {base:Option Addr} {olds:List Value} (hsrc:kB P g w i.size l' y) {id:Nat} (h0:AD H id=none) (s5:id<n) (hm:m<=id) (hsm:Al (lo.length+l'.length) i.bytes) (ww:lo.length+l'.length<=35184372088832)
  (o2:olds.length=lo.length*i.size) (o3:wL g i.size (λo=>olds[o]?) 0 lo) (o4:(Builtin.firstCells i.size lo.length (.slice base lo.length sCap)).run P w.drew= .ok olds.toArray w.drew) (hgt:sCap<lo.length+l'.length):
  ∃cap v w' g',lo.length+l'.length<=cap/\(Builtin.append_ #[t,u] ty #[.slice base lo.length sCap,y]).run P w= .ok v w'/\AR g' (.ref id i.size 0 (lo.length+l'.length) cap) v/\
   x7 g' (wB H id (.arr i.size (lo++l'++List.replicate (cap-(lo.length+l'.length)) za))) n w'/\q9 m g H w g' (wB H id (.arr i.size (lo++l'++List.replicate (cap-(lo.length+l'.length)) za))) w':=by
 obtain⟨i',z,z9,hzz,hr,hzs,hl,hpos,hnt⟩:=Cg hza;rw[hi]at z9;cases z9;obtain⟨news,s1,s2,s3,s4⟩:=hsrc;obtain⟨c1,c2⟩:=s4 w rfl;obtain⟨d1,d2⟩:=s4 w.drew rfl;have yw:Builtin.nextslicecap (lo.length+l'.length) sCap*i.bytes<=281474976710656:=growslice_fits hgt (by simp only[Al]at hsm;omega);have wS:=KE (ty:=ty) ht hu hdu hi hzz c1 o4 d2 hgt yw zo;generalize xO:grownCap w (lo.length+l'.length) sCap e=cap at wS;have hge:lo.length+l'.length<=cap:=by rw[<-xO];exact grownCap_ge _ _ _ _
 generalize xl:(olds.toArray++news.toArray++Builtin.zeroCells z.cells (cap-(lo.length+l'.length)):Array Value)=cs at wS;have hmul:(lo.length+l'.length)*i.size+(cap-(lo.length+l'.length))*i.size=cap*i.size:=by rw[<-tA];congr 1;omega
 have hcsz:cs.size=cap*i.size:=by grind [Array.size_append,List.size_toArray,size_zeroCells,Nat.add_mul]
 have ecs:cs.toList=olds++(news++(madeCells z.cells ((cap-(lo.length+l'.length))*z.cells.size)).toList):=by
  subst xl;simp only[Array.toList_append,te];rfl
 have q1:∀(j:Nat) x,olds[j]?=some x->cs[0+j]?=some x:=by grind
 have q2:∀(j:Nat) x,news[j]?=some x->cs[lo.length*i.size+j]?=some x:=by grind
 have q3:∀a,a<cap-(lo.length+l'.length)->∀(j:Nat) x,z.cells[j]?=some x->cs[(lo.length+l'.length)*i.size+a*i.size+j]?=some x:=by
  intro a ha j x hx;have h1:=FJ (z:=z.cells) (k:=cap-(lo.length+l'.length)) ha hx;have e2:(lo.length+l'.length)*i.size+a*i.size+j=olds.length+(news.length+(a*i.size+j)):=by rw[o2,s1,tA];omega
  rw[<-tW,ecs,e2,tR (tO _ _),Nat.add_sub_cancel_left,tR (tO _ _),Nat.add_sub_cancel_left,tW];rw[hzs]at h1⊢;exact h1
 have hnewb:(w.drew.alloc (.cells cs e)).heap[w.heap.size]?=some (.cells cs e (0,0)):=by show(w.heap.push _)[w.heap.size]?=_;simp
 obtain⟨r1,r2,r3⟩:=R.new (m:=m) (w':=w.drew.alloc (.cells cs e)) (x:=.cells cs e) rfl rfl rfl rfl h0 s5 hm (L:=⟨w.heap.size,0,cap*i.size⟩) rfl (ob:=.arr i.size (lo++l'++List.replicate (cap-(lo.length+l'.length)) za)) (by
  have hb0:g.β id=none:=by
   cases hb:g.β id with
   |none=>rfl
   |some L'=>exact absurd h0 (R.yJ id L' hb).1
  have hle:g.le ⟨λk=>if k=id then some ⟨w.heap.size,0,cap*i.size⟩else g.β k,g.σ⟩:=⟨λk L' h=>by
   show(if k=id then _ else g.β k)=some L';rw[sg (by rintro rfl;rw[hb0]at h;cases h)];exact h,λ_ _ _ h=>h⟩
  refine⟨⟨w.heap.size,0,cap*i.size⟩,cs,e,zw,rfl,hcsz.symm,hnewb,?_,?_⟩
  ·grind
  ·refine wL.mono (f:=λj=>cs[j]?) hle (λ_ _ h=>h) _ _ _ ?_;refine wL.append _ _ 0 (wL.append _ _ 0 ?_ ?_) ?_
   ·exact wL.place (o:=0) q1 lo 0 o3
   ·have:=wL.place (f:=λj=>cs[j]?) (o:=lo.length*i.size) q2 l' 0 s3
    rwa[um,<-tx (lo.length*i.size)]at this
   ·refine wL.replicate (hr _) ⟨hzs,(hr ⟨λ_=>none,λ_ _=>none⟩).one hnt⟩ _ _ λa ha j x hx=>?_
    have:=q3 a ha j x hx;simpa using this)
 exact⟨cap,_,_,_,hge,wS,⟨⟨w.heap.size,0,cap*i.size⟩,zw,rfl,zw⟩,r1,r2⟩
theorem bY{esz:Nat}{b:Nat}{c:Array Value}{e:TypeId}{l:List Fs}{len cap:Nat}(hb:w.heap[b]?=some (.cells c e (0,0)))(wX:wL g esz (λo=>c[o]?) 0 l)(hl:len<=l.length):
  ∃olds:List Value,olds.length=(l.take len).length*esz/\wL g esz (λo=>olds[o]?) 0 (l.take len)/\(Builtin.firstCells esz (l.take len).length (.slice (some ⟨b,0,none⟩) (l.take len).length cap)).run P w.drew= .ok olds.toArray w.drew:=by
 obtain⟨vs,v1,v2,v3,v4⟩:=(wL.take len _ _ wX).list;refine⟨vs,v1,v4,run_firstCells_some (P:=P) w.drew esz _ ⟨b,0,none⟩ _ cap vs v1 λj v hv=>?_⟩;rw[B4];have hb':w.drew.heap[b]?=some (.cells c e (0,0)):=hb;rw[BK hb'];exact v2 j v hv
theorem Uh(R:x7 g H n w){t u ty e:TypeId}{i:TypeInfo}{du:TypeDesc}{za:Fs}(ht:P.underlying t=some (.slice e))(hu:P.underlying u=some du)(hdu:∀k,du≠ .int k)(hi:P.info? e=some i)(hza:Cf P e=some za)
  {av:Fs} {bv:Option (List Fs)} {x y:Value} {K:AB->Fs->Prop} (hx:AR g av x) (hsrc:∀l',bv=some l'->kB P g w i.size l' y) {id:Nat} (s5:id<n) (hm:m<=id) (h:Fe H id i.size i.bytes za K av bv):
  ∃v w' g' H' v',(Builtin.append_ #[t,u] ty #[x,y]).run P w= .ok v w'/\AR g' v' v/\x7 g' H' n w'/\q9 m g H w g' H' w'/\K H' v':=by
 obtain⟨i',z,z9,hzz,hr,hzs,hl,hpos,hnt⟩:=Cg hza;rw[hi]at z9;cases z9;unfold Fe at h;split at h;case h_3=>exact h.elim
 case h_1 tok l l'=>
  obtain⟨h0,h1,h2,l7,hsm,ww,k1,k2⟩:=h;have hs:=hsrc l' rfl;by_cases hl0:l'=[]
  ·subst hl0;obtain⟨news,s1,s2,s3,s4⟩:=hs;obtain⟨c1,c2⟩:=s4 w rfl;have hn0:news=[]:=tv (by rw[s1];simp);subst hn0;have hx':=hx;rcases hx with⟨rfl,rfl,yW⟩|⟨htok,b,o,cap,⟨sp,rfl,yS⟩,xO,wX,hk⟩
   ·have wS:=Df (ty:=ty) (w:=w) (base:=none) (sLen:=0) (sCap:=0) ht hu hdu hi hzz c1 c2 zw;exact⟨_,_,g,H,_,wS,hx',R,q9.refl _ _ _ _,k1 rfl⟩
   ·have wS:=Df (ty:=ty) (w:=w) (base:=some ⟨b,o,sp⟩) (sLen:=l.length) (sCap:=cap) ht hu hdu hi hzz c1 c2 (by simpa using xO);simp only[storeCells,Sem.run_pure,Result.andThen_ok,tI,um]at wS;exact⟨_,_,g,H,_,wS,hx',R,q9.refl _ _ _ _,k1 rfl⟩
  ·have hpos':0<l'.length:=by cases l' with|nil=>exact absurd rfl hl0|cons _ _=>simp
   rcases hx with⟨rfl,rfl,yW⟩|⟨htok,b,o,cap,⟨sp,rfl,yS⟩,xO,wX,hk⟩
   ·obtain⟨cap,v,w',g',e1,e2,e3,e4,e5⟩:=HS (m:=m) (ty:=ty) (lo:=[]) (base:=none) (sCap:=0) (olds:=[]) R ht hu hdu hi hza hs h0 s5 hm hsm ww zw zt (by simp [Builtin.firstCells]) (by simpa using hpos');exact⟨v,w',g',_,_,e2,e3,e4,e5,k2 hl0 cap e1⟩
   ·have yW:tok= .exact i.size:=by
     rcases l7 with rfl|rfl
     ·exact htok.elim
     ·rfl
    subst yW;by_cases hodd:sp=none;case neg=>
     obtain⟨rfl,hq⟩:=yS.resolve_left hodd;have ym:cap=0:=by
      rcases hq with q|⟨e',q⟩
      ·exact q
      ·cases q
     subst ym;obtain⟨yK,v,w',g',e1,e2,e3,e4,e5⟩:=HS (m:=m) (ty:=ty) (lo:=[]) (base:=some ⟨b,o,sp⟩) (sCap:=0) (olds:=[]) R ht hu hdu hi hza hs h0 s5 hm hsm ww zw zt (by simpa using run_firstCells_some (P:=P) w.drew i.size 0 ⟨b,o,sp⟩ 0 0 [] zw zw) (by simpa using hpos');exact⟨v,w',g',_,_,e2,e3,e4,e5,k2 hl0 yK e1⟩
    subst hodd;simp only[v8.esz]at wX;simp only[]at hk;obtain⟨vs,v1,v2,v3,v4⟩:=wX.list;obtain⟨yK,v,w',g',e1,e2,e3,e4,e5⟩:=HS (m:=m) (ty:=ty) (lo:=l) (base:=some ⟨b,o,none⟩) (sCap:=cap) (olds:=vs) R ht hu hdu hi hza hs h0 s5 hm hsm ww v1 v4
     (run_firstCells_some (P:=P) w.drew i.size l.length ⟨b,o,none⟩ l.length cap vs v1 (λj v hv=>by rw[B4];exact R.σw _ _ _ (v2 j v hv))) zo
    exact⟨v,w',g',_,_,e2,e3,e4,e5,k2 hl0 yK e1⟩
 case h_2 i0 e0 off len cap l'=>
  obtain⟨h0,h1,h2,rfl,rfl,hsm,ww,hmt⟩:=h;split at hmt;case h_2=>exact hmt.elim
  rename_i e' l ho;obtain⟨rfl,xm,hle,k1,k2⟩:=hmt;have hs:=hsrc l' rfl;obtain⟨L,hL,hl0,rfl⟩:=hx;obtain⟨L',c,ee,j1,j2,j3,j4,j5,j6⟩:=R.obj i0 _ ho;rw[hL]at j1;cases j1;have xN:(l.take len).length=len:=by simp;omega
  simp only[vi];by_cases hroom:len+l'.length<=cap
  ·obtain⟨news,s1,s2,s3,s4⟩:=hs;obtain⟨c1,c2⟩:=s4 w rfl;have wS:=Df (ty:=ty) (w:=w) (base:=some ⟨L.wR,0,none⟩) (sLen:=len) (sCap:=cap) ht hu hdu hi hzz c1 c2 hroom;simp only[B4,tx]at wS;have hmul:len*i.size+l'.length*i.size<=cap*i.size:=by rw[<-tA];exact tT _ hroom
   have hcsz:c.size=cap*i.size:=by rw[<-j5,xm]
   have wX:=run_storeCells_at (P:=P) L.wR (len*i.size) ee news 0 c w j4 (by rw[s1];omega) s2;simp only[um]at wX;generalize hc':(c.toList.take (len*i.size)++news++c.toList.drop (len*i.size+news.length)).toArray=c' at wX;have hsz':c'.size=c.size:=by subst hc';simp;omega
   have q1:∀j,j<len*i.size->c'[j]?=c[j]?:=by
    intro j hj;subst hc';rw[<-tW];simp only[];rw[te,tQ (by simp;omega),List.getElem?_take_of_lt hj,tW]
   have q2:∀(j:Nat) x,news[j]?=some x->c'[len*i.size+j]?=some x:=by
    intro j x hx;have hj:=(t8.1 hx).1;subst hc';rw[<-tW];simp only[];rw[te,tR (by simp;omega),tQ (by simp;omega)];rw[<-hx];congr 1;simp;omega
   have q3:∀j,(len+l'.length)*i.size<=j->c'[j]?=c[j]?:=by
    intro j hj;rw[tA]at hj;subst hc';rw[<-tW];simp only[];rw[tR (by simp;omega),vY,tW];congr 1;simp;omega
   have hob:FT g (w.setRow L.wR c') i0 (.arr i.size (l.take len++l'++l.drop (len+l'.length))):=by
    refine⟨L,c',ee,hL,hl0,by rw[j3,hsz'],setRow_heap w L.wR c c' ee (0,0) j4,?_,?_⟩
    ·grind
    ·refine wL.append _ _ 0 (wL.append _ _ 0 ?_ ?_) ?_
     ·refine wL.eq _ 0 (λj _ hj=>?_) (wL.take len _ _ j6);rw[xN,tx]at hj;exact q1 j hj
     ·have:=wL.place (f:=λj=>c'[j]?) (o:=len*i.size) q2 l' 0 s3
      rwa[um,<-tx (len*i.size),<-xN]at this
     ·have hd:=wL.drop (len+l'.length) _ _ j6;simp only[sH,xN,tx]at hd⊢;exact wL.eq _ _ (λj hj _=>q3 j hj) hd
   obtain⟨r1,r2⟩:=KD (m:=m) R ho rfl hL j4 hsz' (λo ho'=>by
    rcases ho' with h|h
    ·rw[hl0]at h;omega
    ·rw[j3]at h;rw[uz zo,uz zo]) hob
   simp only[wX,Result.andThen_ok]at wS;exact⟨_,_,g,_,.ref i0 i.size 0 (len+l'.length) cap,wS,⟨L,hL,hl0,zw⟩,r1,r2,k1 hroom⟩
  ·obtain⟨olds,o2,o3,o4⟩:=bY (P:=P) (cap:=cap) j4 j6 (len:=len) zo;rw[xN]at o4;obtain⟨yK,v,w',g',e1,e2,e3,e4,e5⟩:=HS (m:=m) (ty:=ty) (lo:=l.take len) (base:=some ⟨L.wR,0,none⟩) (sCap:=cap) (olds:=olds) R ht hu hdu hi hza hs h0 s5 hm (by rw[xN];exact hsm) (by rw[xN];exact ww) o2 o3 (by rw[xN];exact o4) (by rw[xN];omega);rw[xN]at e1 e2 e3 e4 e5;exact⟨v,w',g',_,_,e2,e3,e4,e5,k2 zo yK e1⟩
theorem Wb(esz:Nat):∀(n:Nat) (cs:List Fs),(grp esz n cs).length=n
 |0,_=>rfl
 |n+1,cs=>by rw[grp,sM,Wb esz n]
theorem wM.dropO{g:q8}{f:Nat->Option Value}:∀(cs:List Fs) (o k:Nat),wM g f o cs->wM g f (o+k) (cs.drop k)
 |[],o,k,_=>by rw[List.drop_nil];trivial
 |a::cs,o,0,h=>h
 |a::cs,o,k+1,h=>by
  rw[List.drop_succ_cons,show o+(k+1)=o+1+k by omega];exact wM.dropO cs (o+1) k h.2
theorem wM.vals{g:q8}{f:Nat->Option Value}:∀(cs:List Fs) (o k:Nat),wM g f o cs->k<=cs.length->∃vs:List Value,vs.length=k/\wI g (cs.take k) vs/\(∀v∈vs,v.oneCell'=true)/\∀(j:Nat) x,vs[j]?=some x->f (o+j)=some x
 |cs,o,0,_,_=>⟨[],rfl,rfl,zw,zw⟩
 |[],o,k+1,_,h=>by simp at h
 |a::cs,o,k+1,h,hk=>by
  obtain⟨⟨x,h1,h2,h3⟩,h4⟩:=h;obtain⟨vs,q1,q2,q3,q4⟩:=wM.vals cs (o+1) k h4 (by simpa using hk);refine⟨x::vs,by simp [q1],⟨x,vs,rfl,h2,q2⟩,?_,λj y hy=>?_⟩
  ·simp_all
  ·grind
theorem wM.grp{g:q8}{f:Nat->Option Value}{esz:Nat}:∀(n:Nat) (cs:List Fs) (o:Nat),wM g f o cs->cs.length=n*esz->wL g esz f o (grp esz n cs)
 |0,_,_,_,_=>trivial
 |n+1,cs,o,h,hl=>by
  have hm:esz<=cs.length:=by rw[hl,tA];omega
  obtain⟨vs,q1,q2,q3,q4⟩:=wM.vals cs o esz h hm;refine⟨⟨.agg vs.toArray,⟨vs.toArray,rfl,by simpa using q2,by simpa using q3⟩,⟨by simpa [Value.cells]using q1,by simpa [Value.cells]using q3⟩,λj x hx=>q4 j x (by simpa [Value.cells]using hx)⟩,?_⟩;exact wM.grp n _ _ (wM.dropO cs o esz h) (by rw[ue,hl,tA];omega)
theorem X9{P:Program}{g:q8}{H:AB}{n m:Nat}{w:World}(R:x7 g H n w){t e:TypeId}{nn k:Nat}{x:Operand}{lo hi:Option Operand}{x':zz}{l' h':Option zz}{ρ:Operand->Value}{ρ':zz->Fs}{base:Nat}
  (hu:P.underlying t=some (.array nn e)) (xG:Fp P e=some k) (hlo:Dm lo=some l') (hhi:Dm hi=some h') (hx:AR g (ρ' x') (ρ x))
  (hv:∀y y',Az y=some y'->(l'=some y'\/h'=some y')->AR g (ρ' y') (ρ y)) (h:(xE base (.yY nn k l'.isSome h'.isSome) H ((x'::(l'.toList++h'.toList)).map ρ')).1):
  ∃v,(Instr.sliceAt t (ρ x) (lo.map ρ) (hi.map ρ) none).run P w= .ok v w/\AR g (xE base (.yY nn k l'.isSome h'.isSome) H ((x'::(l'.toList++h'.toList)).map ρ')).2.2 v/\
   x7 g (xE base (.yY nn k l'.isSome h'.isSome) H ((x'::(l'.toList++h'.toList)).map ρ')).2.1 n w/\q9 m g H w g (xE base (.yY nn k l'.isSome h'.isSome) H ((x'::(l'.toList++h'.toList)).map ρ')).2.1 w:=by
 have red:Co ρ' l'/\Co ρ' h'/\xE base (.yY nn k l'.isSome h'.isSome) H ((x'::(l'.toList++h'.toList)).map ρ')=JS H nn k (wT ρ' 0 l') (wT ρ' nn h') (ρ' x'):=by
  cases l' with
  |none=>cases h' with
   |none=>exact⟨zt,zt,rfl⟩
   |some b=>
    simp only[Option.isSome,Option.toList,sI,sS,t6]at h⊢;generalize hb:ρ' b=bv at h;cases bv<;>(try exact h.elim);exact⟨zt,by simp [Co,hb,C4],by simp [wT,hb,A9,xE]⟩
  |some a=>cases h' with
   |none=>
    simp only[Option.isSome,Option.toList,sR,sS,t6]at h⊢;generalize ha:ρ' a=av at h;cases av<;>(try exact h.elim);exact⟨by simp [Co,ha,C4],zt,by simp [wT,ha,A9,xE]⟩
   |some b=>
    simp only[Option.isSome,Option.toList,sJ,sI,sS,t6]at h⊢;generalize ha:ρ' a=av at h;generalize hb:ρ' b=bv at h;cases av<;>(try exact h.elim);cases bv<;>(try exact h.elim);exact⟨by simp [Co,ha,C4],by simp [Co,hb,C4],by simp [wT,ha,hb,A9,xE]⟩
 obtain⟨b1,b2,he⟩:=red;rw[he]at h⊢;clear he;generalize ρ' x'=av at h hx;unfold JS at h⊢;split at h;case h_2=>exact h.elim
 rename_i id;obtain⟨L,k1,k2,k3⟩:=hx;have main:∀zc hi0:Int,wT ρ' 0 l'=zc->wT ρ' nn h'=hi0->0<=zc->zc<=hi0->hi0<=nn->zc<nn->
   (Instr.sliceAt t (ρ x) (lo.map ρ) (hi.map ρ) none).run P w= .ok (.slice (some ⟨L.wR,zc.toNat*k,none⟩) (hi0.toNat-zc.toNat) (nn-zc.toNat)) w:=by
  intro zc hi0 e1 e2 c1 c2 c3 c4;have hb:=D5 (P:=P) (g:=g) (w:=w) (isSlice:=false) (len:=nn) (cap:=nn) (ρ:=ρ) (ρ':=ρ') (mx:=none) (mx':=none) hlo hhi rfl (λy y' a b=>hv y y' a (by simpa using b)) b1 b2 zt zw zo zo (by rw[DT];omega) (by rw[DT];exact vA _);rw[e1,e2,DT]at hb;have s8:¬nn=zc.toNat:=zo
  rw[k3];simp only[tU]at hb;simp only[Instr.sliceAt,Sem.run_bind,run_underlying hu,Result.andThen_ok,Instr.sureAddr,Sem.run_pure,hb,Bz xG,B4,sm,s8,sY];simp
 cases ho:AD H id with
 |none=>rw[ho]at h;exact h.elim
 |some ob=>
  rw[ho]at h;cases ob<;>(try exact h.elim)
  ·rename_i cs;obtain⟨c0,c1,c2,c3,c4⟩:=h;obtain⟨L',c,e0,j1,j2,j3,j4,j5,j6⟩:=R.obj id _ ho;rw[k1]at j1;cases j1;obtain⟨r1,t1⟩:=R.upd (m:=m) (w':=w) (ob':=.arr k (grp k nn cs)) ho rfl k1 rfl rfl rfl rfl (λ_ _=>rfl) (.inl ⟨c,e0,(0,0),c,j4,j4,rfl,λ_ _=>rfl⟩)
    ⟨L,c,e0,k1,j2,by rw[j3,j5],j4,by rw[j5,Wb,c0],wM.grp nn cs 0 j6 c0⟩
   exact⟨_,main _ _ rfl rfl c1 c2 c3 c4,⟨L,k1,k2,rfl⟩,r1,t1⟩
  ·rename_i e' cs;obtain⟨rfl,c0,c1,c2,c3,c4⟩:=h;exact⟨_,main _ _ rfl rfl c1 c2 c3 c4,⟨L,k1,k2,rfl⟩,R,q9.refl _ _ _ _⟩
def gH(P:Program)(g:q8)(w:World)(esz:Nat)(l':List Fs)(y:Value):Prop:=
 (Builtin.lenOf y).run P w= .ok l'.length w/\∀n,n<=l'.length->∃news:List Value,news.length=n*esz/\(∀v∈news,v.oneCell'=true)/\wL g esz (λo=>news[o]?) 0 (l'.take n)/\(Builtin.firstCells esz n y).run P w= .ok news.toArray w
theorem gI(R:x7 g H n w){esz:Nat}{tok:v8}{l:List Fs}{y:Value}(h:AR g (.sl tok l) y)(he:tok.esz=esz\/l.length=0):gH P g w esz l y:=by
 rcases h with⟨rfl,rfl,_⟩|⟨_,b,o,cap,⟨sp,rfl,yS⟩,_,wX,_⟩
 ·refine⟨by simp [Builtin.lenOf],λn hn=>?_⟩;have:n=0:=by simpa using hn
  subst this;exact⟨[],zw,zw,zt,by simp [Builtin.firstCells]⟩
 ·by_cases hl:l=[]
  ·subst hl;refine⟨by simp [Builtin.lenOf],λn hn=>?_⟩;have:n=0:=by simpa using hn
   subst this;have:=run_firstCells_some (P:=P) w esz 0 ⟨b,o,sp⟩ 0 cap [] zw zw;exact⟨[],zw,zw,zt,by simpa using this⟩
  ·obtain rfl:sp=none:=yS.resolve_right λq=>hl q.1
   have he':tok.esz=esz:=he.resolve_right (by simpa using hl);rw[he']at wX;refine⟨by simp [Builtin.lenOf],λn hn=>?_⟩;have xN:(l.take n).length=n:=by simp;omega
   obtain⟨vs,k1,k2,k3,k4⟩:=(wL.take n _ _ wX).list;rw[xN]at k1;refine⟨vs,k1,k3,k4,?_⟩;exact run_firstCells_some (P:=P) w esz n ⟨b,o,none⟩ l.length cap vs k1 (λj v hv=>by rw[B4];exact R.σw _ _ _ (k2 j v hv))
theorem bZ(R:x7 g H n w){esz id off len cap:Nat}{l:List Fs}{y:Value}(h:AR g (.ref id esz off len cap) y)(ho:AD H id=some (.arr esz l))(hl:off+len<=l.length):gH P g w esz ((l.drop off).take len) y:=by
 obtain⟨L,k1,k2,rfl⟩:=h;obtain⟨L',c,e,j1,j2,j3,j4,j5,j6⟩:=R.obj id _ ho;rw[k1]at j1;cases j1;have hlen:((l.drop off).take len).length=len:=by simp;omega
 have wX:=wL.take len _ _ (wL.drop off _ _ j6);rw[tx]at wX;refine⟨by simp [Builtin.lenOf,hlen],λn hn=>?_⟩;have xN:(((l.drop off).take len).take n).length=n:=by rw[sU];omega
 obtain⟨vs,p1,p2,p3,p4⟩:=(wL.take n _ _ wX).list;rw[xN]at p1;refine⟨vs,p1,p3,p4,?_⟩;refine run_firstCells_some (P:=P) w esz n ⟨L.wR,off*esz,none⟩ len cap vs p1 (λj v hv=>?_);rw[B4,BK j4];exact p2 j v hv
theorem ba{s:List UInt8}{y:Value}(h:AR g (.str s) y):gH P g w 1 (s.map λb=>.int .u8 b.toNat) y:=by
 have hy:y= .string ⟨s.toArray⟩:=h;subst hy;have xG:ByteArray.size ⟨s.toArray⟩=s.length:=by show s.toArray.size=_;simp
 refine⟨by simp [Builtin.lenOf,xG],λn hn=>?_⟩;simp only[ry]at hn;obtain⟨news,q1,q2,q3,q4⟩:=Qx (P:=P) (g:=g) (w:=w) (s:=s.take n) (y:=.string ⟨(s.take n).toArray⟩) rfl;refine⟨news,?_,q2,?_,?_⟩
 ·rw[q1];simp;omega
 ·rw[<-List.map_take];exact q3
 ·grind [Builtin.firstCells,List.length_map,List.length_take,Nat.min_eq_left,ByteArray.data_extract]
theorem oT(R:x7 g H n w){esz:Nat}{yv:Fs}{y:Value}{str:Bool}{l':List Fs}(h6:str=true->esz=1)(hvy:AR g yv y)(hB:Oj H esz yv str=some l'):gH P g w esz l' y:=by
 cases str with
 |true=>
  simp only[Oj]at hB;cases yv<;>(try simp only[]at hB)<;>first|(cases hB;done)|skip
  cases hB;rw[h6 rfl];exact ba hvy
 |false=>
  simp only[Oj]at hB;cases yv<;>(try simp only[]at hB)<;>first|(cases hB;done)|skip
  ·split at hB
   ·rename_i hc;cases hB;exact gI R hvy hc
   ·cases hB
  ·split at hB
   ·rename_i ho;split at hB
    ·rename_i hc;obtain⟨c1,c2,c3⟩:=hc;subst c1;subst c2;cases hB;exact bZ R hvy ho c3
    ·cases hB
   ·cases hB
theorem YA(R:x7 g H n w){t u ty e:TypeId}{i:TypeInfo}(ht:P.underlying t=some (.slice e))(hi:P.info? e=some i){av bv:Fs}{x y:Value}{str:Bool}(h6:str=true->i.size=1)(hx:AR g av x)(hy:AR g bv y){base:Nat}
  (h:(xE base (.cpy i.size str) H [av,bv]).1):
  ∃v w',(Builtin.copy_ #[t,u] ty #[x,y]).run P w= .ok v w'/\AR g (xE base (.cpy i.size str) H [av,bv]).2.2 v/\x7 g (xE base (.cpy i.size str) H [av,bv]).2.1 n w'/\q9 m g H w g (xE base (.cpy i.size str) H [av,bv]).2.1 w':=by
 cases av<;>simp only[xE]at h<;>(try exact h.elim);rename_i id e0 off len cap;simp only[xE];cases ho:AD H id with
 |none=>rw[ho]at h;exact h.elim
 |some ob=>
  rw[ho]at h;cases hs:Oj H i.size bv str with
  |none=>rw[hs]at h;cases ob<;>exact h.elim
  |some l'=>
   rw[hs]at h;cases ob<;>(try exact h.elim);rename_i e' l;obtain⟨rfl,rfl,yw⟩:=h;obtain⟨c1,c2⟩:=oT (P:=P) R h6 hy hs;generalize hk:min l'.length len=k;have hk1:k<=l'.length:=zo
   have so:k<=len:=zo
   obtain⟨news,s1,s2,s3,s4⟩:=c2 k hk1;have xN:(l'.take k).length=k:=by simp;omega
   obtain⟨L,hL,hl0,rfl⟩:=hx;obtain⟨L',c,ee,j1,j2,j3,j4,j5,j6⟩:=R.obj id _ ho;rw[hL]at j1;cases j1;have hmul:off*i.size+k*i.size<=l.length*i.size:=by rw[<-tA];exact tT _ zo
   have wX:=run_storeCells_at (P:=P) L.wR (off*i.size) ee news 0 c w j4 (by rw[s1];omega) s2;simp only[um]at wX;have wS:(Builtin.copy_ #[t,u] ty #[.slice (some ⟨L.wR,off*i.size,none⟩) len cap,y]).run P w= .ok (goInt k) (w.setRow L.wR (c.toList.take (off*i.size)++news++c.toList.drop (off*i.size+news.length)).toArray):=by simp_all [Builtin.copy_,run_underlying,sizeOf,typeInfo,Result.andThen]
   generalize hc':(c.toList.take (off*i.size)++news++c.toList.drop (off*i.size+news.length)).toArray=c' at wS;have hsz':c'.size=c.size:=by subst hc';simp;omega
   have q1:∀j,j<off*i.size->c'[j]?=c[j]?:=by grind
   have q2:∀(j:Nat) x,news[j]?=some x->c'[off*i.size+j]?=some x:=by grind
   have q3:∀j,(off+k)*i.size<=j->c'[j]?=c[j]?:=by
    intro j hj;rw[tA]at hj;subst hc';rw[<-tW];simp only[];rw[tR (by simp;omega),vY,tW];congr 1;simp;omega
   have hof:(l.take off).length=off:=by simp;omega
   have hob:FT g (w.setRow L.wR c') id (.arr i.size (l.take off++l'.take k++l.drop (off+k))):=by
    refine⟨L,c',ee,hL,hl0,by rw[j3,hsz'],setRow_heap w L.wR c c' ee (0,0) j4,?_,?_⟩
    ·rw[hsz',<-j5];simp only[sH,hof,xN,ue];congr 1;omega
    ·refine wL.append _ _ 0 (wL.append _ _ 0 ?_ ?_) ?_
     ·refine wL.eq _ 0 (λj _ hj=>?_) (wL.take off _ _ j6);rw[hof,tx]at hj;exact q1 j hj
     ·have:=wL.place (f:=λj=>c'[j]?) (o:=off*i.size) q2 (l'.take k) 0 s3
      rwa[um,<-tx (off*i.size),<-hof]at this
     ·have hd:=wL.drop (off+k) _ _ j6;simp only[sH,hof,xN,tx]at hd⊢;exact wL.eq _ _ (λj hj _=>q3 j hj) hd
   obtain⟨r1,r2⟩:=KD (m:=m) R ho rfl hL j4 hsz' (λo ho'=>by
    rcases ho' with h|h
    ·rw[hl0]at h;omega
    ·rw[j3]at h;rw[uz zo,uz zo]) hob
   subst hk;exact⟨_,_,wS,rfl,r1,r2⟩
theorem x7.own{g:q8}{H:AB}{n m:Nat}{w:World}(r:x7 g H n w){id e:Nat}{l:List Fs}{len cap:Nat}(h0:AD H id=some (.arr e l))(hm:m<=n)(xm:l.length=cap)(hle:len<=cap){v:Value}(hv:AR g (.ref id e 0 len cap) v):
  ∃g',AR g' (.sl (.own n e) (l.take len)) v/\x7 g' (wB (wB H id .dead) n .tok) (n+1) w/\q9 m g H w g' (wB (wB H id .dead) n .tok) w:=by
 obtain⟨L,c,t,j1,j2,j3,j4,j5,j6⟩:=r.obj id _ h0;obtain⟨L',k1,k2,rfl⟩:=hv;rw[j1]at k1;cases k1;have hcsz:c.size=cap*e:=by rw[<-j5,xm]
 obtain⟨r1,t1⟩:=r.upd (m:=m) (w':=w) (ob':=.tok) h0 rfl j1 rfl rfl rfl rfl (λ_ _=>rfl) (.inl ⟨c,t,(0,0),c,j4,j4,rfl,λ_ _=>rfl⟩) ⟨L,j1,λ_=>⟨c,t,j4,by rw[j3];exact sj _⟩⟩;have r1':x7 g (wB H id .tok) (n+1) w:=⟨r1.σw,r1.obj,r1.yJ,λi ob h=>Nat.lt_succ_of_lt (r1.hd i ob h),r1.ap,r1.un,r1.gl,r1.gz⟩;have hn:AD (wB H id .tok) n=none:=by
  cases hh:AD (wB H id .tok) n with
  |none=>rfl
  |some ob=>exact absurd (r1.hd n ob hh) (Nat.lt_irrefl _)
 have xZ:∀o,w.cell? ⟨L.wR,o,none⟩=c[o]?:=λo=>BK j4 o
 have e9:len*e<=cap*e:=tT _ hle;obtain⟨q1,q2,q3⟩:=r1'.split (m:=m) hn (Nat.lt_succ_self n) hm (L:=⟨L.wR,len*e,cap*e⟩) (H':=wB (wB H id .tok) id .dead)
  (.inr ⟨id,0,rfl,AC _ _ _,by rw[j1];congr 1;cases L;simp only[]at j2 j3⊢;rw[j2,j3,hcsz],sk _⟩)
  (σ':=λb o=>if b=L.wR/\o<len*e then c[o]? else g.σ b o)
  (λb o v h=>by
   show(if b=L.wR/\o<len*e then c[o]? else g.σ b o)=some v;split
   ·rename_i q;have:=r.σw b o v h;rw[q.1,xZ]at this;exact this
   ·exact h)
  (λb o v h=>by
   by_cases q:b=L.wR/\o<len*e
   ·rw[sn q]at h;refine .inr ⟨q.1,q.2,by rw[q.1,xZ];exact h,id,0,rfl,AC _ _ _,by rw[j1];congr 1;cases L;simp only[]at j2 j3⊢;rw[j2,j3,hcsz],sk _,?_⟩;simp only[];omega
   ·rw[sg q]at h;exact .inl h)
 rw[AW]at q1 q2;refine⟨_,?_,q1,t1.trans q2⟩;have xN:(l.take len).length=len:=by simp;omega
 refine .inr ⟨zt,L.wR,0,cap,⟨none,by rw[xN];simp,.inl rfl⟩,by rw[xN];exact hle,?_,?_⟩
 ·simp only[v8.esz];refine wL.eq (f:=λo=>c[o]?) _ 0 (λj _ hj=>?_) (wL.mono q3 (λ_ _ h=>h) _ _ _ (wL.take len _ _ j6));rw[xN,tx]at hj;simp only[hj,and_self,tD]
 ·simp [xN]
end
section
def Em(m:Nat)(g0:q8)(H0:AB)(w0:World)(N:Nat)(D:DP)(s:AS)(a:Act)(w:World):Prop:=
 ∃g,x7 g s.H s.n w/\B1 g s.env a.tmps/\q9 m g0 H0 w0 g s.H w/\m<=s.n/\N<=a.tmps.size/\Ki D g s.H a.defers a.tmps w
def On(m:Nat)(g0:q8)(H0:AB)(w0:World)(D:DP)(ds:List Deferred)(tm:Array Value)(v:Fs)(H:AB)(n:Nat)(chain:List PanicEntry)(w:World):Prop:=
 ∃g x,x7 g H n w/\q9 m g0 H0 w0 g H w/\m<=n/\chain=[{v:=x,recovered:=false}]/\AR g v x/\Ki D g H ds tm w
variable {a:Act} {g:q8} {env:List (Nat×Bool×Fs)}
theorem Do(hgl:Et g)(he:B1 g env a.tmps){x:Operand}{x':zz}(h:Az x=some x')(s9:(lk env x').1=true):AR g (AY env x') (a.eval x):=by
 cases x with
 |tmp t=>
  simp only[Az]at h;cases h;simp only[lk,AY]at s9⊢;cases hg:BI env t with
  |none=>simp [hg]at s9
  |some gv=>
   obtain⟨gd,v⟩:=gv;simp only[hg]at s9⊢;obtain⟨x,h1,h2,_⟩:=he t gd v hg;have:a.eval (.tmp t)=x:=by simp [Act.eval,Array.getD_eq_getD_getElem?,h1]
   rw[this];exact h2 s9
 |const v=>
  simp only[Az]at h;cases hc:Sa v with
  |none=>simp [hc]at h
  |some av=>simp [hc]at h;subst h;exact Sg hc
 |global i=>
  simp only[Az]at h;cases h;simp only[AY,lk];cases hi:UK i with
  |none=>rfl
  |some cs=>exact⟨i,0,rfl,hgl i cs hi⟩
 |func f=>simp only[Az]at h;cases h;exact⟨#[], #[],rfl,rfl,rfl⟩
theorem KF:∀{l:List zz},C2 env l->∀x∈l,(lk env x).1=true
 |[],_,_,h=>by cases h
 |y::l,⟨h1,h2⟩,x,h=>by
  rcases tg.1 h with rfl|h
  ·exact h1
  ·exact KF h2 x h
theorem Iz(t i:Nat)(gv:Bool×Fs)(r:List (Nat×Bool×Fs)):BI ((t,gv)::r) i=if t=i then some gv else BI r i:=rfl
theorem B1.put{s:AS}(e:B1 g s.env a.tmps){dst:Option Nat}{gd:Bool}{v:Fs}{x:Value}(hd:∀d,dst=some d->d<a.tmps.size)(h1:gd=true->AR g v x)(h2:gd=false->x=undef):
  B1 g (s.put dst gd v).env (a.put dst x).tmps:=by
 cases dst with
 |none=>exact e
 |some d=>
  intro t gd' v' h;simp only[AS.put,Iz]at h;simp only[Act.put];by_cases ht:d=t
  ·simp_all
  ·rw[sg ht]at h;obtain⟨y,k1,k2,k3⟩:=e t gd' v' h;exact⟨y,by rw[uj ht];exact k1,k2,k3⟩
theorem bb(a:Act)(dst:Option Tmp)(x:Value):(a.put dst x).tmps.size=a.tmps.size:=by cases dst<;>simp [Act.put]
theorem Ui(a:Act)(dst:Option Tmp)(x:Value):(a.put dst x).defers=a.defers:=by cases dst<;>rfl
theorem Uj(s:AS)(dst:Option Nat)(gd:Bool)(v:Fs):(s.put dst gd v).H=s.H:=by cases dst<;>rfl
theorem Gs(s:AS)(dst:Option Nat)(gd:Bool)(v:Fs):(s.put dst gd v).n=s.n:=by cases dst<;>rfl
theorem YB{ops:Array Oper}{o:Oper}{gd:Option (Nat×Bool)}(he:B1 g env a.tmps)(hc:Nc ops o.guard=some gd)(s9:GS env gd):
  Region.wanted o (yielded ops a.tmps)=Bl env gd:=by
 unfold Nc at hc;unfold Region.wanted;split at hc
 ·rename_i hg;cases hc;simp [hg,Bl]
 ·rename_i j wt hg;split at hc
  ·rename_i d hd;cases hc;simp only[hg,GS,AY,lk,Bl,yielded,hd,vO]at s9⊢;cases hge:BI env d with
   |none=>simp [hge]at s9
   |some gv=>
    obtain⟨g0,v⟩:=gv;simp only[hge]at s9⊢;obtain⟨x,h1,h2,h3⟩:=he d g0 v hge;rw[h1];cases g0 with
    |true=>
     have s9:=s9 rfl;cases v<;>simp only[J4]at s9<;>first|exact s9.elim|skip
     have:=h2 rfl;simp only[AR]at this;subst this;simp [Fm]
    |false=>have:=h3 rfl;subst this;simp [undef]
  ·cases hc
section
variable {P:Program} {r:Option Nat} {m N:Nat} {g0:q8} {H0:AB} {w0:World} {D:DP} {ops:Array Oper}
variable {a:Act} {g:q8} {i:Nat} {o:Oper} {w:World}
theorem gJ{H:AB}{dst:Option Nat}{x:Value}(hD:Ki D g H a.defers a.tmps w)(hd:∀d,dst=some d->d<N/\D.lo<=d):Ki D g H a.defers (a.put dst x).tmps w:=by
 cases dst with
 |none=>exact hD
 |some d=>exact hD.put (hd d rfl).2
theorem Gb{s s1:AS}{w':World}{base:Nat}{dst:Option Nat}{gd:Bool}{v:Fs}{x:Value}(hR0:q9 m g0 H0 w0 g s.H w)(hn:m<=s1.n)(hb:m<=base)(he:B1 g s.env a.tmps)(henv:s1.env=s.env)(hN:N<=a.tmps.size)(hD:Ki D g s.H a.defers a.tmps w)
  (hd:∀d,dst=some d->d<N/\D.lo<=d) {g':q8} (r1:x7 g' s1.H s1.n w') (t1:q9 base g s.H w g' s1.H w') (hv:gd=true->AR g' v x) (hu:gd=false->x=undef):
  Em m g0 H0 w0 N D (s1.put dst gd v) (a.put dst x) w':=
 ⟨g',by rw[Uj,Gs];exact r1,by
  have he':B1 g' s1.env a.tmps:=by rw[henv];exact he.mono t1.le
  exact he'.put (λd h=>uw (hd d h).1 hN) hv hu,by rw[Uj];exact hR0.trans (t1.floor hb),by rw[Gs];exact hn,by rw[bb];exact hN,by rw[Ui,Uj];exact(gJ hD hd).step t1⟩
theorem No(h:∀c,o.op≠ .defer c)(ro:Option Nat)(ρ:Operand->Value):o.semAt ro ρ=execOp ρ o:=Oper.semAt_eq ro ρ o h
theorem Qz{mkv imp:Bool}{op:Op}{k:Io}(h:BJ P mkv imp i op=some k):∀c,op≠ .defer c:=by
 rintro c rfl;simp [BJ,CW]at h
theorem GG{w':World}{K:Act->World->Prop}{Q:Exit->Act->World->Prop}{nx:Next}(ho:ops[i]?=some o)(hw:Region.wanted o (yielded ops a.tmps)=true)(hnd:∀c,o.op≠ .defer c)
  (wS:(execOp a.eval o).run P w= .ok nx w') (h:o.uponIn (FR r) 0 P a K Q (.ok nx w')):wpOpIn (FR r) 0 P ops Q i K a w:=by
 unfold wpOpIn;simp only[ho,hw,tD];refine⟨λ_ _=>zt,?_⟩;have:(o.semAt (FR r).round a.eval).run P w= .ok nx w':=by rw[No hnd];exact wS
 rw[this];exact h
theorem YC{K:Act->World->Prop}{Q:Exit->Act->World->Prop}(ho:ops[i]?=some o)(hw:Region.wanted o (yielded ops a.tmps)=false)
  (h:K (a.put o.dst undef) w):wpOpIn (FR r) 0 P ops Q i K a w:=by
 unfold wpOpIn;simp only[ho,hw,sN,sY];exact⟨λ_ _=>zt,h⟩
theorem Np{f:Operand}{args:Array Operand}{ts:Array TypeId}{y9:FuncId}{first cap:Array Value}(ho:o.op= .call {callee:=.value f,args,argTypes:=ts})(hf:a.eval f= .func (.func y9) first cap)(hc:C3 P y9):
  (execOp a.eval o).run P w= .ok (.enter y9 (first++args.map a.eval++cap)) w:=by
 obtain⟨fn,h1,h2,h3⟩:=hc;have h3':¬fn.name= "runtime.NumGoroutine" :=by simpa using h3
 have h4:¬fn.body=none:=by cases hb:fn.body<;>simp_all
 simp [execOp,ho,resolve,hf,Deferred.ofValue,invoke,callFunc,h1,h3',h4]
theorem wI.append'{as bs:List Fs}{vs us:List Value}(h:wI g as vs)(k:wI g bs us):wI g (as++bs) (vs++us):=wI.append as vs bs us h k
theorem Nq{Qp:Fs->AB->Nat->Prop}{base:Nat}{mkv imp:Bool}{gd:Option (Nat×Bool)}{k:Io}{K:AS->Prop}{Kc:Act->World->Prop}{Qc:Exit->Act->World->Prop}{s:AS}
  (ho:ops[i]?=some o) (hg:Nc ops o.guard=some gd) (hk:BJ P mkv imp i o.op=some k) (hstep:Af P Qp base ⟨o.dst,gd,k⟩ K s) (hsim:Em m g0 H0 w0 N D s a w) (hb:m<=base)
  (hbn:k.news=true->base+i<s.n) (hd:∀d,o.dst=some d->d<N/\D.lo<=d)
  (hK:∀s' a' w',K s'->Em m g0 H0 w0 N D s' a' w'->s.n<=s'.n->Kc a' w')
  (hQ:∀v H' n' chain a' w',Qp v H' n'->On m g0 H0 w0 D a'.defers a'.tmps v H' n' chain w'->Qc (.panic chain) a' w'):wpOpIn (FR r) 0 P ops Qc i Kc a w:=by
 obtain⟨g,hR,hE,hT,hmn,hN,hD⟩:=hsim;obtain⟨hgok,wX⟩:=hstep;have hw:=YB hE hg hgok;have hnd:=Qz hk
 have skip:Bl s.env gd=false->∀v,K (s.put o.dst false v)->wpOpIn (FR r) 0 P ops Qc i Kc a w:=λh v hKs=>
  YC ho (by rw[hw,h]) (hK _ _ _ hKs (Gb (s:=s) (s1:=s) (base:=base) hT hmn hb hE rfl hN hD hd hR (q9.refl _ _ _ _) zw (λ_=>rfl)) (by rw[Gs];exact sj _))
 have fin:∀{s1:AS} {v:Fs} {x:Value} {w':World} {g':q8},Bl s.env gd=true->s1.env=s.env->s1.n=s.n->(execOp a.eval o).run P w= .ok (.value x) w'->AR g' v x->x7 g' s1.H s1.n w'->q9 base g s.H w g' s1.H w'->K (s1.put o.dst true v)->
   wpOpIn (FR r) 0 P ops Qc i Kc a w:=by
  intro s1 v x w' g' xU henv to wS hv r1 t1 hKs;refine GG ho (by rw[hw,xU]) hnd wS ?_;exact hK _ _ _ hKs (Gb (s:=s) (s1:=s1) (base:=base) hT zo hb hE henv hN hD hd r1 t1 (λ_=>hv) zw) (by rw[Gs,to];exact sj _)
 have yX:∀{H':AB} {v:Fs} {x:Value} {w':World} {g':q8},Bl s.env gd=true->(execOp a.eval o).run P w= .ok (.value x) w'->AR g' v x->x7 g' H' s.n w'->q9 base g s.H w g' H' w'->K ({s with H:=H'}.put o.dst true v)->
   wpOpIn (FR r) 0 P ops Qc i Kc a w:=λ{H'} _ _ _ _ h1 h2 h3 h4 h5 h6=>fin (s1:={s with H:=H'}) h1 rfl rfl h2 h3 h4 h5 h6
 have opv:∀{l:List zz},C2 s.env l->∀x x',Az x=some x'->x'∈l->AR g (AY s.env x') (a.eval x):=λwY x x' e hm=>Do hR.gl hE e (KF wY x' hm)
 have callv:∀{f:Operand} {f':zz} {args:Array Operand} {ts:Array TypeId} {xs:List zz},o.op= .call {callee:=.value f,args,argTypes:=ts}->Az f=some f'->JH args.toList=some xs->(lk s.env f').1=true->C2 s.env xs->
   ∀{y9:FuncId} {first cap:List Fs},AY s.env f'= .fn (.func y9) first cap->∃fv cv,a.eval f= .func (.func y9) fv cv/\wI g (first++xs.map (AY s.env)++cap) (fv++args.map a.eval++cv).toList:=by
  intro f f' args ts xs h1 h2 h3 h4 h5 y9 first cap h6
  have hf:=Do hR.gl hE h2 h4;rw[h6]at hf;obtain⟨fv,cv,e1,k1,k2⟩:=hf;refine⟨fv,cv,e1,?_⟩;have:=Ew (g:=g) (ρ:=a.eval) (ρ':=AY s.env) args.toList xs h3 (λx x' e hm=>Do hR.gl hE e (KF h5 x' hm));simp only[Array.toList_append,Array.toList_map];exact wI.append' (wI.append' k1 this) k2
 by_cases xU:Bl s.env gd=true;case neg=>grind
 case pos=>
 have value:∀{k':xx},CW P mkv o.op=some k'->k= .v k'->wpOpIn (FR r) 0 P ops Qc i Kc a w:=by
  intro k' h1 h2;subst h2;obtain⟨hs,hKs⟩:=wX;rw[xU]at hKs;obtain⟨wY,hside⟩:=hs xU;obtain⟨x,w',g',q1,q2,q3,q4⟩:=UZ (m:=base) hR h1 (opv wY) hside;exact fin (s1:=s) xU rfl rfl q1 q2 q3 q4 hKs
 have other:BJ P mkv imp i o.op=(CW P mkv o.op).map .v->wpOpIn (FR r) 0 P ops Qc i Kc a w:=by
  intro e;rw[e]at hk;cases h1:CW P mkv o.op with
  |none=>simp [h1]at hk
  |some k'=>simp [h1]at hk;exact value h1 hk.symm
 have mksv:∀{t e:TypeId} {inf:TypeInfo} {z:Fs} {sz:Nat} {x:Operand} {x':zz} {l c:Operand},o.op= .makeSlice t l c->l=x->c=x->Az x=some x'->P.underlying t=some (.slice e)->P.info? e=some inf->Cf P e=some z->Fp P e=some sz->k= .mks i sz inf.bytes z x'->
   wpOpIn (FR r) 0 P ops Qc i Kc a w:=by
  intro t e inf z sz x x' l c xI e1 e2 e3 h1 h2 h3 h4 h5;subst e1;subst e2;subst h5;obtain⟨wY,q1,q2,q3,q4,q5,q6,hKs⟩:=wX.1 xU;have s5:base+i<s.n:=hbn rfl;obtain⟨v,w',g',p1,p2,p3,p4,p5⟩:=X2 (m:=base) hR h1 h2 h3 h4 (opv wY c x' e3 (by simp [Io.wH])) q1 s5 (tO _ _) q2 q3 q4 q5;exact yX xU (by simp [execOp,xI,p1]) p2 p3 p4 hKs
 have put:∀{t:TypeId} {mm kk x:Operand},Xs P t mm kk x=some k->(execOp a.eval o).run P w=((Instr.mapUpdate t (a.eval mm) (a.eval kk) (a.eval x)).run P w).andThen (λ_ w'=>.ok .skip w')->wpOpIn (FR r) 0 P ops Qc i Kc a w:=by
  intro t mm kk x hk hex;unfold Xs at hk;split at hk
  ·rename_i kt e m' k' x' hu h1 h2 h3;cases hkt:oQ P kt with
   |none=>simp [hkt]at hk
   |some kq=>
    simp [hkt]at hk;subst hk;obtain⟨wY,q1,q2⟩:=wX.1 xU;simp only[sS,t6]at q1 q2;obtain⟨w',p1,p2,p3,p4⟩:=Ue (m:=base) hR hu hkt (opv wY mm m' h1 (by simp [Io.wH])) (opv wY kk k' h2 (by simp [Io.wH])) (opv wY x x' h3 (by simp [Io.wH])) q1;rw[p2]at q2;refine GG ho (by rw[hw,xU]) hnd (nx:=.skip) (w':=w') (by rw[hex,p1];rfl) ?_;exact hK _ _ _ q2 (Gb (s:=s) (s1:={s with H:=_}) (base:=base) hT hmn hb hE rfl hN hD hd p3 p4 (λ_=>⟨#[],rfl,rfl⟩) zw) (by rw[Gs];exact sj _)
  ·cases hk
 cases xI:o.op;case pick c x y=>
  simp only[xI,BJ]at hk;split at hk
  ·rename_i c' x' y' h1 h2 h3;cases hk;obtain⟨hs,hKs⟩:=wX;rw[xU]at hKs;obtain⟨hc1,hc2,hc3,hc4⟩:=hs xU;obtain⟨bv,e1,e2⟩:=J9 hc2 (Do hR.gl hE h1 hc1);have hpick:(execOp a.eval o).run P w= .ok (.value (if bv then a.eval x else a.eval y)) w:=by simp [execOp,xI,e2,asBool]
   rw[e1]at hc3 hc4 hKs;simp only[Fm]at hc3 hc4 hKs;have hsel:∀(p q:Fs),(bv=true->AR g p (a.eval x))->(bv=false->AR g q (a.eval y))->AR g (Lv bv p q) (if bv then a.eval x else a.eval y):=by
    intro p q hp hq;cases bv with
    |true=>cases p<;>cases q<;>simpa [Lv]using hp rfl
    |false=>cases p<;>cases q<;>simpa [Lv]using hq rfl
   exact fin (s1:=s) xU rfl rfl hpick (hsel _ _ (λhb=>Do hR.gl hE h2 (hc3 hb)) (λhb=>Do hR.gl hE h3 (hc4 hb))) hR (q9.refl _ _ _ _) hKs
  ·cases hk
 case alloc t=>
  simp only[xI,BJ]at hk;cases hz:Cf P t with
  |none=>simp [hz]at hk
  |some z=>
   simp [hz]at hk;subst hk;obtain⟨wY,q1,hKs⟩:=wX.1 xU;have s5:base+i<s.n:=hbn rfl;obtain⟨w',g',p1,p2,p3,p4,p5⟩:=So (m:=base) hR q1 s5 (tO _ _) hz;exact yX xU (by simp [execOp,xI,p1]) p5 p2 p3 hKs
 case box t x=>
  simp only[xI,BJ]at hk;split at hk
  ·rename_i sz x' h1 h2;cases hk;obtain⟨wY,q1,q2,q3,hKs⟩:=wX.1 xU;have s5:base+i<s.n:=hbn rfl;obtain⟨w',g',p1,p2,p3,p4,p5⟩:=X0 (m:=base) (t:=t) (P:=P) hR q1 s5 (tO _ _) (opv wY x x' h2 (by simp [Io.wH])) q2;exact yX xU (by simp [execOp,xI,p1]) p5 p2 p3 hKs
  ·cases hk
 case store t ad x=>
  simp only[xI,BJ]at hk;split at hk
  ·rename_i sz ad' x' h1 h2 h3;cases hk;obtain⟨wY,q1,q2,q3⟩:=wX.1 xU;have hst':Ok s.H sz (AY s.env x') (λH'=>K ({s with H:=H'}.put o.dst true (.wJ []))) (AY s.env ad'):=by
    generalize AY s.env ad'=av at q3⊢;cases av<;>exact q3
   obtain⟨H',w',p1,p2,p3,p4⟩:=bV (m:=base) hR h1 (opv wY ad ad' h2 (by simp [Io.wH])) (opv wY x x' h3 (by simp [Io.wH])) q1 q2 hst';refine GG ho (by rw[hw,xU]) hnd (nx:=.skip) (w':=w') (by simp [execOp,xI,p1]) ?_;exact hK _ _ _ p2 (Gb (s:=s) (s1:={s with H:=H'}) (base:=base) hT hmn hb hE rfl hN hD hd p3 p4 (λ_=>⟨#[],rfl,rfl⟩) zw) (by rw[Gs];exact sj _)
  ·cases hk
 case slice t x lo hi mx=>
  by_cases hp:∃n e,P.underlying t=some (.array n e)
  ·obtain⟨nn,e,hu⟩:=hp;simp only[xI,BJ,hu]at hk;split at hk
   ·rename_i x' l' h' h2 h3 h4;split at hk
    ·rename_i xG;cases hk;obtain⟨wY,b1,b2,q3⟩:=wX.1 xU;have hvx:=opv wY x x' h2 (by simp [Io.wH]);have hvo:∀y y',Az y=some y'->(l'=some y'\/h'=some y')->AR g (AY s.env y') (a.eval y):=λy y' e1 e2=>opv wY y y' e1 (by rcases e2 with rfl|rfl<;>simp [Io.wH])
     obtain⟨v,H',v',p1,p2,p3,p4,p5⟩:=X4 (m:=base) hR hu xG h3 h4 hvx hvo b1 b2 q3;exact yX xU (by simp [execOp,xI,p1]) p2 p3 p4 p5
    ·split at hk
     ·rename_i kk xG;split at hk
      ·cases hk;obtain⟨wY,q1,q2⟩:=wX.1 xU;have hvx:=opv wY x x' h2 (by simp [Io.wH]);have hvo:∀y y',Az y=some y'->(l'=some y'\/h'=some y')->AR g (AY s.env y') (a.eval y):=λy y' e1 e2=>opv wY y y' e1 (by rcases e2 with rfl|rfl<;>simp [Io.wH])
       obtain⟨v,p1,p2,p3,p4⟩:=X9 (m:=base) hR hu xG h3 h4 hvx hvo q1;exact yX xU (by simp [execOp,xI,p1]) p2 p3 p4 q2
      ·cases hk
     ·cases hk
   ·cases hk
  ·refine other ?_;rw[xI];simp only[BJ];split
   ·rename_i nn e hu;exact absurd ⟨nn,e,hu⟩ hp
   ·rfl
 case makeSlice t l c=>
  cases mkv with
  |true=>exact other (by rw[xI];simp [BJ])
  |false=>
   rw[xI]at hk;cases l<;>cases c<;>(try (simp [BJ]at hk;done))
   ·rename_i l c;simp only[BJ,sN,sY]at hk;split at hk
    ·rename_i xm;subst xm;split at hk
     ·rename_i e hu;split at hk
      ·rename_i inf z sz h1 h2 h3;cases hk;exact mksv xI rfl rfl rfl hu h1 h2 h3 rfl
      ·cases hk
     ·cases hk
    ·cases hk
   ·rename_i l c;cases l<;>(try (simp [BJ]at hk;done));rename_i kl nl;cases kl<;>(try (simp [BJ]at hk;done));cases c<;>(try (simp [BJ]at hk;done));rename_i kc nc;cases kc<;>(try (simp [BJ]at hk;done));simp only[BJ,sN,sY]at hk;split at hk
    ·rename_i xm;subst xm;split at hk
     ·rename_i e hu;split at hk
      ·rename_i inf z sz h1 h2 h3;cases hk;exact mksv xI rfl rfl (x':=.c (.int .i64 nl)) (by simp [Az,Sa,Nb]) hu h1 h2 h3 rfl
      ·cases hk
     ·cases hk
    ·cases hk
 case panic x=>
  simp only[xI,BJ]at hk;cases hx:Az x with
  |none=>simp [hx]at hk
  |some x'=>
   simp [hx]at hk;subst hk;obtain⟨wY,q1,q2⟩:=wX.1 xU;have hv:=opv wY x x' hx (by simp [Io.wH]);generalize hA:AY s.env x'=av at q1 q2 hv;cases av<;>simp only[Xm]at q1<;>first|exact q1.elim|skip
   rename_i t v;obtain⟨y,e1,k1⟩:=hv;have wS:(execOp a.eval o).run P w= .halt (.panic (.iface t y)) w:=by
    simp [execOp,xI,e1,Instr.panic,goPanic]
   unfold wpOpIn;simp only[ho,hw,xU,tD];refine⟨λ_ _=>zt,?_⟩;have:(o.semAt (FR r).round a.eval).run P w= .halt (.panic (.iface t y)) w:=by rw[No hnd];exact wS
   rw[this];exact hQ _ _ _ _ _ _ q2 ⟨g,.iface t y,hR,hT,hmn,rfl,⟨y,rfl,k1⟩,hD⟩
 case call c=>
  obtain⟨callee,args,ts⟩:=c;cases callee;case invoke rv mt=>rw[xI]at hk;simp [BJ,CW]at hk
  case value f=>
   simp only[xI,BJ]at hk;split at hk
   ·rename_i f' xs h1 h2;by_cases hmi:(mkv&&imp)=true
    ·rw[sn hmi]at hk;cases hk;obtain⟨wY,q3⟩:=wX.1 xU;obtain⟨q1,q2⟩:=wY;simp only[BS]at q3;generalize hA:AY s.env f'=fv at q3;cases fv<;>(try simp only[]at q3)<;>first|exact q3.elim|skip
     rename_i ff first cap
     cases ff<;>(try simp only[]at q3)<;>first|exact q3.elim|skip
     rename_i y9;obtain⟨v,hpur,hKs⟩:=q3;obtain⟨fv,cv,e1,e2⟩:=callv xI h1 h2 q1 q2 hA;obtain⟨wo,hq⟩:=hpur.quiet s.H s.n;refine GG ho (by rw[hw,xU]) hnd (Np xI e1 wo) ?_;refine⟨by simp [FR,Fence.wide],?_⟩;have yP:=hq g w _ hR e2;simp only[vv]at yP;refine(callsIn_wide (n:=0-1)).2 (yP.mono ?_);rintro e w' ⟨g',out,H',n',⟨rfl,rfl,rfl⟩,he,r1,_,t1⟩;cases e with
     |panicked ch=>exact he.elim
     |outgrown=>exact he.elim
     |returned x=>
      exact hK _ _ _ hKs (Gb (s:=s) (s1:=s) (base:=s.n) hT hmn hmn hE rfl hN hD hd r1 t1 (λ_=>he) zw) (by rw[Gs];exact sj _)
    rw[sg hmi]at hk;cases hk;cases imp with
    |false=>
     simp only[se]at wX;obtain⟨v,hs,hKs⟩:=wX;rw[xU]at hKs;obtain⟨q1,q2,q3⟩:=hs xU;generalize hA:AY s.env f'=fv at q3;cases fv<;>(try simp only[]at q3)<;>first|exact q3.elim|skip
     rename_i ff first cap
     cases ff<;>(try simp only[]at q3)<;>first|exact q3.elim|skip
     rename_i y9;obtain⟨fv,cv,e1,e2⟩:=callv xI h1 h2 q1 q2 hA;obtain⟨wo,hq⟩:=q3;refine GG ho (by rw[hw,xU]) hnd (Np xI e1 wo) ?_;refine⟨by simp [FR,Fence.wide],?_⟩;have yP:=hq g w _ hR e2;simp only[vv]at yP;refine(callsIn_wide (n:=0-1)).2 (yP.mono ?_);rintro e w' ⟨g',out,H',n',⟨rfl,rfl,rfl⟩,he,r1,_,t1⟩;cases e with
     |panicked ch=>exact he.elim
     |outgrown=>exact he.elim
     |returned x=>
      exact hK _ _ _ hKs (Gb (s:=s) (s1:=s) (base:=s.n) hT hmn hmn hE rfl hN hD hd r1 t1 (λ_=>he) zw) (by rw[Gs];exact sj _)
    |true=>
     simp only[sa]at wX;obtain⟨wY,q3⟩:=wX.1 xU;obtain⟨q1,q2⟩:=wY;simp only[BS]at q3;generalize hA:AY s.env f'=fv at q3;cases fv<;>(try simp only[]at q3)<;>first|exact q3.elim|skip
     rename_i ff first cap
     by_cases hy:∃l,ff= .yield l
     ·obtain⟨l,rfl⟩:=hy;cases first with
      |cons _ _=>exact q3.elim
      |nil=>cases cap with
       |cons _ _=>exact q3.elim
       |nil=>
        have hf:=Do hR.gl hE h1 q1;rw[hA]at hf;obtain⟨x',c',e1,k1,k2⟩:=hf;have e2:x'= #[]:=by apply uv;simpa [wI]using k1
        have e3:c'= #[]:=by apply uv;simpa [wI]using k2
        subst e2;subst e3;have yG:=Ew (g:=g) (ρ:=a.eval) (ρ':=AY s.env) args.toList xs h2 (λx x' e hm=>Do hR.gl hE e (KF q2 x' hm));obtain⟨f2,tmps,as,bd,r1,r2⟩:=q3 r g w _ hR yG;have wS:(execOp a.eval o).run P w= .ok (.round l f2 tmps as bd) w:=by
         have:(execOp a.eval o).run P w=(Instr.yield l (args.map a.eval)).run P w:=by
          simp [execOp,xI,resolve,e1,Deferred.ofValue,invoke]
         rw[this,<-r1];congr 2;apply uv;simp
        refine GG ho (by rw[hw,xU]) hnd wS ?_;rw[Oper.uponIn_round];refine⟨by simp [FR,Fence.wide],r2.mono ?_⟩;rintro e w' ⟨b,g',H',n',rfl,hr,p1,hn',p2⟩;exact hK _ _ _ hr (Gb (s:=s) (s1:={s with H:=H',n:=n'}) (base:=s.n) hT zp hmn hE rfl hN hD hd p1 p2 (λ_=>rfl) zw) (by rw[Gs];exact hn')
     cases ff<;>(try simp only[]at q3)<;>first|exact q3.elim|exact absurd ⟨_,rfl⟩ hy|skip
     rename_i y9;obtain⟨fv,cv,e1,e2⟩:=callv xI h1 h2 q1 q2 hA;obtain⟨wo,hq⟩:=q3;refine GG ho (by rw[hw,xU]) hnd (Np xI e1 wo) ?_;refine⟨by simp [FR,Fence.wide],?_⟩;have yP:=hq g w _ hR e2;simp only[vv]at yP;refine(callsIn_wide (n:=0-1)).2 (yP.mono ?_);rintro e w' ⟨g',out,H',n',hr,he,r1,hn',t1⟩;cases e with
     |outgrown=>cases out<;>exact he.elim
     |panicked ch=>
      cases out with
      |ret v=>exact he.elim
      |xM v=>
       obtain⟨x,rfl,k1⟩:=he;exact hQ _ _ _ _ _ _ hr ⟨g',x,r1,hT.trans (t1.floor hmn),zo,rfl,k1,hD.step t1⟩
     |returned x=>
      cases out with
      |xM v=>exact he.elim
      |ret v=>exact hK _ _ _ hr (Gb (s:=s) (s1:={s with H:=H',n:=n'}) (base:=s.n) hT zp hmn hE rfl hN hD hd r1 t1 (λ_=>he) zw) (by rw[Gs];exact hn')
   ·cases hk
  case builtin b=>
   cases b;case append=>
    simp only[xI,BJ]at hk;split at hk
    ·rename_i t u x y hts yG;have e1:ts= #[t,u]:=by apply uv;simpa using hts
     have e2:args= #[x,y]:=by apply uv;simpa using yG
     subst e1;subst e2;split at hk
     ·rename_i e x' y' hu hx hy;have srcv:∀{inf:TypeInfo} {str:Bool} {l':List Fs},(str=true->inf.size=1)->AR g (AY s.env y') (a.eval y)->CF s.H (AY s.env) inf.size y' str=some l'->kB P g w inf.size l' (a.eval y):=by
       intro inf str l' h6 hvy hB;cases str with
       |true=>
        simp only[CF]at hB;generalize AY s.env y'=yv at hB hvy;cases yv<;>(try simp only[]at hB)<;>first|(cases hB;done)|skip
        cases hB;rw[h6 rfl];exact Qx hvy
       |false=>
        simp only[CF]at hB;generalize AY s.env y'=yv at hB hvy;cases yv<;>(try simp only[]at hB)<;>first|(cases hB;done)|skip
        ·split at hB
         ·rename_i hc;cases hB;exact bW hR hvy hc
         ·cases hB
        ·split at hB
         ·rename_i ho;split at hB
          ·rename_i hc;obtain⟨c1,c2,c3⟩:=hc;subst c1;subst c2;cases hB;exact WY hR hvy ho c3
          ·cases hB
         ·cases hB
      have appr:∀{inf:TypeInfo} {za:Fs} {du:TypeDesc} {str:Bool},P.info? e=some inf->Cf P e=some za->P.underlying u=some du->(∀k,du≠ .int k)->k= .yM i inf.size inf.bytes za x' y' str->(str=true->inf.size=1)->
        wpOpIn (FR r) 0 P ops Qc i Kc a w:=by
       intro inf za du str h1 h2 h3 h4 h5 h6;subst h5;obtain⟨wY,q⟩:=wX.1 xU;have s5:base+i<s.n:=hbn rfl;have hvx:=opv wY x x' hx (by simp [Io.wH]);have hvy:=opv wY y y' hy (by simp [Io.wH]);simp only[BS]at q;obtain⟨v,w',g',H',v',p1,p2,p3,p4,p5⟩:=Uh (m:=base) (ty:=o.type) (K:=λH' v=>K ({s with H:=H'}.put o.dst true v)) hR hu h3 h4 h1 h2 hvx (λl' hl'=>srcv h6 hvy hl') s5 (tO _ _) q;exact yX xU (by simp [execOp,xI,resolve,invoke,builtin,p1]) p2 p3 p4 p5
      have app:∀{inf:TypeInfo} {za:Fs} {du:TypeDesc} {str:Bool},P.info? e=some inf->Cf P e=some za->P.underlying u=some du->(∀k,du≠ .int k)->k= .app i inf.size inf.bytes x' y' str->(str=true->inf.size=1)->
        wpOpIn (FR r) 0 P ops Qc i Kc a w:=by
       intro inf za du str h1 h2 h3 h4 h5 h6;subst h5;obtain⟨wY,q⟩:=wX.1 xU;have s5:base+i<s.n:=hbn rfl;have hvx:=opv wY x x' hx (by simp [Io.wH]);have hvy:=opv wY y y' hy (by simp [Io.wH]);simp only[BS]at q;generalize hA:AY s.env x'=av at q hvx;generalize hB:CF s.H (AY s.env) inf.size y' str=bv at q;cases av<;>(try simp only[]at q)<;>first|exact q.elim|skip
       rename_i tok l;cases bv<;>(try simp only[]at q)<;>first|exact q.elim|skip
       rename_i l';obtain⟨q1,q2,q3,q4,q5,hKs⟩:=q;have hsrc:kB P g w inf.size l' (a.eval y):=by
        cases str with
        |true=>
         simp only[CF]at hB;generalize AY s.env y'=yv at hB hvy;cases yv<;>(try simp only[]at hB)<;>first|(cases hB;done)|skip
         cases hB;rw[h6 rfl];exact Qx hvy
        |false=>
         simp only[CF]at hB;generalize AY s.env y'=yv at hB hvy;cases yv<;>(try simp only[]at hB)<;>first|(cases hB;done)|skip
         ·split at hB
          ·rename_i hc;cases hB;exact bW hR hvy hc
          ·cases hB
         ·split at hB
          ·rename_i ho;split at hB
           ·rename_i hc;obtain⟨c1,c2,c3⟩:=hc;subst c1;subst c2;cases hB;exact WY hR hvy ho c3
           ·cases hB
          ·cases hB
       obtain⟨v,w',g',p1,p2,p3,p4,p5⟩:=X1 (m:=base) (ty:=o.type) hR hu h3 h4 h1 h2 hvx hsrc q1 s5 (tO _ _) q2 q3 q4;exact yX xU (by simp [execOp,xI,resolve,invoke,builtin,p1]) p2 p3 p4 hKs
      split at hk
      ·rename_i inf za h1 h2 h3;split at hk
       ·rename_i wr;cases mkv with
        |true=>cases hk;exact appr h1 h2 h3 zw rfl (λ_=>wr)
        |false=>cases hk;exact app h1 h2 h3 zw rfl (λ_=>wr)
       ·cases hk
      ·rename_i inf za e' h1 h2 h3;split at hk
       ·cases mkv with
        |true=>cases hk;exact appr h1 h2 h3 zw rfl zw
        |false=>cases hk;exact app h1 h2 h3 zw rfl zw
       ·cases hk
      ·cases hk
     ·cases hk
    ·cases hk
   case len=>
    by_cases hp:∃t x kt e,ts.toList=[t]/\args.toList=[x]/\P.underlying t=some (.map kt e)
    ·obtain⟨t,x,kt,e,hts,yG,hu⟩:=hp;have e1:ts= #[t]:=by apply uv;simpa using hts
     have e2:args= #[x]:=by apply uv;simpa using yG
     subst e1;subst e2;simp only[xI,BJ,hu]at hk;cases hx:Az x with
     |none=>simp [hx]at hk
     |some x'=>
      simp [hx]at hk;subst hk;obtain⟨wY,q1,q2⟩:=wX.1 xU;simp only[sS,t6]at q1 q2;obtain⟨p1,v,p2,p3⟩:=Ug (ty:=o.type) hR hu (opv wY x x' hx (by simp [Io.wH])) q1;rw[p1]at q2;exact yX xU (by simp [execOp,xI,resolve,invoke,builtin,p2]) p3 hR (q9.refl _ _ _ _) q2
    ·cases hts:ts.toList with
     |nil=>rw[xI]at hk;simp [BJ,hts]at hk
     |cons t tr=>
      cases tr with
      |cons _ _=>rw[xI]at hk;simp [BJ,hts]at hk
      |nil=>
       cases yG:args.toList with
       |nil=>rw[xI]at hk;simp [BJ,hts,yG]at hk
       |cons x xr=>
        cases xr with
        |cons _ _=>rw[xI]at hk;simp [BJ,hts,yG]at hk
        |nil=>
         refine other ?_;rw[xI];simp only[BJ,hts,yG];split
         ·rename_i kt e hu;exact absurd ⟨t,x,kt,e,hts,yG,hu⟩ hp
         ·rfl
   case copy=>
    simp only[xI,BJ]at hk;split at hk
    ·rename_i t u x y hts yG;have e1:ts= #[t,u]:=by apply uv;simpa using hts
     have e2:args= #[x,y]:=by apply uv;simpa using yG
     subst e1;subst e2;split at hk
     ·rename_i e x' y' hu hx hy;have fin:∀{inf:TypeInfo} {str:Bool},P.info? e=some inf->(str=true->inf.size=1)->k= .ext (.cpy inf.size str) [x',y']->wpOpIn (FR r) 0 P ops Qc i Kc a w:=by
       intro inf str h1 h6 h5;subst h5;obtain⟨wY,q1,q2⟩:=wX.1 xU;simp only[sS,t6]at q1 q2;obtain⟨v,w',p1,p2,p3,p4⟩:=YA (m:=base) (u:=u) (ty:=o.type) hR hu h1 h6 (opv wY x x' hx (by simp [Io.wH])) (opv wY y y' hy (by simp [Io.wH])) q1;exact yX xU (by simp [execOp,xI,resolve,invoke,builtin,p1]) p2 p3 p4 q2
      split at hk
      ·rename_i inf h1 h2;split at hk
       ·rename_i wr;cases hk;exact fin h1 (λ_=>wr) rfl
       ·cases hk
      ·rename_i inf e' h1 h2;cases hk;exact fin h1 zw rfl
      ·cases hk
     ·cases hk
    ·cases hk
   all_goals exact other (by rw[xI];first|rfl|simp [BJ])
 case buildSlice t len parts=>
  simp only[xI,BJ]at hk;cases mkv with
  |false=>
   simp only[sN,sY]at hk;cases h1:CW P false (.buildSlice t len parts)with
   |none=>simp [h1]at hk
   |some k'=>simp [h1]at hk;exact value (by rw[xI];exact h1) hk.symm
  |true=>
   simp only[tD]at hk;split at hk
   ·rename_i e hu;split at hk
    ·rename_i z sz ps hz xG hcp;cases hk;obtain⟨wY,q1,q2⟩:=wX.1 xU;simp only[xE]at q1 q2;have s5:base+i<s.n:=hbn rfl;obtain⟨v,w',g',p1,p2,p3,p4,p5⟩:=X3 (m:=base) hR hu hz xG hcp (λx x' a b=>opv wY x x' a b) q1.1 s5 (tO _ _) q1.2.1 q1.2.2.2;exact yX xU (by simp [execOp,xI,p1]) p2 p3 p4 q2
    ·cases hk
   ·cases hk
 case makeMap t r=>
  cases r with
  |some r=>rw[xI]at hk;simp [BJ,CW]at hk
  |none=>
   simp only[xI,BJ]at hk;split at hk
   ·rename_i kt e hu;cases hk;obtain⟨wY,q1,q2⟩:=wX.1 xU;simp only[t6,xE]at q1 q2;have s5:base+i<s.n:=hbn rfl;obtain⟨v,w',g',p1,p2,p3,p4⟩:=X6 (m:=base) (P:=P) hR q1 s5 (tO _ _) t;exact yX xU (by simp [execOp,xI,p1]) p2 p3 p4 q2
   ·cases hk
 case lookup t x ix ok=>
  simp only[xI,BJ]at hk;split at hk
  ·rename_i kt e x' ix' hu hx hix;split at hk
   ·rename_i kk z h1 h2;cases hk;obtain⟨wY,q1,q2⟩:=wX.1 xU;simp only[sS,t6]at q1 q2;obtain⟨p1,v,p2,p3⟩:=Ud hR hu h1 h2 (opv wY x x' hx (by simp [Io.wH])) (opv wY ix ix' hix (by simp [Io.wH])) q1;rw[p1]at q2;exact yX xU (by simp [execOp,xI,p2]) p3 hR (q9.refl _ _ _ _) q2
   ·cases hk
  ·cases hk
 case mapUpdate t mm kk x=>exact put (t:=t) (mm:=mm) (kk:=kk) (x:=x) (by rw[xI]at hk;exact hk) (by simp [execOp,xI])
 case insert t mm kk x=>exact put (t:=t) (mm:=mm) (kk:=kk) (x:=x) (by rw[xI]at hk;exact hk) (by simp [execOp,xI])
 case range t x=>
  simp only[xI,BJ]at hk;split at hk
  ·rename_i x' hu hx;cases hk;obtain⟨wY,q1,q2⟩:=wX.1 xU;simp only[sS,t6]at q1 q2;have hv:=opv wY x x' hx (by simp [Io.wH]);generalize AY s.env x'=av at hv q1 q2;cases av<;>simp only[xE]at q1 q2<;>(try exact q1.elim);rename_i sv;have hv':a.eval x= .string ⟨sv.toArray⟩:=hv;have s5:base+i<s.n:=hbn rfl;obtain⟨v,w',g',p1,p2,p3,p4⟩:=Ua (m:=base) hR q1 s5 (tO _ _) hu sv;exact yX xU (by simp [execOp,xI,hv',p1]) p2 p3 p4 q2
  ·rename_i kt e x' hu hx;cases hk;obtain⟨wY,q1,q2⟩:=wX.1 xU;simp only[sS,t6]at q1 q2;have hv:=opv wY x x' hx (by simp [Io.wH]);generalize AY s.env x'=av at hv q1 q2;cases av<;>simp only[xE]at q1 q2<;>(try exact q1.elim);rename_i mi;cases hh:AD s.H mi with
   |none=>rw[hh]at q1;exact q1.elim
   |some ob=>
    rw[hh]at q1 q2;cases ob<;>simp only[]at q1 q2<;>(try exact q1.elim);have s5:base+i<s.n:=hbn rfl;obtain⟨v,w',g',p1,p2,p3,p4⟩:=Ub (m:=base) (P:=P) hR q1 s5 (tO _ _) hu hh hv;exact yX xU (by simp [execOp,xI,p1]) p2 p3 p4 q2
  ·cases hk
 case next x b=>
  cases b with
  |false=>
   simp only[xI,BJ]at hk;cases hx:Az x with
   |none=>simp [hx]at hk
   |some x'=>
    simp [hx]at hk;subst hk;obtain⟨wY,q1⟩:=wX.1 xU;have q1:JF s.H (λH' v=>K ({s with H:=H'}.put o.dst true v)) (AY s.env x'):=by simpa [BS]using q1
    obtain⟨v,w',g',H',v',p1,p2,p3,p4,p5⟩:=X7 (m:=base) (P:=P) (ty:=o.type) (K:=λH' v=>K ({s with H:=H'}.put o.dst true v)) hR (opv wY x x' hx (by simp [Io.wH])) q1;exact yX xU (by simp [execOp,xI,p1]) p2 p3 p4 p5
  |true=>
   simp only[xI,BJ]at hk;cases hx:Az x with
   |none=>simp [hx]at hk
   |some x'=>
    simp [hx]at hk;subst hk;obtain⟨wY,q1,q2⟩:=wX.1 xU;simp only[sS,t6]at q1 q2;have hv:=opv wY x x' hx (by simp [Io.wH]);generalize AY s.env x'=av at hv q1 q2;cases av<;>simp only[xE]at q1 q2<;>(try exact q1.elim);rename_i id off;cases off with
    |succ o=>simp []at q1
    |zero=>
     simp only[]at q1 q2;cases hh:AD s.H id with
     |none=>rw[hh]at q1;exact q1.elim
     |some ob=>
      rw[hh]at q1 q2;cases ob<;>simp only[]at q1 q2<;>(try exact q1.elim);obtain⟨v,w',p1,p2,p3,p4⟩:=St (m:=base) (P:=P) hR hh hv o.type;exact yX xU (by simp [execOp,xI,p1]) p2 p3 p4 q2
 case entry x=>
  simp only[xI,BJ]at hk;cases hx:Az x with
  |none=>simp [hx]at hk
  |some x'=>
   simp [hx]at hk;subst hk;obtain⟨wY,q1,q2⟩:=wX.1 xU;simp only[sS,t6]at q1 q2;obtain⟨p1,v,p2,p3⟩:=Uc (P:=P) (w:=w) hR (opv wY x x' hx (by simp [Io.wH])) q1;rw[p1]at q2;exact yX xU (by simp [execOp,xI,p2]) p3 hR (q9.refl _ _ _ _) q2
 case convert sT dT x=>
  by_cases hp:∃k,P.underlying sT=some (.int k)/\P.underlying dT=some .string
  ·obtain⟨kk,h1,h2⟩:=hp;simp only[xI,BJ,h1,h2]at hk;cases hx:Az x with
   |none=>simp [hx]at hk
   |some x'=>
    simp [hx]at hk;subst hk;obtain⟨wY,q1,q2⟩:=wX.1 xU;simp only[sS,t6]at q1 q2;have hv:=opv wY x x' hx (by simp [Io.wH]);generalize AY s.env x'=av at hv q1 q2;cases av<;>simp only[xE]at q1 q2<;>(try exact q1.elim);rename_i kx nx;have hv':a.eval x= .int kx nx:=hv;refine yX xU (v:=.str (Utf8.encode nx).data.toList) (x:=.string (Utf8.encode nx)) (w':=w) ?_ (by simp [AR]) hR (q9.refl _ _ _ _) q2;simp [execOp,xI,hv',run_convert_int_string w sT dT kx nx (by rw[h1];rfl) h2]
  ·refine other ?_;rw[xI];simp only[BJ];split
   ·rename_i kk h1 h2;exact absurd ⟨kk,h1,h2⟩ hp
   ·rfl
 case binOp bo t X Y yt=>
  by_cases hp:(bo= .eql\/bo= .neq)/\∃c kd,Y= .const c/\Qr P t c=some kd
  ·obtain⟨my,c,kd,rfl,hnt⟩:=hp;obtain⟨nq,hq⟩:∃nq:Bool,(bo= .eql/\nq=false)\/(bo= .neq/\nq=true):=my.elim (λh=>⟨false,.inl ⟨h,rfl⟩⟩) (λh=>⟨true,.inr ⟨h,rfl⟩⟩);have hk':(Az X).map (λa=>Io.ext (.xP kd nq) [a])=some k:=by
    rcases hq with⟨rfl,rfl⟩|⟨rfl,rfl⟩<;>simpa [xI,BJ,hnt]using hk
   cases hx:Az X with
   |none=>simp [hx]at hk'
   |some x'=>
    simp [hx]at hk';subst hk';obtain⟨wY,q1,q2⟩:=wX.1 xU;simp only[sS,t6]at q1 q2;obtain⟨p1,v,p2,p3⟩:=Su (P:=P) (w:=w) (X:=X) hq hnt (opv wY X x' hx (by simp [Io.wH])) q1;rw[p1]at q2;refine yX xU ?_ p3 hR (q9.refl _ _ _ _) q2;have hc:a.eval (.const c)=c:=rfl;simp only[Sem.run_bind]at p2;cases he:Sem.run P (eqGuard bo t X (.const c) (a.eval X) c) w<;>simp [he,Result.andThen]at p2;rename_i u w2;have p4:(Sem.run P (binOp bo t (a.eval X) c) w2)= .ok v w:=by simpa [Result.andThen]using p2
    simp [execOp,xI,hc,he,Result.andThen,p4]
  ·by_cases hp2:(bo= .eql\/bo= .neq)/\∃c,Y= .const c/\Po P t c=true
   ·obtain⟨my,c,rfl,hns⟩:=hp2;have hnt:Qr P t c=none:=by
     cases q:Qr P t c with
     |none=>rfl
     |some kd=>exact absurd ⟨my,c,kd,rfl,q⟩ hp
    obtain⟨nq,hq⟩:∃nq:Bool,(bo= .eql/\nq=false)\/(bo= .neq/\nq=true):=my.elim (λh=>⟨false,.inl ⟨h,rfl⟩⟩) (λh=>⟨true,.inr ⟨h,rfl⟩⟩);have hk':(Az X).map (λa=>Io.nils nq a)=some k:=by
     rcases hq with⟨rfl,rfl⟩|⟨rfl,rfl⟩<;>simpa [xI,BJ,hnt,hns]using hk
    cases hx:Az X with
    |none=>simp [hx]at hk'
    |some x'=>
     simp [hx]at hk';subst hk';obtain⟨wY,q1⟩:=wX.1 xU;obtain⟨b,p2,p3⟩:=Uf (P:=P) (w:=w) (X:=X) (K:=λb=>K (s.put o.dst true (.bool b))) hq hns (opv wY X x' hx (by simp [Io.wH])) (show HP _ _ _ from q1);refine yX xU (v:=.bool b) (x:=.bool b) (w':=w) ?_ rfl hR (q9.refl _ _ _ _) p3;have hc:a.eval (.const c)=c:=rfl;simp only[Sem.run_bind]at p2;cases he:Sem.run P (eqGuard bo t X (.const c) (a.eval X) c) w<;>simp [he,Result.andThen]at p2;rename_i u w2;have p4:(Sem.run P (binOp bo t (a.eval X) c) w2)= .ok (.bool b) w:=by simpa [Result.andThen]using p2
     simp [execOp,xI,hc,he,Result.andThen,p4]
   refine other ?_;rw[xI];have a1:∀c,(bo= .eql\/bo= .neq)->Y= .const c->Qr P t c=none:=λc h1 h2=>by
    cases q:Qr P t c with
    |none=>rfl
    |some kd=>exact absurd ⟨h1,c,kd,h2,q⟩ hp
   have a2:∀c,(bo= .eql\/bo= .neq)->Y= .const c->¬Po P t c=true:=λc h1 h2 q=>hp2 ⟨h1,c,h2,q⟩
   cases bo<;>cases Y<;>first|rfl|(rename_i c;simp only[BJ];rw[a1 c zw rfl];simp only[a2 c zw rfl];done)|(rename_i c;simp only[BJ];rw[a1 c zw rfl];simp only[];rw[sg (a2 c zw rfl)])
 case typeAssert x xt t ok=>
  simp only[xI,BJ]at hk;split at hk
  ·cases hk
  ·rename_i hi;split at hk
   ·rename_i x' z hx hz;cases hk;obtain⟨wY,q1,q2⟩:=wX.1 xU;simp only[sS,t6]at q1 q2;obtain⟨p1,v,p2,p3⟩:=X8 (xt:=xt) (w:=w) (by simpa using hi) hz (opv wY x x' hx (by simp [Io.wH])) q1;rw[p1]at q2;exact yX xU (by simp [execOp,xI,p2]) p3 hR (q9.refl _ _ _ _) q2
   ·cases hk
 all_goals exact other (by rw[xI];first|rfl|simp [BJ])
end
end
section
def Oo:Option (Bool×Fs)->Option (Bool×Fs)->Prop
 |none,none=>True
 |some (g,v),some (g',v')=>g=g'/\(g=true->v=v')
 |_,_=>False
theorem Oo.rfl':∀x,Oo x x
 |none=>trivial
 |some (g,v)=>⟨rfl,λ_=>rfl⟩
theorem Oo.symm:∀{x y},Oo x y->Oo y x
 |none,none,_=>trivial
 |some _,some _,⟨h1,h2⟩=>⟨h1.symm,λh=>(h2 (h1▸h)).symm⟩
 |none,some _,h=>h.elim
 |some _,none,h=>h.elim
def OX(kp:List Nat)(s s':AS):Prop:=(∀t,Oo (BI s.env t) (BI s'.env t)/\(t∈kp->BI s.env t=BI s'.env t))/\s.H=s'.H/\s.n=s'.n
def Fw(o:xq)(env ze:List (Nat×Bool×Fs)):Prop:=
 (∀i,zz.t i∈o.k.wH->Oo (BI env i) (BI ze i))/\∀i w,o.guard=some (i,w)->Oo (BI env i) (BI ze i)
variable {o:xq} {env ze:List (Nat×Bool×Fs)}
theorem kC{i:Nat}(h:Oo (BI env i) (BI ze i)):(lk env (.t i)).1=(lk ze (.t i)).1/\((lk env (.t i)).1=true->AY env (.t i)=AY ze (.t i)):=by
 simp only[lk,AY];cases h1:BI env i with
 |none=>cases h2:BI ze i with
  |none=>simp
  |some y=>simp [h1,h2,Oo]at h
 |some x=>cases h2:BI ze i with
  |none=>simp [h1,h2,Oo]at h
  |some y=>
   obtain⟨g,v⟩:=x;obtain⟨g',v'⟩:=y;simp only[h1,h2,Oo]at h;exact h
theorem EZ(h:Fw o env ze){x:zz}(hx:x∈o.k.wH):
  (lk env x).1=(lk ze x).1/\((lk env x).1=true->AY env x=AY ze x):=by
 cases x with
 |t i=>exact kC (h.1 i hx)
 |c v=>exact⟨rfl,λ_=>rfl⟩
theorem DH(h:Fw o env ze):GS env o.guard->GS ze o.guard:=by
 cases hg:o.guard with
 |none=>exact id
 |some gw=>
  obtain⟨i,w⟩:=gw;have h1:=h.2 i w hg;simp only[GS];cases e1:BI env i with
  |none=>intro h;exact h.elim
  |some x=>cases e2:BI ze i with
   |none=>simp [e1,e2,Oo]at h1
   |some y=>
    obtain⟨g,v⟩:=x;obtain⟨g',v'⟩:=y;simp only[e1,e2,Oo]at h1;intro k q;have:=h1.1;subst this;rw[<-h1.2 q];exact k q
theorem Ea(h:Fw o env ze):Bl env o.guard=Bl ze o.guard:=by
 cases hg:o.guard with
 |none=>rfl
 |some gw=>
  obtain⟨i,w⟩:=gw;have h1:=kC (h.2 i w hg);simp only[Bl];rw[<-h1.1];cases hh:(lk env (.t i)).1 with
  |false=>rfl
  |true=>rw[h1.2 hh]
theorem Q0:∀{l:List zz},C2 env l↔∀x∈l,(lk env x).1=true
 |[]=>by simp [C2]
 |y::l=>by simp [C2,Q0 (l:=l)]
theorem Nr(h:Fw o env ze){l:List zz}(hl:∀x∈l,x∈o.k.wH):C2 env l->C2 ze l:=by grind [Q0,EZ]
theorem Ns(h:Fw o env ze){l:List zz}(hl:∀x∈l,x∈o.k.wH)(s9:C2 env l):∀x∈l,AY env x=AY ze x:=
 λx hx=>(EZ h (hl x hx)).2 (Q0.1 s9 x hx)
theorem Py{H:AB}{ρ ρ':zz->Fs}:∀(k:xx),(∀x∈k.wH,ρ x=ρ' x)->Bd H ρ k=Bd H ρ' k:=by
 intro k h;cases k with
 |mnmx mx kk xs=>
  simp only[xx.wH]at h;have h1:(∀x∈xs,J3 kk (ρ x))↔∀x∈xs,J3 kk (ρ' x):=⟨λa x hx=>h x hx▸a x hx,λa x hx=>(h x hx).symm▸a x hx⟩;simp only[Bd,bE,h1];congr 2;cases xs with
  |nil=>rfl
  |cons x r=>
   simp only[];rw[h x zw];have:∀(l:List zz) (m:Int),(∀y∈l,ρ y=ρ' y)->l.foldl (λm y=>if mx=true then max m (A9 (ρ y))else min m (A9 (ρ y))) m=l.foldl (λm y=>if mx=true then max m (A9 (ρ' y))else min m (A9 (ρ' y))) m:=by
    intro l;induction l with
    |nil=>intros;rfl
    |cons y l ih=>intro m hl;simp only[ug];rw[hl y zw];exact ih _ λz hz=>hl z (by simp [hz])
   exact this r _ λy hy=>h y (by simp [hy])
 |build z ps=>
  simp only[xx.wH,tn]at h;have h0:∀p∈ps,ρ p.2.2=ρ' p.2.2:=λp hp=>h _ ⟨p,hp,rfl⟩
  have h1:(∀p∈ps,nT (ρ p.2.2)/\(ρ p.2.2).cells.length=p.2.1/\p.1+p.2.1<=z.length)↔∀p∈ps,nT (ρ' p.2.2)/\(ρ' p.2.2).cells.length=p.2.1/\p.1+p.2.1<=z.length:=
   ⟨λa p hp=>h0 p hp▸a p hp,λa p hp=>(h0 p hp).symm▸a p hp⟩
  simp only[Bd,evB,h1];congr 2;have:∀(l:List (Nat×Nat×zz)) (m:List Fs),(∀p∈l,ρ p.2.2=ρ' p.2.2)->l.foldl (λcs p=>wZ cs p.1 (ρ p.2.2).cells) m=l.foldl (λcs p=>wZ cs p.1 (ρ' p.2.2).cells) m:=by
   intro l;induction l with
   |nil=>intros;rfl
   |cons y l ih=>intro m hl;simp only[ug];rw[hl y zw];exact ih _ λz hz=>hl z (by simp [hz])
  exact this ps _ h0
 |bs e n z ps=>
  simp only[xx.wH,tn]at h;have h0:∀p∈ps,ρ p.2=ρ' p.2:=λp hp=>h _ ⟨p,hp,rfl⟩
  have h1:(∀p∈ps,nT (ρ p.2)/\(ρ p.2).cells.length=e/\p.1<n)↔∀p∈ps,nT (ρ' p.2)/\(ρ' p.2).cells.length=e/\p.1<n:=
   ⟨λa p hp=>h0 p hp▸a p hp,λa p hp=>(h0 p hp).symm▸a p hp⟩
  simp only[Bd,evS,h1];congr 2;have:∀(l:List (Nat×zz)) (m:List Fs),(∀p∈l,ρ p.2=ρ' p.2)->l.foldl (λl p=>l.set p.1 (ρ p.2)) m=l.foldl (λl p=>l.set p.1 (ρ' p.2)) m:=by
   intro l;induction l with
   |nil=>intros;rfl
   |cons y l ih=>intro m hl;simp only[ug];rw[hl y zw];exact ih _ λz hz=>hl z (by simp [hz])
  exact this ps _ h0
 |fn f a b=>
  simp only[xx.wH,tP]at h;simp only[Bd];rw[tG (λx hx=>h x (.inl hx)),tG (λx hx=>h x (.inr hx))]
 |slS x lo hi=>
  have hx:=h x (by simp [xx.wH]);have hl:∀y,lo=some y->ρ y=ρ' y:=λy e=>h y (by simp [xx.wH,e])
  have hh:∀y,hi=some y->ρ y=ρ' y:=λy e=>h y (by simp [xx.wH,e])
  cases lo<;>cases hi<;>simp only[Bd,wT,Co,hx]<;>(try rw[hl _ rfl])<;>(try rw[hh _ rfl])
 |sl e x lo hi mx=>
  have hx:=h x (by simp [xx.wH]);have hl:∀y,lo=some y->ρ y=ρ' y:=λy e=>h y (by simp [xx.wH,e])
  have hh:∀y,hi=some y->ρ y=ρ' y:=λy e=>h y (by simp [xx.wH,e])
  have hm:∀y,mx=some y->ρ y=ρ' y:=λy e=>h y (by simp [xx.wH,e])
  have b1:∀d,wT ρ d lo=wT ρ' d lo:=by intro d;cases lo with
   |none=>rfl
   |some y=>simp only[wT];rw[hl y rfl]
  have b2:∀d,wT ρ d hi=wT ρ' d hi:=by intro d;cases hi with
   |none=>rfl
   |some y=>simp only[wT];rw[hh y rfl]
  have b3:Co ρ lo=Co ρ' lo:=by cases lo with
   |none=>rfl
   |some y=>simp only[Co];rw[hl y rfl]
  have b4:Co ρ hi=Co ρ' hi:=by cases hi with
   |none=>rfl
   |some y=>simp only[Co];rw[hh y rfl]
  have b5:Co ρ mx=Co ρ' mx:=by cases mx with
   |none=>rfl
   |some y=>simp only[Co];rw[hm y rfl]
  have b6:(mx.map λm=>A9 (ρ m))=mx.map λm=>A9 (ρ' m):=by cases mx with
   |none=>rfl
   |some y=>simp only[td];rw[hm y rfl]
  have b7:∀(a b:Int),(∀m,mx=some m->a<=A9 (ρ m)/\A9 (ρ m)<=b)=∀m,mx=some m->a<=A9 (ρ' m)/\A9 (ρ' m)<=b:=by simp_all
  have b8:∀(id e' off len cap:Nat),Gr e ρ lo hi id e' off len cap mx=Gr e ρ' lo hi id e' off len cap mx:=λid e' off len cap=>by
   cases mx with
   |none=>simp only[Gr,b1,b2,b3,b4]
   |some m=>simp only[Gr,b1,b2,b3,b4,hm m rfl]
  simp only[Bd,hx,b1,b2,b3,b4,b5,b6,b7,b8]
 |_=>first
  |(simp only[xx.wH,tg,ve,vZ,vR,forall_eq]at h;simp only[Bd,h];done)
  |(simp only[xx.wH,tg,ve,vZ,vR,forall_eq]at h;obtain⟨h1,h2⟩:=h;simp only[Bd,h1,h2])
end
section
variable {P:Program} {Qp:Fs->AB->Nat->Prop} {base:Nat}
theorem GH(s:AS)(d:Option Nat)(g:Bool)(v:Fs)(t:Nat):BI (s.put d g v).env t=if d=some t then some (g,v)else BI s.env t:=by
 cases d with
 |none=>simp [AS.put]
 |some d=>simp [AS.put,BI]
theorem Bw(s:AS)(d:Option Nat)(g:Bool)(v:Fs):(s.put d g v).H=s.H:=by cases d<;>rfl
theorem EI(s:AS)(d:Option Nat)(g:Bool)(v:Fs):(s.put d g v).n=s.n:=by cases d<;>rfl
theorem Ci{o:xq}{K K':AS->Prop}{s1 s:AS}(hl:Fw o s1.env s.env)(hH:s1.H=s.H)(hn:s1.n=s.n)
  (hK:∀H n g v v',(g=true->v=v')->(s1=s->v=v')->(o.guard=none->g=true)->K ({s1 with H:=H,n:=n}.put o.dst g v)->K' ({s with H:=H,n:=n}.put o.dst g v')):
  Af P Qp base o K s1->Af P Qp base o K' s:=by
 obtain⟨dst,guard,k⟩:=o;have hg:=Ea hl;have hgn:guard=none->Bl s1.env guard=true:=by rintro rfl;rfl
 simp only at hg hK;have rho:C2 s1.env k.wH->∀x∈k.wH,AY s1.env x=AY s.env x:=λh=>Ns hl (l:=k.wH) (λx hx=>hx) h
 have yr:C2 s1.env k.wH->C2 s.env k.wH:=Nr hl (l:=k.wH) (λx hx=>hx);rintro⟨h0,h1⟩;refine⟨DH hl h0,?_⟩;cases k with
 |v k=>
  simp only at h1⊢;have e:Bl s1.env guard=true->Bd s1.H (AY s1.env) k=Bd s.H (AY s.env) k:=λq=>by rw[hH];exact Py k (rho (h1.1 q).1)
  refine⟨λq=>?_,?_⟩
  ·rw[<-hg]at q;exact⟨yr (h1.1 q).1,e q▸(h1.1 q).2⟩
  ·have:=hK s1.H s1.n _ _ (Bd s.H (AY s.env) k).2 (λq=>by rw[e q]) (λq=>by rw[q]) hgn h1.2;rw[hH,hn,hg]at this;exact this
 |pick c a b=>
  simp only at h1⊢;have l1:=EZ hl (x:=c) (by simp [Io.wH]);have l2:=EZ hl (x:=a) (by simp [Io.wH]);have l3:=EZ hl (x:=b) (by simp [Io.wH]);have ec:Bl s1.env guard=true->AY s1.env c=AY s.env c:=λq=>l1.2 (h1.1 q).1
  have sd:Bl s.env guard=true->(lk s.env c).1=true/\J4 (AY s.env c)/\(Fm (AY s.env c)=true->(lk s.env a).1=true)/\(Fm (AY s.env c)=false->(lk s.env b).1=true):=λq=>by
   rw[<-hg]at q;obtain⟨q1,q2,q3,q4⟩:=h1.1 q;rw[ec q]at q2 q3 q4;rw[<-l1.1,<-l2.1,<-l3.1];exact⟨q1,q2,q3,q4⟩
  refine⟨sd,?_⟩;have:=hK s1.H s1.n _ _ (Lv (Fm (AY s.env c)) (AY s.env a) (AY s.env b)) (λq=>by
   have hsel:∀(t:Bool) (x y x' y':Fs),(t=true->x=x')->(t=false->y=y')->Lv t x y=Lv t x' y':=by
    intro t x y x' y' p1 p2;cases t with
    |true=>have:=p1 rfl;subst this;cases x<;>cases y<;>cases y'<;>rfl
    |false=>have:=p2 rfl;subst this;cases y<;>cases x<;>cases x'<;>rfl
   rw[<-ec q];obtain⟨q1,q2,q3,q4⟩:=h1.1 q;exact hsel _ _ _ _ _ (λp=>l2.2 (q3 p)) (λp=>l3.2 (q4 p))) (λq=>by rw[q]) hgn h1.2
  rw[hH,hn,hg]at this;exact this
 |call qt f args=>
  cases qt with
  |true=>
   simp only at h1⊢;obtain⟨r,h1,h2⟩:=h1;refine⟨r,λq=>?_,?_⟩
   ·rw[<-hg]at q;obtain⟨q1,q2,q3⟩:=h1 q;have q5:C2 s1.env (Io.call true f args).wH:=⟨q1,q2⟩;have rh:=rho q5;have e1:AY s1.env f=AY s.env f:=rh f (by simp [Io.wH]);have e2:args.map (AY s1.env)=args.map (AY s.env):=tG λx hx=>rh x (by simp [Io.wH,hx])
    refine⟨(yr q5).1,(yr q5).2,?_⟩;rw[e1,e2,hH,hn]at q3;exact q3
   ·have:=hK s1.H s1.n _ _ r (λq=>rfl) (λq=>rfl) hgn h2;rw[hH,hn,hg]at this;exact this
  |false=>
   simp only at h1⊢;rw[<-hg];refine⟨λq=>?_,λq=>?_⟩
   ·obtain⟨q1,q2⟩:=h1.1 q;refine⟨yr q1,?_⟩;have rh:=rho q1;have e1:AY s1.env f=AY s.env f:=rh f (by simp [Io.wH]);have e2:args.map (AY s1.env)=args.map (AY s.env):=tG λx hx=>rh x (by simp [Io.wH,hx])
    simp only[BS]at q2⊢;rw[e1,e2,hH,hn]at q2;generalize AY s.env f=fv at q2⊢;cases fv<;>(try simp only[]at q2)<;>first|exact q2.elim|skip
    rename_i ff first cap
    cases ff with
    |func y9=>
     refine AX.mono q2 λout H' n' hh=>?_
     cases out with
     |ret v=>exact hK H' n' true v v (λ_=>rfl) (λ_=>rfl) (λ_=>rfl) hh
     |xM v=>exact hh
    |yield l=>
     cases first with
     |cons _ _=>exact q2.elim
     |nil=>cases cap with
      |cons _ _=>exact q2.elim
      |nil=>exact CY.mono q2 λb H' n' hh=>hK H' n' true (.bool b) (.bool b) (λ_=>rfl) (λ_=>rfl) (λ_=>rfl) hh
    |_=>exact q2.elim
   ·have:=hK s1.H s1.n false (.wJ []) (.wJ []) zw (λ_=>rfl) (λq'=>by have:=hgn q';rw[q]at this;cases this) (h1.2 q);rw[hH,hn]at this;exact this
 |xM x=>
  simp only at h1⊢;rw[<-hg];refine⟨λq=>?_,λq=>?_⟩
  ·simp_all [Io.wH,BS]
  ·have:=hK s1.H s1.n false (.wJ []) (.wJ []) zw (λ_=>rfl) (λq'=>by have:=hgn q';rw[q]at this;cases this) (h1.2 q);rw[hH,hn]at this;exact this
 |ext x xs=>
  simp only at h1⊢;rw[<-hg];refine⟨λq=>?_,λq=>?_⟩
  ·obtain⟨q1,q2⟩:=h1.1 q;refine⟨yr q1,?_⟩;have rh:=rho q1;have e2:xs.map (AY s1.env)=xs.map (AY s.env):=tG λz hz=>rh z (by simp [Io.wH,hz])
   simp only[BS]at q2⊢;rw[e2,hH]at q2;refine⟨q2.1,?_⟩;have:=hK _ s1.n true _ _ (λ_=>rfl) (λ_=>rfl) (λ_=>rfl) q2.2;rw[hn]at this;exact this
  ·have:=hK s1.H s1.n false (.wJ []) (.wJ []) zw (λ_=>rfl) (λq'=>by have:=hgn q';rw[q]at this;cases this) (h1.2 q);rw[hH,hn]at this;exact this
 |yM rel esz bytes zero x y str=>
  simp only at h1⊢;rw[<-hg];refine⟨λq=>?_,λq=>?_⟩
  ·obtain⟨q1,q2⟩:=h1.1 q;refine⟨yr q1,?_⟩;have rh:=rho q1;have e1:AY s1.env x=AY s.env x:=rh x (by simp [Io.wH]);have e2:CF s1.H (AY s1.env) esz y str=CF s.H (AY s.env) esz y str:=by simp_all [Io.wH,CF]
   simp only[BS]at q2⊢;rw[e1,e2,hH]at q2;refine Lw (λH' v hh=>?_) q2;have:=hK H' s1.n true _ _ (λ_=>rfl) (λ_=>rfl) (λ_=>rfl) hh;rw[hn]at this;exact this
  ·have:=hK s1.H s1.n false (.wJ []) (.wJ []) zw (λ_=>rfl) (λq'=>by have:=hgn q';rw[q]at this;cases this) (h1.2 q);rw[hH,hn]at this;exact this
 |cpu f args=>
  simp only at h1⊢;rw[<-hg];refine⟨λq=>?_,λq=>?_⟩
  ·obtain⟨q1,q2⟩:=h1.1 q;refine⟨yr q1,?_⟩;have rh:=rho q1;have e1:AY s1.env f=AY s.env f:=rh f (by simp [Io.wH]);have e2:args.map (AY s1.env)=args.map (AY s.env):=tG λx hx=>rh x (by simp [Io.wH,hx])
   simp only[BS]at q2⊢;rw[e1,e2]at q2;generalize AY s.env f=fv at q2⊢;cases fv<;>(try simp only[]at q2)<;>first|exact q2.elim|skip
   rename_i ff first cap
   cases ff<;>(try simp only[]at q2)<;>first|exact q2.elim|skip
   obtain⟨r,p1,p2⟩:=q2;have:=hK s1.H s1.n true r r (λ_=>rfl) (λ_=>rfl) (λ_=>rfl) p2;rw[hH,hn]at this;exact⟨r,p1,this⟩
  ·have:=hK s1.H s1.n false (.wJ []) (.wJ []) zw (λ_=>rfl) (λq'=>by have:=hgn q';rw[q]at this;cases this) (h1.2 q);rw[hH,hn]at this;exact this
 |nils nq x=>
  simp only at h1⊢;rw[<-hg];refine⟨λq=>?_,λq=>?_⟩
  ·obtain⟨q1,q2⟩:=h1.1 q;refine⟨yr q1,?_⟩;have rh:=rho q1;have e1:AY s1.env x=AY s.env x:=rh x (by simp [Io.wH]);simp only[BS]at q2⊢;rw[e1]at q2;refine SQ (λb hh=>?_) q2;have:=hK s1.H s1.n true _ _ (λ_=>rfl) (λ_=>rfl) (λ_=>rfl) hh;rw[hH,hn]at this;exact this
  ·have:=hK s1.H s1.n false (.wJ []) (.wJ []) zw (λ_=>rfl) (λq'=>by have:=hgn q';rw[q]at this;cases this) (h1.2 q);rw[hH,hn]at this;exact this
 |mnx x=>
  simp only at h1⊢;rw[<-hg];refine⟨λq=>?_,λq=>?_⟩
  ·obtain⟨q1,q2⟩:=h1.1 q;refine⟨yr q1,?_⟩;have rh:=rho q1;have e1:AY s1.env x=AY s.env x:=rh x (by simp [Io.wH]);simp only[BS]at q2⊢;rw[e1,hH]at q2;refine UN (λH' v hh=>?_) q2;have:=hK H' s1.n true _ _ (λ_=>rfl) (λ_=>rfl) (λ_=>rfl) hh;rw[hn]at this;exact this
  ·have:=hK s1.H s1.n false (.wJ []) (.wJ []) zw (λ_=>rfl) (λq'=>by have:=hgn q';rw[q]at this;cases this) (h1.2 q);rw[hH,hn]at this;exact this
 |slA nn x lo hi=>
  simp only at h1⊢;rw[<-hg];refine⟨λq=>?_,λq=>?_⟩
  ·obtain⟨q1,q2⟩:=h1.1 q;refine⟨yr q1,?_⟩;have rh:=rho q1;have e1:AY s1.env x=AY s.env x:=rh x (by simp [Io.wH]);have eb:∀(y:Option zz),(∀z,y=some z->z∈(Io.slA nn x lo hi).wH)->(Co (AY s1.env) y↔Co (AY s.env) y)/\∀d,wT (AY s1.env) d y=wT (AY s.env) d y:=by
    intro y hy;cases y with
    |none=>exact⟨Iff.rfl,λ_=>rfl⟩
    |some z=>have:=rh z (hy z rfl);exact⟨by simp only[Co,this],λd=>by simp only[wT,this]⟩
   have b1:=eb lo (by rintro z rfl;simp [Io.wH]);have b2:=eb hi (by rintro z rfl;simp [Io.wH]);simp only[BS]at q2⊢;rw[e1,hH,b1.2,b2.2]at q2;refine⟨b1.1.1 q2.1,b2.1.1 q2.2.1,UM (λH' v hh=>?_) q2.2.2⟩;have:=hK H' s1.n true _ _ (λ_=>rfl) (λ_=>rfl) (λ_=>rfl) hh;rw[hn]at this;exact this
  ·have:=hK s1.H s1.n false (.wJ []) (.wJ []) zw (λ_=>rfl) (λq'=>by have:=hgn q';rw[q]at this;cases this) (h1.2 q);rw[hH,hn]at this;exact this
 |alloc rel cs=>
  simp only at h1⊢;rw[<-hg];refine⟨λq=>?_,λq=>?_⟩
  ·obtain⟨q1,q2⟩:=h1.1 q;refine⟨yr q1,?_⟩;simp only[BS]at q2⊢;refine⟨hH▸q2.1,?_⟩;have:=hK _ s1.n true _ _ (λ_=>rfl) (λ_=>rfl) (λ_=>rfl) q2.2;rw[hH,hn]at this;exact this
  ·have:=hK s1.H s1.n false (.wJ []) (.wJ []) zw (λ_=>rfl) (λq'=>by have:=hgn q';rw[q]at this;cases this) (h1.2 q);rw[hH,hn]at this;exact this
 |box rel sz x=>
  simp only at h1⊢;rw[<-hg];refine⟨λq=>?_,λq=>?_⟩
  ·obtain⟨q1,q2⟩:=h1.1 q;refine⟨yr q1,?_⟩;have rh:=rho q1;have e1:AY s1.env x=AY s.env x:=rh x (by simp [Io.wH]);simp only[BS]at q2⊢;rw[e1]at q2;refine⟨hH▸q2.1,q2.2.1,q2.2.2.1,?_⟩;have:=hK _ s1.n true _ _ (λ_=>rfl) (λ_=>rfl) (λ_=>rfl) q2.2.2.2;rw[hH,hn]at this;exact this
  ·have:=hK s1.H s1.n false (.wJ []) (.wJ []) zw (λ_=>rfl) (λq'=>by have:=hgn q';rw[q]at this;cases this) (h1.2 q);rw[hH,hn]at this;exact this
 |mks rel esz bytes zero x=>
  simp only at h1⊢;rw[<-hg];refine⟨λq=>?_,λq=>?_⟩
  ·obtain⟨q1,q2⟩:=h1.1 q;refine⟨yr q1,?_⟩;have rh:=rho q1;have e1:AY s1.env x=AY s.env x:=rh x (by simp [Io.wH]);simp only[BS]at q2⊢;rw[e1]at q2;obtain⟨p1,p2,p3,p4,p5,p6,p7⟩:=q2;refine⟨hH▸p1,p2,p3,p4,p5,p6,?_⟩;have:=hK _ s1.n true _ _ (λ_=>rfl) (λ_=>rfl) (λ_=>rfl) p7;rw[hH,hn]at this;exact this
  ·have:=hK s1.H s1.n false (.wJ []) (.wJ []) zw (λ_=>rfl) (λq'=>by have:=hgn q';rw[q]at this;cases this) (h1.2 q);rw[hH,hn]at this;exact this
 |st sz a x=>
  simp only at h1⊢;rw[<-hg];refine⟨λq=>?_,λq=>?_⟩
  ·grind [Io.wH,BS]
  ·have:=hK s1.H s1.n false (.wJ []) (.wJ []) zw (λ_=>rfl) (λq'=>by have:=hgn q';rw[q]at this;cases this) (h1.2 q);rw[hH,hn]at this;exact this
 |app rel esz bytes x y str=>
  simp only at h1⊢;rw[<-hg];refine⟨λq=>?_,λq=>?_⟩
  ·obtain⟨q1,q2⟩:=h1.1 q;refine⟨yr q1,?_⟩;have rh:=rho q1;have e1:AY s1.env x=AY s.env x:=rh x (by simp [Io.wH]);have e2:CF s1.H (AY s1.env) esz y str=CF s.H (AY s.env) esz y str:=by
    have:=rh y (by simp [Io.wH]);cases str<;>simp only[CF,this,hH]
   simp only[BS]at q2⊢;rw[e1,e2]at q2;generalize AY s.env x=av at q2⊢;generalize CF s.H (AY s.env) esz y str=bv at q2⊢;cases av<;>(try simp only[]at q2)<;>first|exact q2.elim|skip
   rename_i tok l;cases bv<;>(try simp only[]at q2)<;>first|exact q2.elim|skip
   simp only[]at q2⊢;obtain⟨p1,p2,p3,p4,p5,p6⟩:=q2;refine⟨hH▸p1,hH▸p2,p3,p4,p5,?_⟩;have:=hK _ s1.n true _ _ (λ_=>rfl) (λ_=>rfl) (λ_=>rfl) p6;rw[hH,hn]at this;exact this
  ·have:=hK s1.H s1.n false (.wJ []) (.wJ []) zw (λ_=>rfl) (λq'=>by have:=hgn q';rw[q]at this;cases this) (h1.2 q);rw[hH,hn]at this;exact this
theorem Gc{o:xq}{K K':AS->Prop}{s:AS}(h:∀s',K s'->K' s'):Af P Qp base o K s->Af P Qp base o K' s:=by
 refine Ci ⟨λ_ _=>Oo.rfl' _,λ_ _ _=>Oo.rfl' _⟩ rfl rfl ?_;intro H n g v v' h1 h2 h3 h4;rw[<-h2 rfl];exact h _ h4
end
end Go.AM
