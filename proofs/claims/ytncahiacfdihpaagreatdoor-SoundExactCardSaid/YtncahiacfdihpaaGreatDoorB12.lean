/-
  The reference of grids: columns, rows, axes, neighbours · The reference of grids: Neighbors · The reference of grids: li.
  Conditions: none beyond those of its parts.
-/
import Derived.Test.YtncahiacfdihpaaGreatDoorB11
import Derived.Test.YtncahiacfdihpaaGreatDoorB9
import Derived.Test.YtncahiacfdihpaaGreatDoorB8
import Derived.Test.YtncahiacfdihpaaGreatDoorB10

set_option maxRecDepth 20000
set_option linter.all false
namespace Go.AM
open Go.Proofs Go.Lib
structure GrV(g:Grd):Prop where
 hG:Ad g.sh g.w g.h g.holes=some g.cells
 ho:few g.holes
def BP(g:Grd)(c:Int):Int:=g.cells.getD c.toNat 0
def inG(g:Grd)(c:Int):Prop:=0<=c/\c.toNat<g.cells.length
theorem GrV.at{g:Grd}(G:GrV g){c:Int}(h:inG g c):∃k:Nat,c=(k:Int)/\k<g.cells.length/\g.cells[k]?=some (BP g c)/\0<=BP g c/\1<=g.w/\g.w<=16/\0<=(BP g c).tmod g.w/\(BP g c).tmod g.w<16/\0<=(BP g c).tdiv g.w/\(BP g c).tdiv g.w<16/\((BP g c).tdiv g.w).tdiv 2=(BP g c).tdiv g.w/2/\(g.sh=1\/g.sh=2):=by
 obtain⟨h0,h1⟩:=h
 obtain⟨hs,w1,w2,k1,k2,-,-,-,hc⟩:=F2 G.hG
 obtain⟨-,-,hr⟩:=A8 G.hG
 have hg:=V5 h1
 have hp:g.cells[c.toNat]?=some (BP g c):=by unfold BP;rw[WN,hg];rfl
 have hm:BP g c∈g.cells:=Wl hp
 have hm2:=hm
 rw[hc]at hm2
 have hm3:=(WJ.mp hm2).1
 have hq:0<=BP g c/\BP g c<g.w*g.h:=by grind [EM]
 refine⟨c.toNat,by omega,h1,hp,hq.1,w1,w2,Int.tmod_nonneg _ hq.1,by have:=Int.tmod_lt_of_pos (BP g c) (b:=g.w) (by omega);omega,Int.tdiv_nonneg hq.1 (by omega),?_,Int.tdiv_eq_ediv_of_nonneg (Int.tdiv_nonneg hq.1 (by omega)),hs⟩
 rw[Int.tdiv_eq_ediv_of_nonneg hq.1]
 have:=Int.ediv_lt_of_lt_mul (by omega:0<g.w) (by rw[Int.mul_comm];exact hq.2)
 omega
end Go.AM
namespace Go.AM
open Go.Proofs Go.Lib
def spC(g:Grd)(c:Nat):Spot:=I1 g.sh g.w (BP g (c:Int))
theorem FG{g:Grd}{c:Nat}(h:c<g.cells.length):(AP g.sh g.w g.cells)[c]?=some (spC g c):=by
 unfold AP spC BP
 rw[V6,V5 h,V2,WN,V5 h]
 rfl
theorem Bg(g:Grd):(AP g.sh g.w g.cells).length=g.cells.length:=V0 ..
def nbB(g:Grd)(a b:Nat):Bool:=besR g.sh (spC g a) (spC g b)
def nbL(g:Grd)(a:Nat):List Int:=idxP g.cells.length (nbB g a)
def nbV(g:Grd):AVal:=if grOK g.sh g.w g.h g.holes g.cells then .tup [eLl (nbsS g.sh (AP g.sh g.w g.cells)),.int .i64 0]else .tup [eLl [],.int .i64 130]
structure IFil(m:Nat)(P:Nat->Bool)(H0:AB)(n0:Nat)(v:VRi):Prop where
 hj:v.j<=m
 hn:n0<=v.n
 fr:AN v.H v.n
 hk:∀id,id<n0->hget v.H id=hget H0 id
 tok:tkG 1 n0 v.H v.tc
 es:v.tc.esz=1\/idxP v.j P=[]
structure INb(g:Grd)(m:Nat)(L:Nat->List (List Int))(v:VRg):Prop where
 hi:v.i<=m
 hn:3<=v.n
 fr:AN v.H v.n
 h0:hget v.H 0=some (.box (AG g.sh g.w g.h g.holes g.cells))
 tok:tkG 1 1 v.H v.tl
 es:v.tl.esz=1\/v.E=[]
 hE:Wks v.E ((L v.i).map eIs)
end Go.AM
namespace Go.AM
open Go.Proofs Go.Lib
structure ILn(g:Grd)(m:Nat)(L:Nat->List (List Int))(v:VRg):Prop where
 hi:v.i<=m
 hn:2<=v.n
 fr:AN v.H v.n
 h0:hget v.H 0=some (.box (AG g.sh g.w g.h g.holes g.cells))
 tok:tkG 1 1 v.H v.tl
 es:v.tl.esz=1\/v.E=[]
 hE:Wks v.E ((L v.i).map eIs)
end Go.AM
namespace Go.AM
open Go.Proofs Go.Lib
def dgB(g:Grd)(k c:Nat):Bool:=decide ((k:Int)=0)&&decide ((BP g (c:Int)).tmod g.w=(BP g (c:Int)).tdiv g.w)||decide ((k:Int)=1)&&decide ((BP g (c:Int)).tmod g.w=g.w-1-(BP g (c:Int)).tdiv g.w)
def dgA(g:Grd)(k:Nat):List Int:=idxP g.cells.length (dgB g k)
def dgS(g:Grd):List (List Int):=(if(dgA g 0).isEmpty then[]else[dgA g 0])++(if(dgA g 1).isEmpty||decide (dgA g 0=dgA g 1)then[]else[dgA g 1])
structure IDg(g:Grd)(v:VRg):Prop where
 hi:v.i<=2
 hn:2<=v.n
 fr:AN v.H v.n
 h0:hget v.H 0=some (.box (AG g.sh g.w g.h g.holes g.cells))
 tok:tkG 1 1 v.H v.tl
 es:v.tl.esz=1\/v.E=[]
 ne:¬g.w=g.h->v.i=0
 e0:v.i=0->v.E=[]
 e1:v.i=1->(dgA g 0=[]/\v.E=[])\/(dgA g 0≠[]/\∃t,t.esz=1/\v.E=[.sl t ((dgA g 0).map eI)])
 e2:v.i=2->Wks v.E ((dgS g).map eIs)
end Go.AM
namespace Go.AM
open Go.Proofs Go.Lib
def nearB(g:Grd)(c b:Nat):Bool:=decide ((b:Int)=(c:Int))||(nbL g c).contains (b:Int)
def nearL(g:Grd)(c:Nat):List Int:=idxP g.cells.length (nearB g c)
def pairL(g:Grd)(c:Nat):List (List Int):=((nbL g c).filter λb=>decide ((c:Int)<b)).map λb=>[(c:Int),b]
def allL(i:Nat):List Int:=idxP i λ_=>true
def fmL(g:Grd)(f:Int)(i:Nat):List (List Int):=
 if f=0 then(List.range i).map λ(c:Nat)=>[(c:Int)]else if f=5 then(List.range i).map (nearL g)else if f=6 then(List.range i).flatMap (pairL g)else[]
end Go.AM
namespace Go.AM
open Go.Proofs Go.Lib
theorem N6(i:Nat):allL (i+1)=allL i++[(i:Int)]:=by unfold allL;rw[Ex,Vk rfl]
structure VFm where
 i:Nat
 E:List AVal
 tl:Tok
 ta:Tok
 H:AB
 n:Nat
def apT(tl ta:Tok):Prop:=∀a b x y,tl= .own a x->ta= .own b y->a≠b
theorem apT.symm{tl ta:Tok}(h:apT tl ta):apT ta tl:=λa b x y h1 h2=>(h b a y x h2 h1).symm
structure IFm(g:Grd)(f:Int)(v:VFm):Prop where
 hi:v.i<=g.cells.length
 hn:3<=v.n
 fr:AN v.H v.n
 h0:hget v.H 0=some (.box (AG g.sh g.w g.h g.holes g.cells))
 tok:tkG 1 1 v.H v.tl
 toka:tkG 1 1 v.H v.ta
 ap:apT v.tl v.ta
 es:v.tl.esz=1\/v.E=[]
 esa:v.ta.esz=1\/v.i=0
 hE:Wks v.E ((fmL g f v.i).map eIs)
def prT(g:Grd)(c j:Nat):List (List Int):=(((nbL g c).take j).filter λb=>decide ((c:Int)<b)).map λb=>[(c:Int),b]
structure IPr(g:Grd)(c ia:Nat)(v:VRg):Prop where
 hj:v.i<=(nbL g c).length
 hn:ia<v.n
 fr:AN v.H v.n
 h0:hget v.H 0=some (.box (AG g.sh g.w g.h g.holes g.cells))
 tok:tkG 1 1 v.H v.tl
 toka:tkG 1 1 v.H (.own ia 1)
 ap:apT v.tl (.own ia 1)
 es:v.tl.esz=1\/v.E=[]
 hE:Wks v.E ((fmL g 6 c++prT g c v.i).map eIs)
end Go.AM
namespace Go.AM
open Go.Proofs Go.Lib
theorem N7{cells:List Int}:∀{l:List DReg},DQ cells l=0->∀r∈l,regE cells r=0
 |[],_,r,h=>by cases h
 |a::s,h0,r,h=>by
  unfold DQ at h0
  split at h0
  ·rename_i ha
   rcases Vz.1 h with rfl|h
   ·exact ha
   ·exact N7 h0 r h
  ·rename_i ha
   exact absurd h0 ha
theorem Ql{x:Dcl}(h:chkD x=0){cells:List Int}(hc:Ad x.sh x.w x.h x.holes=some cells):DQ cells x.regs=0:=by
 unfold chkD at h
 split at h
 ·cases h
 ·split at h
  ·rename_i e he
   exact absurd h (E5 he)
  ·grind
theorem nbV_S{g:Grd}(G:GrV g):nbV g= .tup [eLl (nbsS g.sh (AP g.sh g.w g.cells)),.int .i64 0]:=by
 have hgo:grOK g.sh g.w g.h g.holes g.cells=true:=VJ G.hG
 unfold nbV
 rw[hgo,Vk rfl]
theorem TP{x:Dcl}(h:chkD x=0){cells:List Int}(hc:Ad x.sh x.w x.h x.holes=some cells){r:DReg}(hr:r∈x.regs):rgsV cells r.ls= .tup [eLl (r.ls.map (Bt cells)),.int .i64 0]:=by
 have h1:=N7 (Ql h hc) r hr
 unfold regE at h1
 unfold rgsV
 split at h1
 ·cases h1
 ·rename_i q
  rw[Vk (by simpa using q)]
end Go.AM
namespace Go.AM
open Go.Proofs Go.Lib
abbrev knd0:Knd:=⟨dcl0,⟨0,0,0,[],[]⟩,[],[]⟩
def Ck(d:Dcl):AVal:=match DV d with
 | .error e=>.tup [Bq knd0,.int .i64 e]
 | .ok k=>.tup [Bq k,.int .i64 0]
abbrev zKn:List AVal:=[.str [],z0,z0,z0,z0,zs,zs,zs,zs,zs,z0,z0,z0,zs,zs,zs,zs]
theorem wk_Kn{d:Dcl}{g:Grd}{nb:List (List Int)}{ls:List (List (List Int))}{a b c d' e f h i j:AVal}(ha:Wk a (eIs d.holes))(hb:Wk b (eSys d.syms))(hc:Wk c (eRgs d.regs))(hd:Wk d' (eCls d.clus))(he:Wk e (eRus d.ruls))(hf:Wk f (eIs g.holes))(hh:Wk h (eIs g.cells))(hi:Wk i (eLl nb))(hj:Wk j (eLLs ls)):
  Wk (.agg [.str d.nm,.int .i64 d.ver,.int .i64 d.sh,.int .i64 d.w,.int .i64 d.h,a,b,c,d',e,.int .i64 g.sh,.int .i64 g.w,.int .i64 g.h,f,h,i,j]) (Bq ⟨d,g,nb,ls⟩):=
 Wk.agg (.cons (Wk.refl _) (.cons (Wk.refl _) (.cons (Wk.refl _) (.cons (Wk.refl _) (.cons (Wk.refl _) (.cons ha (.cons hb (.cons hc (.cons hd (.cons he (.cons (Wk.refl _) (.cons (Wk.refl _) (.cons (Wk.refl _) (.cons hf (.cons hh (.cons hi (.cons hj .nil)))))))))))))))))
theorem Sb(e:Int):Wk (.tup [.agg zKn,.int .i64 e]) (.tup [Bq knd0,.int .i64 e]):=
 Wk.tup (.cons (wk_Kn (d:=dcl0) (g:=⟨0,0,0,[],[]⟩) (Wk.sl (.inr rfl)) (Wk.sl (.inr rfl)) (Wk.sl (.inr rfl)) (Wk.sl (.inr rfl)) (Wk.sl (.inr rfl)) (Wk.sl (.inr rfl)) (Wk.sl (.inr rfl)) (Wk.sl (.inr rfl)) (Wk.sl (.inr rfl))) (.cons (Wk.refl _) .nil))
abbrev cKb(x:Dcl)(cells:List Int)(v:AVal):List AVal:=[.str x.nm,.int .i64 x.ver,.int .i64 x.sh,.int .i64 x.w,.int .i64 x.h,eIs x.holes,eSys x.syms,eRgs x.regs,eCls x.clus,eRus x.ruls,.int .i64 x.sh,.int .i64 x.w,.int .i64 x.h,eIs x.holes,eIs cells,eLl (nbsS x.sh (AP x.sh x.w cells)),v]
structure IBd(x:Dcl)(cells:List Int)(m:Nat)(L:Nat->List (List (List Int)))(v:VRg):Prop where
 hi:v.i<=m
 hn:15<=v.n
 fr:AN v.H v.n
 h1:hget v.H 1=some (.box zKn)
 h8:hget v.H 8=some (.box (AO x))
 h13:hget v.H 13=some (.box (cKb x cells (.sl v.tl v.E)))
 tok:tkG 1 14 v.H v.tl
 es:v.tl.esz=1\/v.E=[]
 hE:Wks v.E ((L v.i).map eLl)
end Go.AM
namespace Go.AM
open Go.Proofs Go.Lib
theorem N8{d:Dcl}{e:Int}(h:DV d= .error e):¬e=0:=by
 unfold DV at h
 split at h
 ·rename_i e' he
  cases h
  exact E5 he
 ·grind
end Go.AM
namespace Go.AM
open Go.Proofs Go.Lib
end Go.AM
namespace Go.AM
open Go.Proofs Go.Lib
structure VSp where
 i:Nat
 H:AB
 n:Nat
theorem IJ(g:Grd)(G:GrV g){l' q:Nat}{J:Nat->AB->Nat->Prop}(hJ:∀i H n,J i H n->hget H q=some (.box (AG g.sh g.w g.h g.holes g.cells)))
  (hy:∀i H n,i<g.cells.length->J i H n->∀R:Bool->AB->Nat->Prop,(∀H' n',J (i+1) H' n'->R true H' n')->BK Tryz.prog l' [.int .i64 i,.agg [.int .i64 (spC g i).1,.int .i64 (spC g i).2]] H n R) {H:AB} {n:Nat} (h0:J 0 H n):
  AI Tryz.prog 251 [.fn (.yield l') [] [],.ptr q 0] H n λo H' n'=>o= .ret (.tup [])/\J g.cells.length H' n':=by
 obtain⟨hr1,hr2,hr3⟩:=A8 G.hG
 refine a251 (AE AH.tnil (AF ?_))
 have hq:=hJ 0 H n h0
 simp only[AG]at hq
 simp only[eE,eN,reduceCtorEq,Nat.reduceEqDiff,↓reduceIte,Nat.reduceAdd,V0,c251,hq]
 refine AU (λv:VSp=>⟨[(0,true,.fn (.yield l') [] []),(1,true,.ptr q 0),(8,true,eIs g.cells),(9,true,.int .i64 g.cells.length),(10,true,.int .i64 v.i)],v.H,v.n⟩) (λv=>v.i<=g.cells.length/\J v.i v.H v.n) (λv=>g.cells.length-v.i)
  ⟨0,H,n⟩ rfl ⟨Vi _,h0⟩ ?_
 rintro⟨i,H1,m⟩ ⟨hi,hj⟩
 simp only at hi hj
 by_cases hlt:i<g.cells.length
 ·have hq1:=hJ i H1 m hj
  simp only[AG]at hq1
  have gi:inG g (i:Int):=⟨by omega,by rw[V2];exact hlt⟩
  obtain⟨k,hk,-,hg,hp,w1,w2,x1,x2,y1,y2,ey,hs⟩:=G.at gi
  obtain rfl:k=i:=by omega
  have e:=AJ (k:=k) (by omega)
  have hw:(g.w=0)=False:=Vd (by omega)
  have r1:IntKind.wrap .i64 ((BP g (k:Int)).tdiv g.w)=(BP g (k:Int)).tdiv g.w:=Aq (by omega) (by omega)
  have r2:IntKind.wrap .i64 (((BP g (k:Int)).tdiv g.w).tdiv 2)=((BP g (k:Int)).tdiv g.w).tdiv 2:=Aq (by omega) (by omega)
  have r3:IntKind.wrap .i64 ((BP g (k:Int)).tmod g.w-((BP g (k:Int)).tdiv g.w).tdiv 2)=(BP g (k:Int)).tmod g.w-((BP g (k:Int)).tdiv g.w).tdiv 2:=Aq (by omega) (by omega)
  rcases hs with h1|h2
  ·have hsp:spC g k=((BP g (k:Int)).tmod g.w,(BP g (k:Int)).tdiv g.w):=by unfold spC I1;rw[Vb (by omega)]
   have hz:(g.sh=2)=False:=Vd (by omega)
   have hyk:=hy k H1 m hlt hj
   rw[hsp]at hyk
   simp only[eE,eC,eN,reduceCtorEq,Nat.reduceEqDiff,↓reduceIte,Nat.reduceAdd,Nat.reduceLeDiff,V1,V2,V4,V0,V6,lt_T hlt,hg,hq1,hw,r1,hz]
   refine hyk _ λH' n' hj'=>?_
   simp only[eE,eC,eN,reduceCtorEq,Nat.reduceEqDiff,↓reduceIte,Int.reduceEq,V8,yldK,e]
   exact .mk ⟨k+1,H',n'⟩ rfl ⟨hlt,hj'⟩ (by simp only[];omega)
  ·have hsp:spC g k=((BP g (k:Int)).tmod g.w-((BP g (k:Int)).tdiv g.w).tdiv 2,(BP g (k:Int)).tdiv g.w):=by unfold spC I1;rw[Vk h2]
   have hz:(g.sh=2)=True:=V3 h2
   have hyk:=hy k H1 m hlt hj
   rw[hsp]at hyk
   simp only[eE,eC,eN,reduceCtorEq,Nat.reduceEqDiff,↓reduceIte,Nat.reduceAdd,Nat.reduceLeDiff,Int.reduceEq,V1,V2,V4,V0,V6,lt_T hlt,hg,hq1,hw,r1,r2,r3,hz]
   refine hyk _ λH' n' hj'=>?_
   simp only[eE,eC,eN,reduceCtorEq,Nat.reduceEqDiff,↓reduceIte,Int.reduceEq,V8,yldK,e]
   exact .mk ⟨k+1,H',n'⟩ rfl ⟨hlt,hj'⟩ (by simp only[];omega)
 obtain rfl:i=g.cells.length:=by omega
 simp only[eE,eC,eN,reduceCtorEq,Nat.reduceEqDiff,↓reduceIte,lt_F hlt]
 exact hj
end Go.AM
namespace Go.AM
open Go.Proofs Go.Lib
end Go.AM
namespace Go.AM
open Go.Proofs Go.Lib
abbrev eSp(s:Spot):AVal:=.agg [.int .i64 s.1,.int .i64 s.2]
def spEs:List Spot->Nat->List (AVal×AVal×Nat)
 |[],_=>[]
 |s::r,i=>(eSp s,.int .i64 (i:Int),i)::spEs r (i+1)
theorem Lc:∀(l:List Spot) (i:Nat),C3 (.arr 2 .i64) (spEs l i)=True
 |[],_=>rfl
 |s::r,i=>by rw[spEs,C3,Lc r (i+1)];simp [KT.is,isIs]
theorem ceq_sp(s t:Spot):ceq (eSp s) (eSp t)=decide (s=t):=by
 obtain⟨a,b⟩:=s
 obtain⟨c,d⟩:=t
 rw[VS]
 simp [ceq,ceqs,Prod.mk.injEq]
theorem Mq(x:Spot)(r:List Spot)(s:Spot):Db (x::r) s=if x=s then some 0 else(Db r s).map (· +1):=by
 unfold Db
 rw[List.findIdx?_cons]
 by_cases h:x=s
 ·simp [h]
 ·simp only[h,Xx,Vo,Vv]
  cases List.findIdx? (λx=>decide (x=s)) r<;>simp
theorem N9:∀(l:List Spot) (s:Spot) (i:Nat),Aw (eSp s) (spEs l i)=(Db l s).map λn=>.int .i64 (n+(i:Int))
 |[],s,i=>rfl
 |x::r,s,i=>by
  rw[spEs,Aw,Mq,N9 r s (i+1),ceq_sp]
  by_cases h:x=s
  ·subst h;simp
  ·have:¬s=x:=λq=>h q.symm
   simp only[h,this,Xx,Vo,Vv]
   cases Db r s with
   |none=>rfl
   |some n=>simp only[VL];congr 2;omega
theorem IK(l:List Spot)(s:Spot):Aw (eSp s) (spEs l 0)=(Db l s).map λn=>.int .i64 n:=by
 rw[N9];congr 1;funext n;simp
theorem Sc:∀(l:List Spot) (s:Spot) (i:Nat),spEs (l++[s]) i=spEs l i++[(eSp s,.int .i64 ((i+l.length:Nat):Int),i+l.length)]
 |[],s,i=>rfl
 |x::r,s,i=>by
  rw[Vu,spEs,Sc r s (i+1),spEs,Vu,Vq,show i+1+r.length=i+(r.length+1)by omega]
theorem sp_set{l:List Spot}{s:Spot}(h:s∉l):mset (eSp s) (.int .i64 (l.length:Int)) l.length (spEs l 0)=spEs (l++[s]) 0:=by
 have h':=H9.2 h
 rw[F4 (by rw[IK,h'];rfl),Sc];simp
theorem HM{g:Grd}{i:Nat}(h:i<g.cells.length):(AP g.sh g.w g.cells).take (i+1)=(AP g.sh g.w g.cells).take i++[spC g i]:=by
 rw[VX,FG h];rfl
theorem OA{g:Grd}{i:Nat}(hd:(AP g.sh g.w g.cells).Nodup)(h:i<g.cells.length):spC g i∉(AP g.sh g.w g.cells).take i:=by
 have e:=HM h
 have:((AP g.sh g.w g.cells).take i++[spC g i]).Nodup:=by rw[<-e];exact hd.sublist (List.take_sublist ..)
 rw[X6]at this
 exact λhm=>this.2.2 _ hm _ (by simp) rfl
def frzO:AObj->AObj
 | .arr e l=>.frz e l
 |x=>x
def frz1(id:Nat)(H:AB):AB:=λi=>if i=id then(H i).map frzO else H i
def frzs(ids:List Nat)(H:AB):AB:=ids.foldr frz1 H
theorem Qm{id e:Nat}{l:List AVal}{H:AB}(h:hget H id=some (.arr e l)):frz1 id H=hset H id (.frz e l):=by
 funext i
 unfold frz1 hset
 by_cases q:i=id
 ·subst q
  have h':H i=some (.arr e l):=h
  rw[Vk rfl,Vk rfl,h'];rfl
 ·rw[Vb q,Vb (λe=>q e.symm)]
theorem OB{id:Nat}{H:AB}(h:∀e l,hget H id≠some (.arr e l)):frz1 id H=H:=by
 funext i
 unfold frz1
 split
 ·rename_i q;subst q
  have h':∀e l,H i≠some (.arr e l):=h
  cases hh:H i with
  |none=>rfl
  |some ob=>cases ob<;>first|rfl|(exact absurd hh (h' _ _))
 ·rfl
theorem IL:∀(ids:List Nat) (H:AB) (i:Nat),hget (frzs ids H) i=if i∈ids then(hget H i).map frzO else hget H i
 |[],H,i=>by simp [frzs]
 |id::r,H,i=>by
  have ih:=IL r H i
  show frz1 id (frzs r H) i=_
  unfold frz1
  have ih':frzs r H i=if i∈r then(hget H i).map frzO else hget H i:=ih
  rw[ih']
  by_cases q:i=id
  ·subst q
   rw[Vk rfl,Vk (VK ..)]
   split
   ·cases hget H i with
    |none=>rfl
    |some ob=>cases ob<;>rfl
   ·rfl
  ·simp_all
theorem AI.sealN{P:Program}{f:FuncId}{args:List AVal}{H:AB}{n:Nat}:∀(k:Nat) {R R':AOut->AB->Nat->Prop},AI P f args H n R->
  (∀o H' n',R o H' n'->∃ids:List Nat,ids.length<=k/\R' o (frzs ids H') n')->AI P f args H n R'
 |0,R,R',h,hr=>h.mono λo H' n' q=>by
  obtain⟨ids,h1,h2⟩:=hr _ _ _ q
  have:ids=[]:=VR (by omega)
  subst this;exact h2
 |k+1,R,R',h,hr=>by
  refine AI.seal (R:=λo H' n'=>∃id,R' o (frz1 id H') n'\/R' o H' n') (AI.sealN k h (R':=λo H' n'=>∃id,R' o (frz1 id H') n'\/R' o H' n') λo H' n' q=>?_) λo H' n' q=>?_
  ·obtain⟨ids,h1,h2⟩:=hr _ _ _ q
   cases ids with
   |nil=>exact⟨[],Vi _,0,.inr h2⟩
   |cons id r=>exact⟨r,by simp at h1;omega,id,.inl h2⟩
  ·grind [Qm,OB]
theorem Stab.conv{g:Ghost}{f:Nat->Option Value}{e:Nat}:∀{l m:List AVal} {o:Nat},l.length=m.length->(∀(k:Nat) a b,l[k]?=some a->m[k]?=some b->∀x,VRel g a x->VRel g b x)->Stab g e f o l->Stab g e f o m
 |[],[],_,_,_,h=>h
 |a::l,b::m,o,hl,hh,⟨⟨v,h1,h2,h3⟩,h4⟩=>
  ⟨⟨v,hh 0 a b rfl rfl v h1,h2,h3⟩,Stab.conv (by simpa using hl) (λk a b h1 h2=>hh (k+1) a b (by simpa using h1) (by simpa using h2)) h4⟩
end Go.AM
namespace Go.AM
open Go.Proofs Go.Lib
theorem c2n:((2:Nat):Int)=2:=rfl
theorem IN{g:Grd}{H:AB}{n:Nat}(hf:AN H n):AI Tryz.prog 220 [DC g] H n λo H' n'=>o= .ret (.fn (.func 251) [] [.ptr n 0])/\H'=hset H n (.box (AG g.sh g.w g.h g.holes g.cells))/\n'=n+2:=by
 refine a220 (AE AH.tnil (AF ?_))
 simp only[eE,eN,Nat.reduceEqDiff,↓reduceIte,Nat.reduceAdd,c220,AG,fr0 hf]
def EG:List Spot:=[(1,0),(-1,0),(0,1),(0,-1),(1,-1),(-1,1)]
def CD(sh:Int):Nat:=if sh=1 then 4 else 6
theorem Mr(sh:Int):Dz sh=EG.take (CD sh):=by
 unfold Dz CD EG;split<;>rfl
abbrev OC:List AVal:=[.int .i64 1,.int .i64 0,.int .i64 (-1),.int .i64 0,.int .i64 0,.int .i64 1,.int .i64 0,.int .i64 (-1),.int .i64 1,.int .i64 (-1),.int .i64 (-1),.int .i64 1]
abbrev Ms:List AVal:=EG.map eSp
abbrev clG(q:Nat):AVal:=.fn (.func 251) [] [.ptr q 0]
theorem OD{H:AB}{i:Nat}{ob:AObj}(h:hget H i=some ob):hset H i ob=H:=by
 funext j
 unfold hset
 by_cases e:i=j
 ·subst e;rw[Vk rfl];exact h.symm
 ·rw[Vb e]
theorem LvG.keep{α:Type}{enc:α->AVal}{e lo:Nat}{H H':AB}{lv:AVal}{qs:List α}(h:LvG enc e lo H lv qs)(hk:∀id e' l,lo<=id->hget H id=some (.arr e' l)->hget H' id=some (.arr e' l)):LvG enc e lo H' lv qs:=by
 rcases h with h|⟨h1,id,rest,h2,h3,h4⟩
 ·exact .inl h
 ·exact .inr ⟨h1,id,rest,h2,h3,hk id _ _ h3 h4⟩
abbrev eNa(q:Nat):List (Nat×Bool×AVal):=[(1,true,.ptr 0 0),(2,true,.ptr 1 0),(3,true,.int .i64 0),(4,true,.ptr 10 0),(5,true,.ptr 12 0),(6,true,.ptr 15 0),(30,true,clG q)]
structure NbA(g:Grd)(l':Nat)(i:Nat)(H:AB)(m:Nat):Prop where
 fr:AN H m
 lm:20<=m
 h0:hget H 0=some (.box (AG g.sh g.w g.h g.holes g.cells))
 h1:hget H 1=some (.box [.sl .nil []])
 h10:hget H 10=some (.box OC)
 h12:hget H 12=some (.box [.int .i64 (CD g.sh:Nat)])
 h14:hget H 14=some (.map (spEs ((AP g.sh g.w g.cells).take i) 0) i)
 h15:hget H 15=some (.box [.mp 14])
 hq:hget H 17=some (.box (AG g.sh g.w g.h g.holes g.cells))
 hL:hget H 19=some (.lp ⟨l',.ready,none,85,eNa 17, #[31,32],Is,It⟩)
theorem y_nbA{g:Grd}{l' i:Nat}(hd:(AP g.sh g.w g.cells).Nodup)(hi:i<g.cells.length){H:AB}{m:Nat}(F:NbA g l' i H m){R:Bool->AB->Nat->Prop}(hR:∀H' m',NbA g l' (i+1) H' m'->R true H' m'):
  BK Tryz.prog l' [.int .i64 i,eSp (spC g i)] H m R:=by
 obtain⟨fr,lm,h0,h1,h10,h12,h14,h15,hq,hL⟩:=F
 refine y148_0 hL rfl (AE AH.tnil (AF ?_))
 simp only[eE,eN,Nat.reduceEqDiff,↓reduceIte,Nat.reduceAdd,LI,renv,WS,WW,Wg,Xa,fr0 fr,AK]
 have y1:(m=19)=False:=Vd (by omega)
 have y2:(m=15)=False:=Vd (by omega)
 have y3:(m=14)=False:=Vd (by omega)
 have y4:(14=m)=False:=Vd (by omega)
 have y5:(15=m)=False:=Vd (by omega)
 have y6:(19=m)=False:=Vd (by omega)
 refine⟨_,(AA _ _ _ _ (by omega)).trans hL,rfl,AE AH.tnil (AF ?_)⟩
 have hn:=OA hd hi
 have hf:Aw (eSp (spC g i)) (spEs ((AP g.sh g.w g.cells).take i) 0)=none:=by rw[IK,H9.2 hn];rfl
 have hs:=sp_set hn
 have hlen:((AP g.sh g.w g.cells).take i).length=i:=by rw[Vt,Bg];omega
 rw[hlen]at hs
 have hkt:(KT.arr 2 IntKind.i64).is (eSp (spC g i))=True:=V3 ⟨rfl,rfl,trivial⟩
 simp only[eE,eN,Nat.reduceEqDiff,↓reduceIte,Nat.reduceAdd,xE,Option.isSome_none,LH,h15,h14,y2,y3,y6,Lc,hkt,hf,hs]
 refine⟨⟨l',.busy,none,85,eNa 17, #[31,32],Is,It⟩,by simp only[AD];simp,hR _ _ ⟨?_,?_,?_,?_,?_,?_,?_,?_,?_,?_⟩⟩
 ·intro j hj
  have hj':m+2<=j:=hj
  simp only[AD];repeat rw[Vb (by omega)]
  exact fr j (by omega)
 ·simp only[];omega
 all_goals simp only[]
 ·repeat rw[AA _ _ _ _ (by omega)]
  exact h0
 ·repeat rw[AA _ _ _ _ (by omega)]
  exact h1
 ·repeat rw[AA _ _ _ _ (by omega)]
  exact h10
 ·repeat rw[AA _ _ _ _ (by omega)]
  exact h12
 ·rw[AA _ _ _ _ (by omega),AC,<-HM hi]
 ·repeat rw[AA _ _ _ _ (by omega)]
  exact h15
 ·repeat rw[AA _ _ _ _ (by omega)]
  exact hq
 ·rw[AC]
abbrev eNb(q:Nat):List (Nat×Bool×AVal):=[(2,true,.ptr 1 0),(3,true,.int .i64 0),(4,true,.ptr 10 0),(5,true,.ptr 12 0),(6,true,.ptr 15 0),(41,true,clG q)]
structure NbB(g:Grd)(l' q id:Nat)(c:Nat)(i:Nat)(H:AB)(m:Nat):Prop where
 fr:AN H m
 lq:id<q
 l20:20<=id
 lm:q+2<m
 h1:hget H 1=some (.box [.ref id 1 0 g.cells.length g.cells.length])
 h10:hget H 10=some (.box OC)\/hget H 10=some (.arr 2 Ms)
 h12:hget H 12=some (.box [.int .i64 (CD g.sh:Nat)])
 h14:hget H 14=some (.map (spEs (AP g.sh g.w g.cells) 0) c)
 h15:hget H 15=some (.box [.mp 14])
 hq:hget H q=some (.box (AG g.sh g.w g.h g.holes g.cells))
 hL:hget H (q+2)=some (.lp ⟨l',.ready,none,85,eNb q, #[42,43],Gq,Gr⟩)
 hE:∃E,hget H id=some (.arr 1 E)/\E.length=g.cells.length/\(∀k,i<=k->k<g.cells.length->E[k]?=some (.sl .nil []))/\∀k,k<i->∃a,E[k]?=some a/\LvG eI 1 (id+1) H a (nbS g.sh (AP g.sh g.w g.cells) (spC g k))
def fdT(sh:Int)(S:List Spot)(s:Spot)(j:Nat):List Int:=(EG.take j).filterMap λd=>Db S (addP s d)
theorem fd_end(sh:Int)(S:List Spot)(s:Spot):fdT sh S s (CD sh)=Fe sh S s:=by unfold fdT Fe;rw[Mr]
theorem TQ(sh:Int)(S:List Spot)(s:Spot){j:Nat}{d:Spot}(h:EG[j]?=some d):fdT sh S s (j+1)=fdT sh S s j++(Db S (addP s d)).toList:=by
 unfold fdT
 rw[VX,h,List.filterMap_append]
 congr 1
theorem fd_len(sh:Int)(S:List Spot)(s:Spot)(j:Nat):(fdT sh S s j).length<=j:=by
 unfold fdT
 refine W1 (List.length_filterMap_le ..) ?_
 rw[Vt];omega
theorem slx_st{H:AB}{sh:Int}(h:hget H 10=some (.box OC)\/hget H 10=some (.arr 2 Ms)):(slxE H 6 2 0 (CD sh:Nat) (.ptr 10 0)).1=True/\(slxE H 6 2 0 (CD sh:Nat) (.ptr 10 0)).2=(hset H 10 (.arr 2 Ms),.ref 10 2 0 (CD sh) 6):=by
 have hm:CD sh=4\/CD sh=6:=by unfold CD;split<;>simp
 rcases h with h|h
 ·rcases hm with e|e<;>rw[e]<;>(simp [slxE,h,grp];rfl)
 ·rcases hm with e|e<;>rw[e]<;>simp [slxE,h,EG,OD h]
theorem Qn{α:Type}{l:List α}{i:Nat}{x:α}(h:l[i]?=some x):l.set i x=l:=List.ext_getElem? λk=>by
 rw[List.getElem?_set]
 split
 ·grind
 ·rfl
structure VNb where
 j:Nat
 lv:AVal
 H:AB
 n:Nat
theorem OE{α:Type}{enc:α->AVal}{e lo:Nat}{H:AB}{lv:AVal}{qs:List α}(h:LvG enc e lo H lv qs):lv.cells=[lv]/\nT lv=True:=by
 rcases h with⟨rfl,-⟩|⟨-,id,rest,rfl,-⟩<;>exact⟨rfl,V3 trivial⟩
theorem y_nbB{g:Grd}{l' q id c i:Nat}(G:GrV g)(hd:(AP g.sh g.w g.cells).Nodup)(hi:i<g.cells.length){H:AB}{m:Nat}(F:NbB g l' q id c i H m){R:Bool->AB->Nat->Prop}(hR:∀H' m',NbB g l' q id c (i+1) H' m'->R true H' m'):
  BK Tryz.prog l' [.int .i64 i,eSp (spC g i)] H m R:=by
 obtain⟨fr,lq,l20,lm,h1,h10,h12,h14,h15,hq,hL,E,hE,hEl,hE1,hE2⟩:=F
 refine y148_1 hL rfl (AE AH.tnil (AF ?_))
 simp only[eE,eN,Nat.reduceEqDiff,↓reduceIte,Nat.reduceAdd,LK,renv,WS,WW,Wg,Xa,fr0 fr,AK]
 refine⟨_,(AA _ _ _ _ (by omega)).trans hL,rfl,AE AH.tnil (AF ?_)⟩
 have hlen:=Bg g
 obtain⟨hr1,hr2,hr3⟩:=A8 G.hG
 generalize hlp:AObj.lp ⟨l',.busy,none,85,eNb q, #[42,43],Gq,Gr⟩=lpO
 generalize hS:AP g.sh g.w g.cells=S at hd h14 hE2 hR hlen
 generalize hs:spC g i=s at hR
 have y1:∀k,(12=m+k)=False:=λk=>Vd (by omega)
 obtain⟨s1,s2⟩:=slx_st (H:=hset (hset H m (.box [.int .i64 s.1,.int .i64 s.2])) (q+2) lpO) (sh:=g.sh) (by
  rw[AA _ _ _ _ (by omega),AA _ _ _ _ (by omega)];exact h10)
 have z1:(m=12)=False:=Vd (by omega)
 have z2:(q+2=12)=False:=Vd (by omega)
 simp only[eE,eN,Nat.reduceEqDiff,↓reduceIte,xE,LJ,h12,z1,z2,s1,s2]
 have hH10:∀x ob,hset (hset (hset H m (.box [.int .i64 s.1,.int .i64 s.2])) (q+2) lpO) 10 ob x=hget (hset (hset (hset H m (.box [.int .i64 s.1,.int .i64 s.2])) (q+2) lpO) 10 ob) x:=λ_ _=>rfl
 have mk:CD g.sh<=6:=by unfold CD;split<;>omega
 have hsr: -16<=s.1/\s.1<=16/\ -16<=s.2/\s.2<=16:=by
  have gi:inG g (i:Int):=⟨by omega,by rw[V2];exact hi⟩
  obtain⟨k,hk,-,hg,hp,w1,w2,x1,x2,y1',y2',ey,hss⟩:=G.at gi
  obtain rfl:k=i:=by omega
  subst hs
  unfold spC I1
  split<;>simp only[]<;>omega
 generalize hHb:hset (hset (hset H m (.box [.int .i64 s.1,.int .i64 s.2])) (q+2) lpO) 10 (.arr 2 Ms)=Hb
 have b10:hget Hb 10=some (.arr 2 Ms):=by subst hHb;exact AC ..
 have bm:hget Hb m=some (.box [.int .i64 s.1,.int .i64 s.2]):=by grind [AA,AC]
 have bL:hget Hb (q+2)=some lpO:=by
  subst hHb;rw[AA _ _ _ _ (by omega),AC]
 have bo:∀x,x≠m->x≠q+2->x≠10->hget Hb x=hget H x:=λx n1 n2 n3=>by
  subst hHb;rw[AA _ _ _ _ (Ne.symm n3),AA _ _ _ _ (Ne.symm n2),AA _ _ _ _ (Ne.symm n1)]
 have bf:AN Hb (m+2):=λx hx=>by rw[bo x (by omega) (by omega) (by omega)];exact fr x (by omega)
 clear hHb hH10 s1 s2 h10
 refine AU (λv:VNb=>⟨[(2,true,.ptr 1 0),(6,true,.ptr 15 0),(9,true,.int .i64 i),(10,true,.ptr m 0),(45,true,.ref 10 2 0 (CD g.sh) 6),(46,true,.int .i64 (CD g.sh:Nat)),(47,true,.int .i64 v.j)],v.H,v.n⟩)
  (λv=>v.j<=CD g.sh/\m+2<=v.n/\AN v.H v.n/\(∀x,x≠id->x<m+2->hget v.H x=hget Hb x)/\hget v.H id=some (.arr 1 (E.set i v.lv))/\LvG eI 1 (m+2) v.H v.lv (fdT g.sh S s v.j)) (λv=>CD g.sh-v.j)
  ⟨0,.sl .nil [],Hb,m+2⟩ rfl ⟨Vi _,V9 _,bf,λ_ _ _=>rfl,?_,.inl ⟨rfl,rfl⟩⟩ ?_
 ·grind [Qn]
 rintro⟨j,lv,H2,n2⟩ ⟨hj,hn2,hf2,hk2,hid2,hlv⟩
 simp only at hj hn2 hf2 hk2 hid2 hlv
 have c1:hget H2 1=some (.box [.ref id 1 0 g.cells.length g.cells.length]):=by rw[hk2 1 (by omega) (by omega),bo 1 (by omega) (by omega) (by omega)];exact h1
 have c14:hget H2 14=some (.map (spEs S 0) c):=by rw[hk2 14 (by omega) (by omega),bo 14 (by omega) (by omega) (by omega)];exact h14
 have c15:hget H2 15=some (.box [.mp 14]):=by rw[hk2 15 (by omega) (by omega),bo 15 (by omega) (by omega) (by omega)];exact h15
 have c10:hget H2 10=some (.arr 2 Ms):=by rw[hk2 10 (by omega) (by omega)];exact b10
 have cm:hget H2 m=some (.box [.int .i64 s.1,.int .i64 s.2]):=by rw[hk2 m (by omega) (by omega)];exact bm
 have hcl:=OE hlv
 have hgi:(E.set i lv)[i]?=some lv:=by rw[List.getElem?_set_self (by omega)]
 have hil:i<(E.set i lv).length:=by rw[WI];omega
 have hel:(E.set i lv).length=g.cells.length:=by rw[WI];omega
 have v1:∀k,(n2+k=m)=False:=λk=>Vd (by omega)
 have v2:∀k,(n2+k=1)=False:=λk=>Vd (by omega)
 have v3:∀k,(n2+k=14)=False:=λk=>Vd (by omega)
 have v4:∀k,(n2+k=15)=False:=λk=>Vd (by omega)
 have v5:∀k,(n2+k=10)=False:=λk=>Vd (by omega)
 have v6:∀k,(n2+k=id)=False:=λk=>Vd (by omega)
 have hfl:=fd_len g.sh S s j
 by_cases hlt:j<CD g.sh
 case neg=>
  obtain rfl:j=CD g.sh:=by omega
  rw[fd_end]at hlv hfl
  have hfs:=Np g.sh hd s
  have cL:hget H2 (q+2)=some lpO:=by rw[hk2 (q+2) (by omega) (by omega)];exact bL
  have fin:∀H3,(∀x,x<m->x≠id->hget H3 x=hget H2 x)->hget H3 id=some (.arr 1 (E.set i lv))->AN H3 n2->LvG eI 1 (id+1) H3 lv (nbS g.sh S s)->
    ∃x,hget H3 (q+2)=some (.lp x)/\R true (hset H3 (q+2) (.lp {x with st:=.ready,pend:=none})) n2:=by
   intro H3 k1 k2 k3 k4
   refine⟨⟨l',.busy,none,85,eNb q, #[42,43],Gq,Gr⟩,?_,hR _ _ ⟨k3.hset (V9 _) (by omega),lq,l20,by omega,?_,.inr ?_,?_,?_,?_,?_,AC ..,E.set i lv,?_,hel,λk h1 h2=>?_,λk h1=>?_⟩⟩
   ·rw[k1 (q+2) (by omega) (by omega),cL,hlp]
   ·grind [AA]
   ·grind [AA]
   ·grind [AA]
   ·grind [AA]
   ·grind [AA]
   ·grind [AA]
   ·rw[AA _ _ _ _ (by omega)];exact k2
   ·rw[List.getElem?_set_ne (by omega)];exact hE1 k (by omega) h2
   ·by_cases e:k=i
    ·subst e
     refine⟨lv,hgi,?_⟩
     rw[hS,hs]
     exact k4.keep λx e' l hx ho=>by
      rw[AA _ _ _ _ (λe=>by subst e;rw[k1 (q+2) (by omega) (by omega),cL,<-hlp]at ho;cases ho)];exact ho
    ·obtain⟨a,ha,hla⟩:=hE2 k (by omega)
     refine⟨a,by rw[List.getElem?_set_ne (λe'=>e e'.symm)];exact ha,?_⟩
     rw[hS]
     rcases hla with h|⟨z1,z,rest,z2,z3,z4⟩
     ·exact .inl h
     ·have zm:=fr.lt z4
      refine .inr ⟨z1,z,rest,z2,z3,?_⟩
      have zq:z≠q+2:=λe=>by subst e;rw[hL]at z4;cases z4
      rw[AA _ _ _ _ (Ne.symm zq),k1 z (by omega) (by omega),hk2 z (by omega) (by omega),bo z (by omega) zq (λe=>by omega)]
      exact z4
  simp only[eE,eC,eN,Nat.reduceEqDiff,↓reduceIte,V1,V2,V4,lt_F hlt,c1,hid2,hel,lt_T hi,hi,hgi,hcl.1]
  rcases hlv with⟨rfl,hq0⟩|⟨hne,z,rest,rfl,hz,hz2⟩
  ·refine KR.mono ?_
   rintro o H3 n3 ⟨rfl,rfl,rfl⟩
   simp only[eE,eN,retK]
   refine fin _ (λ_ _ _=>rfl) hid2 hf2 (.inl ⟨rfl,?_⟩)
   rw[<-hfs,hq0,List.mergeSort_nil]
  ·refine(MW hz2 (by simp) (by omega)).mono ?_
   rintro o H3 n3 ⟨rfl,rfl,rfl⟩
   rw[Xn,List.drop_left]
   simp only[eE,eN,retK]
   have hsl:(nbS g.sh S s).length=(Fe g.sh S s).length:=by rw[<-hfs,CW]
   refine fin _ (λx h1 h2=>AA _ _ _ _ (by omega)) (by rw[AA _ _ _ _ (by omega)];exact hid2) (hf2.hset (V9 _) (hf2.lt hz2)) (.inr ⟨?_,z,rest,by rw[hsl],by omega,by rw[AC,hfs]⟩)
   intro e;rw[e]at hsl;exact hne (VR hsl.symm)
 have hj6:j<EG.length:=by
  have:EG.length=6:=rfl
  omega
 obtain⟨d,hgd⟩:∃d,EG[j]?=some d:=⟨_,V5 hj6⟩
 have hdr: -1<=d.1/\d.1<=1/\ -1<=d.2/\d.2<=1:=by
  have hm:=Wl hgd
  simp only[EG,Vz,Xb,or_false]at hm
  rcases hm with rfl|rfl|rfl|rfl|rfl|rfl<;>decide
 have w1:IntKind.wrap .i64 (s.1+d.1)=s.1+d.1:=Aq (by omega) (by omega)
 have w2:IntKind.wrap .i64 (s.2+d.2)=s.2+d.2:=Aq (by omega) (by omega)
 have e:=AJ (k:=j) (by omega)
 have hfind:Aw (.agg [.int .i64 (s.1+d.1),.int .i64 (s.2+d.2)]) (spEs S 0)=(Db S (addP s d)).map λn=>.int .i64 n:=IK S (addP s d)
 have hkt:(KT.arr 2 IntKind.i64).is (.agg [.int .i64 (s.1+d.1),.int .i64 (s.2+d.2)])=True:=V3 ⟨rfl,rfl,trivial⟩
 have hsu:=TQ g.sh S s hgd
 cases hix:Db S (addP s d)with
 |none=>
  rw[hix]at hfind hsu
  rw[Option.toList_none,Vy]at hsu
  simp only[eE,eC,eN,Nat.reduceEqDiff,↓reduceIte,Nat.reduceAdd,Nat.reduceLeDiff,Nat.reduceMul,Nat.reduceLT,Int.reduceEq,Int.reduceLE,Int.reduceLT,xE,WL,V1,Option.isSome_none,Wb,Wr,W3,V2,V4,V0,V6,Va,Vc,lt_T hlt,c10,hj6,hgd,fr1 hf2,c15,cm,v1,v3,v4,w1,w2,c14,hkt,Lc,hfind,By,e,AK,c2n]
  refine .mk ⟨j+1,lv,hset H2 (n2+2) (.box [.int .i64 d.1,.int .i64 d.2]),n2+4⟩ rfl ⟨hlt,by simp only[];omega,hf2.hset (m:=n2+4) (by omega) (by omega),λx h1 h2=>?_,?_,?_⟩ (by simp only[];omega)
  ·simp only[]
   rw[AA _ _ _ _ (by omega)];exact hk2 x h1 h2
  ·simp only[]
   rw[AA _ _ _ _ (by omega)];exact hid2
  ·simp only[hsu]
   exact hlv.keep λx e' l hx ho=>by rw[AA _ _ _ _ (λe=>by subst e;rw[hf2 _ (by omega)]at ho;cases ho)];exact ho
 |some b=>
 rw[hix]at hfind hsu
 rw[Option.toList_some]at hsu
 have hbl:(id<n2+4)=True:=V3 (by omega)
 simp only[eE,eC,eN,eX,reduceCtorEq,Nat.reduceEqDiff,↓reduceIte,Nat.reduceAdd,Nat.reduceLeDiff,Nat.reduceMul,Nat.reduceLT,Int.reduceLE,Int.reduceLT,xE,V1,Option.isSome_some,Wb,Wr,W3,V2,V4,V0,V6,Va,Vc,lt_T hlt,c10,hj6,hgd,fr1 hf2,c15,cm,v1,v2,v3,v4,v6,w1,w2,c14,hkt,Lc,hfind,By,AK,c2n,c1,hid2,lt_T hi,hil,hgi,hcl.1,hbl]
 have hlv2:LvG eI 1 (m+2) (hset H2 (n2+2) (.box [.int .i64 d.1,.int .i64 d.2])) lv (fdT g.sh S s j):=hlv.keep λx e' l hx ho=>by rw[AA _ _ _ _ (λe=>by subst e;rw[hf2 _ (by omega)]at ho;cases ho)];exact ho
 have hid3:hget (hset H2 (n2+2) (.box [.int .i64 d.1,.int .i64 d.2])) id=some (.arr 1 (E.set i lv)):=by rw[AA _ _ _ _ (by omega)];exact hid2
 have hf3:AN (hset H2 (n2+2) (.box [.int .i64 d.1,.int .i64 d.2])) (n2+4):=hf2.hset (by omega) (by omega)
 have hk3:∀x,x≠id->x<m+2->hget (hset H2 (n2+2) (.box [.int .i64 d.1,.int .i64 d.2])) x=hget Hb x:=λx h1 h2=>by rw[AA _ _ _ _ (by omega)];exact hk2 x h1 h2
 generalize hset H2 (n2+2) (.box [.int .i64 d.1,.int .i64 d.2])=H3 at hlv2 hid3 hf3 hk3
 refine LR (enc:=eI) (lo:=m+2) (qs:=fdT g.sh S s j) (z0:=0) hlv2 rfl (by decide) rfl rfl (AX (by omega) (by decide)) (hf3 _ (by omega)) (by omega) (by omega) ?_
 intro z rest hz hzm
 have hzl:z<n2+13:=by
  rcases hzm with rfl|⟨Z,h⟩
  ·omega
  ·have:=hf3.lt h;omega
 have u1:(z=id)=False:=Vd (by omega)
 simp only[eE,eC,eN,Nat.reduceEqDiff,↓reduceIte,Int.reduceEq,V1,V2,V4,Gl,Hz,hid3,u1,lt_T hi,hi,hgi,hel,List.set_set,e]
 refine .mk ⟨j+1,.ref z 1 0 (fdT g.sh S s j++[b]).length ((fdT g.sh S s j++[b]).length+rest.length),hset (hset H3 z (.arr 1 (((fdT g.sh S s j++[b])++rest).map eI))) id (.arr 1 (E.set i (.ref z 1 0 (fdT g.sh S s j++[b]).length ((fdT g.sh S s j++[b]).length+rest.length)))),n2+15⟩ rfl ⟨hlt,by simp only[];omega,?_,λx h1 h2=>?_,?_,?_⟩ (by simp only[];omega)
 ·exact(hf3.hset (m:=n2+15) (by omega) (by omega)).hset (V9 _) (show id<n2+15 by omega)
 ·simp only[]
  rw[AA _ _ _ _ (by omega),AA _ _ _ _ (by omega)];exact hk3 x h1 h2
 ·simp only[]
  rw[AC]
 ·simp only[hsu]
  exact .inr ⟨by simp,z,rest,rfl,hz,by rw[AA _ _ _ _ (by omega),AC]⟩
def NbR(g:Grd):AOut->AB->Nat->Prop:=λo H _=>
 (grOK g.sh g.w g.h g.holes g.cells=false/\o= .ret (.tup [.sl .nil [],.int .i64 130]))\/
 (grOK g.sh g.w g.h g.holes g.cells=true/\∃id E,o= .ret (.tup [.ref id 1 0 g.cells.length g.cells.length,.int .i64 0])/\hget H id=some (.arr 1 E)/\E.length=g.cells.length/\
  ∀k,k<g.cells.length->∃a,E[k]?=some a/\LvG eI 1 (id+1) H a (nbS g.sh (AP g.sh g.w g.cells) (spC g k)))
def Tnb:Tab:=tadd 219 (s1 dGd (λg=>few g.holes/\few g.cells) chkV) tnil
theorem Tnb_ok:AH Tryz.prog Tnb:=AH.tnil.add (q1 λg h=>p219 g.sh g.w g.h g.holes g.cells h.1 h.2)
theorem TR(a:List AVal)(H:AB):Tnb 219 a H=s1 dGd (λg=>few g.holes/\few g.cells) chkV a H:=rfl
theorem t_nb(g:Grd)(hh:few g.holes)(hc:few g.cells):AI Tryz.prog 148 [DC g] hnil 0 (NbR g):=by
 refine a148 (AE Tnb_ok (AF ?_))
 have f1:dGd.ok (.agg (AG g.sh g.w g.h g.holes g.cells))=True:=KC g
 have f2:dGd.dec (.agg (AG g.sh g.w g.h g.holes g.cells))=g:=G3 g
 simp only[AG]at f1 f2
 cases hgo:grOK g.sh g.w g.h g.holes g.cells with
 |false=>
  have hck:chkV g= .int .i64 130:=by unfold chkV;rw[hgo];rfl
  simp only[eE,eC,eN,reduceCtorEq,Nat.reduceEqDiff,↓reduceIte,Nat.reduceAdd,Int.reduceEq,Ve,CN,c148,AG,TR,s1,f1,f2,V3 hh,V3 hc,hck]
  exact .inl ⟨hgo,rfl⟩
 |true=>
 have hck:chkV g= .int .i64 0:=by unfold chkV;rw[hgo];rfl
 have hG:Ad g.sh g.w g.h g.holes=some g.cells:=VH hgo
 have G:GrV g:=⟨hG,hh⟩
 obtain⟨hr1,hr2,hr3⟩:=A8 hG
 have hw:1<=g.w:=by
  unfold Ad at hG
  split at hG
  ·rename_i q;exact q.2.1
  ·cases hG
 have hd:(AP g.sh g.w g.cells).Nodup:=G6 hw hr1 λp hp=>(hr3 p hp).1
 have h4:g.sh=1->(4:Int)=((CD g.sh:Nat):Int):=λe=>by unfold CD;rw[Vk e];rfl
 have h6:g.sh≠1->(6:Int)=((CD g.sh:Nat):Int):=λe=>by unfold CD;rw[Vb e];rfl
 rcases Classical.em (g.sh=1)with hs1|hs1
 case' inl=>
  simp only[eE,eC,eN,reduceCtorEq,Nat.reduceEqDiff,↓reduceIte,Nat.reduceAdd,Nat.reduceLeDiff,V8,xE,c148,AG,TR,s1,f1,f2,V3 hh,V3 hc,hck,CQ hs1,AK]
  rw[h4 hs1]
 case' inr=>
  simp only[eE,eC,eN,reduceCtorEq,Nat.reduceEqDiff,↓reduceIte,Nat.reduceAdd,Nat.reduceLeDiff,V8,xE,c148,AG,TR,s1,f1,f2,V3 hh,V3 hc,hck,Bu hs1,AK]
  rw[h6 hs1]
 all_goals
  generalize hH0:hset _ 15 (AObj.box [AVal.mp 14])=H0
  have a0:hget H0 0=some (.box (AG g.sh g.w g.h g.holes g.cells)):=by rw[<-hH0];rfl
  have a1:hget H0 1=some (.box [.sl .nil []]):=by rw[<-hH0];rfl
  have a10:hget H0 10=some (.box OC):=by rw[<-hH0];rfl
  have a12:hget H0 12=some (.box [.int .i64 (CD g.sh:Nat)]):=by rw[<-hH0];rfl
  have a14:hget H0 14=some (.map [] 0):=by rw[<-hH0];rfl
  have a15:hget H0 15=some (.box [.mp 14]):=by rw[<-hH0];rfl
  have af:AN H0 17:=by
   rw[<-hH0]
   repeat' (first|exact AN.nil|refine AN.hset ?_ (V9 _) (by decide))
  clear hH0
  refine(IN af).mono ?_
  rintro o H1 n1 ⟨rfl,rfl,rfl⟩
  simp only[eE,eN,Nat.reduceEqDiff,↓reduceIte,Nat.reduceAdd,retK,ES]
  intro l'
  refine(IJ g G (J:=NbA g l') (λi H n F=>F.hq) (λi H n hi F R hR=>y_nbA hd hi F hR) ?_).mono ?_
  ·refine⟨?_,by decide,?_,?_,?_,?_,?_,?_,?_,?_⟩
   ·exact(af.hset (m:=20) (by decide) (by decide)).hset (V9 _) (by decide)
   all_goals first|(rw[AA _ _ _ _ (by decide),AA _ _ _ _ (by decide)];assumption)|(rw[AA _ _ _ _ (by decide),AC])|(rw[AC])
  rintro o H2 n2 ⟨rfl,F⟩
  have Ffr:=F.fr
  have Flm:=F.lm
  have F0:=F.h0
  have F1:=F.h1
  have F10:=F.h10
  have F12:=F.h12
  have F14:=F.h14
  have F15:=F.h15
  have FL:=F.hL
  rw[VZ (by rw[Bg];exact V9 _)]at F14
  simp only[AG]at F0
  have u1:(n2=1)=False:=Vd (by omega)
  have u2:∀k,(n2+k=1)=False:=λk=>Vd (by omega)
  have u3:∀k,(n2+k=0)=False:=λk=>Vd (by omega)
  have u4:∀k,(n2+k=19)=False:=λk=>Vd (by omega)
  have w1:Al g.cells.length 24=True:=V3 (AX (by omega) (by decide))
  have w2:((g.cells.length:Int)<=35184372088832)=True:=V3 (by omega)
  have u5:(n2=16)=False:=Vd (by omega)
  simp only[eE,eN,reduceCtorEq,Nat.reduceEqDiff,↓reduceIte,Nat.reduceAdd,V2,V4,V0,ER,FL,F0,fr1 Ffr,F1,u2,u3,u5,w1,w2]
  generalize hH3:hset _ 1 (AObj.box [AVal.ref (n2+3) 1 0 g.cells.length g.cells.length])=H3
  have d0:hget H3 0=some (.box (AG g.sh g.w g.h g.holes g.cells)):=by
   rw[<-hH3];repeat rw[AA _ _ _ _ (by omega)]
   exact F0
  have d1:hget H3 1=some (.box [.ref (n2+3) 1 0 g.cells.length g.cells.length]):=by rw[<-hH3,AC]
  have d10:hget H3 10=some (.box OC):=by
   rw[<-hH3];repeat rw[AA _ _ _ _ (by omega)]
   exact F10
  have d12:hget H3 12=some (.box [.int .i64 (CD g.sh:Nat)]):=by
   rw[<-hH3];repeat rw[AA _ _ _ _ (by omega)]
   exact F12
  have d14:hget H3 14=some (.map (spEs (AP g.sh g.w g.cells) 0) g.cells.length):=by
   rw[<-hH3];repeat rw[AA _ _ _ _ (by omega)]
   exact F14
  have d15:hget H3 15=some (.box [.mp 14]):=by
   rw[<-hH3];repeat rw[AA _ _ _ _ (by omega)]
   exact F15
  have dE:hget H3 (n2+3)=some (.arr 1 (List.replicate g.cells.length (.sl .nil []))):=by rw[<-hH3,AA _ _ _ _ (by omega),AC]
  have df:AN H3 (n2+5):=by
   rw[<-hH3]
   exact(((Ffr.hset (m:=n2+5) (by omega) (by omega)).hset (m:=n2+5) (V9 _) (by omega)).hset (V9 _) (by omega))
  clear hH3
  refine(IN df).mono ?_
  rintro o H4 n4 ⟨rfl,rfl,rfl⟩
  simp only[eE,eN,Nat.reduceEqDiff,↓reduceIte,Nat.reduceAdd,retK,ES]
  intro l2
  refine(IJ g G (J:=NbB g l2 (n2+5) (n2+3) g.cells.length) (λi H n F=>F.hq) (λi H n hi F R hR=>y_nbB G hd hi F hR) ?_).mono ?_
  ·refine⟨(df.hset (m:=n2+8) (by omega) (by omega)).hset (m:=n2+8) (V9 _) (by omega),by omega,by omega,by omega,?_,.inl ?_,?_,?_,?_,?_,AC ..,List.replicate g.cells.length (.sl .nil []),?_,Wz,λk _ hk=>?_,λk hk=>absurd hk (Wq _)⟩
   ·repeat rw[AA _ _ _ _ (by omega)]
    exact d1
   ·repeat rw[AA _ _ _ _ (by omega)]
    exact d10
   ·repeat rw[AA _ _ _ _ (by omega)]
    exact d12
   ·repeat rw[AA _ _ _ _ (by omega)]
    exact d14
   ·repeat rw[AA _ _ _ _ (by omega)]
    exact d15
   ·rw[AA _ _ _ _ (by omega),AC]
   ·repeat rw[AA _ _ _ _ (by omega)]
    exact dE
   ·rw[List.getElem?_replicate,Vk hk]
  rintro o H5 n5 ⟨rfl,K⟩
  obtain⟨kfr,klq,kl2,klm,k1,k10,k12,k14,k15,kq,kL,E,kE,kEl,-,kE2⟩:=K
  have e1:(n2+5+2=1)=False:=Vd (by omega)
  have e2:(n2+7=1)=False:=Vd (by omega)
  simp only[eE,eN,reduceCtorEq,Nat.reduceEqDiff,↓reduceIte,CN,ER,kL,k1,e1]
  refine .inr ⟨hgo,n2+3,E,rfl,?_,kEl,λk hk=>?_⟩
  ·repeat rw[AA _ _ _ _ (by omega)]
   exact kE
  ·obtain⟨a,ha,hla⟩:=kE2 k hk
   refine⟨a,ha,hla.keep λx e' l hx ho=>?_⟩
   have x1:x≠n2+7:=λe=>by subst e;rw[kL]at ho;cases ho
   rw[AA _ _ _ _ (by omega),AA _ _ _ _ (Ne.symm x1)];exact ho
def OF:AVal->Option Nat
 | .ref i _ _ _ _=>some i
 |_=>none
theorem TS{H:AB}{id cap:Nat}{E rest:List AVal}(ho:hget H id=some (.frz 1 (E++rest)))(hc:E.length<=cap){g:Ghost}{n:Nat}{w:World}{x:Value}(hR:Rel g H n w)(hv:VRel g (.ref id 1 0 E.length cap) x):VRel g (.sl (.none 1) E) x:=by
 obtain⟨L,h1,h2,rfl⟩:=hv
 obtain⟨L',j1,j2,j3⟩:=hR.obj id _ ho
 rw[h1]at j1;cases j1
 refine .inr ⟨trivial,L.blk,0,cap,⟨none,by simp,.inl rfl⟩,hc,?_,trivial⟩
 have:=Stab.take E.length _ _ j3
 rw[Xn]at this
 exact this
theorem Qo{H:AB}{id cap:Nat}{E rest:List AVal}{xs:List (List Int)}(ho:hget H id=some (.frz 1 (E++rest)))(hc:E.length<=cap)(hl:E.length=xs.length)(he:∀(k:Nat) a x,E[k]?=some a->xs[k]?=some x->LF 1 a H (x.map eI)){g:Ghost}{n:Nat}{w:World}{y:Value}(hR:Rel g H n w)(hv:VRel g (.ref id 1 0 E.length cap) y):VRel g (eLl xs) y:=by
 have h1:=TS ho hc hR hv
 rcases h1 with⟨q1,rfl,q3⟩|⟨-,b,o,cap,hv,hc,hst,-⟩
 ·refine .inl ⟨?_,rfl,trivial⟩
  have:xs=[]:=VR (by rw[<-hl,q1];rfl)
  rw[this];rfl
 ·refine .inr ⟨trivial,b,o,cap,?_,by rw[V0,<-hl];exact hc,?_,trivial⟩
  ·grind
  ·refine Stab.conv (by rw[V0];exact hl) (λk a b ha hb x hx=>?_) hst
   rw[V6,Wj]at hb
   obtain⟨z,hz,rfl⟩:=hb
   exact Hy (he k a z ha hz) hR hx
theorem LvG.seal{lo:Nat}{H:AB}{lv:AVal}{qs:List Int}{ids:List Nat}(h:LvG eI 1 lo H lv qs)(hi:∀z,OF lv=some z->z∈ids):LF 1 lv (frzs ids H) (qs.map eI):=by
 rcases h with⟨rfl,rfl⟩|⟨hne,z,rest,rfl,-,h4⟩
 ·exact .inl ⟨rfl,_,rfl,.inl rfl⟩
 ·refine .inr ⟨by simpa using hne,z,_,rest.map eI,by rw[V0],?_,by simp⟩
  rw[IL,Vk (hi z rfl),h4,Vl];rfl
def NbS(g:Grd):AOut->AB->Nat->Prop:=λo H _=>
 (grOK g.sh g.w g.h g.holes g.cells=false/\o= .ret (.tup [.sl .nil [],.int .i64 130]))\/
 (grOK g.sh g.w g.h g.holes g.cells=true/\∃id E,o= .ret (.tup [.ref id 1 0 g.cells.length g.cells.length,.int .i64 0])/\hget H id=some (.frz 1 E)/\E.length=g.cells.length/\
  ∀k,k<g.cells.length->∃a,E[k]?=some a/\LF 1 a H ((nbS g.sh (AP g.sh g.w g.cells) (spC g k)).map eI))
theorem p148(g:Grd)(hh:few g.holes)(hc:few g.cells):Pur Tryz.prog 148 [DC g] (nbV g):=by
 refine⟨⟨BZ 0 ..,trivial⟩,by unfold nbV;split<;>exact⟨Ar 0 _,trivial,trivial⟩,AI.out (AI.sealN (g.cells.length+1) (t_nb g hh hc) (R':=NbS g) ?_) ?_⟩
 ·rintro o H n (h|⟨hg,id,E,ho,hE,hl,hk⟩)
  ·exact⟨[],Vi _,.inl h⟩
  ·refine⟨id::E.filterMap OF,?_,.inr ⟨hg,id,E,ho,?_,hl,λk hk'=>?_⟩⟩
   ·grind
   ·rw[IL,Vk (VK ..),hE];rfl
   ·obtain⟨a,ha,hla⟩:=hk k hk'
    exact⟨a,ha,hla.seal λz hz=>W9 _ (List.mem_filterMap.2 ⟨a,Wl ha,hz⟩)⟩
 ·rintro o H n (⟨hg,rfl⟩|⟨hg,id,E,rfl,hE,hl,hk⟩)
  ·refine⟨_,⟨_,rfl,?_⟩,λg w e hR he=>he⟩
   unfold nbV;rw[hg]
   exact Wk.tup (.cons (Wk.sl (.inr rfl)) (.cons (Wk.refl _) .nil))
  ·refine⟨.ret (nbV g),⟨_,rfl,Wk.refl _⟩,λgh w e hR he=>?_⟩
   cases e with
   |panicked c=>exact he.elim
   |outgrown=>exact he.elim
   |returned x=>
    have hv:nbV g= .tup [eLl (nbsS g.sh (AP g.sh g.w g.cells)),.int .i64 0]:=by unfold nbV;rw[hg];rfl
    rw[hv]
    obtain⟨vs,rfl,y,r,e1,k1,k2⟩:=he
    refine⟨vs,rfl,y,r,e1,?_,k2⟩
    rw[<-hl]at k1
    refine Qo (rest:=[]) (by rw[Vy];exact hE) (V9 _) (by rw[hl,nbsS,V0,Bg]) (λk a z ha hz=>?_) hR k1
    have hkl:k<g.cells.length:=by rw[<-hl];exact(VV.1 ha).1
    obtain⟨a',ha',hla⟩:=hk k hkl
    rw[ha]at ha'
    obtain rfl:=Option.some.inj ha'
    rw[nbsS,V6,FG hkl,VL]at hz
    rw[<-Option.some.inj hz]
    exact hla
end Go.AM
