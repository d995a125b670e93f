/-
  The program's grids: the spots of the cells, one by one · Grids: a map from coordinates to cells; lists by the numbers o.
  Conditions: none beyond those of its parts.
-/
import Derived.Test.YtbngedlokkndkaaGreatDoorB11
import Derived.Test.YtbngedlokkndkaaGreatDoorB9
import Derived.Test.YtbngedlokkndkaaGreatDoorB5
import Derived.Test.YtbngedlokkndkaaGreatDoorB7

set_option maxRecDepth 20000
set_option linter.all false
namespace Go.AM
open Go.Lib Go.Proofs Go.Proofs.Tryz
structure VSp where
 i:Nat
 H:AB
 n:Nat
def L2(g:xk)(G:uK g){l' q:Nat}{J:Nat->AB->Nat->Prop}(hJ:∀i H n,J i H n->AD H q=some (.box (AK g.sh g.w g.h g.sB g.cells)))
  (hy:∀i H n,i<g.cells.length->J i H n->∀R:Bool->AB->Nat->Prop,(∀H' n',J (i+1) H' n'->R true H' n')->Cf prog l' [.int .i64 i,.agg [.int .i64 (DU g i).1,.int .i64 (DU g i).2]] H n R) {H:AB} {n:Nat} (h0:J 0 H n):
  AO prog 195 [.fn (.yield l') [] [],.ptr q 0] H n λo H' n'=>o= .ret (.sH [])/\J g.cells.length H' n':=by
 obtain⟨ti,ub,uh⟩:=BP G.hG;refine c195.a (AE AG.sE (AF ?_));have hq:=hJ 0 H n h0;simp only[AK]at hq;simp only[eE,eN,seval,o6,c195,hq];refine AQ (λv:VSp=>⟨[(0,true,.fn (.yield l') [] []),(1,true,.ptr q 0),(8,true,BY g.cells),(9,true,.int .i64 g.cells.length),(10,true,.int .i64 v.i)],v.H,v.n⟩) (λv=>v.i<=g.cells.length/\J v.i v.H v.n) (λv=>g.cells.length-v.i)
  ⟨0,H,n⟩ rfl ⟨oq _,h0⟩ ?_
 rintro⟨i,H1,m⟩ ⟨hi,hj⟩;simp only at hi hj;by_cases e9:i<g.cells.length
 ·have hq1:=hJ i H1 m hj;simp only[AK]at hq1;have gi:It g (i:Int):=⟨zo,by rw[oH];exact e9⟩;obtain⟨k,hk,-,hg,hp,w1,w2,x1,x2,y1,y2,ey,hs⟩:=G.at gi;obtain rfl:k=i:=zo
  have e:=AI (k:=k) zo;have hw:(g.w=0)=False:=oA zo;have r1:IntKind.wrap .i64 ((Aa g (k:Int)).tdiv g.w)=(Aa g (k:Int)).tdiv g.w:=An zo zo;have r2:IntKind.wrap .i64 (((Aa g (k:Int)).tdiv g.w).tdiv 2)=((Aa g (k:Int)).tdiv g.w).tdiv 2:=An zo zo;have r3:IntKind.wrap .i64 ((Aa g (k:Int)).tmod g.w-((Aa g (k:Int)).tdiv g.w).tdiv 2)=(Aa g (k:Int)).tmod g.w-((Aa g (k:Int)).tdiv g.w).tdiv 2:=An zo zo;rcases hs with h1|h2
  ·have uE:DU g k=((Aa g (k:Int)).tmod g.w,(Aa g (k:Int)).tdiv g.w):=by unfold DU DC;rw[og zo]
   have hz:(g.sh=2)=False:=oA zo;have hyk:=hy k H1 m e9 hj;rw[uE]at hyk;simp only[eZ,seval,eY,AT e9,hg,hq1,hw,r1,hz];refine hyk _ λH' n' ul=>?_
   simp only[eZ,seval,o9,TO,e];exact .mk ⟨k+1,H',n'⟩ rfl ⟨e9,ul⟩ zp
  ·have uE:DU g k=((Aa g (k:Int)).tmod g.w-((Aa g (k:Int)).tdiv g.w).tdiv 2,(Aa g (k:Int)).tdiv g.w):=by unfold DU DC;rw[oE h2]
   have hz:(g.sh=2)=True:=o7 h2;have hyk:=hy k H1 m e9 hj;rw[uE]at hyk;simp only[eZ,seval,eY,AT e9,hg,hq1,hw,r1,r2,r3,hz];refine hyk _ λH' n' ul=>?_
   simp only[eZ,seval,o9,TO,e];exact .mk ⟨k+1,H',n'⟩ rfl ⟨e9,ul⟩ zp
 obtain rfl:i=g.cells.length:=zo
 simp only[eZ,seval,Ah e9];exact hj
section
abbrev Na(s:A7):Fs:=.agg [.int .i64 s.1,.int .i64 s.2]
def HK:List A7->Nat->List (Fs×Fs×Nat)
 |[],_=>[]
 |s::r,i=>(Na s,.int .i64 (i:Int),i)::HK r (i+1)
theorem PB:∀(l:List A7) (i:Nat),D6 (.arr 2 .i64) (HK l i)=True
 |[],_=>rfl
 |s::r,i=>by rw[HK,D6,PB r (i+1)];simp [KT.is,Nf]
def iW(s t:A7):HQ (Na s) (Na t)=decide (s=t):=by
 obtain⟨a,b⟩:=s;obtain⟨c,d⟩:=t;rw[oZ];simp [HQ,tN,Prod.mk.injEq]
def SR(x:A7)(r:List A7)(s:A7):Eh (x::r) s=if x=s then some 0 else(Eh r s).map (· +1):=by
 unfold Eh;rw[List.findIdx?_cons];by_cases h:x=s
 ·simp [h]
 ·simp only[h,se,oP,pb];cases List.findIdx? (λx=>decide (x=s)) r<;>simp
theorem Tz:∀(l:List A7) (s:A7) (i:Nat),BZ (Na s) (HK l i)=(Eh l s).map λn=>.int .i64 (n+(i:Int))
 |[],s,i=>rfl
 |x::r,s,i=>by
  rw[HK,BZ,SR,Tz r s (i+1),iW];by_cases h:x=s
  ·subst h;simp
  ·have:¬s=x:=λq=>h q.symm
   simp only[h,this,se,oP,pb];cases Eh r s with
   |none=>rfl
   |some n=>simp only[pr];congr 2;omega
def L3(l:List A7)(s:A7):BZ (Na s) (HK l 0)=(Eh l s).map λn=>.int .i64 n:=by
 rw[Tz];congr 1;funext n;simp
theorem XQ:∀(l:List A7) (s:A7) (i:Nat),HK (l++[s]) i=HK l i++[(Na s,.int .i64 ((i+l.length:Nat):Int),i+l.length)]
 |[],s,i=>rfl
 |x::r,s,i=>by
  rw[pp,HK,XQ r s (i+1),HK,pp,oI,show i+1+r.length=i+(r.length+1)by omega]
def iX{l:List A7}{s:A7}(h:s∉l):EE (Na s) (.int .i64 (l.length:Int)) l.length (HK l 0)=HK (l++[s]) 0:=by
 have h':=NR.2 h;rw[Jv (by rw[L3,h'];rfl),XQ];simp
def L4{g:xk}{i:Nat}(h:i<g.cells.length):(AW g.sh g.w g.cells).take (i+1)=(AW g.sh g.w g.cells).take i++[DU g i]:=by
 rw[oG,Ds h];rfl
def VP{g:xk}{i:Nat}(hd:(AW g.sh g.w g.cells).Nodup)(h:i<g.cells.length):DU g i∉(AW g.sh g.w g.cells).take i:=by
 have e:=L4 h;have:((AW g.sh g.w g.cells).take i++[DU g i]).Nodup:=by rw[<-e];exact hd.sublist (List.take_sublist ..)
 rw[qD]at this;exact λhm=>this.2.2 _ hm _ zw rfl
def iY:xq->xq
 | .arr e l=>.frz e l
 |x=>x
def PC(id:Nat)(H:AB):AB:=λi=>if i=id then(H i).map iY else H i
def VQ(ids:List Nat)(H:AB):AB:=ids.foldr PC H
variable {H:AB}
theorem XR{id e:Nat}{l:List Fs}(h:AD H id=some (.arr e l)):PC id H=sA H id (.frz e l):=by
 funext i;unfold PC sA;by_cases q:i=id
 ·subst q;have h':H i=some (.arr e l):=h;rw[oE rfl,oE rfl,h'];rfl
 ·rw[og q,og (λe=>q e.symm)]
theorem VR{id:Nat}(h:∀e l,AD H id≠some (.arr e l)):PC id H=H:=by
 funext i;unfold PC;split
 ·rename_i q;subst q;have h':∀e l,H i≠some (.arr e l):=h;cases hh:H i with
  |none=>rfl
  |some ob=>cases ob<;>first|rfl|(exact absurd hh (h' _ _))
 ·rfl
theorem L5:∀(ids:List Nat) (H:AB) (i:Nat),AD (VQ ids H) i=if i∈ids then(AD H i).map iY else AD H i
 |[],H,i=>by simp [VQ]
 |id::r,H,i=>by
  have ih:=L5 r H i;show PC id (VQ r H) i=_;unfold PC;have ih':VQ r H i=if i∈r then(AD H i).map iY else AD H i:=ih
  rw[ih'];by_cases q:i=id
  ·subst q;rw[oE rfl,oE (po ..)];split
   ·cases AD H i with
    |none=>rfl
    |some ob=>cases ob<;>rfl
   ·rfl
  ·simp_all
theorem AO.sealN{P:Program}{f:FuncId}{args:List Fs}{n:Nat}:∀(k:Nat) {R R':xx->AB->Nat->Prop},AO P f args H n R->
  (∀o H' n',R o H' n'->∃ids:List Nat,ids.length<=k/\R' o (VQ ids H') n')->AO P f args H n R'
 |0,R,R',h,hr=>h.mono λo H' n' q=>by
  obtain⟨ids,h1,h2⟩:=hr _ _ _ q;have:ids=[]:=pt zo;subst this;exact h2
 |k+1,R,R',h,hr=>by
  refine AO.seal (R:=λo H' n'=>∃id,R' o (PC id H') n'\/R' o H' n') (AO.sealN k h (R':=λo H' n'=>∃id,R' o (PC id H') n'\/R' o H' n') λo H' n' q=>?_) λo H' n' q=>?_
  ·obtain⟨ids,h1,h2⟩:=hr _ _ _ q;cases ids with
   |nil=>exact⟨[],oq _,0,.inr h2⟩
   |cons id r=>exact⟨r,by simp at h1;omega,id,.inl h2⟩
  ·grind [XR,VR]
theorem sK.conv{g:z8}{f:Nat->Option Value}{e:Nat}:∀{l m:List Fs} {o:Nat},l.length=m.length->(∀(k:Nat) a b,l[k]?=some a->m[k]?=some b->∀x,AP g a x->AP g b x)->sK g e f o l->sK g e f o m
 |[],[],_,_,_,h=>h
 |a::l,b::m,o,hl,hh,⟨⟨v,h1,h2,h3⟩,h4⟩=>
  ⟨⟨v,hh 0 a b rfl rfl v h1,h2,h3⟩,sK.conv (by simpa using hl) (λk a b h1 h2=>hh (k+1) a b (by simpa using h1) (by simpa using h2)) h4⟩
end
section
theorem XT:((2:Nat):Int)=2:=rfl
variable {H:AB} {lv:Fs} {g:xk} {n i lo id:Nat} {α:Type}
theorem L6(hf:AU H n):AO prog 152 [B9 g] H n λo H' n'=>o= .ret (.fn (.func 195) [] [.ptr n 0])/\H'=sA H n (.box (AK g.sh g.w g.h g.sB g.cells))/\n'=n+2:=by
 refine c152.a (AE AG.sE (AF ?_));simp only[eE,eN,seval,c152,AK,W0 hf]
def GM:List A7:=[(1,0),(-1,0),(0,1),(0,-1),(1,-1),(-1,1)]
def Cw(sh:Int):Nat:=if sh=1 then 4 else 6
theorem SS(sh:Int):FX sh=GM.take (Cw sh):=by
 unfold FX Cw GM;split<;>rfl
abbrev QK:List Fs:=[.int .i64 1,.int .i64 0,.int .i64 (-1),.int .i64 0,.int .i64 0,.int .i64 1,.int .i64 0,.int .i64 (-1),.int .i64 1,.int .i64 (-1),.int .i64 (-1),.int .i64 1]
abbrev Nu:List Fs:=GM.map Na
abbrev clG(q:Nat):Fs:=.fn (.func 195) [] [.ptr q 0]
theorem VS{ob:xq}(h:AD H i=some ob):sA H i ob=H:=by
 funext j;unfold sA;by_cases e:i=j
 ·subst e;rw[oE rfl];exact h.symm
 ·rw[og e]
theorem Np.keep{enc:α->Fs}{e:Nat}{H':AB}{qs:List α}(h:Np enc e lo H lv qs)(hk:∀id e' l,lo<=id->AD H id=some (.arr e' l)->AD H' id=some (.arr e' l)):Np enc e lo H' lv qs:=by
 rcases h with h|⟨h1,id,rest,h2,h3,h4⟩
 ·exact .inl h
 ·exact .inr ⟨h1,id,rest,h2,h3,hk id _ _ h3 h4⟩
abbrev eNa(q:Nat):List (Nat×Bool×Fs):=[(1,true,.ptr 0 0),(2,true,.ptr 1 0),(3,true,.int .i64 0),(4,true,.ptr 10 0),(5,true,.ptr 12 0),(6,true,.ptr 15 0),(30,true,clG q)]
structure NbA(g:xk)(l':Nat)(i:Nat)(H:AB)(m:Nat):Prop where
 fr:AU H m
 lm:20<=m
 h0:AD H 0=some (.box (AK g.sh g.w g.h g.sB g.cells))
 h1:AD H 1=some (.box [.sl .nil []])
 h10:AD H 10=some (.box QK)
 h12:AD H 12=some (.box [.int .i64 (Cw g.sh:Nat)])
 h14:AD H 14=some (.map (HK ((AW g.sh g.w g.cells).take i) 0) i)
 h15:AD H 15=some (.box [.mp 14])
 hq:AD H 17=some (.box (AK g.sh g.w g.h g.sB g.cells))
 hL:AD H 19=some (.lp ⟨l',.ready,none,85,eNa 17, #[31,32],Px,Py⟩)
theorem y_nbA{l':Nat}(hd:(AW g.sh g.w g.cells).Nodup)(hi:i<g.cells.length){m:Nat}(F:NbA g l' i H m){R:Bool->AB->Nat->Prop}(hR:∀H' m',NbA g l' (i+1) H' m'->R true H' m'):
  Cf prog l' [.int .i64 i,Na (DU g i)] H m R:=by
 obtain⟨fr,lm,h0,h1,h10,h12,h14,h15,hq,hL⟩:=F;refine y87_0 hL rfl (AE AG.sE (AF ?_));simp only[eE,eN,seval,TV,Hp,rm,rA,qc,rT,W0 fr,AH];have y1:(m=19)=False:=oA zo;have y2:(m=15)=False:=oA zo;have y3:(m=14)=False:=oA zo;have y4:(14=m)=False:=oA zo;have y5:(15=m)=False:=oA zo;have y6:(19=m)=False:=oA zo;refine⟨_,(AA _ _ _ _ zo).trans hL,rfl,AE AG.sE (AF ?_)⟩;have hn:=VP hd hi;have hf:BZ (Na (DU g i)) (HK ((AW g.sh g.w g.cells).take i) 0)=none:=by rw[L3,NR.2 hn];rfl
 have hs:=iX hn;have l9:((AW g.sh g.w g.cells).take i).length=i:=by rw[oJ,B5];omega
 rw[l9]at hs;have hkt:(KT.arr 2 IntKind.i64).is (Na (DU g i))=True:=o7 ⟨rfl,rfl,zt⟩;simp only[eE,eN,seval,xE,Option.isSome_none,TU,h15,h14,y2,y3,y6,PB,hkt,hf,hs];refine⟨⟨l',.busy,none,85,eNa 17, #[31,32],Px,Py⟩,by simp only[AN];simp,hR _ _ ⟨?_,?_,?_,?_,?_,?_,?_,?_,?_,?_⟩⟩
 ·intro j hj;have ul:m+2<=j:=hj;simp only[AN];repeat rw[og zo]
  exact fr j zo
 ·simp only[];omega
 all_goals simp only[]
 ·repeat rw[AA _ _ _ _ zo]
  exact h0
 ·repeat rw[AA _ _ _ _ zo]
  exact h1
 ·repeat rw[AA _ _ _ _ zo]
  exact h10
 ·repeat rw[AA _ _ _ _ zo]
  exact h12
 ·rw[AA _ _ _ _ zo,AC,<-L4 hi]
 ·repeat rw[AA _ _ _ _ zo]
  exact h15
 ·repeat rw[AA _ _ _ _ zo]
  exact hq
 ·rw[AC]
abbrev eNb(q:Nat):List (Nat×Bool×Fs):=[(2,true,.ptr 1 0),(3,true,.int .i64 0),(4,true,.ptr 10 0),(5,true,.ptr 12 0),(6,true,.ptr 15 0),(41,true,clG q)]
structure NbB(g:xk)(l' q id:Nat)(c:Nat)(i:Nat)(H:AB)(m:Nat):Prop where
 fr:AU H m
 lq:id<q
 l20:20<=id
 lm:q+2<m
 h1:AD H 1=some (.box [.ref id 1 0 g.cells.length g.cells.length])
 h10:AD H 10=some (.box QK)\/AD H 10=some (.arr 2 Nu)
 h12:AD H 12=some (.box [.int .i64 (Cw g.sh:Nat)])
 h14:AD H 14=some (.map (HK (AW g.sh g.w g.cells) 0) c)
 h15:AD H 15=some (.box [.mp 14])
 hq:AD H q=some (.box (AK g.sh g.w g.h g.sB g.cells))
 hL:AD H (q+2)=some (.lp ⟨l',.ready,none,85,eNb q, #[42,43],NA,NC⟩)
 hE:∃E,AD H id=some (.arr 1 E)/\E.length=g.cells.length/\(∀k,i<=k->k<g.cells.length->E[k]?=some (.sl .nil []))/\∀k,k<i->∃a,E[k]?=some a/\Np eI 1 (id+1) H a (HC g.sh (AW g.sh g.w g.cells) (DU g k))
def ST(sh:Int)(S:List A7)(s:A7)(j:Nat):List Int:=(GM.take j).filterMap λd=>Eh S (Ih s d)
theorem iZ(sh:Int)(S:List A7)(s:A7):ST sh S s (Cw sh)=ID sh S s:=by unfold ST ID;rw[SS]
theorem aR(sh:Int)(S:List A7)(s:A7){j:Nat}{d:A7}(h:GM[j]?=some d):ST sh S s (j+1)=ST sh S s j++(Eh S (Ih s d)).toList:=by
 unfold ST;rw[oG,h,List.filterMap_append];congr 1
theorem ib(sh:Int)(S:List A7)(s:A7)(j:Nat):(ST sh S s j).length<=j:=by
 unfold ST;refine pu (List.length_filterMap_le ..) ?_;rw[oJ];omega
theorem ic{sh:Int}(h:AD H 10=some (.box QK)\/AD H 10=some (.arr 2 Nu)):(Ix H 6 2 0 (Cw sh:Nat) (.ptr 10 0)).1=True/\(Ix H 6 2 0 (Cw sh:Nat) (.ptr 10 0)).2=(sA H 10 (.arr 2 Nu),.ref 10 2 0 (Cw sh) 6):=by
 have hm:Cw sh=4\/Cw sh=6:=by unfold Cw;split<;>simp
 rcases h with h|h
 ·rcases hm with e|e<;>rw[e]<;>(simp [Ix,h,grp];rfl)
 ·rcases hm with e|e<;>rw[e]<;>simp [Ix,h,GM,VS h]
theorem XU{l:List α}{x:α}(h:l[i]?=some x):l.set i x=l:=List.ext_getElem? λk=>by
 rw[List.getElem?_set];split
 ·grind
 ·rfl
structure VNb where
 j:Nat
 lv:Fs
 H:AB
 n:Nat
theorem VT{enc:α->Fs}{e:Nat}{qs:List α}(h:Np enc e lo H lv qs):lv.cells=[lv]/\nT lv=True:=by
 rcases h with⟨rfl,-⟩|⟨-,id,rest,rfl,-⟩<;>exact⟨rfl,o7 zt⟩
theorem y_nbB{l' q c:Nat}(G:uK g)(hd:(AW g.sh g.w g.cells).Nodup)(hi:i<g.cells.length){m:Nat}(F:NbB g l' q id c i H m){R:Bool->AB->Nat->Prop}(hR:∀H' m',NbB g l' q id c (i+1) H' m'->R true H' m'):
  Cf prog l' [.int .i64 i,Na (DU g i)] H m R:=by
 obtain⟨fr,lq,l20,lm,h1,h10,h12,h14,h15,hq,hL,E,hE,hEl,hE1,hE2⟩:=F;refine y87_1 hL rfl (AE AG.sE (AF ?_));simp only[eE,eN,seval,TY,Hp,rm,rA,qc,rT,W0 fr,AH];refine⟨_,(AA _ _ _ _ zo).trans hL,rfl,AE AG.sE (AF ?_)⟩;have l9:=B5 g;obtain⟨ti,ub,uh⟩:=BP G.hG;generalize hlp:xq.lp ⟨l',.busy,none,85,eNb q, #[42,43],NA,NC⟩=lpO;generalize hS:AW g.sh g.w g.cells=S at hd h14 hE2 hR l9;generalize hs:DU g i=s at hR;have y1:∀k,(12=m+k)=False:=λk=>oA zo
 obtain⟨s1,s2⟩:=ic (H:=sA (sA H m (.box [.int .i64 s.1,.int .i64 s.2])) (q+2) lpO) (sh:=g.sh) (by
  rw[AA _ _ _ _ zo,AA _ _ _ _ zo];exact h10)
 have z1:(m=12)=False:=oA zo;have z2:(q+2=12)=False:=oA zo;simp only[eE,eN,seval,xE,TW,h12,z1,z2,s1,s2];have hH10:∀x ob,sA (sA (sA H m (.box [.int .i64 s.1,.int .i64 s.2])) (q+2) lpO) 10 ob x=AD (sA (sA (sA H m (.box [.int .i64 s.1,.int .i64 s.2])) (q+2) lpO) 10 ob) x:=λ_ _=>rfl
 have mk:Cw g.sh<=6:=by unfold Cw;split<;>omega
 have hsr: -16<=s.1/\s.1<=16/\ -16<=s.2/\s.2<=16:=by
  have gi:It g (i:Int):=⟨zo,by rw[oH];exact hi⟩;obtain⟨k,hk,-,hg,hp,w1,w2,x1,x2,y1',y2',ey,hss⟩:=G.at gi;obtain rfl:k=i:=zo
  subst hs;unfold DU DC;split<;>simp only[]<;>omega
 generalize hHb:sA (sA (sA H m (.box [.int .i64 s.1,.int .i64 s.2])) (q+2) lpO) 10 (.arr 2 Nu)=Hb;have b10:AD Hb 10=some (.arr 2 Nu):=by subst hHb;exact AC ..
 have bm:AD Hb m=some (.box [.int .i64 s.1,.int .i64 s.2]):=by grind [AA,AC]
 have bL:AD Hb (q+2)=some lpO:=by
  subst hHb;rw[AA _ _ _ _ zo,AC]
 have bo:∀x,x≠m->x≠q+2->x≠10->AD Hb x=AD H x:=λx n1 n2 n3=>by
  subst hHb;rw[AA _ _ _ _ (Ne.symm n3),AA _ _ _ _ (Ne.symm n2),AA _ _ _ _ (Ne.symm n1)]
 have bf:AU Hb (m+2):=λx hx=>by rw[bo x zo zo zo];exact fr x zo
 clear hHb hH10 s1 s2 h10;refine AQ (λv:VNb=>⟨[(2,true,.ptr 1 0),(6,true,.ptr 15 0),(9,true,.int .i64 i),(10,true,.ptr m 0),(45,true,.ref 10 2 0 (Cw g.sh) 6),(46,true,.int .i64 (Cw g.sh:Nat)),(47,true,.int .i64 v.j)],v.H,v.n⟩)
  (λv=>v.j<=Cw g.sh/\m+2<=v.n/\AU v.H v.n/\(∀x,x≠id->x<m+2->AD v.H x=AD Hb x)/\AD v.H id=some (.arr 1 (E.set i v.lv))/\Np eI 1 (m+2) v.H v.lv (ST g.sh S s v.j)) (λv=>Cw g.sh-v.j)
  ⟨0,.sl .nil [],Hb,m+2⟩ rfl ⟨oq _,od _,bf,λ_ _ _=>rfl,?_,.inl ⟨rfl,rfl⟩⟩ ?_
 ·grind [XU]
 rintro⟨j,lv,H2,n2⟩ ⟨hj,hn2,hf2,uR,hid2,ut⟩;simp only at hj hn2 hf2 uR hid2 ut;have c1:AD H2 1=some (.box [.ref id 1 0 g.cells.length g.cells.length]):=by rw[uR 1 zo zo,bo 1 zo zo zo];exact h1
 have c14:AD H2 14=some (.map (HK S 0) c):=by rw[uR 14 zo zo,bo 14 zo zo zo];exact h14
 have c15:AD H2 15=some (.box [.mp 14]):=by rw[uR 15 zo zo,bo 15 zo zo zo];exact h15
 have mM:AD H2 10=some (.arr 2 Nu):=by rw[uR 10 zo zo];exact b10
 have cm:AD H2 m=some (.box [.int .i64 s.1,.int .i64 s.2]):=by rw[uR m zo zo];exact bm
 have hcl:=VT ut;have hgi:(E.set i lv)[i]?=some lv:=by rw[rQ zo]
 have hil:i<(E.set i lv).length:=by rw[qN];omega
 have hel:(E.set i lv).length=g.cells.length:=by rw[qN];omega
 have v1:∀k,(n2+k=m)=False:=λk=>oA zo
 have v2:∀k,(n2+k=1)=False:=λk=>oA zo
 have v3:∀k,(n2+k=14)=False:=λk=>oA zo
 have v4:∀k,(n2+k=15)=False:=λk=>oA zo
 have v5:∀k,(n2+k=10)=False:=λk=>oA zo
 have v6:∀k,(n2+k=id)=False:=λk=>oA zo
 have th:=ib g.sh S s j;by_cases e9:j<Cw g.sh;case neg=>
  obtain rfl:j=Cw g.sh:=zo
  rw[iZ]at ut th;have hfs:=Tk g.sh hd s;have cL:AD H2 (q+2)=some lpO:=by rw[uR (q+2) zo zo];exact bL
  have fin:∀H3,(∀x,x<m->x≠id->AD H3 x=AD H2 x)->AD H3 id=some (.arr 1 (E.set i lv))->AU H3 n2->Np eI 1 (id+1) H3 lv (HC g.sh S s)->
    ∃x,AD H3 (q+2)=some (.lp x)/\R true (sA H3 (q+2) (.lp {x with st:=.ready,tS:=none})) n2:=by
   intro H3 k1 k2 k3 k4;refine⟨⟨l',.busy,none,85,eNb q, #[42,43],NA,NC⟩,?_,hR _ _ ⟨k3.sA (od _) zo,lq,l20,zo,?_,.inr ?_,?_,?_,?_,?_,AC ..,E.set i lv,?_,hel,λk h1 h2=>?_,λk h1=>?_⟩⟩
   ·rw[k1 (q+2) zo zo,cL,hlp]
   ·grind [AA]
   ·grind [AA]
   ·grind [AA]
   ·grind [AA]
   ·grind [AA]
   ·grind [AA]
   ·rw[AA _ _ _ _ zo];exact k2
   ·rw[List.getElem?_set_ne zo];exact hE1 k zo h2
   ·by_cases e:k=i
    ·subst e;refine⟨lv,hgi,?_⟩;rw[hS,hs];exact k4.keep λx e' l hx ho=>by
      rw[AA _ _ _ _ (λe=>by subst e;rw[k1 (q+2) zo zo,cL,<-hlp]at ho;cases ho)];exact ho
    ·obtain⟨a,ha,hla⟩:=hE2 k zo;refine⟨a,by rw[List.getElem?_set_ne (λe'=>e e'.symm)];exact ha,?_⟩;rw[hS];rcases hla with h|⟨z1,z,rest,z2,z3,z4⟩
     ·exact .inl h
     ·have zm:=fr.lt z4;refine .inr ⟨z1,z,rest,z2,z3,?_⟩;have zq:z≠q+2:=λe=>by subst e;rw[hL]at z4;cases z4
      rw[AA _ _ _ _ (Ne.symm zq),k1 z zo zo,uR z zo zo,bo z zo zq (λe=>zo)];exact z4
  simp only[eZ,seval,eY,Ah e9,c1,hid2,hel,AT hi,hi,hgi,hcl.1];rcases ut with⟨rfl,hq0⟩|⟨sZ,z,rest,rfl,hz,hz2⟩
  ·refine QC.mono ?_;rintro o H3 n3 ⟨rfl,rfl,rfl⟩;simp only[eE,eN,BG];refine fin _ (λ_ _ _=>rfl) hid2 hf2 (.inl ⟨rfl,?_⟩);rw[<-hfs,hq0,List.mergeSort_nil]
  ·refine(P8 hz2 zw zo).mono ?_;rintro o H3 n3 ⟨rfl,rfl,rfl⟩;rw[rU,List.drop_left];simp only[eE,eN,BG];have hsl:(HC g.sh S s).length=(ID g.sh S s).length:=by rw[<-hfs,E4]
   refine fin _ (λx h1 h2=>AA _ _ _ _ zo) (by rw[AA _ _ _ _ zo];exact hid2) (hf2.sA (od _) (hf2.lt hz2)) (.inr ⟨?_,z,rest,by rw[hsl],zo,by rw[AC,hfs]⟩);intro e;rw[e]at hsl;exact sZ (pt hsl.symm)
 have hj6:j<GM.length:=by
  have:GM.length=6:=rfl
  omega
 obtain⟨d,hgd⟩:∃d,GM[j]?=some d:=⟨_,o8 hj6⟩;have hdr: -1<=d.1/\d.1<=1/\ -1<=d.2/\d.2<=1:=by
  have hm:=qZ hgd;simp only[GM,ph,qV,or_false]at hm;rcases hm with rfl|rfl|rfl|rfl|rfl|rfl<;>decide
 have w1:IntKind.wrap .i64 (s.1+d.1)=s.1+d.1:=An zo zo;have w2:IntKind.wrap .i64 (s.2+d.2)=s.2+d.2:=An zo zo;have e:=AI (k:=j) zo;have hfind:BZ (.agg [.int .i64 (s.1+d.1),.int .i64 (s.2+d.2)]) (HK S 0)=(Eh S (Ih s d)).map λn=>.int .i64 n:=L3 S (Ih s d)
 have hkt:(KT.arr 2 IntKind.i64).is (.agg [.int .i64 (s.1+d.1),.int .i64 (s.2+d.2)])=True:=o7 ⟨rfl,rfl,zt⟩;have hsu:=aR g.sh S s hgd;cases hix:Eh S (Ih s d)with
 |none=>
  rw[hix]at hfind hsu;rw[Option.toList_none,oR]at hsu;simp only[eZ,seval,xE,eY,AT e9,mM,hj6,hgd,Bx hf2,c15,cm,v1,v3,v4,w1,w2,c14,hkt,PB,hfind,Cm,e,AH,XT];refine .mk ⟨j+1,lv,sA H2 (n2+2) (.box [.int .i64 d.1,.int .i64 d.2]),n2+4⟩ rfl ⟨e9,zp,hf2.sA (m:=n2+4) zo zo,λx h1 h2=>?_,?_,?_⟩ zp
  ·simp only[];rw[AA _ _ _ _ zo];exact uR x h1 h2
  ·simp only[];rw[AA _ _ _ _ zo];exact hid2
  ·simp only[hsu];exact ut.keep λx e' l hx ho=>by rw[AA _ _ _ _ (λe=>by subst e;rw[hf2 _ zo]at ho;cases ho)];exact ho
 |some b=>
 rw[hix]at hfind hsu;rw[rN]at hsu;have tp:(id<n2+4)=True:=o7 zo;simp only[eZ,eX,seval,xE,eY,AT e9,mM,hj6,hgd,Bx hf2,c15,cm,v1,v2,v3,v4,v6,w1,w2,c14,hkt,PB,hfind,Cm,AH,XT,c1,hid2,AT hi,hil,hgi,hcl.1,tp];have hlv2:Np eI 1 (m+2) (sA H2 (n2+2) (.box [.int .i64 d.1,.int .i64 d.2])) lv (ST g.sh S s j):=ut.keep λx e' l hx ho=>by rw[AA _ _ _ _ (λe=>by subst e;rw[hf2 _ zo]at ho;cases ho)];exact ho
 have hid3:AD (sA H2 (n2+2) (.box [.int .i64 d.1,.int .i64 d.2])) id=some (.arr 1 (E.set i lv)):=by rw[AA _ _ _ _ zo];exact hid2
 have hf3:AU (sA H2 (n2+2) (.box [.int .i64 d.1,.int .i64 d.2])) (n2+4):=hf2.sA zo zo;have hk3:∀x,x≠id->x<m+2->AD (sA H2 (n2+2) (.box [.int .i64 d.1,.int .i64 d.2])) x=AD Hb x:=λx h1 h2=>by rw[AA _ _ _ _ zo];exact uR x h1 h2
 generalize sA H2 (n2+2) (.box [.int .i64 d.1,.int .i64 d.2])=H3 at hlv2 hid3 hf3 hk3;refine Ly (enc:=eI) (lo:=m+2) (qs:=ST g.sh S s j) (z0:=0) hlv2 rfl zd rfl rfl (AY zo zd) (hf3 _ zo) zo zo ?_;intro z rest hz hzm;have hzl:z<n2+13:=by
  rcases hzm with rfl|⟨Z,h⟩
  ·omega
  ·have:=hf3.lt h;omega
 have u1:(z=id)=False:=oA zo;simp only[eZ,seval,eY,IV,G9,hid3,u1,AT hi,hi,hgi,hel,List.set_set,e];refine .mk ⟨j+1,.ref z 1 0 (ST g.sh S s j++[b]).length ((ST g.sh S s j++[b]).length+rest.length),sA (sA H3 z (.arr 1 (((ST g.sh S s j++[b])++rest).map eI))) id (.arr 1 (E.set i (.ref z 1 0 (ST g.sh S s j++[b]).length ((ST g.sh S s j++[b]).length+rest.length)))),n2+15⟩ rfl ⟨e9,zp,?_,λx h1 h2=>?_,?_,?_⟩ zp
 ·exact(hf3.sA (m:=n2+15) zo zo).sA (od _) (show id<n2+15 by omega)
 ·simp only[];rw[AA _ _ _ _ zo,AA _ _ _ _ zo];exact hk3 x h1 h2
 ·simp only[];rw[AC]
 ·simp only[hsu];exact .inr ⟨zw,z,rest,rfl,hz,by rw[AA _ _ _ _ zo,AC]⟩
def NbR(g:xk):xx->AB->Nat->Prop:=λo H _=>
 (F6 g.sh g.w g.h g.sB g.cells=false/\o= .ret (.sH [.sl .nil [],.int .i64 130]))\/
 (F6 g.sh g.w g.h g.sB g.cells=true/\∃id E,o= .ret (.sH [.ref id 1 0 g.cells.length g.cells.length,.int .i64 0])/\AD H id=some (.arr 1 E)/\E.length=g.cells.length/\
  ∀k,k<g.cells.length->∃a,E[k]?=some a/\Np eI 1 (id+1) H a (HC g.sh (AW g.sh g.w g.cells) (DU g k)))
def Tnb:Bk:=AJ 151 (s1 DD (λg=>sR g.sB/\sR g.cells) JC) sE
theorem ig:AG prog Tnb:=AG.sE.add (q1 λg h=>p151 g.sh g.w g.h g.sB g.cells h.1 h.2)
theorem t_nb(g:xk)(hh:sR g.sB)(hc:sR g.cells):AO prog 87 [B9 g] Ac 0 (NbR g):=by
 refine a87 (AE ig (AF ?_));have f1:DD.ok (.agg (AK g.sh g.w g.h g.sB g.cells))=True:=D0 g;have f2:DD.dec (.agg (AK g.sh g.w g.h g.sB g.cells))=g:=Ct g;simp only[AK]at f1 f2;cases sn:F6 g.sh g.w g.h g.sB g.cells with
 |false=>
  have hck:JC g= .int .i64 130:=by unfold JC;rw[sn];rfl
  simp only[eZ,seval,oh,Au,c87,AK,Tnb,s1,f1,f2,o7 hh,o7 hc,hck,AJ];exact .inl ⟨sn,rfl⟩
 |true=>
 have hck:JC g= .int .i64 0:=by unfold JC;rw[sn];rfl
 have hG:Aq g.sh g.w g.h g.sB=some g.cells:=pg sn;have G:uK g:=⟨hG,hh⟩;obtain⟨ti,ub,uh⟩:=BP hG;have hw:1<=g.w:=by
  unfold Aq at hG;split at hG
  ·rename_i q;exact q.2.1
  ·cases hG
 have hd:(AW g.sh g.w g.cells).Nodup:=LS hw ti λp hp=>(uh p hp).1
 have h4:g.sh=1->(4:Int)=((Cw g.sh:Nat):Int):=λe=>by unfold Cw;rw[oE e];rfl
 have h6:g.sh≠1->(6:Int)=((Cw g.sh:Nat):Int):=λe=>by unfold Cw;rw[og e];rfl
 rcases Classical.em (g.sh=1)with uJ|uJ
 case' inl=>
  simp only[eZ,seval,o9,xE,c87,AK,Tnb,s1,f1,f2,o7 hh,o7 hc,hck,BL uJ,AH,AJ];rw[h4 uJ]
 case' inr=>
  simp only[eZ,seval,o9,xE,c87,AK,Tnb,s1,f1,f2,o7 hh,o7 hc,hck,A5 uJ,AH,AJ];rw[h6 uJ]
 all_goals
  generalize hH0:sA _ 15 (xq.box [Fs.mp 14])=H0;have a0:AD H0 0=some (.box (AK g.sh g.w g.h g.sB g.cells)):=by rw[<-hH0];rfl
  have a1:AD H0 1=some (.box [.sl .nil []]):=by rw[<-hH0];rfl
  have a10:AD H0 10=some (.box QK):=by rw[<-hH0];rfl
  have a12:AD H0 12=some (.box [.int .i64 (Cw g.sh:Nat)]):=by rw[<-hH0];rfl
  have a14:AD H0 14=some (.map [] 0):=by rw[<-hH0];rfl
  have a15:AD H0 15=some (.box [.mp 14]):=by rw[<-hH0];rfl
  have af:AU H0 17:=by
   rw[<-hH0];repeat' (first|exact AU.nil|refine AU.sA ?_ (od _) zd)
  clear hH0;refine(L6 af).mono ?_;rintro o H1 n1 ⟨rfl,rfl,rfl⟩;simp only[eE,eN,seval,BG,Gc];intro l';refine(L2 g G (J:=NbA g l') (λi H n F=>F.hq) (λi H n hi F R hR=>y_nbA hd hi F hR) ?_).mono ?_
  ·refine⟨?_,zd,?_,?_,?_,?_,?_,?_,?_,?_⟩
   ·exact(af.sA (m:=20) zd zd).sA (od _) zd
   all_goals first|(rw[AA _ _ _ _ zd,AA _ _ _ _ zd];assumption)|(rw[AA _ _ _ _ zd,AC])|(rw[AC])
  rintro o H2 n2 ⟨rfl,F⟩;have Ffr:=F.fr;have Flm:=F.lm;have F0:=F.h0;have F1:=F.h1;have F10:=F.h10;have F12:=F.h12;have F14:=F.h14;have F15:=F.h15;have FL:=F.hL;rw[oY (by rw[B5];exact od _)]at F14;simp only[AK]at F0;have u1:(n2=1)=False:=oA zo;have u2:∀k,(n2+k=1)=False:=λk=>oA zo
  have u3:∀k,(n2+k=0)=False:=λk=>oA zo
  have u4:∀k,(n2+k=19)=False:=λk=>oA zo
  have w1:small g.cells.length 24=True:=o7 (AY zo zd);have w2:((g.cells.length:Int)<=35184372088832)=True:=o7 zo;have u5:(n2=16)=False:=oA zo;simp only[eE,eN,seval,eY,Hf,FL,F0,Bx Ffr,F1,u2,u3,u5,w1,w2];generalize hH3:sA _ 1 (xq.box [Fs.ref (n2+3) 1 0 g.cells.length g.cells.length])=H3;have d0:AD H3 0=some (.box (AK g.sh g.w g.h g.sB g.cells)):=by
   rw[<-hH3];repeat rw[AA _ _ _ _ zo]
   exact F0
  have d1:AD H3 1=some (.box [.ref (n2+3) 1 0 g.cells.length g.cells.length]):=by rw[<-hH3,AC]
  have d10:AD H3 10=some (.box QK):=by
   rw[<-hH3];repeat rw[AA _ _ _ _ zo]
   exact F10
  have d12:AD H3 12=some (.box [.int .i64 (Cw g.sh:Nat)]):=by
   rw[<-hH3];repeat rw[AA _ _ _ _ zo]
   exact F12
  have d14:AD H3 14=some (.map (HK (AW g.sh g.w g.cells) 0) g.cells.length):=by
   rw[<-hH3];repeat rw[AA _ _ _ _ zo]
   exact F14
  have d15:AD H3 15=some (.box [.mp 14]):=by
   rw[<-hH3];repeat rw[AA _ _ _ _ zo]
   exact F15
  have dE:AD H3 (n2+3)=some (.arr 1 (List.replicate g.cells.length (.sl .nil []))):=by rw[<-hH3,AA _ _ _ _ zo,AC]
  have df:AU H3 (n2+5):=by
   rw[<-hH3];exact(((Ffr.sA (m:=n2+5) zo zo).sA (m:=n2+5) (od _) zo).sA (od _) zo)
  clear hH3;refine(L6 df).mono ?_;rintro o H4 n4 ⟨rfl,rfl,rfl⟩;simp only[eE,eN,seval,BG,Gc];intro l2;refine(L2 g G (J:=NbB g l2 (n2+5) (n2+3) g.cells.length) (λi H n F=>F.hq) (λi H n hi F R hR=>y_nbB G hd hi F hR) ?_).mono ?_
  ·refine⟨(df.sA (m:=n2+8) zo zo).sA (m:=n2+8) (od _) zo,zo,zo,zo,?_,.inl ?_,?_,?_,?_,?_,AC ..,List.replicate g.cells.length (.sl .nil []),?_,pf,λk _ hk=>?_,λk hk=>absurd hk (pD _)⟩
   ·repeat rw[AA _ _ _ _ zo]
    exact d1
   ·repeat rw[AA _ _ _ _ zo]
    exact d10
   ·repeat rw[AA _ _ _ _ zo]
    exact d12
   ·repeat rw[AA _ _ _ _ zo]
    exact d14
   ·repeat rw[AA _ _ _ _ zo]
    exact d15
   ·rw[AA _ _ _ _ zo,AC]
   ·repeat rw[AA _ _ _ _ zo]
    exact dE
   ·rw[List.getElem?_replicate,oE hk]
  rintro o H5 n5 ⟨rfl,K⟩;obtain⟨kfr,klq,kl2,klm,k1,k10,k12,k14,k15,kq,kL,E,kE,kEl,-,kE2⟩:=K;have e1:(n2+5+2=1)=False:=oA zo;have e2:(n2+7=1)=False:=oA zo;simp only[eE,eN,seval,Au,Hf,kL,k1,e1];refine .inr ⟨sn,n2+3,E,rfl,?_,kEl,λk hk=>?_⟩
  ·repeat rw[AA _ _ _ _ zo]
   exact kE
  ·obtain⟨a,ha,hla⟩:=kE2 k hk;refine⟨a,ha,hla.keep λx e' l hx ho=>?_⟩;have x1:x≠n2+7:=λe=>by subst e;rw[kL]at ho;cases ho
   rw[AA _ _ _ _ zo,AA _ _ _ _ (Ne.symm x1)];exact ho
def fJ:Fs->Option Nat
 | .ref i _ _ _ _=>some i
 |_=>none
theorem aS{cap:Nat}{E rest:List Fs}(ho:AD H id=some (.frz 1 (E++rest)))(hc:E.length<=cap){g:z8}{w:World}{x:Value}(hR:x6 g H n w)(hv:AP g (.ref id 1 0 E.length cap) x):AP g (.sl (.none 1) E) x:=by
 obtain⟨L,h1,h2,rfl⟩:=hv;obtain⟨L',j1,j2,j3⟩:=hR.obj id _ ho;rw[h1]at j1;cases j1;refine .inr ⟨zt,L.sO,0,cap,⟨none,zw,.inl rfl⟩,hc,?_,zt⟩;have:=sK.take E.length _ _ j3;rw[rU]at this;exact this
theorem XV{cap:Nat}{E rest:List Fs}{xs:List (List Int)}(ho:AD H id=some (.frz 1 (E++rest)))(hc:E.length<=cap)(hl:E.length=xs.length)(he:∀(k:Nat) a x,E[k]?=some a->xs[k]?=some x->LF 1 a H (x.map eI)){g:z8}{w:World}{y:Value}(hR:x6 g H n w)(hv:AP g (.ref id 1 0 E.length cap) y):AP g (Bm xs) y:=by
 have h1:=aS ho hc hR hv;rcases h1 with⟨q1,rfl,q3⟩|⟨-,b,o,cap,hv,hc,sY,-⟩
 ·refine .inl ⟨?_,rfl,zt⟩;have:xs=[]:=pt (by rw[<-hl,q1];rfl);rw[this];rfl
 ·refine .inr ⟨zt,b,o,cap,?_,by rw[o6,<-hl];exact hc,?_,zt⟩
  ·grind
  ·refine sK.conv (by rw[o6];exact hl) (λk a b ha hb x hx=>?_) sY;rw[oO,pY]at hb;obtain⟨z,hz,rfl⟩:=hb;exact Kq (he k a z ha hz) hR hx
theorem Np.seal{qs:List Int}{ids:List Nat}(h:Np eI 1 lo H lv qs)(hi:∀z,fJ lv=some z->z∈ids):LF 1 lv (VQ ids H) (qs.map eI):=by
 rcases h with⟨rfl,rfl⟩|⟨sZ,z,rest,rfl,-,h4⟩
 ·exact .inl ⟨rfl,_,rfl,.inl rfl⟩
 ·refine .inr ⟨by simpa using sZ,z,_,rest.map eI,by rw[o6],?_,zw⟩;rw[L5,oE (hi z rfl),h4,oD];rfl
def NbS(g:xk):xx->AB->Nat->Prop:=λo H _=>
 (F6 g.sh g.w g.h g.sB g.cells=false/\o= .ret (.sH [.sl .nil [],.int .i64 130]))\/
 (F6 g.sh g.w g.h g.sB g.cells=true/\∃id E,o= .ret (.sH [.ref id 1 0 g.cells.length g.cells.length,.int .i64 0])/\AD H id=some (.frz 1 E)/\E.length=g.cells.length/\
  ∀k,k<g.cells.length->∃a,E[k]?=some a/\LF 1 a H ((HC g.sh (AW g.sh g.w g.cells) (DU g k)).map eI))
theorem p87(g:xk)(hh:sR g.sB)(hc:sR g.cells):A6 prog 87 [B9 g] (Kz g):=by
 refine⟨⟨BF 0 ..,zt⟩,by unfold Kz;split<;>exact⟨A0 0 _,zt,zt⟩,AO.out (AO.sealN (g.cells.length+1) (t_nb g hh hc) (R':=NbS g) ?_) ?_⟩
 ·rintro o H n (h|⟨hg,id,E,ho,hE,hl,hk⟩)
  ·exact⟨[],oq _,.inl h⟩
  ·refine⟨id::E.filterMap fJ,?_,.inr ⟨hg,id,E,ho,?_,hl,λk hk'=>?_⟩⟩
   ·grind
   ·rw[L5,oE (po ..),hE];rfl
   ·obtain⟨a,ha,hla⟩:=hk k hk';exact⟨a,ha,hla.seal λz hz=>pE _ (List.mem_filterMap.2 ⟨a,qZ ha,hz⟩)⟩
 ·rintro o H n (⟨hg,rfl⟩|⟨hg,id,E,rfl,hE,hl,hk⟩)
  ·refine⟨_,⟨_,rfl,?_⟩,λg w e hR he=>he⟩;unfold Kz;rw[hg];exact Wk.sH (.cons (Wk.sl (.inr rfl)) (.cons (Wk.refl _) .nil))
  ·refine⟨.ret (Kz g),⟨_,rfl,Wk.refl _⟩,λgh w e hR he=>?_⟩;cases e with
   |panicked c=>exact he.elim
   |outgrown=>exact he.elim
   |returned x=>
    have hv:Kz g= .sH [Bm (Ed g.sh (AW g.sh g.w g.cells)),.int .i64 0]:=by unfold Kz;rw[hg];rfl
    rw[hv];obtain⟨vs,rfl,y,r,e1,k1,k2⟩:=he;refine⟨vs,rfl,y,r,e1,?_,k2⟩;rw[<-hl]at k1;refine XV (rest:=[]) (by rw[oR];exact hE) (od _) (by rw[hl,Ed,o6,B5]) (λk a z ha hz=>?_) hR k1;have hkl:k<g.cells.length:=by rw[<-hl];exact(pK.1 ha).1
    obtain⟨a',ha',hla⟩:=hk k hkl;rw[ha]at ha';obtain rfl:=Option.some.inj ha';rw[Ed,oO,Ds hkl,pr]at hz;rw[<-Option.some.inj hz];exact hla
end
section
abbrev clM(q:Nat):Fs:=.fn (.func 239) [] [.ptr q 0]
abbrev ij(q c:Nat):List (Nat×Bool×Fs):=[(2,true,.ptr c 0),(4,true,.sl .nil []),(6,true,clM q)]
structure ApM(q c L l':Nat)(H0:AB)(n0:Nat)(qs:List Int)(H:AB)(m:Nat):Prop where
 fr:AU H m
 lc:n0<=c
 cl:c<L
 lm:L<m
 hc:∃lv,AD H c=some (.box [lv])/\Np eI 1 (L+1) H lv qs
 hL:AD H L=some (.lp ⟨l',.ready,none,13,ij q c, #[7],GF,GG⟩)
 kp:∀id ob,id<n0->AD H0 id=some ob->AD H id=some ob
variable {H:AB} {q tV n mp:Nat}
theorem y_apM{c L l':Nat}{H0:AB}{n0:Nat}{qs:List Int}{m:Nat}(F:ApM q c L l' H0 n0 qs H m)(x:Int)(hs:qs.length<1000000000){R:Bool->AB->Nat->Prop}
  (hR:∀H' m',ApM q c L l' H0 n0 (qs++[x]) H' m'->(∀j ob,j<m->j≠c->j≠L->(∀e Z,ob≠ .arr e Z)->AD H j=some ob->AD H' j=some ob)->m<=m'->R true H' m'):Cf prog l' [eI x] H m R:=by
 obtain⟨fr,lc,cl,lm,⟨lv,hc,ut⟩,hL,kp⟩:=F;refine ZF hL rfl (AE AG.sE (AF ?_));simp only[eE,eN,seval,Lx,Hp,rm,rA,qc,rT];refine⟨_,hL,rfl,AE AG.sE (AF ?_)⟩;have y1:∀k,(L=m+k)=False:=λk=>oA zo
 have y2:(L=c)=False:=oA zo;have y3:(c=L)=False:=oA zo;simp only[eE,seval,Lw,hc,y2];have g1:∀k,AD (sA H L (.lp ⟨l',.busy,none,13,ij q c, #[7],GF,GG⟩)) (m+k)=none:=λk=>by rw[AA _ _ _ _ zo];exact Bx fr k
 refine Ly (enc:=eI) (lo:=L+1) (qs:=qs) (z0:=0) ?_ rfl zd rfl rfl (AY zo zd) (g1 3) zo zo ?_
 ·rcases ut with h|⟨sZ,id,rest,h1,h2,h3⟩
  ·exact .inl h
  ·exact .inr ⟨sZ,id,rest,h1,h2,by rw[AA _ _ _ _ zo];exact h3⟩
 intro id rest vf s5;have hidm:id<m+5:=by
  rcases s5 with rfl|⟨Z,h⟩
  ·omega
  ·apply Classical.byContradiction;intro z;obtain⟨k,rfl⟩:∃k,id=m+k:=⟨id-m,zo⟩;rw[g1]at h;cases h
 have hida:∀j ob,j<m->j≠L->(∀e Z,ob≠ .arr e Z)->AD H j=some ob->j≠id:=by grind [AA]
 have z1:(id=L)=False:=oA zo;have z2:(id=c)=False:=oA zo;have z3:(L=id)=False:=oA zo;have z4:(c=id)=False:=oA zo;have hidn:¬id<n0:=zo
 simp only[eE,eN,seval,Dy,z2,y2,hc];refine⟨⟨l',.busy,none,13,ij q c, #[7],GF,GG⟩,by simp only[AN,y3,z1,pb,pG],hR _ _ ⟨?_,lc,cl,zp,⟨_,by simp only[AN,y2,pb,pG],.inr ⟨zw,id,rest,rfl,vf,by simp only[AN,z3,z4,pb,pG]⟩⟩,by simp only[AN,pG],?_⟩ ?_ (py _ _)⟩
 ·intro j hj;have ul:m+5<=j:=hj;simp only[AN];repeat rw[og zo]
  exact fr j zo
 ·intro j ob hj h0;simp only[AN];repeat rw[og zo]
  exact kp j ob hj h0
 ·intro j ob hj hjc hjL hob h0;have:=hida j ob hj hjL hob h0;simp only[AN];repeat rw[og zo]
  exact h0
theorem ApM.it{c L l':Nat}{H0:AB}{n0:Nat}{qs:List Int}{m it:Nat}{ob ob':xq}(F:ApM q c L l' H0 n0 qs H m)(h1:n0<=it)(h2:it≠c)(h3:it≠L)(h4:it<m)(h5:AD H it=some ob)(h6:∀e Z,ob≠ .arr e Z):ApM q c L l' H0 n0 qs (sA H it ob') m:=by
 obtain⟨fr,lc,cl,lm,⟨lv,hc,ut⟩,hL,kp⟩:=F;refine⟨fr.sA (od _) h4,lc,cl,lm,⟨lv,by rw[AA _ _ _ _ h2];exact hc,?_⟩,by rw[AA _ _ _ _ h3];exact hL,λj o hj h0=>by rw[AA _ _ _ _ zo];exact kp j o hj h0⟩;rcases ut with h|⟨sZ,id,rest,k1,k2,k3⟩
 ·exact .inl h
 ·exact .inr ⟨sZ,id,rest,k1,k2,by rw[AA _ _ _ _ (λe=>by subst e;rw[h5]at k3;cases k3;exact h6 _ _ rfl)];exact k3⟩
theorem Nv{α:Type}[DecidableEq α]:∀{a b:List α},a.Nodup->(∀x∈a,x∈b)->a.length<=b.length
 |[],_,_,_=>oq _
 |x::a,b,hn,h=>by
  rw[qO]at hn;have hx:=h x (po ..);have:=Nv (b:=b.erase x) hn.2 λy hy=>(List.mem_erase_of_ne (λe=>hn.1 (by rw[<-e];exact hy))).2 (h y (pE _ hy))
  rw[List.length_erase_of_mem hx]at this;have:=List.length_pos_of_mem hx;simp only[oI];omega
abbrev NU:=Fs×Fs×Nat
structure EsOK(es:List NU)(tV:Nat):Prop where
 key:∀e∈es,e.1=eI (BV e.1)
 nd:(es.map (·.2.2)).Nodup
 lt:∀e∈es,e.2.2<tV
def J3(es:List NU):List Int:=es.map λe=>BV e.1
def L7(es:List NU)(b:Nat):Int:=match es.find? (λe=>decide (e.2.2=b))with
 |some e=>BV e.1
 |none=>0
theorem VV{es:List NU}(hn:(es.map (·.2.2)).Nodup){e:NU}(he:e∈es):es.find? (λx=>decide (x.2.2=e.2.2))=some e:=by
 induction es with
 |nil=>cases he
 |cons x r ih=>grind
theorem VW{es:List NU}(hn:(es.map (·.2.2)).Nodup){e:NU}(he:e∈es):MV e.2.2 es=some (e.1,e.2.1):=by
 induction es with
 |nil=>cases he
 |cons x r ih=>
  obtain⟨k,v,b⟩:=x;rw[oL,qO]at hn;rw[MV];rcases ph.1 he with rfl|he
  ·rw[oE rfl]
  ·grind
theorem Nw{es:List NU}(h:EsOK es tV){e:NU}(he:e∈es):e.1=eI (L7 es e.2.2):=by
 unfold L7;rw[VV h.nd he];exact h.key e he
theorem VX{es:List NU}(h:EsOK es tV){seen:List Nat}(hn:seen.Nodup)(hs:∀b∈seen,b∈es.map (·.2.2))(hd:C9 es seen=[]):(seen.map (L7 es)).Perm (J3 es):=by
 have h1:seen.Perm (es.map (·.2.2)):=(ry hn h.nd).2 λb=>⟨hs b,λhb=>by
  obtain⟨e,he,rfl⟩:=pz.1 hb;apply Classical.byContradiction;intro hns;have:e∈C9 es seen:=qn.2 ⟨he,by simpa using hns⟩;rw[hd]at this;cases this⟩
 refine(h1.map (L7 es)).trans ?_;rw[pO];have:es.map (L7 es∘λx=>x.2.2)=J3 es:=pC λe he=>by
  have:=Nw h he;simp only[Function.comp];rw[this];rfl
 rw[this]
theorem XW{es:List NU}{seen:List Nat}{e:NU}(h:e∈C9 es seen):(C9 es (seen++[e.2.2])).length<(C9 es seen).length:=by
 have e1:C9 es (seen++[e.2.2])=(C9 es seen).filter λx=>decide (x.2.2≠e.2.2):=by grind [C9,List.filter_filter]
 rw[e1,List.length_filter_lt_length_iff_exists];exact⟨e,h,zw⟩
structure VKm where
 seen:List Nat
 H:AB
 n:Nat
structure IKm(es:List NU)(tV q n mp l':Nat)(H:AB)(v:VKm):Prop where
 F:ApM q n (n+2) l' H n (v.seen.map (L7 es)) v.H v.n
 it:AD v.H (n+4)=some (.mit mp tV v.seen tV)
 lt:n+4<v.n
 nd:v.seen.Nodup
 rg:∀b∈v.seen,b∈es.map (·.2.2)
theorem t_apM{es:List NU}(ho:EsOK es tV)(hl:es.length<1000000)(hf:AU H n)(hq:AD H q=some (.box [.mp mp]))(hm:AD H mp=some (.map es tV)):
  AO prog 253 [.sl .nil [],clM q] H n λo H' n'=>∃lv qs,o= .ret lv/\qs.Perm (J3 es)/\Np eI 1 (n+3) H' lv qs/\AU H' n'/\n<=n'/\∀id ob,id<n->AD H id=some ob->AD H' id=some ob:=by
 have hqn:=hf.lt hq;have hmn:=hf.lt hm;refine a253 (AE AG.sE (AF ?_));simp only[eE,eN,seval,ly,W0 hf,Gc];intro l';generalize hH1:sA (sA H n (.box [.sl .nil []])) (n+2) _=H1;have F0:ApM q n (n+2) l' H n [] H1 (n+3):=by
  subst hH1;refine⟨λj hj=>?_,od _,zo,zo,⟨.sl .nil [],?_,.inl ⟨rfl,rfl⟩⟩,AC ..,λj ob hj h0=>?_⟩
  ·simp only[AN];repeat rw[og zo]
   exact hf j zo
  ·simp only[AN];rw[og zo,oE zt]
  ·simp only[AN];repeat rw[og zo]
   exact h0
 have hc0:AD H1 n=some (.box [.sl .nil []]):=by
  subst hH1;simp only[AN];rw[og zo,oE zt]
 clear hH1;have hq1:=F0.kp q _ hqn hq;have hm1:=F0.kp mp _ hmn hm;have hfn:=Bx F0.fr;refine c239.a (AE AG.sE (AF ?_));simp only[eE,eN,seval,xE,c239,hq1,hm1];refine⟨hfn 1,?_⟩;refine AQ (λv:VKm=>⟨[(0,true,.fn (.yield l') [] []),(5,true,.ptr (n+4) 0)],v.H,v.n⟩) (IKm es tV q n mp l' H) (λv=>(C9 es v.seen).length) ⟨[],sA H1 (n+4) (.mit mp tV [] tV),n+5⟩ rfl
  ⟨⟨F0.fr.sA (m:=n+5) zo zo,od _,zo,zp,⟨.sl .nil [],by rw[AA _ _ _ _ zo];exact hc0,.inl ⟨rfl,rfl⟩⟩,by rw[AA _ _ _ _ zo];exact F0.hL,λj o hj h0=>by rw[AA _ _ _ _ zo];exact F0.kp j o hj h0⟩,AC ..,zp,List.nodup_nil,λb hb=>(by cases hb)⟩ ?_
 rintro⟨seen,H2,m⟩ ⟨F,hit,e9,sg,hrg⟩;simp only at F hit e9 sg hrg;have hsl:seen.length<=es.length:=by
  have:=Nv sg hrg;simpa using this
 have hm2:=F.kp mp _ hmn hm;have hq2:=F.kp q _ hqn hq;simp only[eE,eC,seval];rw[Ut hit hm2];refine⟨od _,λe he=>ho.lt e he,λAc=>?_,λe he=>?_⟩
 ·have hp:=VX ho sg hrg Ac;obtain⟨fr,lc,cl,lm,⟨lv,hc,ut⟩,hL,kp⟩:=F;have y1:(n+2=n)=False:=oA zo;simp only[eZ,seval,eY,Hf,hL,hc,y1];refine⟨lv,_,rfl,hp,?_,fr.sA (od m) (show n+2<m by omega),zo,λid ob s5 h0=>by rw[og zo];exact kp id ob s5 h0⟩;rcases ut with h|⟨sZ,id,rest,h1,h2,h3⟩
  ·exact .inl h
  ·exact .inr ⟨sZ,id,rest,h1,h2,by rw[AA _ _ _ _ zo];exact h3⟩
 ·obtain⟨he1,he2⟩:=qn.1 he;have b2:=Nw ho he1;have b3:=VW ho.nd he1;have hns:e.2.2∉seen:=by simpa using he2
  have sY:Iw (sA H2 (n+4) (.mit mp tV (seen++[e.2.2]) tV)) mp (seen++[e.2.2])=some (e.1,e.2.1):=by grind [Iw,AA,List.getLast?_concat]
  have y0:(n+4=mp)=False:=oA zo;simp only[eZ,seval,xE,eY,y0,hm2,sY,b2];refine y_apM (F.it zo zo zo e9 hit zw) (L7 es e.2.2) (by rw[o6];omega) λH' m' F' hk hmm=>?_
  simp only[eZ,seval,o9,TO];refine⟨⟨seen++[e.2.2],H',m'⟩,.inr ⟨?_,.inl ⟨rfl,rfl⟩⟩,⟨by simp only[oD,oL,pc];exact F',hk _ _ e9 zo zo zw (AC ..),zp,?_,λb hb=>?_⟩,XW he⟩
  ·exact⟨⟨_,rfl,Wk.refl _⟩,⟨_,rfl,Wk.refl _⟩,zt⟩
  ·grind
  ·grind
theorem aT{es:List NU}(ho:EsOK es tV)(hl:es.length<1000000)(hf:AU H n)(hq:AD H q=some (.box [.mp mp]))(hm:AD H mp=some (.map es tV)):
  AO prog 224 [clM q] H n λo H' n'=>∃lv qs,o= .ret lv/\qs.Perm (J3 es)/\Np eI 1 (n+3) H' lv qs/\AU H' n'/\n<=n'/\∀id ob,id<n->AD H id=some ob->AD H' id=some ob:=by
 refine dg.a (AE AG.sE (AF ?_));simp only[eE,eN,seval,dg];refine(t_apM ho hl hf hq hm).mono ?_;rintro o H' n' ⟨lv,qs,rfl,h1,h2,h3,h4,h5⟩;simp only[eE,eN,seval,BG];exact⟨lv,qs,rfl,h1,h2,h3,h4,h5⟩
theorem VY{a b:List Int}(h:a.Perm b):a.mergeSort Fa=b.mergeSort Fa:=by
 refine List.Perm.eq_of_pairwise (le:=λx y=>x<=y) (λx y _ _ h k=>zo) (Hz a) (Hz b) ?_;exact(qE a Fa).trans (h.trans (qE b Fa).symm)
theorem ik{es:List NU}(ho:EsOK es tV)(hl:es.length<1000000)(hf:AU H n)(hq:AD H q=some (.box [.mp mp]))(hm:AD H mp=some (.map es tV)):
  AO prog 186 [clM q] H n (Wb H (BY ((J3 es).mergeSort Fa))):=by
 have hel:(J3 es).length=es.length:=o6 ..;refine AO.out (AO.seal (R:=SrA (.arr 1) H (J3 es)) (R':=SrA (.frz 1) H (J3 es)) (Wc.a (AE AG.sE (AF ?_))) ?_) ?_
 ·simp only[eE,eN,seval,Wc];refine(aT ho hl hf hq hm).mono ?_;rintro o H1 n1 ⟨lv,qs,rfl,hp,ut,t7,w7,hk⟩;simp only[eE,eN,seval,BG];have hK:Cr H H1:=λid ob h0=>hk id ob (hf.lt h0) h0
  have hql:=hp.length_eq;rcases ut with⟨rfl,rfl⟩|⟨sZ,id,rest,rfl,h2,h3⟩
  ·refine QC.mono ?_;rintro o H2 n2 ⟨rfl,rfl,rfl⟩;simp only[eE,eN,seval,BG];exact⟨hK,.inl ⟨hp.nil_eq.symm,rfl⟩⟩
  ·refine(P8 h3 zw zo).mono ?_;rintro o H2 n2 ⟨rfl,rfl,rfl⟩;rw[rU,List.drop_left];simp only[eE,eN,seval,BG];refine⟨λi ob h0=>?_,.inr ⟨λe=>sZ (pt (by rw[hql,e];rfl)),id,rest,by rw[hql],hf _ zo,by rw[AC,VY hp]⟩⟩;rw[AA _ _ _ _ (λe=>by subst e;rw[hf _ zo]at h0;cases h0)];exact hK i ob h0
 ·rintro o H' n' ⟨hK,h⟩;rcases h with h|⟨sZ,id,rest,h1,h2,h3⟩
  ·exact .inl ⟨hK,.inl h⟩
  ·refine .inr ⟨id,1,_,h3,λi ob h0=>?_,.inr ⟨sZ,id,rest,h1,h2,AC ..⟩⟩;rw[AA _ _ _ _ (λe=>by subst e;rw[h2]at h0;cases h0)];exact hK i ob h0
 ·rintro o H' n' ⟨hK,h⟩;refine⟨.ret (BY ((J3 es).mergeSort Fa)),⟨⟨_,rfl,Wk.refl _⟩,hK⟩,λg w e hR he=>?_⟩;have hL:∃lv,o= .ret lv/\LF 1 lv H' (((J3 es).mergeSort Fa).map eI):=by
   rcases h with⟨h0,rfl⟩|⟨hz,id,rest,rfl,h2,h3⟩
   ·exact⟨_,rfl,.inl ⟨by rw[h0,List.mergeSort_nil];rfl,_,rfl,.inl rfl⟩⟩
   ·refine⟨_,rfl,?_⟩;have hl2:=E4 (J3 es);refine .inr ⟨λq=>hz (by rw[List.map_eq_nil_iff]at q;rw[q]at hl2;exact qb.1 hl2.symm),id,(J3 es).length+rest.length,rest.map eI,by rw[o6,hl2],by rw[h3,oD],by simp [hl2]⟩
  obtain⟨lv,rfl,hL⟩:=hL;cases e with
  |returned v=>exact Kq hL hR he
  |panicked c=>exact he.elim
  |outgrown=>exact he.elim
theorem aU(hf:AU H n):AO prog 198 [.mp mp] H n λo H' n'=>o= .ret (clM n)/\H'=sA H n (.box [.mp mp])/\n'=n+2:=by
 refine c198.a (AE AG.sE (AF ?_));simp only[eE,eN,seval,c198,W0 hf]
end
section
theorem T0:∀{es:List NU},D6 (.int .i64) es->∀e∈es,e.1=eI (BV e.1)
 |[],_,_,h=>by cases h
 |(k,v,b)::r,hf,e,h=>by
  obtain⟨h1,h2⟩:=hf;rcases ph.1 h with rfl|h
  ·cases k<;>simp only[KT.is]at h1;subst h1;rfl
  ·exact T0 h2 e h
theorem Nx{z:Int}{v:Fs}{c:Nat}:∀{es:List NU},D6 (.int .i64) es->J3 (EE (eI z) v c es)=(if(BZ (eI z) es).isSome=true then J3 es else J3 es++[z])/\(EE (eI z) v c es).map (λe=>e.2.2)=if(BZ (eI z) es).isSome=true then es.map (λe=>e.2.2)else es.map (λe=>e.2.2)++[c]
 |[],_=>⟨rfl,rfl⟩
 |(k,w,b)::r,hf=>by
  obtain⟨h1,h2⟩:=hf;have ih:=Nx (z:=z) (v:=v) (c:=c) h2;rw[EE,BZ];by_cases q:HQ (eI z) k=true
  ·rw[oE q,oE q];exact⟨rfl,rfl⟩
  ·rw[og q,og q];refine⟨?_,?_⟩
   ·show BV k::J3 (EE (eI z) v c r)=_;rw[ih.1];split<;>rfl
   ·rw[oL,ih.2];split<;>rfl
theorem Ny{z:Int}:∀{es:List NU},D6 (.int .i64) es->((BZ (eI z) es).isSome=true↔z∈J3 es)
 |[],_=>by simp [BZ,J3]
 |(k,w,b)::r,hf=>by
  obtain⟨h1,h2⟩:=hf;have ih:=Ny (z:=z) h2;cases k<;>simp only[KT.is]at h1;rename_i kk y;subst h1;rw[BZ,show J3 ((Fs.int .i64 y,w,b)::r)=y::J3 r from rfl,ph];by_cases q:z=y
  ·subst q;simp [HQ]
  ·simp only[HQ,q,se,oP,pb,false_or];exact ih
section
variable (g:xk) (fn:A7->Option Int)
def JG(i:Nat)(z:Int):List Int:=CE i λc=>decide (fn (DU g c)=some z)
variable {z:Int} {i:Nat}
theorem XX(h:fn (DU g i)=none)(z:Int):JG g fn (i+1) z=JG g fn i z:=by
 unfold JG;rw[EB,h,og zw]
theorem XY(h:fn (DU g i)=some z):JG g fn (i+1) z=JG g fn i z++[(i:Int)]:=by
 unfold JG;rw[EB,h,oE zw]
theorem il{w:Int}(h:fn (DU g i)=some z)(hw:w≠z):JG g fn (i+1) w=JG g fn i w:=by
 unfold JG;rw[EB,h,og (by simp;exact λe=>hw e.symm)]
theorem aV(i:Nat)(z:Int):(JG g fn i z).length<=i:=Cc ..
theorem T5(z:Int):JG g fn g.cells.length z=CA (AW g.sh g.w g.cells) fn z:=by
 unfold JG CA;rw[B5];refine D4 λc hc=>?_
 rw[Ds hc,rI]
structure LnE(lo i:Nat)(H:AB)(es:List NU)(tV:Nat)(tk:Int->Nat):Prop where
 fit:D6 (.int .i64) es
 ok:EsOK es tV
 fnd:∀z,BZ (eI z) es=if JG g fn i z=[]then none else some (.sl (.own (tk z) 1) ((JG g fn i z).map eI))
 tok:∀z,JG g fn i z≠[]->lo<=tk z/\AD H (tk z)=some .tok
 inj:∀z w,JG g fn i z≠[]->JG g fn i w≠[]->tk z=tk w->z=w
 knd:(J3 es).Nodup
 kmem:∀z,z∈J3 es↔JG g fn i z≠[]
 len:es.length<=i
variable {g fn} {lo i:Nat} {H H':AB} {es:List NU} {tV:Nat} {tk:Int->Nat}
theorem LnE.skip(h:LnE g fn lo i H es tV tk)(hn:fn (DU g i)=none)(hk:∀z,JG g fn i z≠[]->AD H' (tk z)=some .tok):LnE g fn lo (i+1) H' es tV tk:=by
 obtain⟨h1,h2,h3,h4,h5,h6,h7,h8⟩:=h;have e:=XX g fn hn;exact⟨h1,h2,λz=>by rw[e];exact h3 z,λz hz=>by rw[e]at hz;exact⟨(h4 z hz).1,hk z hz⟩,λz w hz hw=>by rw[e]at hz hw;exact h5 z w hz hw,h6,λz=>by rw[e];exact h7 z,zo⟩
theorem LnE.step(h:LnE g fn lo i H es tV tk)(hz:fn (DU g i)=some z){t:Nat}(vf:lo<=t)(ht:AD H t=none)(ht':AD H' t=some .tok)(hk:∀w,JG g fn i w≠[]->w≠z->AD H' (tk w)=some .tok):
  LnE g fn lo (i+1) H' (EE (eI z) (.sl (.own t 1) ((JG g fn i z++[(i:Int)]).map eI)) tV es) (if(BZ (eI z) es).isSome=true then tV else tV+1) (λw=>if w=z then t else tk w):=by
 obtain⟨h1,h2,h3,h4,h5,h6,h7,h8⟩:=h;have hs:=XY g fn hz;have sZ:=λw=>il g fn (w:=w) hz
 have tO:=Kn (y:=z) (v:=.sl (.own t 1) ((JG g fn i z++[(i:Int)]).map eI)) (c:=tV) h1;obtain⟨k1,k2⟩:=Nx (z:=z) (v:=.sl (.own t 1) ((JG g fn i z++[(i:Int)]).map eI)) (c:=tV) h1;have hkey:=Ny (z:=z) h1;generalize s9:EE (eI z) (.sl (.own t 1) ((JG g fn i z++[(i:Int)]).map eI)) tV es=tD at tO k1 k2;have l9:tD.length=if(BZ (eI z) es).isSome=true then es.length else es.length+1:=by grind [List.length_map]
 refine⟨tO,⟨T0 tO,?_,λe he=>?_⟩,λw=>?_,λw hw=>?_,λw w' hw hw'=>?_,?_,λw=>?_,by rw[l9];split<;>omega⟩
 ·rw[k2];split
  ·exact h2.nd
  ·rw[qD];refine⟨h2.nd,zw,λa ha b hb=>?_⟩;rw[pV.1 hb];obtain⟨e,he,rfl⟩:=pz.1 ha;have:=h2.lt e he;omega
 ·have hm:e.2.2∈tD.map (λe=>e.2.2):=pz.2 ⟨e,he,rfl⟩;rw[k2]at hm;split at hm
  ·rename_i q;obtain⟨e',tu,e1⟩:=pz.1 hm;rw[oE q,<-e1];exact h2.lt e' tu
  ·rename_i q;rw[og q];rcases pI.1 hm with hm|hm
   ·obtain⟨e',tu,e1⟩:=pz.1 hm;have:=h2.lt e' tu;omega
   ·rw[pV.1 hm];omega
 ·rw[<-s9,Km h1];by_cases q:w=z
  ·subst q;rw[oE rfl,oE rfl,hs,og zw]
  ·rw[og q,og q,h3 w,sZ w q]
 ·grind
 ·grind
 ·grind
 ·rw[k1];by_cases q:w=z
  ·subst q;rw[hs];split
   ·rename_i p;exact⟨λ_=>zw,λ_=>hkey.1 p⟩
   ·exact⟨λ_=>zw,λ_=>zw⟩
  ·rw[sZ w q,<-h7 w];split
   ·exact Iff.rfl
   ·simp [q]
end
def LU(o:Option Int):Fs:=.sH [.int .i64 (o.getD 0),.bool o.isSome]
def Nb(cap:List Fs)(okH:AB->Prop)(okS:A7->Prop)(fn:A7->Option Int):List Fs->AB->Prop×Fs:=λa H=>match a with
 | .agg [.int .i64 x,.int .i64 y]::c=>(c=cap/\okH H/\okS (x,y),LU (fn (x,y)))
 |_=>(False,.sH [])
variable {H:AB} {f0:FuncId} {g:xk} {cap:List Fs} {n:Nat} {fn:A7->Option Int}
theorem rowPq{tF:FuncId}{okH:AB->Prop}{okS:A7->Prop}(h:∀s H n,okS s->okH H->Ad prog tF (Na s::cap) H n (LU (fn s))):∀args H n,(Nb cap okH okS fn args H).1->Ad prog tF args H n (Nb cap okH okS fn args H).2:=by
 intro args H n hh;unfold Nb at hh⊢;split at hh
 ·obtain⟨rfl,h1,h2⟩:=hh;exact h _ H n h2 h1
 ·exact hh.elim
def GW(H0:AB)(n:Nat)(H:AB):Prop:=∀id ob,id<n->AD H0 id=some ob->AD H id=some ob
abbrev eLn(n:Nat):List (Nat×Bool×Fs):=[(3,true,.ptr (n+1) 0),(4,true,.sl .nil []),(5,true,.ptr (n+4) 0),(14,true,clG (n+6))]
structure LnF(g:xk)(fn:A7->Option Int)(bv:Fs)(H0:AB)(n l':Nat)(i:Nat)(H:AB)(m:Nat):Prop where
 fr:AU H m
 lm:n+9<=m
 kp:GW H0 n H
 h1:AD H (n+1)=some (.box [bv])
 h4:AD H (n+4)=some (.box [.mp (n+3)])
 hq:AD H (n+6)=some (.box (AK g.sh g.w g.h g.sB g.cells))
 hL:AD H (n+8)=some (.lp ⟨l',.ready,none,48,eLn n, #[15,16],G0,G1⟩)
 hm:∃es tV tk,AD H (n+3)=some (.map es tV)/\LnE g fn (n+9) i H es tV tk
theorem y_ln{H0:AB}{l' i:Nat}{T:Bk}(hT:AG prog T)(hTe:∀a H,T f0 a H=Nb cap (GW H0 n) (λs=>s∈AW g.sh g.w g.cells) fn a H)
  (hcl:g.cells.length<=256) (hi:i<g.cells.length) {m:Nat} (F:LnF g fn (.fn (.func f0) [] cap) H0 n l' i H m) {R:Bool->AB->Nat->Prop} (hR:∀H' m',LnF g fn (.fn (.func f0) [] cap) H0 n l' (i+1) H' m'->R true H' m'):
  Cf prog l' [.int .i64 i,Na (DU g i)] H m R:=by
 obtain⟨fr,lm,kp,h1,h4,hq,hL,es,tV,tk,hm,hE⟩:=F;refine mI hL rfl (AE AG.sE (AF ?_));simp only[eE,eN,seval,Pz,Hp,rm,rA,qc,rT,W0 fr,AH];refine⟨_,(AA _ _ _ _ zo).trans hL,rfl,AE hT (AF ?_)⟩;have ux:DU g i∈AW g.sh g.w g.cells:=qZ (Ds hi);have y1:(m=n+1)=False:=oA zo;have y2:(n+8=n+1)=False:=oA zo;have y3:(n+8=m)=False:=oA zo;have hk:GW H0 n (sA (sA H m (.box [.int .i64 (DU g i).1,.int .i64 (DU g i).2])) (n+8) (.lp ⟨l',.busy,none,48,eLn n, #[15,16],G0,G1⟩)):=λid ob s5 h0=>by
  rw[AA _ _ _ _ zo,AA _ _ _ _ zo];exact kp id ob s5 h0
 generalize hs:DU g i=s at ux hk;have hmem':(s.1,s.2)∈AW g.sh g.w g.cells:=ux;cases hfn:fn s with
 |none=>
  have hfn':fn (s.1,s.2)=none:=hfn;simp only[eZ,seval,eY,Js,h1,y1,y2,y3,hTe,Nb,o7 hk,o7 hmem',hfn',LU];refine⟨⟨l',.busy,none,48,eLn n, #[15,16],G0,G1⟩,AC ..,hR _ _ ⟨?_,zp,λid ob s5 h0=>?_,?_,?_,?_,AC ..,es,tV,tk,?_,hE.skip (by rw[hs];exact hfn) λz hz=>?_⟩⟩
  ·exact((fr.sA (m:=m+2) zo zo).sA (m:=m+2) (od _) zo).sA (od _) (show n+8<m+2 by omega)
  ·rw[AA _ _ _ _ zo];exact hk id ob s5 h0
  ·repeat rw[AA _ _ _ _ zo]
   exact h1
  ·repeat rw[AA _ _ _ _ zo]
   exact h4
  ·repeat rw[AA _ _ _ _ zo]
   exact hq
  ·repeat rw[AA _ _ _ _ zo]
   exact hm
  ·obtain⟨t1,t2⟩:=hE.tok z hz;have:=fr.lt t2;repeat rw[AA _ _ _ _ zo]
   exact t2
 |some z=>
 have hfn':fn (s.1,s.2)=some z:=hfn;have y4:∀k,(n+8=n+k)=(8=k):=λk=>propext zo
 have y5:∀k,(m+k=n+3)=False:=λk=>oA zo
 have y6:(m=n+3)=False:=oA zo;have y7:(m=n+4)=False:=oA zo;have y8:∀k,(n+8=m+k)=False:=λk=>oA zo
 have sk:=aV g fn i z;have hfd:=hE.fnd z;have hkt:(KT.int IntKind.i64).is (.int .i64 z)=True:=o7 rfl;by_cases hz:JG g fn i z=[]
 ·rw[oE hz]at hfd;simp only[eZ,seval,xE,eY,Js,h1,h4,hm,y1,y2,y3,y4,y5,y6,y7,y8,hTe,Nb,o7 hk,o7 hmem',hfn',LU,Cm,hfd,hkt,o7 hE.fit,Bx fr,small];have sY:=λH' ht' hkk=>hE.step (H':=H') (by rw[hs];exact hfn) (t:=m+9) zo (fr _ zo) ht' hkk
  simp only[hfd,Option.isSome_none,oP,pb,hz,oW,oL,pc]at sY;refine⟨⟨l',.busy,none,48,eLn n, #[15,16],G0,G1⟩,?_,hR _ _ ⟨?_,zp,λid ob s5 h0=>?_,?_,?_,?_,AC ..,_,_,_,?_,sY _ ?_ λw hw hwz=>?_⟩⟩
  ·grind [AA,AC]
  ·exact((((fr.sA (m:=m+11) zo zo).sA (m:=m+11) (od _) zo).sA (m:=m+11) (od _) zo).sA (m:=m+11) (od _) zo).sA (od _) (show n+8<m+11 by omega)
  ·rw[AA _ _ _ _ zo,AA _ _ _ _ zo,AA _ _ _ _ (by have:=hk id ob s5 h0;omega)];exact hk id ob s5 h0
  ·repeat rw[AA _ _ _ _ zo]
   exact h1
  ·repeat rw[AA _ _ _ _ zo]
   exact h4
  ·repeat rw[AA _ _ _ _ zo]
   exact hq
  ·rw[AA _ _ _ _ zo,AC]
  ·repeat rw[AA _ _ _ _ zo]
   exact AC ..
  ·obtain⟨t1,t2⟩:=hE.tok w hw;have:=fr.lt t2;repeat rw[AA _ _ _ _ zo]
   exact t2
 ·rw[og hz]at hfd;obtain⟨z1,z2⟩:=hE.tok z hz;have z3:=fr.lt z2;have x1:(n+8=tk z)=False:=oA zo;have x2:(m=tk z)=False:=oA zo;have x3:(tk z=n+3)=False:=oA zo;have x4:∀k,(tk z=m+k)=False:=λk=>oA zo
  have q2:((JG g fn i z).length+1<=35184372088832)=True:=o7 zo;have q3:((JG g fn i z).length<=35184372088831)=True:=o7 zo;have q4:small ((JG g fn i z).length+1) 8=True:=o7 (AY zo zd);simp only[eZ,seval,xE,eY,Js,h1,h4,hm,y1,y2,y3,y4,y5,y6,y7,y8,hTe,Nb,o7 hk,o7 hmem',hfn',LU,Cm,hfd,hkt,o7 hE.fit,Bx fr,z2,x1,x2,x3,q2,q4];have sY:=λH' ht' hkk=>hE.step (H':=H') (by rw[hs];exact hfn) (t:=m+9) zo (fr _ zo) ht' hkk
  simp only[hfd,Option.isSome_some,pG,oD,oL,pc]at sY;refine⟨⟨l',.busy,none,48,eLn n, #[15,16],G0,G1⟩,?_,hR _ _ ⟨?_,zp,λid ob s5 h0=>?_,?_,?_,?_,AC ..,_,_,_,?_,sY _ ?_ λw hw hwz=>?_⟩⟩
  ·grind [AA,AC]
  ·exact(((((fr.sA (m:=m+11) zo zo).sA (m:=m+11) (od _) zo).sA (m:=m+11) (od _) zo).sA (m:=m+11) (od _) zo).sA (m:=m+11) (od _) zo).sA (od _) (show n+8<m+11 by omega)
  ·repeat rw[AA _ _ _ _ zo]
   exact kp id ob s5 h0
  ·repeat rw[AA _ _ _ _ zo]
   exact h1
  ·repeat rw[AA _ _ _ _ zo]
   exact h4
  ·repeat rw[AA _ _ _ _ zo]
   exact hq
  ·rw[AA _ _ _ _ zo,AC]
  ·repeat rw[AA _ _ _ _ zo]
   exact AC ..
  ·obtain⟨t1,t2⟩:=hE.tok w hw;have:=fr.lt t2;have:tk z≠tk w:=λe=>hwz (hE.inj _ _ hz hw e).symm
   repeat rw[AA _ _ _ _ zo]
   exact t2
def EL:List Fs->List (List Int)->Prop
 |[],[]=>True
 |a::E,l::L=>(∃t,a= .sl t (l.map eI)/\(t.esz=1\/l=[]))/\EL E L
 |_,_=>False
theorem EL.wks:∀{E:List Fs} {L:List (List Int)},EL E L->Wks E (L.map BY)
 |[],[],_=>.nil
 |a::E,l::L,⟨⟨t,h1,h2⟩,h⟩=>by
  subst h1;exact .cons (Wk.sl (h2.imp (λz=>z) λq=>by rw[q];rfl)) (EL.wks h)
theorem EL.app:∀{E F:List Fs} {L M:List (List Int)},EL E L->EL F M->EL (E++F) (L++M)
 |[],_,[],_,_,h=>h
 |a::E,_,l::L,_,⟨h1,h⟩,k=>⟨h1,EL.app h k⟩
theorem EL.len:∀{E:List Fs} {L:List (List Int)},EL E L->E.length=L.length
 |[],[],_=>rfl
 |a::E,l::L,⟨_,h⟩=>by rw[oI,oI,EL.len h]
structure LnL(g:xk)(fn:A7->Option Int)(H0:AB)(n c:Nat)(Ks:List Int)(es:List NU)(tV:Nat)(v:VRg):Prop where
 hi:v.i<=Ks.length
 lm:c<=v.n
 fr:AU v.H v.n
 kp:GW H0 n v.H
 h4:AD v.H (n+4)=some (.box [.mp (n+3)])
 hm:AD v.H (n+3)=some (.map es tV)
 tok:EG 1 c v.H v.tl
 es:v.tl.esz=1\/v.E=[]
 hE:EL v.E ((Ks.take v.i).map (CA (AW g.sh g.w g.cells) fn))
def LnP(H:AB)(n:Nat)(L:List (List Int)):xx->AB->Nat->Prop:=λo H' n'=>
 ∃tl E,o= .ret (.sl tl E)/\EG 1 n H' tl/\(tl.esz=1\/E=[])/\EL E L/\GW H n H'/\AU H' n'/\n<=n'
theorem T6(G:uK g)(hf:AU H n)
  (hb:∀s H' m,s∈AW g.sh g.w g.cells->GW H n H'->Ad prog f0 (Na s::cap) H' m (LU (fn s))) (hbd:∀s∈AW g.sh g.w g.cells,∀z,fn s=some z-> -16<=z/\z<=32):
  AO prog 154 [B9 g,.fn (.func f0) [] cap] H n (LnP H n (CB (AW g.sh g.w g.cells) fn)):=by
 have hT:AG prog (AJ f0 (Nb cap (GW H n) (λs=>s∈AW g.sh g.w g.cells) fn) sE):=AG.sE.add (rowPq λs H' m h1 h2=>hb s H' m h1 h2);have hTe:∀a H',AJ f0 (Nb cap (GW H n) (λs=>s∈AW g.sh g.w g.cells) fn) sE f0 a H'=Nb cap (GW H n) (λs=>s∈AW g.sh g.w g.cells) fn a H':=λa H'=>by unfold AJ;rw[oE rfl]
 generalize AJ f0 _ sE=T at hT hTe;obtain⟨ti,ub,uh⟩:=BP G.hG;refine a154 (AE hT (AF ?_));simp only[eE,eN,seval,xE,c154,AK,W0 hf,Bx hf,AH];generalize hH0:sA _ (n+4) (xq.box [Fs.mp (n+3)])=H0;have af:AU H0 (n+6):=by
  rw[<-hH0];exact(((hf.sA (m:=n+6) zo zo).sA (m:=n+6) (od _) zo).sA (m:=n+6) (od _) zo).sA (od _) zo
 have ak:GW H n H0:=λid ob s5 h0=>by
  rw[<-hH0];repeat rw[AA _ _ _ _ zo]
  exact h0
 have a1:AD H0 (n+1)=some (.box [.fn (.func f0) [] cap]):=by grind [AA,AC]
 have a3:AD H0 (n+3)=some (.map [] 0):=by rw[<-hH0,AA _ _ _ _ zo,AC]
 have a4:AD H0 (n+4)=some (.box [.mp (n+3)]):=by rw[<-hH0,AC]
 clear hH0;refine(L6 af).mono ?_;rintro o H1 n1 ⟨rfl,rfl,rfl⟩;simp only[eE,eN,seval,BG,Gc];intro l';refine(L2 g G (J:=LnF g fn (.fn (.func f0) [] cap) H n l') (λi H n F=>F.hq) (λi H2 m hi F R hR=>y_ln hT hTe ub hi F hR) ?_).mono ?_
 ·refine⟨(af.sA (m:=n+9) zo zo).sA (od _) zo,od _,λid ob s5 h0=>?_,?_,?_,?_,AC ..,[],0,λ_=>0,?_,⟨zt,⟨zw,zw,zw⟩,λz=>?_,λz hz=>absurd rfl hz,λz w hz=>absurd rfl hz,by simp [J3],λz=>⟨λh=>by simp [J3]at h,λh=>absurd rfl h⟩,od _⟩⟩
  ·repeat rw[AA _ _ _ _ zo]
   exact ak id ob s5 h0
  ·repeat rw[AA _ _ _ _ zo]
   exact a1
  ·repeat rw[AA _ _ _ _ zo]
   exact a4
  ·rw[AA _ _ _ _ zo,AC]
  ·repeat rw[AA _ _ _ _ zo]
   exact a3
  ·have:JG g fn 0 z=[]:=rfl;rw[oE this];rfl
 rintro o H2 n2 ⟨rfl,F⟩;obtain⟨ffr,flm,fkp,f1,f4,fq,fL,es,tV,tk,fm,hE⟩:=F;have u1:(n+8=n+4)=False:=oA zo;simp only[eE,eN,seval,Hf,fL,f4,u1];have gf:AU (sA H2 (n+8) .dead) n2:=ffr.sA (od _) zo;have gk:GW H n (sA H2 (n+8) .dead):=λid ob s5 h0=>by rw[AA _ _ _ _ zo];exact fkp id ob s5 h0
 have g4:AD (sA H2 (n+8) .dead) (n+4)=some (.box [.mp (n+3)]):=by rw[AA _ _ _ _ zo];exact f4
 have gm:AD (sA H2 (n+8) .dead) (n+3)=some (.map es tV):=by rw[AA _ _ _ _ zo];exact fm
 generalize sA H2 (n+8) .dead=H3 at gf gk g4 gm;refine(aU gf).mono ?_;rintro o H4 n4 ⟨rfl,rfl,rfl⟩;simp only[eE,seval,BG];have kf:AU (sA H3 n2 (.box [.mp (n+3)])) (n2+2):=gf.sA zo zo;have kk:GW H n (sA H3 n2 (.box [.mp (n+3)])):=λid ob s5 h0=>by rw[AA _ _ _ _ zo];exact gk id ob s5 h0
 have k4:AD (sA H3 n2 (.box [.mp (n+3)])) (n+4)=some (.box [.mp (n+3)]):=by rw[AA _ _ _ _ zo];exact g4
 have km:AD (sA H3 n2 (.box [.mp (n+3)])) (n+3)=some (.map es tV):=by rw[AA _ _ _ _ zo];exact gm
 have kq:AD (sA H3 n2 (.box [.mp (n+3)])) n2=some (.box [.mp (n+3)]):=AC ..;generalize sA H3 n2 (.box [.mp (n+3)])=H5 at kf kk k4 km kq;have hesl:=hE.len;refine(Ad.of (n:=n2+2) Wc.l (Av _ _) (λ_=>ik hE.ok zo kf kq km)).mono ?_;rintro o H6 n6 ⟨rfl,rfl,rfl⟩;have hK:((J3 es).mergeSort Fa).map (CA (AW g.sh g.w g.cells) fn)=CB (AW g.sh g.w g.cells) fn:=by
  refine Zy hE.knd (λz=>?_) hbd;rw[hE.kmem z,T5,<-QE,<-List.isEmpty_eq_false_iff]
 have hKl:((J3 es).mergeSort Fa).length<=g.cells.length:=by
  rw[E4];show(es.map _).length<=_;rw[o6];exact hesl
 have hKm:∀z∈(J3 es).mergeSort Fa,BZ (eI z) es=some (.sl (.own (tk z) 1) ((CA (AW g.sh g.w g.cells) fn z).map eI)):=λz hz=>by
  rw[List.mem_mergeSort]at hz;rw[hE.fnd z,og ((hE.kmem z).1 hz),T5]
 rw[<-hK];generalize (J3 es).mergeSort Fa=Ks at hKl hKm;simp only[eE,eN,seval,o6,BG];refine AQ (λv:VRg=>⟨[(4,true,.sl v.tl v.E),(5,true,.ptr (n+4) 0),(34,true,BY Ks),(35,true,.int .i64 Ks.length),(36,true,.int .i64 v.i)],v.H,v.n⟩) (LnL g fn H n (n2+2) Ks es tV) (λv=>Ks.length-v.i)
  ⟨0,[],.nil,H6,n2+2⟩ rfl ⟨oq _,od _,kf,kk,k4,km,.inl rfl,.inr rfl,zt⟩ ?_
 rintro⟨j,E,tl,H7,m⟩ ⟨hj,hlm,l0,hkp,h4,hm,tM,s9,hWE⟩;simp only at hj hlm l0 hkp h4 hm tM s9 hWE;by_cases e9:j<Ks.length
 ·have hg:=o8 e9;have e:=AI (k:=j) zo;have hfd:=hKm _ (oK e9);have l6:Ks.take (j+1)=Ks.take j++[Ks[j]]:=by rw[oG,hg];rfl
  generalize Ks[j]=z at hg hfd l6;have hkt:(KT.int IntKind.i64).is (.int .i64 z)=True:=o7 rfl;have hEl:E.length=j:=by
   have:=hWE.len;rw[o6,oJ]at this;omega
  have q1:At H7 1 tl=True:=o7 tM.app;have q2:(E.length<=35184372088831)=True:=o7 zo;have q3:small (E.length+1) 24=True:=o7 (AY zo zd);simp only[eZ,seval,xE,eY,AT e9,hg,h4,hm,hkt,o7 hE.fit,Cm,hfd,q1,q2,q3,Bx l0,e];refine .mk ⟨j+1,E++[.sl (.own (tk z) 1) ((CA (AW g.sh g.w g.cells) fn z).map eI)],.own (m+5) 1,sA (AR H7 tl) (m+5) .tok,m+7⟩ rfl ⟨e9,zp,(AZ tM l0).sA (m:=m+7) zo zo,λid ob s5 h0=>?_,?_,?_,.inr (.inr ⟨m+5,rfl,zo,AC ..⟩),.inl rfl,?_⟩ zp
  ·rw[AA _ _ _ _ zo,Ai tM (.inl zo)];exact hkp id ob s5 h0
  ·grind [AA,Ai]
  ·grind [AA,Ai]
  ·simp only[l6,oD,oL,pc]at hWE⊢;exact hWE.app ⟨⟨_,rfl,.inl rfl⟩,zt⟩
 obtain rfl:j=Ks.length:=zo
 rw[oF]at hWE;simp only[eZ,seval,Ah e9];exact⟨tl,E,rfl,tM.imp id λq=>q.imp id λ⟨z,z1,z2,z3⟩=>⟨z,z1,zo,z3⟩,s9,hWE,hkp,l0,zo⟩
theorem JH(G:uK g)
  (hb:∀s H' m,s∈AW g.sh g.w g.cells->GW H n H'->Ad prog f0 (Na s::cap) H' m (LU (fn s))) (hbd:∀s∈AW g.sh g.w g.cells,∀z,fn s=some z-> -16<=z/\z<=32):
  Ad prog 154 [B9 g,.fn (.func f0) [] cap] H n (Bm (CB (AW g.sh g.w g.cells) fn)):=
 Ad.of mJ (A0 n _) λhf=>(T6 G hf hb hbd).mono λo H' n' ⟨tl,E,h1,h2,h3,h4,h5,h6,h7⟩=>⟨⟨_,h1,Wk.slx h3 h4.wks⟩,λid ob h0=>h5 id ob (hf.lt h0) h0⟩
end
mutual
inductive View(H:AB):Fs->Fs->Prop
 |wk {a b:Fs}:Wk b a->View H a b
 |ref {id e off len cap:Nat} {l:List Fs}:AD H id=some (.arr e l)->off+len<=l.length->len<=cap->View H (.sl (.none e) ((l.drop off).take len)) (.ref id e off len cap)
 |ptr {id off:Nat} {cs:List Fs}:AD H id=some (.box cs)->View H (.ep (cs.drop off)) (.ptr id off)
 |pw {id off:Nat} {cs us:List Fs}:AD H id=some (.box cs)->uQ H us (cs.drop off)->View H (.ep us) (.ptr id off)
 |agg {us bs:List Fs}:uQ H us bs->View H (.agg us) (.agg bs)
 |fn {f:Fn} {us bs cs ds:List Fs}:uQ H us bs->uQ H cs ds->View H (.fn f us cs) (.fn f bs ds)
inductive uQ(H:AB):List Fs->List Fs->Prop
 |nil:uQ H [] []
 |cons {a b:Fs} {us bs:List Fs}:View H a b->uQ H us bs->uQ H (a::us) (b::bs)
end
mutual
def Fs.flat:Fs->Prop
 | .bool _| .int _ _| .str _| .nilp| .tG| .tA| .nilmp=>True
 | .agg cs=>flats cs
 | .sH cs=>flats cs
 |_=>False
def flats:List Fs->Prop
 |[]=>True
 |a::us=>a.flat/\flats us
end
mutual
theorem QL{g g':z8}:∀(a:Fs) (v:Value),a.flat->AP g a v->AP g' a v
 | .bool _,_,_,h=>h
 | .int _ _,_,_,h=>h
 | .str _,_,_,h=>h
 | .nilp,_,_,h=>h
 | .tG,_,_,h=>h
 | .tA,_,_,h=>h
 | .nilmp,_,_,h=>h
 | .agg cs,_,hf,h=>by
  obtain⟨vs,rfl,h1,h2⟩:=h;exact⟨vs,rfl,flats_rel cs _ hf h1,h2⟩
 | .sH cs,_,hf,h=>by
  obtain⟨vs,rfl,h1⟩:=h;exact⟨vs,rfl,flats_rel cs _ hf h1⟩
 | .ptr _ _,_,hf,_=>hf.elim
 | .ep _,_,hf,_=>hf.elim
 | .gp _,_,hf,_=>hf.elim
 | .sl _ _,_,hf,_=>hf.elim
 | .ref _ _ _ _ _,_,hf,_=>hf.elim
 | .ap _ _ _ _,_,hf,_=>hf.elim
 | .fn _ _ _,_,hf,_=>hf.elim
 | .ifc _ _,_,hf,_=>hf.elim
 | .mp _,_,hf,_=>hf.elim
 | .up,_,hf,_=>hf.elim
theorem flats_rel{g g':z8}:∀(us:List Fs) (vs:List Value),flats us->sG g us vs->sG g' us vs
 |[],_,_,h=>h
 |a::us,_,hf,h=>by
  obtain⟨v,r,rfl,h1,h2⟩:=h;exact⟨v,r,rfl,QL a v hf.1 h1,flats_rel us r hf.2 h2⟩
end
def SU(w:World):Nat->Nat->Option Value:=λb o=>w.cell? ⟨b,o,none⟩
section
variable {g:z8} {H:AB} {n:Nat} {w:World}
theorem IH(R:x6 g H n w):JU 0 g ⟨λ_=>none,SU w⟩:=⟨λ_ _ h=>absurd h (pD _),λb o v h=>R.σw b o v h⟩
theorem L8{f:Nat->Option Value}:∀(cs:List Fs) (o k:Nat),sL g f o cs->sL g f (o+k) (cs.drop k)
 |[],o,k,_=>by rw[List.drop_nil];trivial
 |a::cs,o,0,h=>h
 |a::cs,o,k+1,h=>by rw[List.drop_succ_cons,show o+(k+1)=o+1+k by omega];exact L8 cs (o+1) k h.2
mutual
theorem QN(R:x6 g H n w):∀{a b:Fs} {v:Value},View H a b->a.under 0->AP g b v->AP ⟨λ_=>none,SU w⟩ a v
 |a,b,v,.wk h,hu,hv=>AP.agree (n:=0) (IH R) a v hu (h g v hv)
 |_,_,v,.ref (id:=id) (e:=e) (off:=off) (len:=len) (cap:=cap) (l:=l) h1 h2 h3,hu,hv=>by
  obtain⟨L,k1,k2,rfl⟩:=hv;obtain⟨L',c,ty,j1,j2,j3,j4,j5,j6⟩:=R.obj id _ h1;rw[k1]at j1;cases j1;have l9:((l.drop off).take len).length=len:=by simp;omega
  have sY:=sK.take len _ _ (sK.drop off _ _ j6);rw[pn]at sY;refine .inr ⟨zt,L.sO,off*e,cap,⟨none,by rw[l9],.inl rfl⟩,by rw[l9];exact h3,?_,zt⟩;have hst2:sK g e (SU w L.sO) (off*e) ((l.drop off).take len):=sK.mono (z8.le.refl g) (λo x hx=>by
   show w.cell? ⟨L.sO,o,none⟩=some x;rw[BE j4];exact hx) e _ _ sY
  exact sK.agree (n:=0) (IH R) (λo x h=>h) e _ _ hu.2 hst2
 |_,_,v,.ptr (id:=id) (off:=off) (cs:=cs) h1,hu,hv=>by
  obtain⟨L,k1,k2,rfl⟩:=hv;obtain⟨L',c,ty,j1,j2,j3,j4,j5,j6⟩:=R.obj id _ h1;rw[k1]at j1;cases j1;refine⟨L.sO,off,rfl,?_⟩;have hd:∀(cs:List Fs) (o k:Nat),sL g (λo=>c[o]?) o cs->sL g (λo=>c[o]?) (o+k) (cs.drop k):=by
   intro cs;induction cs with
   |nil=>intro o k _;rw[List.drop_nil];trivial
   |cons a cs ih=>
    intro o k h;cases k with
    |zero=>exact h
    |succ k=>rw[List.drop_succ_cons,show o+(k+1)=o+1+k by omega];exact ih (o+1) k h.2
  have h2:=hd cs 0 off j6;rw[pn]at h2;have h3:sL g (SU w L.sO) off (cs.drop off):=sL.mono (z8.le.refl g) (λo x hx=>by
   show w.cell? ⟨L.sO,o,none⟩=some x;rw[BE j4];exact hx) _ _ h2
  exact sL.agree (n:=0) (IH R) (λo x h=>h) _ _ hu h3
 |_,_,v,.pw (id:=id) (off:=off) (cs:=cs) h1 hw,hu,hv=>by
  obtain⟨L,k1,k2,rfl⟩:=hv;obtain⟨L',c,ty,j1,j2,j3,j4,j5,j6⟩:=R.obj id _ h1;rw[k1]at j1;cases j1;refine⟨L.sO,off,rfl,?_⟩;have h2:=L8 cs 0 off j6;rw[pn]at h2;exact pstab_rel R hw hu (sL.mono (z8.le.refl g) (λo x hx=>by
   show w.cell? ⟨L.sO,o,none⟩=some x;rw[BE j4];exact hx) _ _ h2)
 |_,_,v,.agg h,hu,hv=>by
  obtain⟨vs,rfl,h1,h2⟩:=hv;exact⟨vs,rfl,uW R h hu h1,h2⟩
 |_,_,v,.fn h k,hu,hv=>by
  obtain⟨x,c,rfl,h1,h2⟩:=hv;exact⟨x,c,rfl,uW R h hu.1 h1,uW R k hu.2 h2⟩
theorem uW(R:x6 g H n w):∀{us bs:List Fs} {vs:List Value},uQ H us bs->sN 0 us->sG g bs vs->sG ⟨λ_=>none,SU w⟩ us vs
 |_,_,vs,.nil,_,hv=>hv
 |_,_,vs,.cons h t,hu,hv=>by
  obtain⟨v,r,rfl,h1,h2⟩:=hv;exact⟨v,r,rfl,QN R h hu.1 h1,uW R t hu.2 h2⟩
theorem pstab_rel(R:x6 g H n w):∀{us bs:List Fs} {f:Nat->Option Value} {o:Nat},uQ H us bs->sN 0 us->sL g f o bs->sL ⟨λ_=>none,SU w⟩ f o us
 |_,_,f,o,.nil,_,_=>trivial
 |_,_,f,o,.cons h t,hu,hp=>by
  obtain⟨⟨v,h1,h2,h4⟩,h3⟩:=hp;exact⟨⟨v,h1,QN R h hu.1 h2,h4⟩,pstab_rel R t hu.2 h3⟩
end
end
def A6.viewF{P:Program}{f:FuncId}{args args':List Fs}{r:Fs}{H:AB}(h:A6 P f args r)(hf:∀g g' v,AP g r v->AP g' r v)(hv:uQ H args args')(n:Nat):Ad P f args' H n r:=by
 obtain⟨ha,hr,hcb,hc⟩:=h;refine⟨hcb,λg w vs R hvs=>?_⟩;have R0:x6 ⟨λ_=>none,SU w⟩ Ac 0 w:=
  {σw:=λb o v h=>h
   obj:=λ_ _ h=>by simp [AD,Ac]at h
   uu:=λ_ _ h=>by simp at h
   hd:=λ_ _ h=>by simp [AD,Ac]at h
   ap:=λ_ _ _ _ _ _ _ h=>by simp [AD,Ac]at h
   un:=λ_ _ _ _ h=>by simp [AD,Ac]at h
   gl:=λi cs h=>sL.agree (n:=0) (IH R) (λo x h=>R.σw i o x h) cs 0 (MT i cs h) (R.gl i cs h)
   gz:=R.gz}
 refine(hc _ w vs R0 (uW R hv ha hvs)).mono ?_;rintro e w' ⟨g',out,H',n',⟨v,rfl,hw⟩,he,hR',-,ht⟩;cases e with
 |panicked c=>exact he.elim
 |outgrown=>exact he.elim
 |returned x=>
  have hx:AP g' r x:=hw _ _ he;have keep:∀(b:Nat) ob,w.heap[b]?=some ob->w'.heap[b]?=some ob:=by
   intro b ob hb;have hk:=ht.kept b ob hb;cases ob<;>first|exact hk.resolve_left Em|skip
   obtain⟨c',h1,h2,h3⟩:=hk;rw[h1];congr 2;exact Array.ext_getElem? λi=>h3 i Em
  have inH:∀b o v,w.cell? ⟨b,o,none⟩=some v->b<w.heap.size:=by
   intro b o v hc;unfold World.cell? at hc;split at hc
   ·rename_i hb;exact(oU.1 hb).1
   ·cases hc
  let σ2:Nat->Nat->Option Value:=λb o=>if b<w.heap.size then g.σ b o else g'.σ b o
  have old:∀b o v,g.σ b o=some v->σ2 b o=some v:=λb o v hh=>by
   simp only[σ2];rw[oE (inH b o v (R.σw b o v hh))];exact hh
  have gle:g.le ⟨g.β,σ2⟩:=⟨λ_ _ h=>h,old⟩;have tK:∀b o v,b<w.heap.size->w.cell? ⟨b,o,none⟩=some v->w'.cell? ⟨b,o,none⟩=some v:=by
   intro b o v hb hh;have e1:=qj hb;have e2:=keep b _ e1;unfold World.cell? at hh⊢;simp only[e1,e2]at hh⊢;exact hh
  refine⟨⟨g.β,σ2⟩,.ret r,H,n,⟨rfl,rfl,rfl⟩,hf _ _ x hx,?_,od _,?_⟩
  ·refine⟨?_,?_,?_,R.hd,R.ap,?_,R.gl.mono gle,hR'.gz⟩
   ·intro b o v hh;simp only[σ2]at hh;split at hh
    ·rename_i hb;exact tK b o v hb (R.σw b o v hh)
    ·exact hR'.σw b o v hh
   ·intro id ob hob;have ho:=R.obj id ob hob;cases ob with
    |box cs=>obtain⟨L,c,e,h1,h2,h3,h4,h5,h6⟩:=ho;exact⟨L,c,e,h1,h2,h3,keep _ _ h4,h5,sL.mono gle (λ_ _ h=>h) cs 0 h6⟩
    |tok=>obtain⟨L,h1,h2⟩:=ho;exact⟨L,h1,λe9=>let ⟨c,e,h3,h4⟩:=h2 e9;⟨c,e,keep _ _ h3,h4⟩⟩
    |arr esz l=>obtain⟨L,c,e,h1,h2,h3,h4,h5,h6⟩:=ho;exact⟨L,c,e,h1,h2,h3,keep _ _ h4,h5,sK.mono gle (λ_ _ h=>h) esz l 0 h6⟩
    |frz esz l=>obtain⟨L,h1,h2,h3⟩:=ho;exact⟨L,h1,h2,sK.mono gle (λo x hx=>old L.sO o x hx) esz l 0 h3⟩
    |map es c=>obtain⟨L,tD,h1,h2,h3,h4,h5⟩:=ho;exact⟨L,tD,h1,h2,h3,keep _ _ h4,Dt.mono gle _ _ h5⟩
    |sit s pos=>obtain⟨L,h1,h2,h3,h4⟩:=ho;exact⟨L,h1,h2,h3,keep _ _ h4⟩
    |mit m c seen last=>obtain⟨L,Lm,h1,h2,h3,h4,h5⟩:=ho;exact⟨L,Lm,h1,h2,h3,keep _ _ h4,h5⟩
    |lp x=>obtain⟨L,h1,h2,h3,h4,r,k1,k2,k3,k4,k5,k6,k7,k8⟩:=ho;exact⟨L,h1,h2,h3,h4,r,keep _ _ k1,k2,k3,k4,k5,k6,By.mono gle k7,k8⟩
    |dead=>trivial
   ·intro id L hL;exact⟨(R.uu id L hL).1,λe9=>qg ((R.uu id L hL).2 e9) ht.size⟩
   ·intro id ob L o q1 q2 q3 q4 q5;have hb:=(R.uu id L q3).2 zo;show σ2 L.sO o=none;simp only[σ2];rw[oE hb];exact R.un id ob L o q1 q2 q3 q4 q5
  ·refine⟨gle,λ_ _ h=>.inl h,ht.os,ht.tape,ht.output,ht.size,λb ob hb=>by rw[keep b ob hb];exact Iu.same _ _,λ_ _ _ h=>h,λb o v hb h=>.inl ?_⟩;have h':σ2 b o=some v:=h;simp only[σ2]at h';rw[oE hb]at h';exact h'
def A6.view{P:Program}{f:FuncId}{args args':List Fs}{r:Fs}{H:AB}(h:A6 P f args r)(hf:r.flat)(hv:uQ H args args')(n:Nat):Ad P f args' H n r:=h.viewF (λ_ _ v=>QL r v hf) hv n
section
def RdI(H:AB)(av:Fs)(l:List Int):Prop:=(∃t,av= .sl t (l.map eI)/\(t.esz=1\/l=[]))\/∃id cap rest,av= .ref id 1 0 l.length cap/\AD H id=some (.arr 1 ((l++rest).map eI))/\l.length<=cap
def ClnP(H:AB)(n:Nat)(l:List Int):xx->AB->Nat->Prop:=λo H' n'=>
 (l=[]/\H'=H/\(n'=n\/n'=n+4)/\∃t,o= .ret (.sl t [])/\(t= .nil\/t= .exact 1))\/
 (l≠[]/\n'=n+4/\∃rest,o= .ret (.ref (n+2) 1 0 l.length (l.length+rest.length))/\H'=sA H (n+2) (.arr 1 ((l++rest).map eI)))
def ip{H:AB}{n:Nat}{av:Fs}{l:List Int}(hr:RdI H av l)(hl:sR l):AO prog 149 [av] H n (ClnP H n l):=by
 refine AO.fresh dY.l λhf=>?_
 have sk:l.length<1000000000:=hl;have hrep:∀k,List.replicate k (Fs.int .i64 0)=(List.replicate k (0:Int)).map eI:=λk=>by rw[rn]
 rcases hr with⟨t,rfl,ht⟩|⟨id,cp,rest,rfl,ho,hc⟩
 ·refine AO.args (a:=[BY l]) ?_ λg vs ⟨v,r,h1,h2,h3⟩=>⟨v,r,h1,Wk.sl (ht.imp (λz=>z) λq=>by rw[q];rfl) _ _ h2,h3⟩
  refine Rr.a (AE AG.sE (AF ?_));cases l with
  |nil=>
   simp only[eZ,seval,Rr];refine⟨?_,?_⟩
   ·simp only[eZ,seval,DJ,Dy,Bx hf,small,qR,oq];exact .inl ⟨rfl,rfl,.inr rfl,.exact 1,rfl,.inr rfl⟩
   ·simp only[eZ,seval,oh];exact .inl ⟨rfl,rfl,.inl rfl,.nil,rfl,.inl rfl⟩
  |cons x r=>
   rw[oI]at sk;simp only[eZ,seval,o6,Rr,BY,DJ,Dy,Bx hf];refine⟨AY zo zd,zo,λcap hcap=>.inr ⟨zw,rfl,List.replicate (cap-(r.length+1)) 0,?_,?_⟩⟩
   ·simp_all
   ·rw[hrep];simp
 ·refine Rr.a (AE AG.sE (AF ?_));have l6:List.take l.length ((l++rest).map eI)=l.map eI:=by rw[oD,List.take_left' (by rw[o6])]
  have l9:(l.length<=(l++rest).length)=True:=o7 zw;simp only[eZ,seval,o6,Rr,ho,l6,l9,DJ,Dy,Bx hf];refine⟨AY zo zd,zo,λh0=>?_,λh0 cap hcap=>?_⟩
  ·exact .inl ⟨by simpa using h0,rfl,.inr rfl,.exact 1,rfl,.inr rfl⟩
  ·refine .inr ⟨by simpa using h0,rfl,List.replicate (cap-l.length) 0,?_,?_⟩
   ·simp_all
   ·rw[hrep];simp
def p155(s:A7):A6 prog 155 [Na s] (LU (some s.2)):=by
 refine .mk ⟨⟨zt,zt,zt⟩,zt⟩ ⟨zt,zt,zt⟩ (c155.a (AE AG.sE (AF ?_)));simp only[eE,eN,seval,Int.toNat_one,c155,XT];exact Wk.refl _
def p156(s:A7):A6 prog 156 [Na s] (LU (some s.1)):=by
 refine .mk ⟨⟨zt,zt,zt⟩,zt⟩ ⟨zt,zt,zt⟩ (c156.a (AE AG.sE (AF ?_)));simp only[eE,eN,seval,eY,c156,XT];exact Wk.refl _
variable {g:xk}
theorem JI(G:uK g){s:A7}(h:s∈AW g.sh g.w g.cells): -16<=s.1/\s.1<=16/\0<=s.2/\s.2<=15/\ -16<=s.1+s.2/\s.1+s.2<=31:=by
 obtain⟨i,hi,rfl⟩:=pP.1 h;rw[B5]at hi;have e:=Ds hi;rw[o8 (by rw[B5];exact hi)]at e;rw[Option.some.inj e];have gi:It g (i:Int):=⟨zo,by rw[oH];exact hi⟩;obtain⟨k,hk,-,hg,hp,w1,w2,x1,x2,y1,y2,ey,hss⟩:=G.at gi;obtain rfl:k=i:=zo
 unfold DU DC;split<;>simp only[]<;>omega
theorem p199(s:A7)(h: -16<=s.1+s.2/\s.1+s.2<=31):A6 prog 199 [Na s] (LU (some (s.1+s.2))):=by
 refine .mk ⟨⟨zt,zt,zt⟩,zt⟩ ⟨zt,zt,zt⟩ (c199.a (AE AG.sE (AF ?_)));have w:IntKind.wrap .i64 (s.1+s.2)=s.1+s.2:=An zo zo;simp only[eE,eN,seval,eY,c199,XT,w];exact Wk.refl _
def JJ(s:A7):Option Int:=if s.1=s.2 then some 0 else none
def LW(w:Int)(s:A7):Option Int:=if s.1+s.2=w-1 then some 0 else none
theorem p200(s:A7):A6 prog 200 [Na s] (LU (JJ s)):=by
 refine .mk ⟨⟨zt,zt,zt⟩,zt⟩ ⟨zt,zt,zt⟩ (mK.a (AE AG.sE (AF ?_)));unfold JJ;by_cases h:s.1=s.2
 ·rw[oE h];simp only[eE,eN,seval,eY,mK,XT,BL h];exact Wk.refl _
 ·rw[og h];simp only[eE,eN,seval,eY,mK,XT,A5 h];exact Wk.refl _
theorem p201(g:xk)(hw:0<=g.w/\g.w<=16)(s:A7)(h: -16<=s.1+s.2/\s.1+s.2<=31):A6 prog 201 [Na s,.ep (AK g.sh g.w g.h g.sB g.cells)] (LU (LW g.w s)):=by
 refine .mk ⟨⟨zt,zt,zt⟩,BF 0 ..,zt⟩ ⟨zt,zt,zt⟩ (mL.a (AE AG.sE (AF ?_)));have w:IntKind.wrap .i64 (s.1+s.2)=s.1+s.2:=An zo zo;have w2:IntKind.wrap .i64 (g.w-1)=g.w-1:=An zo zo;unfold LW;by_cases h:s.1+s.2=g.w-1
 ·rw[oE h];simp only[eE,eN,seval,eY,mL,AK,XT,w,w2,BL h];exact Wk.refl _
 ·rw[og h];simp only[eE,eN,seval,eY,mL,AK,XT,w,w2,A5 h];exact Wk.refl _
section
variable {g:xk} (G:uK g) (H:AB) (n:Nat)
include G
theorem q_ln1:Ad prog 154 [B9 g,.fn (.func 155) [] []] H n (Bm (CB (AW g.sh g.w g.cells) λs=>some s.2)):=
 JH G (λs H' m _ _=>(p155 s).quiet H' m) λs hs z hz=>by have:=JI G hs;have:=Option.some.inj hz;omega
theorem q_ln2:Ad prog 154 [B9 g,.fn (.func 156) [] []] H n (Bm (CB (AW g.sh g.w g.cells) λs=>some s.1)):=
 JH G (λs H' m _ _=>(p156 s).quiet H' m) λs hs z hz=>by have:=JI G hs;have:=Option.some.inj hz;omega
theorem q_ln3:Ad prog 154 [B9 g,.fn (.func 199) [] []] H n (Bm (CB (AW g.sh g.w g.cells) λs=>some (s.1+s.2))):=
 JH G (λs H' m hs _=>(p199 s (by have:=JI G hs;omega)).quiet H' m) λs hs z hz=>by have:=JI G hs;have:=Option.some.inj hz;omega
theorem q_ln4:Ad prog 154 [B9 g,.fn (.func 200) [] []] H n (Bm (CB (AW g.sh g.w g.cells) JJ)):=
 JH G (λs H' m hs _=>(p200 s).quiet H' m) λs hs z hz=>by
  unfold JJ at hz;split at hz
  ·have:=Option.some.inj hz;omega
  ·cases hz
theorem q_ln5{q:Nat}(hq:AD H q=some (.box (AK g.sh g.w g.h g.sB g.cells)))(hf:AU H n):Ad prog 154 [B9 g,.fn (.func 201) [] [.ptr q 0]] H n (Bm (CB (AW g.sh g.w g.cells) (LW g.w))):=by
 obtain⟨uJ,hs2⟩:=H9 G.hG;refine JH G (λs H' m hs hk=>(p201 g zo s (by have:=JI G hs;omega)).view ⟨zt,zt,zt⟩ (.cons (.wk (Wk.refl _)) (.cons (View.ptr (off:=0) (hk q _ (hf.lt hq) hq)) .nil)) m) λs hs z hz=>?_
 unfold LW at hz;split at hz
 ·have:=Option.some.inj hz;omega
 ·cases hz
end
def JK(g:xk):List Fs->AB->Prop×Fs:=λa H=>match a with
 |[x,.fn (.func f) [] cap]=>(x=B9 g/\((f=155\/f=156\/f=199\/f=200)/\cap=[]\/f=201/\∃q,cap=[.ptr q 0]/\AD H q=some (.box (AK g.sh g.w g.h g.sB g.cells))),
   Bm (CB (AW g.sh g.w g.cells) (if f=155 then λs=>some s.2 else if f=156 then λs=>some s.1 else if f=199 then λs=>some (s.1+s.2)else if f=200 then JJ else LW g.w)))
 |_=>(False,.sH [])
theorem XZ(G:uK g):∀args H n,(JK g args H).1->Ad prog 154 args H n (JK g args H).2:=by
 intro args H n hh;unfold JK at hh⊢;split at hh
 ·obtain⟨rfl,⟨h|h|h|h,rfl⟩|⟨rfl,q,rfl,hq⟩⟩:=hh
  ·subst h;exact q_ln1 G H n
  ·subst h;exact q_ln2 G H n
  ·subst h;exact q_ln3 G H n
  ·subst h;exact q_ln4 G H n
  ·refine⟨mJ,?_⟩;exact(AO.fresh mJ λhf=>q_ln5 G H n hq hf).2
 ·exact hh.elim
def Tdg(g:xk):Bk:=AJ 154 (JK g) (AJ 28 (s2 Cj Cj (λ_ b=>wide b) λa b=>.bool (decide (a=b))) sE)
theorem iq(G:uK g):AG prog (Tdg g):=(AG.sE.add (q2 nu)).add (XZ G)
theorem J8{S:List A7}{fn:A7->Option Int}(h:∀s∈S,∀z,fn s=some z->z=0):CB S fn=if(CA S fn 0).isEmpty then[]else[CA S fn 0]:=by
 have he:∀z,z≠0->(CA S fn z).isEmpty=true:=λz hz=>by
  rw[<-rR];intro q;obtain⟨s,hs,e⟩:=QE.1 q;exact hz (h s hs z e)
 unfold CB J1;rw[show List.range 49=List.range 16++(16::(List.range 32).map (· +17))from rfl];simp only[oD,oL,qv,pO];have z1:((List.range 16).map λk:Nat=>CA S fn ((k:Int)-16)).filter (λl=>!l.isEmpty)=[]:=by grind [List.filter_eq_nil_iff]
 have z2:((List.range 32).map λk:Nat=>CA S fn (((k+17:Nat):Int)-16)).filter (λl=>!l.isEmpty)=[]:=by grind [List.filter_eq_nil_iff]
 have z1':((List.range 16).map (CA S fn∘λk:Nat=>(k:Int)-16)).filter (λl=>!l.isEmpty)=[]:=z1;have z2':((List.range 32).map (CA S fn∘((λk:Nat=>(k:Int)-16)∘λx=>x+17))).filter (λl=>!l.isEmpty)=[]:=z2;rw[z1',oW,qh,z2'];have e0:(((16:Nat):Int)-16)=0:=rfl;rw[e0];cases (CA S fn 0).isEmpty<;>rfl
def dgP(g:xk):List (List Int):=if g.sh=2 then CB (AW g.sh g.w g.cells) (λs=>some (s.1+s.2))else if g.w=g.h then LR g.w (AW g.sh g.w g.cells)else[]
structure IDgp(LB D:List (List Int))(H0:AB)(n0:Nat)(tl0:xv)(E0:List Fs)(v:VRg):Prop where
 hi:v.i<=LB.length
 h0:v.i=0->v.E=E0/\v.tl=tl0/\v.H=H0/\v.n=n0
 h1:v.i=1->(v.tl.esz=1\/v.E=[])/\EL v.E D
theorem nP:IntKind.wrap .i64 (0+1)=1:=An zd zd
theorem QO(S:List A7)(f:A7->Option Int)(z:Int):(CA S f z).length<=S.length:=Cc ..
theorem p157(g:xk)(G:uK g):A6 prog 157 [B9 g] (Bm (dgP g)):=by
 refine .mk ⟨BF 0 ..,zt⟩ (A0 0 _) (dr.a (AE (iq G) (AF ?_)));unfold dgP;obtain⟨ti,ub,uh⟩:=BP G.hG;by_cases h2:g.sh=2
 ·rw[oE h2];simp only[eZ,seval,dr,AK,BL h2,Tdg,JK,AJ];exact Wk.refl _
 by_cases hw:g.w=g.h;case neg=>
  rw[og h2,og hw];simp only[eZ,seval,oh,dr,AK,A5 h2,A5 hw];exact Wk.sl (.inr rfl)
 rw[og h2,oE hw];have hf2:AU (sA Ac 0 (.box (AK g.sh g.w g.h g.sB g.cells))) 2:=AU.nil.sA (oq 2) zd;simp only[eZ,seval,o9,dr,AK,A5 h2,BL hw];refine(T6 G hf2 (λs H' m hs _=>(p200 s).quiet H' m) λs hs z hz=>by
  unfold JJ at hz;split at hz
  ·have:=Option.some.inj hz;omega
  ·cases hz).mono ?_
 rintro o H1 n1 ⟨tl,E,rfl,tM,s9,hEL,hk,t7,w7⟩;have h10:AD H1 0=some (.box (AK g.sh g.w g.h g.sB g.cells)):=hk 0 _ zd rfl;have hex:(∃q,[Fs.ptr 0 0]=[Fs.ptr q 0]/\AD H1 q=some (.box (AK g.sh g.w g.h g.sB g.cells)))=True:=o7 ⟨0,rfl,h10⟩;simp only[AK]at h10 hex;have hD:LR g.w (AW g.sh g.w g.cells)=(CB (AW g.sh g.w g.cells) JJ)++(if(CA (AW g.sh g.w g.cells) (LW g.w) 0).isEmpty||decide (CA (AW g.sh g.w g.cells) JJ 0=CA (AW g.sh g.w g.cells) (LW g.w) 0)then[]else[CA (AW g.sh g.w g.cells) (LW g.w) 0]):=by
  rw[J8 (fn:=JJ) λs _ z hz=>by
   unfold JJ at hz;split at hz
   ·exact(Option.some.inj hz).symm
   ·cases hz]
  rfl
 have hLB:=J8 (S:=AW g.sh g.w g.cells) (fn:=LW g.w) λs _ z hz=>by
  unfold LW at hz;split at hz
  ·exact(Option.some.inj hz).symm
  ·cases hz
 have hLA:=J8 (S:=AW g.sh g.w g.cells) (fn:=JJ) λs _ z hz=>by
  unfold JJ at hz;split at hz
  ·exact(Option.some.inj hz).symm
  ·cases hz
 rw[hLA]at hEL hD;generalize LR g.w (AW g.sh g.w g.cells)=D at hD;simp only[eE,eN,seval,o6,BG,h10,Tdg,JK,hex,AJ];rw[hLB];have hBl:=QO (AW g.sh g.w g.cells) (LW g.w) 0;have hAl:=QO (AW g.sh g.w g.cells) JJ 0;rw[B5]at hBl hAl;generalize CA (AW g.sh g.w g.cells) JJ 0=A at hEL hAl hD;generalize CA (AW g.sh g.w g.cells) (LW g.w) 0=B at hBl hD;generalize hLAg:(if A.isEmpty=true then[]else[A])=LA at hEL hD;generalize hLBg:(if B.isEmpty=true then[]else[B])=LB;refine AQ (λv:VRg=>⟨[(3,true,.sl v.tl v.E),(20,true,Bm LB),(21,true,.int .i64 LB.length),(22,true,.int .i64 v.i)],v.H,v.n⟩) (IDgp LB D H1 n1 tl E) (λv=>LB.length-v.i)
  ⟨0,E,tl,H1,n1⟩ rfl ⟨oq _,λ_=>⟨rfl,rfl,rfl,rfl⟩,λh=>by cases h⟩ ?_
 rintro⟨i,E2,tl2,H2,n2⟩ ⟨hi,i0,i1⟩;simp only at hi i0 i1;cases hB:B.isEmpty with
 |true=>
  rw[hB]at hLBg hD;rw[Bool.true_or,oE rfl,oR]at hD;rw[oE rfl]at hLBg;subst hLBg;subst hD;obtain rfl:i=0:=by simpa using hi
  obtain⟨rfl,rfl,rfl,rfl⟩:=i0 rfl;simp only[eZ,seval,eY];exact Wk.slx s9 hEL.wks
 |false=>
 rw[hB]at hLBg hD;rw[qT]at hD;rw[og zd]at hLBg;subst hLBg;have v7:i=0\/i=1:=by simp at hi;omega
 rcases v7 with rfl|rfl
 case inr=>
  obtain⟨k1,k2⟩:=i1 rfl;simp only[eZ,seval,c1];exact Wk.slx k1 k2.wks
 obtain⟨rfl,rfl,rfl,rfl⟩:=i0 rfl;have hwB:wide B:=by show B.length<_;omega
 have c1n:((1:Nat):Int)=1:=rfl;cases hA:A.isEmpty with
 |true=>
  rw[hA,oE rfl]at hLAg;subst hLAg;have hE0:E2=[]:=pt hEL.len;subst hE0;have hAB:decide (A=B)=false:=oN λe=>by rw[e,hB]at hA;cases hA
  rw[hAB,og zd,oW]at hD;subst hD;have q1:At H2 1 tl2=True:=o7 tM.app;simp only[eZ,seval,o9,eY,q1,Bx t7,small,c1n,nP];exact .mk ⟨1,[BY B],.own (n2+3) 1,_,n2+5⟩ rfl ⟨od _,λh=>(by cases h),λ_=>⟨.inl rfl,⟨_,rfl,.inl rfl⟩,zt⟩⟩ (show 1-1<1-0 by decide)
 |false=>
  rw[hA,og zd]at hLAg;subst hLAg;obtain⟨x,hx⟩:∃x,E2=[x]:=by
   have:=hEL.len
   match E2,this with
   |[x],_=>exact⟨x,rfl⟩
  subst hx;obtain⟨⟨t,rfl,ht⟩,-⟩:=hEL;have htl1:tl2.esz=1:=s9.resolve_right zw;have ka:Cj.ok (.sl t (A.map eI))=True:=o7 ⟨ht.imp (λz=>z) λq=>by rw[q];rfl,by rw[Ew]⟩;have kd:Cj.dec (.sl t (A.map eI))=A:=Ew A;have q1:At H2 1 tl2=True:=o7 tM.app;by_cases hAB:A=B
  ·rw[pk hAB,oE rfl,oR]at hD;subst hD;simp only[eZ,seval,o9,eY,c1n,nP,htl1,Tdg,s2,ka,kd,As,Al,o7 hwB,BL hAB,o9,AJ];exact .mk ⟨1,[.sl t (A.map eI)],tl2,H2,n2⟩ rfl ⟨od _,λh=>(by cases h),λ_=>⟨.inl htl1,⟨t,rfl,ht⟩,zt⟩⟩ (show 1-1<1-0 by decide)
  ·rw[oN hAB,og zd]at hD;subst hD;simp only[eZ,seval,oh,eY,q1,Bx t7,small,c1n,nP,htl1,Tdg,s2,ka,kd,As,Al,o7 hwB,A5 hAB,oh,AJ];exact .mk ⟨1,[.sl t (A.map eI),BY B],.own (n2+3) 1,_,n2+5⟩ rfl ⟨od _,λh=>(by cases h),λ_=>⟨.inl rfl,⟨t,rfl,ht⟩,⟨_,rfl,.inl rfl⟩,zt⟩⟩ (show 1-1<1-0 by decide)
end
def aW(g:xk):Bk:=AJ 87 (s1 DD (λg=>sR g.sB/\sR g.cells) Kz) (AJ 154 (JK g) (AJ 157 (s1 DD uK λg=>Bm (dgP g)) sE))
def ir{g:xk}(G:uK g):AG prog (aW g):=((AG.sE.add (q1 p157)).add (XZ G)).add (q1 λg h=>p87 g h.1 h.2)
structure IFy(N:Nat)(L:Nat->List (List Int))(v:VRg):Prop where
 hi:v.i<=N
 hn:2<=v.n
 fr:AU v.H v.n
 tok:EG 1 2 v.H v.tl
 es:v.tl.esz=1\/v.E=[]
 hE:EL v.E (L v.i)
structure IFz(N:Nat)(v:VRg):Prop where
 hi:v.i<=N
 hn:2<=v.n
 fr:AU v.H v.n
 tok:EG 1 2 v.H v.tl
 es:v.tl.esz=1\/HJ v.i=[]
 hE:v.E=(HJ v.i).map eI
def VZ(sh:Int){S:List A7}(hd:S.Nodup){c:Nat}{s:A7}(hs:S[c]?=some s):(HC sh S s++[(c:Int)]).mergeSort Fa=CE S.length λb=>decide (b=c)||((FX sh).any λd=>decide (S[b]?=(S[c]?).map λs=>Ih s d)):=by
 have hself:(c:Int)∉HC sh S s:=by simp_all [XC,NQ,XD]
 have hcl:=(pK.1 hs).1;refine Ku ?_ (Kt ..) λx=>?_
 ·rw[qD];refine⟨(Kt ..).imp λq=>zo,zw,λa ha b hb e=>?_⟩;rw[pV.1 hb]at e;exact hself (e▸ha)
 ·rw[pI,pV,hs];unfold HC;rw[IC,IC];simp only[pr,oV,oC];constructor
  ·grind
  ·grind
def aX{H H':AB}{n0 n' m:Nat}{x:List Int}{y:Int}{lv:Fs}{K:AB->Fs->Prop}(h:ClnP H n0 x (.ret lv) H' n')(hx:x.length<1000000)(hm:AD H' m=none)
  (hK:∀id (rest:List Int),(id=m\/id=n0+2/\n'=n0+4)->K (sA H' id (.arr 1 (((x++[y])++rest).map eI))) (.ref id 1 0 (x++[y]).length ((x++[y]).length+rest.length))):Jr H' m 1 8 (.int .i64 0) K lv (some [eI y]):=by
 rcases h with⟨rfl,rfl,hn,t,ho,ht⟩|⟨sZ,rfl,rest,ho,rfl⟩
 ·obtain rfl:=xx.ret.inj ho;rw[DJ];refine⟨hm,zd,rfl,ht,by simp [small],zw,(λe=>by cases e),λ_ cap hcap=>?_⟩;have:=hK m (List.replicate (cap-1) 0) (.inl rfl);simp only[oW,oL,oI,pd,pf,pp,rn]at this hcap⊢;rw[show 0+1+(cap-1)=cap by omega]at this;exact this
 ·obtain rfl:=xx.ret.inj ho;have hg:AD (sA H (n0+2) (.arr 1 ((x++rest).map eI))) (n0+2)=some (.arr 1 ((x++rest).map eI)):=AC ..;generalize sA H (n0+2) (.arr 1 ((x++rest).map eI))=G at hg hm hK;rw[Kb hg];have el:(x++[y]).length=x.length+1:=zw
  refine⟨hm,zd,rfl,rfl,rfl,AY (by simp only[oI,pd];omega) zd,by simp only[oI,pd];omega,rfl,zw,zo,λhr=>?_,λhr uT hc=>?_⟩
  ·have:=hK (n0+2) (rest.drop 1) (.inr ⟨rfl,rfl⟩);simp only[oI,pd]at hr⊢;have e1:List.take x.length ((x++rest).map eI)=x.map eI:=by rw[oD,pL zw,oY zw]
   have e2:List.drop (x.length+(0+1)) ((x++rest).map eI)=(rest.drop 1).map eI:=by rw[oD,rJ,qS zw];simp
   rw[e1,e2];rw[el,oD,oD,pi,show x.length+1+(rest.length-1)=x.length+rest.length by omega]at this;exact this
  ·have:=hK m (List.replicate (uT-(x.length+1)) 0) (.inl rfl);simp only[oI,pd]at hr hc⊢;have e1:List.take x.length ((x++rest).map eI)=x.map eI:=by rw[oD,pL zw,oY zw]
   rw[e1];rw[el,oD,oD,rn,pf,show x.length+1+(uT-(x.length+1))=uT by omega]at this;exact this
def SV(x:List Int)(c j:Nat):List (List Int):=((x.take j).filter λb=>decide ((c:Int)<b)).map λb=>[(c:Int),b]
def Xa(x:List Int)(c:Nat){j:Nat}{b:Int}(h:x[j]?=some b):SV x c (j+1)=SV x c j++if(c:Int)<b then[[(c:Int),b]]else[]:=by
 unfold SV;rw[oG,h,qv,oD];congr 1;by_cases q:(c:Int)<b<;>simp [q]
def T7(x:List Int)(c j:Nat):(SV x c j).length<=j:=by
 unfold SV;rw[o6];refine pu (qa ..) ?_;rw[oJ];omega
theorem c3n:((3:Nat):Int)=3:=rfl
theorem nQ:((4:Nat):Int)=4:=rfl
theorem c5n:((5:Nat):Int)=5:=rfl
theorem c6n:((6:Nat):Int)=6:=rfl
theorem c7n:((7:Nat):Int)=7:=rfl
def p88(g:xk)(f:Nat)(G:uK g)(hf:f<=7):A6 prog 88 [B9 g,.int .i64 (f:Int)] (.sH [Bm (E5 g.sh g.w g.h (AW g.sh g.w g.cells) f),.int .i64 0]):=by
 refine .mk ⟨BF 0 ..,zt,zt⟩ ⟨A0 0 _,zt,zt⟩ (dt.a (AE (ir G) (AF ?_)));have f1:DD.ok (.agg (AK g.sh g.w g.h g.sB g.cells))=True:=D0 g;have f2:DD.dec (.agg (AK g.sh g.w g.h g.sB g.cells))=g:=Ct g;simp only[AK]at f1 f2;obtain⟨ti,ub,uh⟩:=BP G.hG;have hc:sR g.cells:=by show g.cells.length<_;omega
 have tZ:=XN G;have hslen:=B5 g;obtain⟨uJ,hs2⟩:=H9 G.hG;have hd:(AW g.sh g.w g.cells).Nodup:=LS zo ti λp hp=>(uh p hp).1
 have hfrN:AU (sA Ac 0 (.box (AK g.sh g.w g.h g.sB g.cells))) 3:=AU.nil.sA (oq 3) zd;simp only[AK]at hfrN;rcases(by omega:f=0\/f=1\/f=2\/f=3\/f=4\/f=5\/f=6\/f=7)with rfl|rfl|rfl|rfl|rfl|rfl|rfl|rfl
 ·
  simp only[eZ,seval,o9,eY,dt,AK,aW,s1,f1,f2,o7 G.2,o7 hc,tZ,AJ];have hfam:E5 g.sh g.w g.h (AW g.sh g.w g.cells) 0=(List.range g.cells.length).map λ(c:Nat)=>[(c:Int)]:=by
   unfold E5;rw[oE rfl,SF,hslen,pO];rfl
  rw[hfam];refine AQ (λv:VRg=>⟨[(4,true,.sl v.tl v.E),(30,true,.int .i64 g.cells.length),(31,true,.int .i64 v.i)],v.H,v.n⟩) (IFy g.cells.length λi=>(List.range i).map λ(c:Nat)=>[(c:Int)]) (λv=>g.cells.length-v.i)
   ⟨0,[],.nil,_,3⟩ rfl ⟨oq _,(show 2<=3 by decide),hfrN,.inl rfl,.inr rfl,zt⟩ ?_
  rintro⟨i,E,tl,H,n⟩ ⟨hi,hn,l0,tM,s9,hEL⟩;simp only at hi hn l0 tM s9 hEL;by_cases e9:i<g.cells.length
  ·have e:=AI (k:=i) zo;have hEl:E.length=i:=by rw[hEL.len,o6,qi]
   have q1:At H 1 tl=True:=o7 tM.app;have q2:(E.length<=35184372088831)=True:=o7 zo;have q3:small (E.length+1) 24=True:=o7 (AY zo zd);simp only[eZ,seval,AT e9,e,q1,q2,q3,Bx l0];refine .mk ⟨i+1,E++[.sl (.exact 1) [.int .i64 i]],.own (n+4) 1,sA (AR H tl) (n+4) .tok,n+6⟩ rfl ⟨e9,zp,(AZ tM l0).sA (m:=n+6) zo zo,.inr (.inr ⟨n+4,rfl,zo,AC ..⟩),.inl rfl,?_⟩ zp;simp only[pU,oD,oL,pc];exact hEL.app ⟨⟨.exact 1,rfl,.inl rfl⟩,zt⟩
  obtain rfl:i=g.cells.length:=zo
  simp only[eZ,seval,Ah e9];exact Wk.sH (.cons (Wk.slx s9 hEL.wks) (.cons (Wk.refl _) .nil))
 ·simp only[eZ,seval,o9,eY,dt,AK,aW,JK,s1,f1,f2,o7 G.2,o7 hc,tZ,AJ];exact Wk.refl _
 ·simp only[eZ,seval,o9,eY,dt,AK,aW,JK,s1,f1,f2,o7 G.2,o7 hc,tZ,XT,AJ];exact Wk.refl _
 ·simp only[eZ,seval,o9,eY,dt,AK,aW,s1,f1,f2,o7 G.2,o7 hc,tZ,c3n,o7 G,AJ];exact Wk.refl _
 ·simp only[eZ,seval,o9,eY,dt,AK,aW,s1,f1,f2,o7 G.2,o7 hc,tZ,nQ,AJ];exact Wk.refl _
 ·
  have hfam:E5 g.sh g.w g.h (AW g.sh g.w g.cells) 5=(List.range g.cells.length).map λ(c:Nat)=>(HC g.sh (AW g.sh g.w g.cells) (DU g c)++[(c:Int)]).mergeSort Fa:=by
   unfold E5;rw[og zd,og zd,og zd,og zd,og zd,oE rfl,hslen];refine pC λc hcm=>?_
   rw[VZ g.sh hd (Ds (px.1 hcm)),hslen]
  rw[hfam];simp only[eZ,seval,o9,eY,dt,AK,aW,s1,f1,f2,o7 G.2,o7 hc,tZ,c5n,AJ];have hnl:(Ed g.sh (AW g.sh g.w g.cells)).length=g.cells.length:=by rw[Ed,o6,hslen]
  have hna:∀i,i<g.cells.length->(Ed g.sh (AW g.sh g.w g.cells))[i]?=some (HC g.sh (AW g.sh g.w g.cells) (DU g i)):=λi hi=>by rw[Ed,oO,Ds hi];rfl
  have hnx:∀s,(HC g.sh (AW g.sh g.w g.cells) s).length<=g.cells.length:=λs=>by rw[<-hslen];exact Cc ..
  generalize AW g.sh g.w g.cells=S at hnl hna hnx;generalize hNB:Ed g.sh S=NB at hnl hna;refine AQ (λv:VRg=>⟨[(4,true,.sl v.tl v.E),(57,true,Bm NB),(58,true,.int .i64 NB.length),(59,true,.int .i64 v.i)],v.H,v.n⟩) (IFy NB.length λi=>(List.range i).map λ(c:Nat)=>(HC g.sh S (DU g c)++[(c:Int)]).mergeSort Fa) (λv=>NB.length-v.i)
   ⟨0,[],.nil,_,3⟩ rfl ⟨oq _,(show 2<=3 by decide),hfrN,.inl rfl,.inr rfl,zt⟩ ?_
  rintro⟨i,E,tl,H,n⟩ ⟨hi,hn,l0,tM,s9,hEL⟩;simp only at hi hn l0 tM s9 hEL;by_cases e9:i<NB.length;case neg=>
   obtain rfl:i=NB.length:=zo
   simp only[eZ,seval,Ah e9];rw[hnl]at hEL;exact Wk.sH (.cons (Wk.slx s9 hEL.wks) (.cons (Wk.refl _) .nil))
  have e:=AI (k:=i) zo;have hg:=hna i zo;have hxl:=hnx (DU g i);have hEl:E.length=i:=by rw[hEL.len,o6,qi]
  generalize hx:HC g.sh S (DU g i)=x at hg hxl;simp only[eZ,seval,eY,AT e9,hg];refine(ip (.inl ⟨_,rfl,.inl rfl⟩) (show x.length<_ by omega)).mono ?_;intro o H1 n1 hcl;have ut:∃lv,o= .ret lv:=by
   rcases hcl with⟨-,-,-,t,ho,-⟩|⟨-,-,rest,ho,-⟩<;>exact⟨_,ho⟩
  obtain⟨lv,rfl⟩:=ut;have w7:n+6<=n1/\n1<=n+10:=by rcases hcl with⟨-,-,h,-⟩|⟨-,h,-⟩<;>omega
  have t7:AU H1 n1:=by
   rcases hcl with⟨-,rfl,-⟩|⟨-,rfl,rest,-,rfl⟩
   ·exact λj hj=>l0 j zo
   ·exact l0.sA zo zo
  have hk1:∀j,j<n+6->AD H1 j=AD H j:=λj hj=>by
   rcases hcl with⟨-,rfl,-⟩|⟨-,rfl,rest,-,rfl⟩
   ·rfl
   ·rw[AA _ _ _ _ zo]
  have hm4:AD H1 (n+4)=none:=by rw[hk1 _ zo];exact l0 _ zo
  simp only[eE,seval,BG];refine aX hcl zo hm4 λid rest s5=>?_
  have hidn:n<=id/\id<n1:=zo
  simp only[eE,eN,seval,Dy];refine(P8 (AC ..) zw (by simp;omega)).mono ?_;rintro o H2 n2 ⟨rfl,rfl,rfl⟩;rw[rU,List.drop_left,AH];have hsl:((x++[(i:Int)]).mergeSort Fa).length=(x++[(i:Int)]).length:=E4 _;have sj:List.take (x++[(i:Int)]).length (((x++[(i:Int)]).mergeSort Fa++rest).map eI)=((x++[(i:Int)]).mergeSort Fa).map eI:=by rw[oD,List.take_left' (by rw[o6,hsl])]
  have hle:((x++[(i:Int)]).length<=(((x++[(i:Int)]).mergeSort Fa++rest)).length)=True:=o7 (by have:=hsl;simp only[ou]at this⊢;omega);have hle2:((x++[(i:Int)]).length<=(x++[(i:Int)]).length+rest.length)=True:=o7 zo;have gt:EG 1 2 (sA H1 id (.frz 1 (((x++[(i:Int)]).mergeSort Fa++rest).map eI))) tl:=by
   rcases tM with h|h|⟨z,h1,h2,h3⟩
   ·exact .inl h
   ·exact .inr (.inl h)
   ·have:=l0.lt h3;exact .inr (.inr ⟨z,h1,h2,by rw[AA _ _ _ _ zo,hk1 z zo];exact h3⟩)
  have gf:AU (sA H1 id (.frz 1 (((x++[(i:Int)]).mergeSort Fa++rest).map eI))) n2:=t7.sA (od _) zo;have q1:=o7 gt.app;have q2:(E.length<=35184372088831)=True:=o7 zo;have q3:small (E.length+1) 24=True:=o7 (AY zo zd);have hm3:=Bx gf 3;simp only[eE,eN,seval,o6,BG,Ka,hle,hle2,sj,AH,q1,q2,q3,hm3,e];generalize sA H1 id (.frz 1 (((x++[(i:Int)]).mergeSort Fa++rest).map eI))=H5 at gt gf;refine .mk ⟨i+1,E++[.sl (if rest.length=0 then .exact 1 else .none 1) (((x++[(i:Int)]).mergeSort Fa).map eI)],.own (n2+3) 1,sA (AR H5 tl) (n2+3) .tok,n2+5⟩ rfl ⟨e9,zp,(AZ gt gf).sA (m:=n2+5) zo zo,.inr (.inr ⟨n2+3,rfl,zo,AC ..⟩),.inl rfl,?_⟩ zp
  ·simp only[pU,oD,oL,pc];rw[hx];exact hEL.app ⟨⟨_,rfl,.inl (by split<;>rfl)⟩,zt⟩
 ·
  have hnl:(Ed g.sh (AW g.sh g.w g.cells)).length=g.cells.length:=by rw[Ed,o6,hslen]
  have hna:∀i,i<g.cells.length->(Ed g.sh (AW g.sh g.w g.cells))[i]?=some (HC g.sh (AW g.sh g.w g.cells) (DU g i)):=λi hi=>by rw[Ed,oO,Ds hi];rfl
  have hnx:∀s,(HC g.sh (AW g.sh g.w g.cells) s).length<=g.cells.length:=λs=>by rw[<-hslen];exact Cc ..
  have hfam:E5 g.sh g.w g.h (AW g.sh g.w g.cells) 6=(List.range g.cells.length).flatMap λ(c:Nat)=>SV (HC g.sh (AW g.sh g.w g.cells) (DU g c)) c (HC g.sh (AW g.sh g.w g.cells) (DU g c)).length:=by
   unfold E5;rw[og zd,og zd,og zd,og zd,og zd,og zd,oE rfl,hslen];rw[List.flatMap_def,List.flatMap_def];congr 1;refine pC λc hcm=>?_
   rw[hna c (px.1 hcm),oQ];unfold SV;rw[oF]
  rw[hfam];simp only[eZ,seval,o9,eY,dt,AK,aW,s1,f1,f2,o7 G.2,o7 hc,tZ,c6n,AJ];generalize AW g.sh g.w g.cells=S at hnl hna hnx;generalize hNB:Ed g.sh S=NB at hnl hna;have hLl:∀i,((List.range i).flatMap λ(c:Nat)=>SV (HC g.sh S (DU g c)) c (HC g.sh S (DU g c)).length).length<=256*i:=λi=>by
   induction i with
   |zero=>simp
   |succ i ih=>
    rw[pU,re,ou];simp only[List.flatMap_cons,List.flatMap_nil,oR];have:=T7 (HC g.sh S (DU g i)) i (HC g.sh S (DU g i)).length;have:=hnx (DU g i);omega
  refine AQ (λv:VRg=>⟨[(4,true,.sl v.tl v.E),(78,true,Bm NB),(79,true,.int .i64 NB.length),(80,true,.int .i64 v.i)],v.H,v.n⟩) (IFy NB.length λi=>(List.range i).flatMap λ(c:Nat)=>SV (HC g.sh S (DU g c)) c (HC g.sh S (DU g c)).length) (λv=>NB.length-v.i)
   ⟨0,[],.nil,_,3⟩ rfl ⟨oq _,(show 2<=3 by decide),hfrN,.inl rfl,.inr rfl,zt⟩ ?_
  rintro⟨i,E,tl,H,n⟩ ⟨hi,hn,l0,tM,s9,hEL⟩;simp only at hi hn l0 tM s9 hEL;by_cases e9:i<NB.length;case neg=>
   obtain rfl:i=NB.length:=zo
   simp only[eZ,seval,Ah e9];rw[hnl]at hEL;exact Wk.sH (.cons (Wk.slx s9 hEL.wks) (.cons (Wk.refl _) .nil))
  have e:=AI (k:=i) zo;have hg:=hna i zo;have hxl:=hnx (DU g i);have hLi:=hLl i;have hstep:∀z,((List.range (i+1)).flatMap λ(c:Nat)=>SV (HC g.sh S (DU g c)) c (HC g.sh S (DU g c)).length)=z->((List.range i).flatMap λ(c:Nat)=>SV (HC g.sh S (DU g c)) c (HC g.sh S (DU g c)).length)++SV (HC g.sh S (DU g i)) i (HC g.sh S (DU g i)).length=z:=λz hz=>by
   rw[<-hz,pU,re];simp only[List.flatMap_cons,List.flatMap_nil,oR]
  have hstep:=hstep _ rfl;generalize ((List.range i).flatMap λ(c:Nat)=>SV (HC g.sh S (DU g c)) c (HC g.sh S (DU g c)).length)=L at hEL hLi hstep;generalize hx:HC g.sh S (DU g i)=x at hg hxl hstep;simp only[eZ,seval,eY,AT e9,hg];refine AQ (λv:VRg=>⟨[(4,true,.sl v.tl v.E),(11,true,.int .i64 i),(78,true,Bm NB),(79,true,.int .i64 NB.length),(80,true,.int .i64 i),(85,true,BY x),(86,true,.int .i64 x.length),(87,true,.int .i64 v.i)],v.H,v.n⟩) (IFy x.length λj=>L++SV x i j) (λv=>x.length-v.i)
   ⟨0,E,tl,H,n⟩ rfl ⟨oq _,hn,l0,tM,s9,by rw[show SV x i 0=[]from rfl,oR];exact hEL⟩ ?_
  rintro⟨j,E2,tl2,H2,n2⟩ ⟨hj,hn2,hfr2,htl2,uc,hEL2⟩;simp only at hj hn2 hfr2 htl2 uc hEL2;by_cases t8:j<x.length;case neg=>
   obtain rfl:j=x.length:=zo
   simp only[eZ,seval,Ah t8,e];rw[hstep]at hEL2;exact .mk ⟨i+1,E2,tl2,H2,n2⟩ rfl ⟨e9,hn2,hfr2,htl2,uc,hEL2⟩ zp
  have ej:=AI (k:=j) zo;have to:=o8 t8;have hsu:=Xa x i to;generalize x[j]=b at to hsu;by_cases hb:(i:Int)<b
  ·rw[oE hb]at hsu;have tj:=T7 x i j;have hEl:E2.length<=70000:=by rw[hEL2.len,ou];omega
   have q1:At H2 1 tl2=True:=o7 htl2.app;have q2:(E2.length<=35184372088831)=True:=o7 zo;have q3:small (E2.length+1) 24=True:=o7 (AY zo zd);simp only[eZ,seval,eY,AT t8,to,BL hb,ej,q1,q2,q3,Bx hfr2];refine .mk ⟨j+1,E2++[.sl (.exact 1) [.int .i64 i,.int .i64 b]],.own (n2+5) 1,sA (AR H2 tl2) (n2+5) .tok,n2+7⟩ rfl ⟨t8,zp,(AZ htl2 hfr2).sA (m:=n2+7) zo zo,.inr (.inr ⟨n2+5,rfl,zo,AC ..⟩),.inl rfl,?_⟩ zp;simp only[hsu];rw[<-oT];exact hEL2.app ⟨⟨.exact 1,rfl,.inl rfl⟩,zt⟩
  ·rw[og hb,oR]at hsu;simp only[eZ,seval,eY,AT t8,to,A5 hb,ej];exact .mk ⟨j+1,E2,tl2,H2,n2⟩ rfl ⟨t8,hn2,hfr2,htl2,uc,by simp only[hsu];exact hEL2⟩ zp
 ·
  have hfam:E5 g.sh g.w g.h (AW g.sh g.w g.cells) 7=[HJ g.cells.length]:=by
   unfold E5;rw[og zd,og zd,og zd,og zd,og zd,og zd,og zd,hslen];rfl
  rw[hfam];simp only[eZ,seval,o9,eY,dt,AK,aW,s1,f1,f2,o7 G.2,o7 hc,tZ,c7n,AJ];refine AQ (λv:VRg=>⟨[(15,true,.sl v.tl v.E),(106,true,.int .i64 g.cells.length),(107,true,.int .i64 v.i)],v.H,v.n⟩) (IFz g.cells.length) (λv=>g.cells.length-v.i)
   ⟨0,[],.nil,_,3⟩ rfl ⟨oq _,(show 2<=3 by decide),hfrN,.inl rfl,.inr rfl,rfl⟩ ?_
  rintro⟨i,E,tl,H,n⟩ ⟨hi,hn,l0,tM,s9,hEL⟩;simp only at hi hn l0 tM s9 hEL;subst hEL;have hEl:(HJ i).length<=i:=Cc ..;by_cases e9:i<g.cells.length
  ·have e:=AI (k:=i) zo;have q1:At H 1 tl=True:=o7 tM.app;have q2:((HJ i).length<=35184372088831)=True:=o7 zo;have q3:small ((HJ i).length+1) 8=True:=o7 (AY zo zd);simp only[eZ,seval,o6,AT e9,e,q1,q2,q3,Bx l0];refine .mk ⟨i+1,(HJ i).map eI++[.int .i64 i],.own (n+3) 1,sA (AR H tl) (n+3) .tok,n+5⟩ rfl ⟨e9,zp,(AZ tM l0).sA (m:=n+5) zo zo,.inr (.inr ⟨n+3,rfl,zo,AC ..⟩),.inl rfl,?_⟩ zp;simp only[Ns,oD,oL,pc]
  obtain rfl:i=g.cells.length:=zo
  simp only[eZ,seval,Ah e9];exact Wk.sH (.cons (Wk.slx (m:=[BY (HJ g.cells.length)]) (.inl rfl) (.cons (Wk.sl (s9.imp (λz=>z) λq=>by rw[q];rfl)) .nil)) (.cons (Wk.refl _) .nil))
abbrev aY(d:x8):List Fs:=[.str d.nm,.int .i64 d.uw,.int .i64 d.sh,.int .i64 d.w,.int .i64 d.h,BY d.sB,HP d.sI,GV d.sJ,EY d.sD,DT d.sC,z0,z0,z0,zs,zs,zs,zs]
def nR:Bk:=AJ 84 (s1 dD zy CV) (AJ 85 (s1 dD zy λd=>.int .i64 (EH d)) (AJ 86 Z4 (AJ 87 (s1 DD (λg=>sR g.sB/\sR g.cells) Kz) sE)))
def gMk:∀args H n,(Z4 args H).1->Ad prog 86 args H n (Z4 args H).2:=by
 intro args H n hh;unfold Z4 at hh⊢;split at hh
 ·obtain⟨h1,h2⟩:=hh;refine AO.args ((p86 _ _ _ _ h2).quiet H n) ?_;rintro g vs ⟨v,r,rfl,k1,v2,r2,rfl,k2,v3,r3,rfl,k3,v4,r4,rfl,k4,k5⟩;exact⟨v,_,rfl,k1,v2,_,rfl,k2,v3,_,rfl,k3,v4,_,rfl,Cj.wk _ h1 _ _ k4,k5⟩
 ·exact hh.elim
def SW:AG prog nR:=(((AG.sE.add (q1 λg h=>p87 g h.1 h.2)).add gMk).add (q1 p85)).add (q1 p84)
theorem Tbs_m(sh w h:Int)(x:Fs)(H:AB):nR 86 [.int .i64 sh,.int .i64 w,.int .i64 h,x] H=(Cj.ok x/\sR (Cj.dec x),BX sh w h (Cj.dec x)):=rfl
theorem Tbs_n(a:List Fs)(H:AB):nR 87 a H=s1 DD (λg=>sR g.sB/\sR g.cells) Kz a H:=rfl
section
variable {H:AB} {n p:Nat} {d:x8}
theorem QP(hd:zy d)(hp:AD H p=some (.box (aY d))):AO prog 34 [.ptr p 0] H n λo H' n'=>n'=n/\match B3 d with
  | .error e=>o= .ret (.int .i64 e)/\H'=sA H p (.box (aY G6))
  | .ok x=>o= .ret (.int .i64 0)/\H'=sA H p (.box (aY x)):=by
 refine c34.a (AE SW (AF ?_));have e1:dD.ok (.agg (AL d))=True:=Az d;have e2:dD.dec (.agg (AL d))=d:=Ap d;simp only[AL]at e1 e2;cases hr:B3 d with
 |error e=>
  have hv:CV d= .sH [Ba G6,.int .i64 e]:=by unfold CV;rw[hr]
  simp only[eE,eN,seval,eY,c34,hp,nR,s1,e1,e2,o7 hd,hv,AJ]
 |ok x=>
  have hv:CV d= .sH [Ba x,.int .i64 0]:=by unfold CV;rw[hr]
  simp only[eE,eN,seval,eY,c34,hp,nR,s1,e1,e2,o7 hd,hv,AJ]
theorem Va(hd:zy d)(hp:AD H p=some (.box (aY d))):AO prog 35 [.ptr p 0] H n λo H' n'=>o= .ret (.int .i64 (EH d))/\H'=H/\n'=n:=by
 refine c35.a (AE SW (AF ?_));have e1:dD.ok (.agg (AL d))=True:=Az d;have e2:dD.dec (.agg (AL d))=d:=Ap d;simp only[AL]at e1 e2;simp only[eE,eN,seval,c35,hp,nR,s1,e1,e2,o7 hd,AJ]
theorem Xb{cells:List Int}(hd:zy d)(hg:Aq d.sh d.w d.h d.sB=some cells)(hp:AD H p=some (.box (aY d))):AO prog 36 [.ptr p 0] H n λo H' n'=>o= .ret (.int .i64 0)/\H'=sA H p (.box (VO d cells zs))/\n'=n:=by
 refine c36.a (AE SW (AF ?_));have hm:BX d.sh d.w d.h d.sB= .sH [Ec d.sh d.w d.h d.sB cells,.int .i64 0]:=by unfold BX;rw[hg]
 have G:uK (A8 d cells):=⟨hg,hd.ho⟩;have g1:DD.ok (.agg [.int .i64 d.sh,.int .i64 d.w,.int .i64 d.h,BY d.sB,BY cells])=True:=D0 (A8 d cells);have g2:DD.dec (.agg [.int .i64 d.sh,.int .i64 d.w,.int .i64 d.h,BY d.sB,BY cells])=A8 d cells:=Ct (A8 d cells);have hho:sR (A8 d cells).sB=True:=o7 hd.ho;have hce:sR (A8 d cells).cells=True:=o7 (by
  obtain⟨-,h2,-⟩:=BP hg;show cells.length<_;omega)
 have hnb:Kz (A8 d cells)= .sH [Bm (Ed d.sh (AW d.sh d.w cells)),.int .i64 0]:=XN G;simp only[eZ,seval,eY,c36,hp,Tbs_m,Tbs_n,s1,g1,g2,As,Al,o7 hd.ho,hho,hce,hm,hnb,AH]
end
def Tbc:Bk:=AJ 88 (s2 DD dI (λg f=>uK g/\0<=f/\f<=7) λg f=>.sH [Bm (E5 g.sh g.w g.h (AW g.sh g.w g.cells) f.toNat),.int .i64 0])
 (AJ 89 (s2 DD Le (λg l=>Aq g.sh g.w g.h g.sB=some g.cells/\sR g.sB/\B4 l) λg l=>D2 g.cells l) sE)
def iu:AG prog Tbc:=(AG.sE.add (q2 λg l h=>p89 g l h.1 h.2.1 h.2.2)).add (q2 λg f h=>by
 have:=p88 g f.toNat h.1 zo;rw[pS h.2.1]at this;exact this)
structure IBk(x:x8)(cells:List Int)(p n0:Nat)(H0:AB)(m:Nat)(L:Nat->List (List (List Int)))(v:VRg):Prop where
 hi:v.i<=m
 hn:n0<=v.n
 fr:AU v.H v.n
 kp:∀id ob,id≠p->id<n0->AD H0 id=some ob->AD v.H id=some ob
 hp:AD v.H p=some (.box (VO x cells (.sl v.tl v.E)))
 tok:EG 1 n0 v.H v.tl
 es:v.tl.esz=1\/v.E=[]
 hE:Wks v.E ((L v.i).map Bm)
def QS{x:x8}{cells:List Int}{H:AB}{n p:Nat}(hfx:zy x)(hc:EH x=0)(hg:Aq x.sh x.w x.h x.sB=some cells)(hf:AU H n)(hp:AD H p=some (.box (VO x cells zs))):
  AO prog 37 [.ptr p 0] H n λo H' n'=>o= .ret (.int .i64 0)/\AU H' n'/\n<=n'/\(∀id ob,id≠p->id<n->AD H id=some ob->AD H' id=some ob)/\
   ∃tl E,AD H' p=some (.box (VO x cells (.sl tl E)))/\(tl.esz=1\/E=[])/\Wks E ((((List.range 8).map λf=>E5 x.sh x.w x.h (AW x.sh x.w cells) f)++x.sJ.map λr=>r.ls.map (Bb cells)).map Bm):=by
 have hpn:=hf.lt hp;refine c37.a (AE iu (AF ?_));have G:uK (A8 x cells):=⟨hg,hfx.ho⟩;have g1:DD.ok (.agg [.int .i64 x.sh,.int .i64 x.w,.int .i64 x.h,BY x.sB,BY cells])=True:=D0 (A8 x cells);have g2:DD.dec (.agg [.int .i64 x.sh,.int .i64 x.w,.int .i64 x.h,BY x.sB,BY cells])=A8 x cells:=Ct (A8 x cells);have hho:sR (A8 x cells).sB=True:=o7 hfx.ho;simp only[eE,eN,seval,c37];refine AQ (λv:VRg=>⟨[(0,true,.ptr p 0),(10,true,.int .i64 v.i)],v.H,v.n⟩) (IBk x cells p n H 8 λi=>(List.range i).map λf=>E5 x.sh x.w x.h (AW x.sh x.w cells) f) (λv=>8-v.i)
  ⟨0,[],.nil,H,n⟩ rfl ⟨oq _,od _,hf,λid ob _ _ h=>h,hp,.inl rfl,.inr rfl,.nil⟩ ?_
 rintro⟨i,E,tl,H1,m⟩ hI;obtain⟨hi,hn,l0,hkp,hp1,tM,s9,hE⟩:=hI;simp only at hi hn l0 hkp hp1 tM s9 hE;by_cases e9:i<8
 ·have e:=AI (k:=i) zo;have hq:((i:Int)<8)=True:=o7 zo;have hq7:((i:Int)<=7)=True:=o7 zo;have hEl:E.length=i:=by
   have:=hE.len;rw[o6,o6,qi]at this;exact this
  have hfm:(A8 x cells).sh=x.sh/\(A8 x cells).w=x.w/\(A8 x cells).h=x.h/\(A8 x cells).cells=cells:=⟨rfl,rfl,rfl,rfl⟩;have q1:At H1 1 tl=True:=o7 tM.app;have q2:(E.length<=35184372088831)=True:=o7 zo;have q3:small (E.length+1) 24=True:=o7 (AY zo zd);have hkP:=Ai tM (i:=p) (.inr ⟨_,hp1⟩);rw[hp1]at hkP;have y1:∀k,(p=m+k)=False:=λk=>oA zo
  have y2:∀k,(m+k=p)=False:=λk=>oA zo
  simp only[eZ,seval,o9,eY,hp1,hq,hq7,Tbc,s2,g1,g2,BR,Ax,o7 G,hfm.1,hfm.2.1,hfm.2.2.1,hfm.2.2.2,e,q1,q2,q3,Bx l0,hkP,y2,AJ];refine .mk ⟨i+1,E++[Bm (E5 x.sh x.w x.h (AW x.sh x.w cells) i)],.own (m+8) 1,sA (sA (AR H1 tl) (m+8) .tok) p (.box (VO x cells (.sl (.own (m+8) 1) (E++[Bm (E5 x.sh x.w x.h (AW x.sh x.w cells) i)])))),m+13⟩ rfl ⟨e9,zp,((AZ tM l0).sA (m:=m+13) zo zo).sA (od _) (show p<m+13 by omega),λid ob h1 h2 h3=>?_,AC ..,.inr (.inr ⟨m+8,rfl,zo,?_⟩),.inl rfl,?_⟩ zp
  ·grind [AA,Ai]
  ·simp only[];rw[AA _ _ _ _ zo,AC]
  ·simp only[pU,oD,oL,pc]at hE⊢;exact hE.app (.cons (Wk.refl _) .nil)
 obtain rfl:i=8:=zo
 have hq:(((8:Nat):Int)<8)=False:=oA zd;simp only[eZ,seval,o6,hq,hp1];refine AQ (λv:VRg=>⟨[(0,true,.ptr p 0),(44,true,GV x.sJ),(45,true,.int .i64 x.sJ.length),(46,true,.int .i64 v.i)],v.H,v.n⟩) (IBk x cells p n H x.sJ.length λi=>((List.range 8).map λf=>E5 x.sh x.w x.h (AW x.sh x.w cells) f)++(x.sJ.take i).map λr=>r.ls.map (Bb cells)) (λv=>x.sJ.length-v.i)
  ⟨0,E,tl,H1,m⟩ rfl ⟨oq _,hn,l0,hkp,hp1,tM,s9,by
   simp only[pZ,pc,oR];exact hE⟩ ?_
 clear hE s9 tM hp1 hkp l0 hn hq e9 hi;rintro⟨i,E,tl,H1,m⟩ hI;obtain⟨hi,hn,l0,hkp,hp1,tM,s9,hE⟩:=hI;simp only at hi hn l0 hkp hp1 tM s9 hE;have ua:x.sJ.length<=4:=by simp_all [EH,If,oo,oC]<;>omega
 by_cases e9:i<x.sJ.length
 ·have e:=AI (k:=i) zo;have hgr:=o8 e9;have ux:x.sJ[i]∈x.sJ:=oK e9;have hrg:=Ty hc hg ux;have th:B4 x.sJ[i].ls=True:=o7 (hfx.rgs _ ux);have l6:x.sJ.take (i+1)=x.sJ.take i++[x.sJ[i]]:=by rw[oG,hgr];rfl
  generalize x.sJ[i]=r at hgr hrg th l6;have hgc:(Aq (A8 x cells).sh (A8 x cells).w (A8 x cells).h (A8 x cells).sB=some (A8 x cells).cells)=True:=o7 hg;have hgd:(Aq (A8 x cells).sh (A8 x cells).w (A8 x cells).h (A8 x cells).sB=some cells)=True:=o7 hg;have hgx:(A8 x cells).cells=cells:=rfl;have hEl:E.length=8+i:=by
   have:=hE.len;rw[o6,ou,o6,o6,qi,oJ]at this;omega
  have q1:At (sA H1 (m+2) (.box [.str r.nm,Bm r.ls])) 1 tl=True:=o7 ((tM.set (.inr (.inr (l0 _ zo)))).app);have gt:EG 1 n (sA H1 (m+2) (.box [.str r.nm,Bm r.ls])) tl:=tM.set (.inr (.inr (l0 _ zo)));have gf:AU (sA H1 (m+2) (.box [.str r.nm,Bm r.ls])) (m+4):=l0.sA (m:=m+4) zo zo;have gp:AD (sA H1 (m+2) (.box [.str r.nm,Bm r.ls])) p=some (.box (VO x cells (.sl tl E))):=by rw[AA _ _ _ _ zo];exact hp1
  have q2:(E.length<=35184372088831)=True:=o7 zo;have q3:small (E.length+1) 24=True:=o7 (AY zo zd);have hkP:=Ai gt (i:=p) (.inr ⟨_,gp⟩);rw[gp]at hkP;have y1:∀k,(p=m+k)=False:=λk=>oA zo
  have y2:∀k,(m+k=p)=False:=λk=>oA zo
  simp only[eZ,seval,o9,eY,hp1,AT e9,hgr,Bx l0,AH,Tbc,s2,g1,g2,Cp,CC,hho,hgd,hgx,th,hrg,e,q1,q2,q3,hkP,y2,AJ];refine .mk ⟨i+1,E++[Bm (r.ls.map (Bb cells))],.own (m+12) 1,sA (sA (AR (sA H1 (m+2) (.box [.str r.nm,Bm r.ls])) tl) (m+12) .tok) p (.box (VO x cells (.sl (.own (m+12) 1) (E++[Bm (r.ls.map (Bb cells))])))),m+17⟩ rfl ⟨e9,zp,((AZ gt gf).sA (m:=m+17) zo zo).sA (od _) (show p<m+17 by omega),λid ob h1 h2 h3=>?_,AC ..,.inr (.inr ⟨m+12,rfl,zo,?_⟩),.inl rfl,?_⟩ zp
  ·grind [AA,Ai]
  ·simp only[];rw[AA _ _ _ _ zo,AC]
  ·simp only[l6,oD,oL,pc]at hE⊢;rw[<-oT];exact hE.app (.cons (Wk.refl _) .nil)
 obtain rfl:i=x.sJ.length:=zo
 rw[oF]at hE;simp only[eZ,seval,Ah e9];exact⟨l0,hn,hkp,tl,E,hp1,s9,hE⟩
def stB(d:x8)(H:AB):Nat->Prop
 |0=>AD H 3=some (.box (aY d))
 |1=>∃x,B3 d= .ok x/\AD H 3=some (.box (aY x))
 |2=>∃x,B3 d= .ok x/\EH x=0/\AD H 3=some (.box (aY x))
 |3=>∃x cells,B3 d= .ok x/\EH x=0/\Aq x.sh x.w x.h x.sB=some cells/\AD H 3=some (.box (VO x cells zs))
 |_=>∃x cells tl E,B3 d= .ok x/\EH x=0/\Aq x.sh x.w x.h x.sB=some cells/\AD H 3=some (.box (VO x cells (.sl tl E)))/\(tl.esz=1\/E=[])/\Wks E ((((List.range 8).map λf=>E5 x.sh x.w x.h (AW x.sh x.w cells) f)++x.sJ.map λr=>r.ls.map (Bb cells)).map Bm)
structure IBu(d:x8)(v:VF):Prop where
 hi:v.i<=4
 hn:4<=v.n
 fr:AU v.H v.n
 h1:AD v.H 1=some (.box zKn)
 st:stB d v.H v.i
abbrev fB(f:FuncId):Fs:=.fn (.func f) [.ptr 3 0] []
def aZ(d:x8)(hd:zy d):A6 prog 15 [Ba d] (A9 d):=by
 refine .mk ⟨Ag 0 d,zt⟩ (by unfold A9;split<;>exact⟨Bp 0 _,zt,zt⟩) (c15.a (AE AG.sE (AF ?_)));simp only[eE,eN,seval,c15,AL];refine AQ (λv:VF=>⟨[(2,true,.ptr 1 0),(4,true,.ptr 3 0),(15,true,.sl (.exact 1) [fB 34,fB 35,fB 36,fB 37]),(16,true,.int .i64 4),(17,true,.int .i64 v.i)],v.H,v.n⟩) (IBu d) (λv=>4-v.i)
  ⟨0,_,4⟩ rfl ⟨zp,od _,?_,rfl,?_⟩ ?_
 ·simp only[];repeat' (first|exact AU.nil|refine AU.sA ?_ (od _) zd)
 ·rfl
 rintro⟨i,H,n⟩ ⟨hi,hn,l0,h1,sY⟩;simp only at hi hn l0 h1 sY;have w1':IntKind.wrap .i64 (1+1)=2:=An zd zd;have w2':IntKind.wrap .i64 (2+1)=3:=An zd zd;have w3':IntKind.wrap .i64 (3+1)=4:=An zd zd;rcases(by omega:i=0\/i=1\/i=2\/i=3\/i=4)with rfl|rfl|rfl|rfl|rfl
 ·simp only[eZ,seval,eY,nQ];refine(QP hd sY).mono ?_;rintro o H1 n1 ⟨rfl,hm⟩;cases hr:B3 d with
  |error e=>
   rw[hr]at hm;obtain⟨rfl,rfl⟩:=hm;have he:(e=0)=False:=oA (GL hr);have hb:A9 d= .sH [BM DY,.int .i64 e]:=by unfold A9 Ck;rw[hr]
   rw[hb];simp only[eZ,seval,oh,Au,BG,he,h1];exact PA e
  |ok x=>
   rw[hr]at hm;obtain⟨rfl,rfl⟩:=hm;simp only[eZ,seval,o9,BG,nP];exact .mk ⟨1,sA H 3 (.box (aY x)),n1⟩ rfl ⟨zp,hn,l0.sA (od _) (show 3<n1 by omega),by simp only[];rw[AA _ _ _ _ zd];exact h1,x,hr,AC ..⟩ zp
 ·obtain⟨x,hr,h3⟩:=sY;have hfx:=IF hd hr;simp only[eZ,seval,eY,nQ];refine(Va hfx h3).mono ?_;rintro o H1 n1 ⟨rfl,rfl,rfl⟩;by_cases hc:EH x=0
  ·simp only[eZ,seval,o9,BG,BL hc,w1'];exact .mk ⟨2,H1,n1⟩ rfl ⟨zp,hn,l0,h1,x,hr,hc,h3⟩ zp
  ·have hb:A9 d= .sH [BM DY,.int .i64 (EH x)]:=by unfold A9 Ck;rw[hr];simp only[];rw[oE hc]
   rw[hb];simp only[eZ,seval,oh,Au,BG,A5 hc,h1];exact PA _
 ·obtain⟨x,hr,hc,h3⟩:=sY;have hfx:=IF hd hr;obtain⟨cells,hg⟩:=SJ hc;simp only[eZ,seval,eY,XT,nQ];refine(Xb hfx hg h3).mono ?_;rintro o H1 n1 ⟨rfl,rfl,rfl⟩;simp only[eZ,seval,o9,BG,w2'];exact .mk ⟨3,sA H 3 (.box (VO x cells zs)),n1⟩ rfl ⟨zp,hn,l0.sA (od _) (show 3<n1 by omega),by simp only[];rw[AA _ _ _ _ zd];exact h1,x,cells,hr,hc,hg,AC ..⟩ zp
 ·obtain⟨x,cells,hr,hc,hg,h3⟩:=sY;have hfx:=IF hd hr;simp only[eZ,seval,eY,c3n,nQ];refine(QS hfx hc hg l0 h3).mono ?_;rintro o H1 n1 ⟨rfl,t7,w7,hk,tl,E,hp,s9,hE⟩;simp only[eZ,seval,o9,BG,w3'];exact .mk ⟨4,H1,n1⟩ rfl ⟨od _,zp,t7,hk 1 _ zd zo h1,x,cells,tl,E,hr,hc,hg,hp,s9,hE⟩ zp
 ·obtain⟨x,cells,tl,E,hr,hc,hg,hp,s9,hE⟩:=sY;have hb:A9 d= .sH [BM (Z0 x cells),.int .i64 0]:=by
   unfold A9 Ck;rw[hr];simp only[];rw[og (λz=>z hc),hg]
  rw[hb];simp only[eZ,seval,Au,nQ,hp,h1];exact Wk.sH (.cons (XO (d:=x) (g:=A8 x cells) (Wk.refl _) (Wk.refl _) (Wk.refl _) (Wk.refl _) (Wk.refl _) (Wk.refl _) (Wk.refl _) (Wk.refl _) (Wk.slx s9 hE)) (.cons (Wk.refl _) .nil))
def T8{sh w h:Int}{S:List A7}(hS:S.length<=256)(f:Nat):B4 (E5 sh w h S f):=by
 have hidx:∀p:Nat->Bool,(CE S.length p).length<=256:=λp=>pu (Cc ..) hS
 have uz:∀f,B4 (CB S f):=λf=>by
  refine⟨?_,λx hx=>?_⟩
  ·have:(CB S f).length<=49:=pu (qa ..) (by simp [J1]);show _<_;omega
  ·grind [CB,CA]
 have hnb:∀s,(HC sh S s).length<=256:=λs=>hidx _
 have hmap:∀(l:List (List Int)),l.length<=256->(∀x∈l,x.length<=256)->B4 l:=λl h1 h2=>⟨show _<_ by omega,λx hx=>by
  have:=h2 x hx;show _<_;omega⟩
 unfold E5;split
 ·grind
 split
 ·exact uz _
 split
 ·exact uz _
 split
 ·split
  ·exact uz _
  ·split
   ·refine hmap _ ?_ λx hx=>?_
    ·unfold LR;simp only[ou];split<;>split<;>simp
    ·unfold LR at hx;rcases pI.1 hx with hx|hx
     ·split at hx
      ·cases hx
      ·rw[pV.1 hx];exact hidx _
     ·split at hx
      ·cases hx
      ·rw[pV.1 hx];exact hidx _
   ·exact hmap _ zw zw
 split
 ·grind [Ed,List.length_map]
 split
 ·grind
 split
 ·refine⟨?_,λx hx=>?_⟩
  ·have key:∀n,n<=S.length->((List.range n).flatMap λ(c:Nat)=>(((Ed sh S)[c]?.getD []).filter λb=>decide ((c:Int)<b)).map λb=>[(c:Int),b]).length<=256*n:=λn=>by
    induction n with
    |zero=>intro _;simp
    |succ n ih=>
     intro hn;rw[pU,re,ou];simp only[List.flatMap_cons,List.flatMap_nil,oR,o6];have h1:=ih zo;have h2:(((Ed sh S)[n]?.getD []).filter λb=>decide ((n:Int)<b)).length<=256:=by
      refine pu (qa ..) ?_;rw[Ed,oO];cases S[n]? with
      |none=>simp
      |some s=>exact hnb s
     omega
   have:=key S.length (od _);show _<_;omega
  ·grind
 ·grind
def J9{d:x8}(hd:zy d){k:uV}(h:Ck d= .ok k):uL k:=by
 obtain⟨x,cells,hr,hc,hg,rfl⟩:=Z1 h;have hfx:=IF hd hr;obtain⟨-,h2,-⟩:=BP hg;have hS:(AW x.sh x.w cells).length<=256:=by unfold AW;rw[o6];exact h2
 have ua:x.sJ.length<1000000000:=hfx.rg;have hrl4:x.sJ.length<=4:=by simp_all [EH,If,oo,oC]<;>omega
 refine⟨hfx,Dk hfx.ho,show cells.length<_ by omega,T8 (w:=x.w) (h:=x.h) hS 4,?_,λl hl=>?_⟩
 ·show(((List.range 8).map _)++x.sJ.map _).length<_;rw[ou,o6,o6,qi];omega
 ·rcases pI.1 hl with hl|hl
  ·obtain⟨f,-,rfl⟩:=pz.1 hl;exact T8 hS f
  ·obtain⟨r,hr,rfl⟩:=pz.1 hl;have:=hfx.rgs r hr;refine⟨by show(r.ls.map _).length<_;rw[o6];exact this.1,λy hy=>?_⟩;obtain⟨z,hz,rfl⟩:=pz.1 hy;have:=this.2 z hz;show(z.map _).length<_;rw[o6];exact this
def Tkc:Bk:=AJ 15 (s1 dD zy A9) (AJ 12 (s2 DO DO (λ_ b=>uL b) λa b=>.bool (decide (a=b))) sE)
def iv:AG prog Tkc:=(AG.sE.add (q2 λa b h=>p12 a b h)).add (q1 λd h=>aZ d h)
def p10(k:uV)(h1:zy k.d):A6 prog 10 [BM k] (.int .i64 (Cq k)):=by
 refine .mk ⟨Bp 0 k,zt⟩ zt (mM.a (AE iv (AF ?_)));have e1:dD.ok (.agg (AL k.d))=True:=Az k.d;have e2:dD.dec (.agg (AL k.d))=k.d:=Ap k.d;have u1:DO.ok (.agg (Ab k))=True:=FY k;have u2:DO.dec (.agg (Ab k))=k:=Dq k;simp only[AL]at e1 e2;simp only[Ab,AK,AL,pp,oW]at u1 u2;unfold Cq Tl;cases hb:Ck k.d with
 |error e=>
  have hv:A9 k.d= .sH [BM DY,.int .i64 e]:=by unfold A9;rw[hb]
  have he:(e=0)=False:=oA (Nt hb);simp only[eZ,seval,o9,oh,eY,mM,Ab,AK,AL,Tkc,s1,s2,e1,e2,u1,u2,o7 h1,hv,he,AJ]
 |ok x=>
 have hv:A9 k.d= .sH [BM x,.int .i64 0]:=by unfold A9;rw[hb]
 have v1:DO.ok (.agg (Ab x))=True:=FY x;have v2:DO.dec (.agg (Ab x))=x:=Dq x;have h2:=J9 h1 hb;simp only[Ab,AK,AL,pp,oW]at v1 v2;simp only[];by_cases hx:k=x
 ·simp only[eZ,seval,o9,eY,mM,Ab,AK,AL,Tkc,s1,s2,e1,e2,u1,u2,v1,v2,o7 h1,o7 h2,hv,BL hx,AJ]
 ·simp only[eZ,seval,o9,oh,eY,mM,Ab,AK,AL,Tkc,s1,s2,e1,e2,u1,u2,v1,v2,o7 h1,o7 h2,hv,A5 hx,AJ]
end Go.AM
