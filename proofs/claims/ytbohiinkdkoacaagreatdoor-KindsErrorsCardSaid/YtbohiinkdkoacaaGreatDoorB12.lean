/-
  Parts of the proof. Conditions: none.
-/
import Derived.Test.YtbohiinkdkoacaaGreatDoorB11
set_option maxRecDepth 20000
set_option linter.all false
namespace Go.AM
open Go.Lib Go.Proofs Go.Proofs.Tryz
structure VSp where
 i:Nat
 H:AC
 n:Nat
def In(g:Zc)(G:GrV g){l' q:Nat}{J:Nat->AC->Nat->Prop}(hJ:∀i H n,J i H n->hget H q=some (.box (AH g.sh g.w g.h g.holes g.cells)))
  (hy:∀i H n,i<g.cells.length->J i H n->∀R:Bool->AC->Nat->Prop,(∀H' n',J (i+1) H' n'->R true H' n')->B2 prog l' [.int .i64 i,.agg [.int .i64 (spC g i).1,.int .i64 (spC g i).2]] H n R) {H:AC} {n:Nat} (h0:J 0 H n):
  AN prog 195 [.fn (.yield l') [] [],.ptr q 0] H n λo H' n'=>o= .ret (.tup [])/\J g.cells.length H' n':=by
 obtain⟨q9,v8,x0⟩:=Ax G.hG;refine c195.a (AE AI.tnil (AF ?_));have hq:=hJ 0 H n h0;simp only[AH]at hq;simp only[eE,eN,seval,V0,c195,hq];refine AO (λv:VSp=>⟨[(0,true,.fn (.yield l') [] []),(1,true,.ptr q 0),(8,true,eIs g.cells),(9,true,.int .i64 g.cells.length),(10,true,.int .i64 v.i)],v.H,v.n⟩) (λv=>v.i<=g.cells.length/\J v.i v.H v.n) (λv=>g.cells.length-v.i)
  ⟨0,H,n⟩ rfl ⟨V8 _,h0⟩ ?_
 rintro⟨i,H1,m⟩ ⟨hi,hj⟩;simp only at hi hj;by_cases c6:i<g.cells.length
 ·have hq1:=hJ i H1 m hj;simp only[AH]at hq1;have gi:inG g (i:Int):=⟨zo,by rw[Vy];exact c6⟩;obtain⟨k,hk,-,hg,hp,w1,w2,x1,x2,y1,y2,ey,hs⟩:=G.at gi;obtain rfl:k=i:=zo
  have e:=AG (k:=k) zo;have hw:(g.w=0)=False:=Vs zo;have r1:IntKind.wrap .i64 ((Aa g (k:Int)).tdiv g.w)=(Aa g (k:Int)).tdiv g.w:=Ae zo zo;have r2:IntKind.wrap .i64 (((Aa g (k:Int)).tdiv g.w).tdiv 2)=((Aa g (k:Int)).tdiv g.w).tdiv 2:=Ae zo zo;have r3:IntKind.wrap .i64 ((Aa g (k:Int)).tmod g.w-((Aa g (k:Int)).tdiv g.w).tdiv 2)=(Aa g (k:Int)).tmod g.w-((Aa g (k:Int)).tdiv g.w).tdiv 2:=Ae zo zo;rcases hs with h1|h2
  ·have hsp:spC g k=((Aa g (k:Int)).tmod g.w,(Aa g (k:Int)).tdiv g.w):=by unfold spC Cz;rw[V5 zo]
   have hz:(g.sh=2)=False:=Vs zo;have hyk:=hy k H1 m c6 hj;rw[hsp]at hyk;simp only[eZ,seval,eY,lt_T c6,hg,hq1,hw,r1,hz];refine hyk _ λH' n' x7=>?_
   simp only[eZ,seval,V3,yldK,e];exact .mk ⟨k+1,H',n'⟩ rfl ⟨c6,x7⟩ zp
  ·have hsp:spC g k=((Aa g (k:Int)).tmod g.w-((Aa g (k:Int)).tdiv g.w).tdiv 2,(Aa g (k:Int)).tdiv g.w):=by unfold spC Cz;rw[Vv h2]
   have hz:(g.sh=2)=True:=V1 h2;have hyk:=hy k H1 m c6 hj;rw[hsp]at hyk;simp only[eZ,seval,eY,lt_T c6,hg,hq1,hw,r1,r2,r3,hz];refine hyk _ λH' n' x7=>?_
   simp only[eZ,seval,V3,yldK,e];exact .mk ⟨k+1,H',n'⟩ rfl ⟨c6,x7⟩ zp
 obtain rfl:i=g.cells.length:=zo
 simp only[eZ,seval,lt_F c6];exact hj
section
abbrev eSp(s:Spot):Fs:=.agg [.int .i64 s.1,.int .i64 s.2]
def spEs:List Spot->Nat->List (Fs×Fs×Nat)
 |[],_=>[]
 |s::r,i=>(eSp s,.int .i64 (i:Int),i)::spEs r (i+1)
theorem L5:∀(l:List Spot) (i:Nat),Di (.arr 2 .i64) (spEs l i)=True
 |[],_=>rfl
 |s::r,i=>by rw[spEs,Di,L5 r (i+1)];simp [KT.is,isIs]
def ceq_sp(s t:Spot):ceq (eSp s) (eSp t)=decide (s=t):=by
 obtain⟨a,b⟩:=s;obtain⟨c,d⟩:=t;rw[Wg];simp [ceq,ceqs,Prod.mk.injEq]
def NH(x:Spot)(r:List Spot)(s:Spot):EC (x::r) s=if x=s then some 0 else(EC r s).map (· +1):=by
 unfold EC;rw[List.findIdx?_cons];by_cases h:x=s
 ·simp [h]
 ·simp only[h,Yu,W5,Wf];cases List.findIdx? (λx=>decide (x=s)) r<;>simp
theorem OZ:∀(l:List Spot) (s:Spot) (i:Nat),BN (eSp s) (spEs l i)=(EC l s).map λn=>.int .i64 (n+(i:Int))
 |[],s,i=>rfl
 |x::r,s,i=>by
  rw[spEs,BN,NH,OZ r s (i+1),ceq_sp];by_cases h:x=s
  ·subst h;simp
  ·have:¬s=x:=λq=>h q.symm
   simp only[h,this,Yu,W5,Wf];cases EC r s with
   |none=>rfl
   |some n=>simp only[Wt];congr 2;omega
def Ip(l:List Spot)(s:Spot):BN (eSp s) (spEs l 0)=(EC l s).map λn=>.int .i64 n:=by
 rw[OZ];congr 1;funext n;simp
theorem Su:∀(l:List Spot) (s:Spot) (i:Nat),spEs (l++[s]) i=spEs l i++[(eSp s,.int .i64 ((i+l.length:Nat):Int),i+l.length)]
 |[],s,i=>rfl
 |x::r,s,i=>by
  rw[Ww,spEs,Su r s (i+1),spEs,Ww,Vz,show i+1+r.length=i+(r.length+1)by omega]
def sp_set{l:List Spot}{s:Spot}(h:s∉l):mset (eSp s) (.int .i64 (l.length:Int)) l.length (spEs l 0)=spEs (l++[s]) 0:=by
 have h':=Ii.2 h;rw[GZ (by rw[Ip,h'];rfl),Su];simp
def Hp{g:Zc}{i:Nat}(h:i<g.cells.length):(AQ g.sh g.w g.cells).take (i+1)=(AQ g.sh g.w g.cells).take i++[spC g i]:=by
 rw[Vx,C5 h];rfl
def Oa{g:Zc}{i:Nat}(hd:(AQ g.sh g.w g.cells).Nodup)(h:i<g.cells.length):spC g i∉(AQ g.sh g.w g.cells).take i:=by
 have e:=Hp h;have:((AQ g.sh g.w g.cells).take i++[spC g i]).Nodup:=by rw[<-e];exact hd.sublist (List.take_sublist ..)
 rw[Xo]at this;exact λhm=>this.2.2 _ hm _ zw rfl
def frzO:Z7->Z7
 | .arr e l=>.frz e l
 |x=>x
def frz1(id:Nat)(H:AC):AC:=λi=>if i=id then(H i).map frzO else H i
def frzs(ids:List Nat)(H:AC):AC:=ids.foldr frz1 H
variable {H:AC}
theorem RJ{id e:Nat}{l:List Fs}(h:hget H id=some (.arr e l)):frz1 id H=hset H id (.frz e l):=by
 funext i;unfold frz1 hset;by_cases q:i=id
 ·subst q;have h':H i=some (.arr e l):=h;rw[Vv rfl,Vv rfl,h'];rfl
 ·rw[V5 q,V5 (λe=>q e.symm)]
theorem Ob{id:Nat}(h:∀e l,hget H id≠some (.arr e l)):frz1 id H=H:=by
 funext i;unfold frz1;split
 ·rename_i q;subst q;have h':∀e l,H i≠some (.arr e l):=h;cases hh:H i with
  |none=>rfl
  |some ob=>cases ob<;>first|rfl|(exact absurd hh (h' _ _))
 ·rfl
theorem Iq:∀(ids:List Nat) (H:AC) (i:Nat),hget (frzs ids H) i=if i∈ids then(hget H i).map frzO else hget H i
 |[],H,i=>by simp [frzs]
 |id::r,H,i=>by
  have ih:=Iq r H i;show frz1 id (frzs r H) i=_;unfold frz1;have ih':frzs r H i=if i∈r then(hget H i).map frzO else hget H i:=ih
  rw[ih'];by_cases q:i=id
  ·subst q;rw[Vv rfl,Vv (Wu ..)];split
   ·cases hget H i with
    |none=>rfl
    |some ob=>cases ob<;>rfl
   ·rfl
  ·simp_all
theorem AN.sealN{P:Program}{f:FuncId}{args:List Fs}{n:Nat}:∀(k:Nat) {R R':Zb->AC->Nat->Prop},AN P f args H n R->
  (∀o H' n',R o H' n'->∃ids:List Nat,ids.length<=k/\R' o (frzs ids H') n')->AN P f args H n R'
 |0,R,R',h,hr=>h.mono λo H' n' q=>by
  obtain⟨ids,h1,h2⟩:=hr _ _ _ q;have:ids=[]:=Wv zo;subst this;exact h2
 |k+1,R,R',h,hr=>by
  refine AN.seal (R:=λo H' n'=>∃id,R' o (frz1 id H') n'\/R' o H' n') (AN.sealN k h (R':=λo H' n'=>∃id,R' o (frz1 id H') n'\/R' o H' n') λo H' n' q=>?_) λo H' n' q=>?_
  ·obtain⟨ids,h1,h2⟩:=hr _ _ _ q;cases ids with
   |nil=>exact⟨[],V8 _,0,.inr h2⟩
   |cons id r=>exact⟨r,by simp at h1;omega,id,.inl h2⟩
  ·grind [RJ,Ob]
theorem Stab.conv{g:Yx}{f:Nat->Option Value}{e:Nat}:∀{l m:List Fs} {o:Nat},l.length=m.length->(∀(k:Nat) a b,l[k]?=some a->m[k]?=some b->∀x,VRel g a x->VRel g b x)->Stab g e f o l->Stab g e f o m
 |[],[],_,_,_,h=>h
 |a::l,b::m,o,hl,hh,⟨⟨v,h1,h2,h3⟩,h4⟩=>
  ⟨⟨v,hh 0 a b rfl rfl v h1,h2,h3⟩,Stab.conv (by simpa using hl) (λk a b h1 h2=>hh (k+1) a b (by simpa using h1) (by simpa using h2)) h4⟩
end
section
theorem c2n:((2:Nat):Int)=2:=rfl
variable {H:AC} {lv:Fs} {g:Zc} {n i lo id:Nat} {α:Type}
theorem Ir(hf:AR H n):AN prog 145 [Bu g] H n λo H' n'=>o= .ret (.fn (.func 195) [] [.ptr n 0])/\H'=hset H n (.box (AH g.sh g.w g.h g.holes g.cells))/\n'=n+2:=by
 refine c145.a (AE AI.tnil (AF ?_));simp only[eE,eN,seval,c145,AH,fr0 hf]
def Et:List Spot:=[(1,0),(-1,0),(0,1),(0,-1),(1,-1),(-1,1)]
def Ck(sh:Int):Nat:=if sh=1 then 4 else 6
theorem NI(sh:Int):D9 sh=Et.take (Ck sh):=by
 unfold D9 Ck Et;split<;>rfl
abbrev Oc:List Fs:=[.int .i64 1,.int .i64 0,.int .i64 (-1),.int .i64 0,.int .i64 0,.int .i64 1,.int .i64 0,.int .i64 (-1),.int .i64 1,.int .i64 (-1),.int .i64 (-1),.int .i64 1]
abbrev NJ:List Fs:=Et.map eSp
abbrev clG(q:Nat):Fs:=.fn (.func 195) [] [.ptr q 0]
theorem Od{ob:Z7}(h:hget H i=some ob):hset H i ob=H:=by
 funext j;unfold hset;by_cases e:i=j
 ·subst e;rw[Vv rfl];exact h.symm
 ·rw[V5 e]
theorem LvG.keep{enc:α->Fs}{e:Nat}{H':AC}{qs:List α}(h:LvG enc e lo H lv qs)(hk:∀id e' l,lo<=id->hget H id=some (.arr e' l)->hget H' id=some (.arr e' l)):LvG enc e lo H' lv qs:=by
 rcases h with h|⟨h1,id,rest,h2,h3,h4⟩
 ·exact .inl h
 ·exact .inr ⟨h1,id,rest,h2,h3,hk id _ _ h3 h4⟩
abbrev eNa(q:Nat):List (Nat×Bool×Fs):=[(1,true,.ptr 0 0),(2,true,.ptr 1 0),(3,true,.int .i64 0),(4,true,.ptr 10 0),(5,true,.ptr 12 0),(6,true,.ptr 15 0),(30,true,clG q)]
structure NbA(g:Zc)(l':Nat)(i:Nat)(H:AC)(m:Nat):Prop where
 fr:AR H m
 lm:20<=m
 h0:hget H 0=some (.box (AH g.sh g.w g.h g.holes g.cells))
 h1:hget H 1=some (.box [.sl .nil []])
 h10:hget H 10=some (.box Oc)
 h12:hget H 12=some (.box [.int .i64 (Ck g.sh:Nat)])
 h14:hget H 14=some (.map (spEs ((AQ g.sh g.w g.cells).take i) 0) i)
 h15:hget H 15=some (.box [.mp 14])
 hq:hget H 17=some (.box (AH g.sh g.w g.h g.holes g.cells))
 hL:hget H 19=some (.lp ⟨l',.ready,none,85,eNa 17, #[31,32],Mw,Mx⟩)
theorem y_nbA{l':Nat}(hd:(AQ g.sh g.w g.cells).Nodup)(hi:i<g.cells.length){m:Nat}(F:NbA g l' i H m){R:Bool->AC->Nat->Prop}(hR:∀H' m',NbA g l' (i+1) H' m'->R true H' m'):
  B2 prog l' [.int .i64 i,eSp (spC g i)] H m R:=by
 obtain⟨fr,lm,h0,h1,h10,h12,h14,h15,hq,hL⟩:=F;refine y86_0 hL rfl (AE AI.tnil (AF ?_));simp only[eE,eN,seval,QS,renv,XN,XY,X3,Yk,fr0 fr,AD];have y1:(m=19)=False:=Vs zo;have y2:(m=15)=False:=Vs zo;have y3:(m=14)=False:=Vs zo;have y4:(14=m)=False:=Vs zo;have y5:(15=m)=False:=Vs zo;have y6:(19=m)=False:=Vs zo;refine⟨_,(AA _ _ _ _ zo).trans hL,rfl,AE AI.tnil (AF ?_)⟩;have hn:=Oa hd hi;have hf:BN (eSp (spC g i)) (spEs ((AQ g.sh g.w g.cells).take i) 0)=none:=by rw[Ip,Ii.2 hn];rfl
 have hs:=sp_set hn;have d6:((AQ g.sh g.w g.cells).take i).length=i:=by rw[W0,BI];omega
 rw[d6]at hs;have hkt:(KT.arr 2 IntKind.i64).is (eSp (spC g i))=True:=V1 ⟨rfl,rfl,trivial⟩;simp only[eE,eN,seval,xE,Option.isSome_none,QP,h15,h14,y2,y3,y6,L5,hkt,hf,hs];refine⟨⟨l',.busy,none,85,eNa 17, #[31,32],Mw,Mx⟩,by simp only[AJ];simp,hR _ _ ⟨?_,?_,?_,?_,?_,?_,?_,?_,?_,?_⟩⟩
 ·intro j hj;have x7:m+2<=j:=hj;simp only[AJ];repeat rw[V5 zo]
  exact fr j zo
 ·simp only[];omega
 all_goals simp only[]
 ·repeat rw[AA _ _ _ _ zo]
  exact h0
 ·repeat rw[AA _ _ _ _ zo]
  exact h1
 ·repeat rw[AA _ _ _ _ zo]
  exact h10
 ·repeat rw[AA _ _ _ _ zo]
  exact h12
 ·rw[AA _ _ _ _ zo,AB,<-Hp hi]
 ·repeat rw[AA _ _ _ _ zo]
  exact h15
 ·repeat rw[AA _ _ _ _ zo]
  exact hq
 ·rw[AB]
abbrev eNb(q:Nat):List (Nat×Bool×Fs):=[(2,true,.ptr 1 0),(3,true,.int .i64 0),(4,true,.ptr 10 0),(5,true,.ptr 12 0),(6,true,.ptr 15 0),(41,true,clG q)]
structure NbB(g:Zc)(l' q id:Nat)(c:Nat)(i:Nat)(H:AC)(m:Nat):Prop where
 fr:AR H m
 lq:id<q
 l20:20<=id
 lm:q+2<m
 h1:hget H 1=some (.box [.ref id 1 0 g.cells.length g.cells.length])
 h10:hget H 10=some (.box Oc)\/hget H 10=some (.arr 2 NJ)
 h12:hget H 12=some (.box [.int .i64 (Ck g.sh:Nat)])
 h14:hget H 14=some (.map (spEs (AQ g.sh g.w g.cells) 0) c)
 h15:hget H 15=some (.box [.mp 14])
 hq:hget H q=some (.box (AH g.sh g.w g.h g.holes g.cells))
 hL:hget H (q+2)=some (.lp ⟨l',.ready,none,85,eNb q, #[42,43],KR,KS⟩)
 hE:∃E,hget H id=some (.arr 1 E)/\E.length=g.cells.length/\(∀k,i<=k->k<g.cells.length->E[k]?=some (.sl .nil []))/\∀k,k<i->∃a,E[k]?=some a/\LvG eI 1 (id+1) H a (nbS g.sh (AQ g.sh g.w g.cells) (spC g k))
def fdT(sh:Int)(S:List Spot)(s:Spot)(j:Nat):List Int:=(Et.take j).filterMap λd=>EC S (addP s d)
theorem fd_end(sh:Int)(S:List Spot)(s:Spot):fdT sh S s (Ck sh)=GJ sh S s:=by unfold fdT GJ;rw[NI]
theorem Tx(sh:Int)(S:List Spot)(s:Spot){j:Nat}{d:Spot}(h:Et[j]?=some d):fdT sh S s (j+1)=fdT sh S s j++(EC S (addP s d)).toList:=by
 unfold fdT;rw[Vx,h,List.filterMap_append];congr 1
theorem fd_len(sh:Int)(S:List Spot)(s:Spot)(j:Nat):(fdT sh S s j).length<=j:=by
 unfold fdT;refine WD (List.length_filterMap_le ..) ?_;rw[W0];omega
theorem slx_st{sh:Int}(h:hget H 10=some (.box Oc)\/hget H 10=some (.arr 2 NJ)):(slxE H 6 2 0 (Ck sh:Nat) (.ptr 10 0)).1=True/\(slxE H 6 2 0 (Ck sh:Nat) (.ptr 10 0)).2=(hset H 10 (.arr 2 NJ),.ref 10 2 0 (Ck sh) 6):=by
 have hm:Ck sh=4\/Ck sh=6:=by unfold Ck;split<;>simp
 rcases h with h|h
 ·rcases hm with e|e<;>rw[e]<;>(simp [slxE,h,grp];rfl)
 ·rcases hm with e|e<;>rw[e]<;>simp [slxE,h,Et,Od h]
theorem RK{l:List α}{x:α}(h:l[i]?=some x):l.set i x=l:=List.ext_getElem? λk=>by
 rw[List.getElem?_set];split
 ·grind
 ·rfl
structure VNb where
 j:Nat
 lv:Fs
 H:AC
 n:Nat
theorem Oe{enc:α->Fs}{e:Nat}{qs:List α}(h:LvG enc e lo H lv qs):lv.cells=[lv]/\nT lv=True:=by
 rcases h with⟨rfl,-⟩|⟨-,id,rest,rfl,-⟩<;>exact⟨rfl,V1 trivial⟩
theorem y_nbB{l' q c:Nat}(G:GrV g)(hd:(AQ g.sh g.w g.cells).Nodup)(hi:i<g.cells.length){m:Nat}(F:NbB g l' q id c i H m){R:Bool->AC->Nat->Prop}(hR:∀H' m',NbB g l' q id c (i+1) H' m'->R true H' m'):
  B2 prog l' [.int .i64 i,eSp (spC g i)] H m R:=by
 obtain⟨fr,lq,l20,lm,h1,h10,h12,h14,h15,hq,hL,E,hE,hEl,hE1,hE2⟩:=F;refine y86_1 hL rfl (AE AI.tnil (AF ?_));simp only[eE,eN,seval,QU,renv,XN,XY,X3,Yk,fr0 fr,AD];refine⟨_,(AA _ _ _ _ zo).trans hL,rfl,AE AI.tnil (AF ?_)⟩;have d6:=BI g;obtain⟨q9,v8,x0⟩:=Ax G.hG;generalize hlp:Z7.lp ⟨l',.busy,none,85,eNb q, #[42,43],KR,KS⟩=lpO;generalize hS:AQ g.sh g.w g.cells=S at hd h14 hE2 hR d6;generalize hs:spC g i=s at hR;have y1:∀k,(12=m+k)=False:=λk=>Vs zo
 obtain⟨s1,s2⟩:=slx_st (H:=hset (hset H m (.box [.int .i64 s.1,.int .i64 s.2])) (q+2) lpO) (sh:=g.sh) (by
  rw[AA _ _ _ _ zo,AA _ _ _ _ zo];exact h10)
 have z1:(m=12)=False:=Vs zo;have z2:(q+2=12)=False:=Vs zo;simp only[eE,eN,seval,xE,QT,h12,z1,z2,s1,s2];have hH10:∀x ob,hset (hset (hset H m (.box [.int .i64 s.1,.int .i64 s.2])) (q+2) lpO) 10 ob x=hget (hset (hset (hset H m (.box [.int .i64 s.1,.int .i64 s.2])) (q+2) lpO) 10 ob) x:=λ_ _=>rfl
 have mk:Ck g.sh<=6:=by unfold Ck;split<;>omega
 have hsr: -16<=s.1/\s.1<=16/\ -16<=s.2/\s.2<=16:=by
  have gi:inG g (i:Int):=⟨zo,by rw[Vy];exact hi⟩;obtain⟨k,hk,-,hg,hp,w1,w2,x1,x2,y1',y2',ey,hss⟩:=G.at gi;obtain rfl:k=i:=zo
  subst hs;unfold spC Cz;split<;>simp only[]<;>omega
 generalize hHb:hset (hset (hset H m (.box [.int .i64 s.1,.int .i64 s.2])) (q+2) lpO) 10 (.arr 2 NJ)=Hb;have b10:hget Hb 10=some (.arr 2 NJ):=by subst hHb;exact AB ..
 have bm:hget Hb m=some (.box [.int .i64 s.1,.int .i64 s.2]):=by grind [AA,AB]
 have bL:hget Hb (q+2)=some lpO:=by
  subst hHb;rw[AA _ _ _ _ zo,AB]
 have bo:∀x,x≠m->x≠q+2->x≠10->hget Hb x=hget H x:=λx n1 n2 n3=>by
  subst hHb;rw[AA _ _ _ _ (Ne.symm n3),AA _ _ _ _ (Ne.symm n2),AA _ _ _ _ (Ne.symm n1)]
 have bf:AR Hb (m+2):=λx hx=>by rw[bo x zo zo zo];exact fr x zo
 clear hHb hH10 s1 s2 h10;refine AO (λv:VNb=>⟨[(2,true,.ptr 1 0),(6,true,.ptr 15 0),(9,true,.int .i64 i),(10,true,.ptr m 0),(45,true,.ref 10 2 0 (Ck g.sh) 6),(46,true,.int .i64 (Ck g.sh:Nat)),(47,true,.int .i64 v.j)],v.H,v.n⟩)
  (λv=>v.j<=Ck g.sh/\m+2<=v.n/\AR v.H v.n/\(∀x,x≠id->x<m+2->hget v.H x=hget Hb x)/\hget v.H id=some (.arr 1 (E.set i v.lv))/\LvG eI 1 (m+2) v.H v.lv (fdT g.sh S s v.j)) (λv=>Ck g.sh-v.j)
  ⟨0,.sl .nil [],Hb,m+2⟩ rfl ⟨V8 _,V4 _,bf,λ_ _ _=>rfl,?_,.inl ⟨rfl,rfl⟩⟩ ?_
 ·grind [RK]
 rintro⟨j,lv,H2,n2⟩ ⟨hj,hn2,hf2,hk2,hid2,hlv⟩;simp only at hj hn2 hf2 hk2 hid2 hlv;have c1:hget H2 1=some (.box [.ref id 1 0 g.cells.length g.cells.length]):=by rw[hk2 1 zo zo,bo 1 zo zo zo];exact h1
 have c14:hget H2 14=some (.map (spEs S 0) c):=by rw[hk2 14 zo zo,bo 14 zo zo zo];exact h14
 have c15:hget H2 15=some (.box [.mp 14]):=by rw[hk2 15 zo zo,bo 15 zo zo zo];exact h15
 have c10:hget H2 10=some (.arr 2 NJ):=by rw[hk2 10 zo zo];exact b10
 have cm:hget H2 m=some (.box [.int .i64 s.1,.int .i64 s.2]):=by rw[hk2 m zo zo];exact bm
 have hcl:=Oe hlv;have hgi:(E.set i lv)[i]?=some lv:=by rw[List.getElem?_set_self zo]
 have hil:i<(E.set i lv).length:=by rw[XQ];omega
 have hel:(E.set i lv).length=g.cells.length:=by rw[XQ];omega
 have v1:∀k,(n2+k=m)=False:=λk=>Vs zo
 have v2:∀k,(n2+k=1)=False:=λk=>Vs zo
 have v3:∀k,(n2+k=14)=False:=λk=>Vs zo
 have v4:∀k,(n2+k=15)=False:=λk=>Vs zo
 have v5:∀k,(n2+k=10)=False:=λk=>Vs zo
 have v6:∀k,(n2+k=id)=False:=λk=>Vs zo
 have q8:=fd_len g.sh S s j;by_cases c6:j<Ck g.sh;case neg=>
  obtain rfl:j=Ck g.sh:=zo
  rw[fd_end]at hlv q8;have hfs:=OG g.sh hd s;have cL:hget H2 (q+2)=some lpO:=by rw[hk2 (q+2) zo zo];exact bL
  have fin:∀H3,(∀x,x<m->x≠id->hget H3 x=hget H2 x)->hget H3 id=some (.arr 1 (E.set i lv))->AR H3 n2->LvG eI 1 (id+1) H3 lv (nbS g.sh S s)->
    ∃x,hget H3 (q+2)=some (.lp x)/\R true (hset H3 (q+2) (.lp {x with st:=.ready,pend:=none})) n2:=by
   intro H3 k1 k2 k3 k4;refine⟨⟨l',.busy,none,85,eNb q, #[42,43],KR,KS⟩,?_,hR _ _ ⟨k3.hset (V4 _) zo,lq,l20,zo,?_,.inr ?_,?_,?_,?_,?_,AB ..,E.set i lv,?_,hel,λk h1 h2=>?_,λk h1=>?_⟩⟩
   ·rw[k1 (q+2) zo zo,cL,hlp]
   ·grind [AA]
   ·grind [AA]
   ·grind [AA]
   ·grind [AA]
   ·grind [AA]
   ·grind [AA]
   ·rw[AA _ _ _ _ zo];exact k2
   ·rw[List.getElem?_set_ne zo];exact hE1 k zo h2
   ·by_cases e:k=i
    ·subst e;refine⟨lv,hgi,?_⟩;rw[hS,hs];exact k4.keep λx e' l hx ho=>by
      rw[AA _ _ _ _ (λe=>by subst e;rw[k1 (q+2) zo zo,cL,<-hlp]at ho;cases ho)];exact ho
    ·obtain⟨a,ha,hla⟩:=hE2 k zo;refine⟨a,by rw[List.getElem?_set_ne (λe'=>e e'.symm)];exact ha,?_⟩;rw[hS];rcases hla with h|⟨z1,z,rest,z2,z3,z4⟩
     ·exact .inl h
     ·have zm:=fr.lt z4;refine .inr ⟨z1,z,rest,z2,z3,?_⟩;have zq:z≠q+2:=λe=>by subst e;rw[hL]at z4;cases z4
      rw[AA _ _ _ _ (Ne.symm zq),k1 z zo zo,hk2 z zo zo,bo z zo zq (λe=>zo)];exact z4
  simp only[eZ,seval,eY,lt_F c6,c1,hid2,hel,lt_T hi,hi,hgi,hcl.1];rcases hlv with⟨rfl,hq0⟩|⟨hne,z,rest,rfl,hz,hz2⟩
  ·refine Lx.mono ?_;rintro o H3 n3 ⟨rfl,rfl,rfl⟩;simp only[eE,eN,retK];refine fin _ (λ_ _ _=>rfl) hid2 hf2 (.inl ⟨rfl,?_⟩);rw[<-hfs,hq0,List.mergeSort_nil]
  ·refine(M6 hz2 zw zo).mono ?_;rintro o H3 n3 ⟨rfl,rfl,rfl⟩;rw[Yl,List.drop_left];simp only[eE,eN,retK];have hsl:(nbS g.sh S s).length=(GJ g.sh S s).length:=by rw[<-hfs,DJ]
   refine fin _ (λx h1 h2=>AA _ _ _ _ zo) (by rw[AA _ _ _ _ zo];exact hid2) (hf2.hset (V4 _) (hf2.lt hz2)) (.inr ⟨?_,z,rest,by rw[hsl],zo,by rw[AB,hfs]⟩);intro e;rw[e]at hsl;exact hne (Wv hsl.symm)
 have hj6:j<Et.length:=by
  have:Et.length=6:=rfl
  omega
 obtain⟨d,hgd⟩:∃d,Et[j]?=some d:=⟨_,V2 hj6⟩;have hdr: -1<=d.1/\d.1<=1/\ -1<=d.2/\d.2<=1:=by
  have hm:=XE hgd;simp only[Et,Wp,Xz,or_false]at hm;rcases hm with rfl|rfl|rfl|rfl|rfl|rfl<;>decide
 have w1:IntKind.wrap .i64 (s.1+d.1)=s.1+d.1:=Ae zo zo;have w2:IntKind.wrap .i64 (s.2+d.2)=s.2+d.2:=Ae zo zo;have e:=AG (k:=j) zo;have hfind:BN (.agg [.int .i64 (s.1+d.1),.int .i64 (s.2+d.2)]) (spEs S 0)=(EC S (addP s d)).map λn=>.int .i64 n:=Ip S (addP s d)
 have hkt:(KT.arr 2 IntKind.i64).is (.agg [.int .i64 (s.1+d.1),.int .i64 (s.2+d.2)])=True:=V1 ⟨rfl,rfl,trivial⟩;have hsu:=Tx g.sh S s hgd;cases hix:EC S (addP s d)with
 |none=>
  rw[hix]at hfind hsu;rw[Option.toList_none,W9]at hsu;simp only[eZ,seval,xE,eY,lt_T c6,c10,hj6,hgd,fr1 hf2,c15,cm,v1,v3,v4,w1,w2,c14,hkt,L5,hfind,CQ,e,AD,c2n];refine .mk ⟨j+1,lv,hset H2 (n2+2) (.box [.int .i64 d.1,.int .i64 d.2]),n2+4⟩ rfl ⟨c6,zp,hf2.hset (m:=n2+4) zo zo,λx h1 h2=>?_,?_,?_⟩ zp
  ·simp only[];rw[AA _ _ _ _ zo];exact hk2 x h1 h2
  ·simp only[];rw[AA _ _ _ _ zo];exact hid2
  ·simp only[hsu];exact hlv.keep λx e' l hx ho=>by rw[AA _ _ _ _ (λe=>by subst e;rw[hf2 _ zo]at ho;cases ho)];exact ho
 |some b=>
 rw[hix]at hfind hsu;rw[Yq]at hsu;have s9:(id<n2+4)=True:=V1 zo;simp only[eZ,eX,seval,xE,eY,lt_T c6,c10,hj6,hgd,fr1 hf2,c15,cm,v1,v2,v3,v4,v6,w1,w2,c14,hkt,L5,hfind,CQ,AD,c2n,c1,hid2,lt_T hi,hil,hgi,hcl.1,s9];have hlv2:LvG eI 1 (m+2) (hset H2 (n2+2) (.box [.int .i64 d.1,.int .i64 d.2])) lv (fdT g.sh S s j):=hlv.keep λx e' l hx ho=>by rw[AA _ _ _ _ (λe=>by subst e;rw[hf2 _ zo]at ho;cases ho)];exact ho
 have hid3:hget (hset H2 (n2+2) (.box [.int .i64 d.1,.int .i64 d.2])) id=some (.arr 1 (E.set i lv)):=by rw[AA _ _ _ _ zo];exact hid2
 have hf3:AR (hset H2 (n2+2) (.box [.int .i64 d.1,.int .i64 d.2])) (n2+4):=hf2.hset zo zo;have hk3:∀x,x≠id->x<m+2->hget (hset H2 (n2+2) (.box [.int .i64 d.1,.int .i64 d.2])) x=hget Hb x:=λx h1 h2=>by rw[AA _ _ _ _ zo];exact hk2 x h1 h2
 generalize hset H2 (n2+2) (.box [.int .i64 d.1,.int .i64 d.2])=H3 at hlv2 hid3 hf3 hk3;refine JK (enc:=eI) (lo:=m+2) (qs:=fdT g.sh S s j) (z0:=0) hlv2 rfl zd rfl rfl (AP zo zd) (hf3 _ zo) zo zo ?_;intro z rest hz hzm;have hzl:z<n2+13:=by
  rcases hzm with rfl|⟨Z,h⟩
  ·omega
  ·have:=hf3.lt h;omega
 have u1:(z=id)=False:=Vs zo;simp only[eZ,seval,eY,QL,If,hid3,u1,lt_T hi,hi,hgi,hel,List.set_set,e];refine .mk ⟨j+1,.ref z 1 0 (fdT g.sh S s j++[b]).length ((fdT g.sh S s j++[b]).length+rest.length),hset (hset H3 z (.arr 1 (((fdT g.sh S s j++[b])++rest).map eI))) id (.arr 1 (E.set i (.ref z 1 0 (fdT g.sh S s j++[b]).length ((fdT g.sh S s j++[b]).length+rest.length)))),n2+15⟩ rfl ⟨c6,zp,?_,λx h1 h2=>?_,?_,?_⟩ zp
 ·exact(hf3.hset (m:=n2+15) zo zo).hset (V4 _) (show id<n2+15 by omega)
 ·simp only[];rw[AA _ _ _ _ zo,AA _ _ _ _ zo];exact hk3 x h1 h2
 ·simp only[];rw[AB]
 ·simp only[hsu];exact .inr ⟨zw,z,rest,rfl,hz,by rw[AA _ _ _ _ zo,AB]⟩
def NbR(g:Zc):Zb->AC->Nat->Prop:=λo H _=>
 (grOK g.sh g.w g.h g.holes g.cells=false/\o= .ret (.tup [.sl .nil [],.int .i64 130]))\/
 (grOK g.sh g.w g.h g.holes g.cells=true/\∃id E,o= .ret (.tup [.ref id 1 0 g.cells.length g.cells.length,.int .i64 0])/\hget H id=some (.arr 1 E)/\E.length=g.cells.length/\
  ∀k,k<g.cells.length->∃a,E[k]?=some a/\LvG eI 1 (id+1) H a (nbS g.sh (AQ g.sh g.w g.cells) (spC g k)))
def Tnb:Tab:=tadd 144 (s1 dGd (λg=>few g.holes/\few g.cells) chkV) tnil
theorem Tnb_ok:AI prog Tnb:=AI.tnil.add (q1 λg h=>p144 g.sh g.w g.h g.holes g.cells h.1 h.2)
theorem t_nb(g:Zc)(hh:few g.holes)(hc:few g.cells):AN prog 86 [Bu g] hnil 0 (NbR g):=by
 refine a86 (AE Tnb_ok (AF ?_));have f1:dGd.ok (.agg (AH g.sh g.w g.h g.holes g.cells))=True:=DI g;have f2:dGd.dec (.agg (AH g.sh g.w g.h g.holes g.cells))=g:=B6 g;simp only[AH]at f1 f2;cases m7:grOK g.sh g.w g.h g.holes g.cells with
 |false=>
  have hck:chkV g= .int .i64 130:=by unfold chkV;rw[m7];rfl
  simp only[eZ,seval,V6,Au,c86,AH,Tnb,s1,f1,f2,V1 hh,V1 hc,hck,tadd];exact .inl ⟨m7,rfl⟩
 |true=>
 have hck:chkV g= .int .i64 0:=by unfold chkV;rw[m7];rfl
 have hG:Ak g.sh g.w g.h g.holes=some g.cells:=Wn m7;have G:GrV g:=⟨hG,hh⟩;obtain⟨q9,v8,x0⟩:=Ax hG;have hw:1<=g.w:=by
  unfold Ak at hG;split at hG
  ·rename_i q;exact q.2.1
  ·cases hG
 have hd:(AQ g.sh g.w g.cells).Nodup:=He hw q9 λp hp=>(x0 p hp).1
 have h4:g.sh=1->(4:Int)=((Ck g.sh:Nat):Int):=λe=>by unfold Ck;rw[Vv e];rfl
 have h6:g.sh≠1->(6:Int)=((Ck g.sh:Nat):Int):=λe=>by unfold Ck;rw[V5 e];rfl
 rcases Classical.em (g.sh=1)with hs1|hs1
 case' inl=>
  simp only[eZ,seval,V3,xE,c86,AH,Tnb,s1,f1,f2,V1 hh,V1 hc,hck,BA hs1,AD,tadd];rw[h4 hs1]
 case' inr=>
  simp only[eZ,seval,V3,xE,c86,AH,Tnb,s1,f1,f2,V1 hh,V1 hc,hck,Az hs1,AD,tadd];rw[h6 hs1]
 all_goals
  generalize hH0:hset _ 15 (Z7.box [Fs.mp 14])=H0;have a0:hget H0 0=some (.box (AH g.sh g.w g.h g.holes g.cells)):=by rw[<-hH0];rfl
  have a1:hget H0 1=some (.box [.sl .nil []]):=by rw[<-hH0];rfl
  have a10:hget H0 10=some (.box Oc):=by rw[<-hH0];rfl
  have a12:hget H0 12=some (.box [.int .i64 (Ck g.sh:Nat)]):=by rw[<-hH0];rfl
  have a14:hget H0 14=some (.map [] 0):=by rw[<-hH0];rfl
  have a15:hget H0 15=some (.box [.mp 14]):=by rw[<-hH0];rfl
  have af:AR H0 17:=by
   rw[<-hH0];repeat' (first|exact AR.nil|refine AR.hset ?_ (V4 _) zd)
  clear hH0;refine(Ir af).mono ?_;rintro o H1 n1 ⟨rfl,rfl,rfl⟩;simp only[eE,eN,seval,retK,Fw];intro l';refine(In g G (J:=NbA g l') (λi H n F=>F.hq) (λi H n hi F R hR=>y_nbA hd hi F hR) ?_).mono ?_
  ·refine⟨?_,zd,?_,?_,?_,?_,?_,?_,?_,?_⟩
   ·exact(af.hset (m:=20) zd zd).hset (V4 _) zd
   all_goals first|(rw[AA _ _ _ _ zd,AA _ _ _ _ zd];assumption)|(rw[AA _ _ _ _ zd,AB])|(rw[AB])
  rintro o H2 n2 ⟨rfl,F⟩;have Ffr:=F.fr;have Flm:=F.lm;have F0:=F.h0;have F1:=F.h1;have F10:=F.h10;have F12:=F.h12;have F14:=F.h14;have F15:=F.h15;have FL:=F.hL;rw[We (by rw[BI];exact V4 _)]at F14;simp only[AH]at F0;have u1:(n2=1)=False:=Vs zo;have u2:∀k,(n2+k=1)=False:=λk=>Vs zo
  have u3:∀k,(n2+k=0)=False:=λk=>Vs zo
  have u4:∀k,(n2+k=19)=False:=λk=>Vs zo
  have w1:small g.cells.length 24=True:=V1 (AP zo zd);have w2:((g.cells.length:Int)<=35184372088832)=True:=V1 zo;have u5:(n2=16)=False:=Vs zo;simp only[eE,eN,seval,eY,Gl,FL,F0,fr1 Ffr,F1,u2,u3,u5,w1,w2];generalize hH3:hset _ 1 (Z7.box [Fs.ref (n2+3) 1 0 g.cells.length g.cells.length])=H3;have d0:hget H3 0=some (.box (AH g.sh g.w g.h g.holes g.cells)):=by
   rw[<-hH3];repeat rw[AA _ _ _ _ zo]
   exact F0
  have d1:hget H3 1=some (.box [.ref (n2+3) 1 0 g.cells.length g.cells.length]):=by rw[<-hH3,AB]
  have d10:hget H3 10=some (.box Oc):=by
   rw[<-hH3];repeat rw[AA _ _ _ _ zo]
   exact F10
  have d12:hget H3 12=some (.box [.int .i64 (Ck g.sh:Nat)]):=by
   rw[<-hH3];repeat rw[AA _ _ _ _ zo]
   exact F12
  have d14:hget H3 14=some (.map (spEs (AQ g.sh g.w g.cells) 0) g.cells.length):=by
   rw[<-hH3];repeat rw[AA _ _ _ _ zo]
   exact F14
  have d15:hget H3 15=some (.box [.mp 14]):=by
   rw[<-hH3];repeat rw[AA _ _ _ _ zo]
   exact F15
  have dE:hget H3 (n2+3)=some (.arr 1 (List.replicate g.cells.length (.sl .nil []))):=by rw[<-hH3,AA _ _ _ _ zo,AB]
  have df:AR H3 (n2+5):=by
   rw[<-hH3];exact(((Ffr.hset (m:=n2+5) zo zo).hset (m:=n2+5) (V4 _) zo).hset (V4 _) zo)
  clear hH3;refine(Ir df).mono ?_;rintro o H4 n4 ⟨rfl,rfl,rfl⟩;simp only[eE,eN,seval,retK,Fw];intro l2;refine(In g G (J:=NbB g l2 (n2+5) (n2+3) g.cells.length) (λi H n F=>F.hq) (λi H n hi F R hR=>y_nbB G hd hi F hR) ?_).mono ?_
  ·refine⟨(df.hset (m:=n2+8) zo zo).hset (m:=n2+8) (V4 _) zo,zo,zo,zo,?_,.inl ?_,?_,?_,?_,?_,AB ..,List.replicate g.cells.length (.sl .nil []),?_,Wj,λk _ hk=>?_,λk hk=>absurd hk (WE _)⟩
   ·repeat rw[AA _ _ _ _ zo]
    exact d1
   ·repeat rw[AA _ _ _ _ zo]
    exact d10
   ·repeat rw[AA _ _ _ _ zo]
    exact d12
   ·repeat rw[AA _ _ _ _ zo]
    exact d14
   ·repeat rw[AA _ _ _ _ zo]
    exact d15
   ·rw[AA _ _ _ _ zo,AB]
   ·repeat rw[AA _ _ _ _ zo]
    exact dE
   ·rw[List.getElem?_replicate,Vv hk]
  rintro o H5 n5 ⟨rfl,K⟩;obtain⟨kfr,klq,kl2,klm,k1,k10,k12,k14,k15,kq,kL,E,kE,kEl,-,kE2⟩:=K;have e1:(n2+5+2=1)=False:=Vs zo;have e2:(n2+7=1)=False:=Vs zo;simp only[eE,eN,seval,Au,Gl,kL,k1,e1];refine .inr ⟨m7,n2+3,E,rfl,?_,kEl,λk hk=>?_⟩
  ·repeat rw[AA _ _ _ _ zo]
   exact kE
  ·obtain⟨a,ha,hla⟩:=kE2 k hk;refine⟨a,ha,hla.keep λx e' l hx ho=>?_⟩;have x1:x≠n2+7:=λe=>by subst e;rw[kL]at ho;cases ho
   rw[AA _ _ _ _ zo,AA _ _ _ _ (Ne.symm x1)];exact ho
def refId:Fs->Option Nat
 | .ref i _ _ _ _=>some i
 |_=>none
theorem Ty{cap:Nat}{E rest:List Fs}(ho:hget H id=some (.frz 1 (E++rest)))(hc:E.length<=cap){g:Yx}{w:World}{x:Value}(hR:Z2 g H n w)(hv:VRel g (.ref id 1 0 E.length cap) x):VRel g (.sl (.none 1) E) x:=by
 obtain⟨L,h1,h2,rfl⟩:=hv;obtain⟨L',j1,j2,j3⟩:=hR.obj id _ ho;rw[h1]at j1;cases j1;refine .inr ⟨trivial,L.blk,0,cap,⟨none,zw,.inl rfl⟩,hc,?_,trivial⟩;have:=Stab.take E.length _ _ j3;rw[Yl]at this;exact this
theorem RL{cap:Nat}{E rest:List Fs}{xs:List (List Int)}(ho:hget H id=some (.frz 1 (E++rest)))(hc:E.length<=cap)(hl:E.length=xs.length)(he:∀(k:Nat) a x,E[k]?=some a->xs[k]?=some x->LF 1 a H (x.map eI)){g:Yx}{w:World}{y:Value}(hR:Z2 g H n w)(hv:VRel g (.ref id 1 0 E.length cap) y):VRel g (eLl xs) y:=by
 have h1:=Ty ho hc hR hv;rcases h1 with⟨q1,rfl,q3⟩|⟨-,b,o,cap,hv,hc,hst,-⟩
 ·refine .inl ⟨?_,rfl,trivial⟩;have:xs=[]:=Wv (by rw[<-hl,q1];rfl);rw[this];rfl
 ·refine .inr ⟨trivial,b,o,cap,?_,by rw[V0,<-hl];exact hc,?_,trivial⟩
  ·grind
  ·refine Stab.conv (by rw[V0];exact hl) (λk a b ha hb x hx=>?_) hst;rw[W3,WY]at hb;obtain⟨z,hz,rfl⟩:=hb;exact Ie (he k a z ha hz) hR hx
theorem LvG.seal{qs:List Int}{ids:List Nat}(h:LvG eI 1 lo H lv qs)(hi:∀z,refId lv=some z->z∈ids):LF 1 lv (frzs ids H) (qs.map eI):=by
 rcases h with⟨rfl,rfl⟩|⟨hne,z,rest,rfl,-,h4⟩
 ·exact .inl ⟨rfl,_,rfl,.inl rfl⟩
 ·refine .inr ⟨by simpa using hne,z,_,rest.map eI,by rw[V0],?_,zw⟩;rw[Iq,Vv (hi z rfl),h4,Vt];rfl
def NbS(g:Zc):Zb->AC->Nat->Prop:=λo H _=>
 (grOK g.sh g.w g.h g.holes g.cells=false/\o= .ret (.tup [.sl .nil [],.int .i64 130]))\/
 (grOK g.sh g.w g.h g.holes g.cells=true/\∃id E,o= .ret (.tup [.ref id 1 0 g.cells.length g.cells.length,.int .i64 0])/\hget H id=some (.frz 1 E)/\E.length=g.cells.length/\
  ∀k,k<g.cells.length->∃a,E[k]?=some a/\LF 1 a H ((nbS g.sh (AQ g.sh g.w g.cells) (spC g k)).map eI))
theorem p86(g:Zc)(hh:few g.holes)(hc:few g.cells):Pur prog 86 [Bu g] (nbV g):=by
 refine⟨⟨Ar 0 ..,trivial⟩,by unfold nbV;split<;>exact⟨Am 0 _,trivial,trivial⟩,AN.out (AN.sealN (g.cells.length+1) (t_nb g hh hc) (R':=NbS g) ?_) ?_⟩
 ·rintro o H n (h|⟨hg,id,E,ho,hE,hl,hk⟩)
  ·exact⟨[],V8 _,.inl h⟩
  ·refine⟨id::E.filterMap refId,?_,.inr ⟨hg,id,E,ho,?_,hl,λk hk'=>?_⟩⟩
   ·grind
   ·rw[Iq,Vv (Wu ..),hE];rfl
   ·obtain⟨a,ha,hla⟩:=hk k hk';exact⟨a,ha,hla.seal λz hz=>WJ _ (List.mem_filterMap.2 ⟨a,XE ha,hz⟩)⟩
 ·rintro o H n (⟨hg,rfl⟩|⟨hg,id,E,rfl,hE,hl,hk⟩)
  ·refine⟨_,⟨_,rfl,?_⟩,λg w e hR he=>he⟩;unfold nbV;rw[hg];exact Wk.tup (.cons (Wk.sl (.inr rfl)) (.cons (Wk.refl _) .nil))
  ·refine⟨.ret (nbV g),⟨_,rfl,Wk.refl _⟩,λgh w e hR he=>?_⟩;cases e with
   |panicked c=>exact he.elim
   |outgrown=>exact he.elim
   |returned x=>
    have hv:nbV g= .tup [eLl (nbsS g.sh (AQ g.sh g.w g.cells)),.int .i64 0]:=by unfold nbV;rw[hg];rfl
    rw[hv];obtain⟨vs,rfl,y,r,e1,k1,k2⟩:=he;refine⟨vs,rfl,y,r,e1,?_,k2⟩;rw[<-hl]at k1;refine RL (rest:=[]) (by rw[W9];exact hE) (V4 _) (by rw[hl,nbsS,V0,BI]) (λk a z ha hz=>?_) hR k1;have hkl:k<g.cells.length:=by rw[<-hl];exact(WN.1 ha).1
    obtain⟨a',ha',hla⟩:=hk k hkl;rw[ha]at ha';obtain rfl:=Option.some.inj ha';rw[nbsS,W3,C5 hkl,Wt]at hz;rw[<-Option.some.inj hz];exact hla
end
section
abbrev clM(q:Nat):Fs:=.fn (.func 242) [] [.ptr q 0]
abbrev eApM(q c:Nat):List (Nat×Bool×Fs):=[(2,true,.ptr c 0),(4,true,.sl .nil []),(6,true,clM q)]
structure ApM(q c L l':Nat)(H0:AC)(n0:Nat)(qs:List Int)(H:AC)(m:Nat):Prop where
 fr:AR H m
 lc:n0<=c
 cl:c<L
 lm:L<m
 hc:∃lv,hget H c=some (.box [lv])/\LvG eI 1 (L+1) H lv qs
 hL:hget H L=some (.lp ⟨l',.ready,none,13,eApM q c, #[7],EV,EW⟩)
 kp:∀id ob,id<n0->hget H0 id=some ob->hget H id=some ob
variable {H:AC} {q clk n mp:Nat}
theorem y_apM{c L l':Nat}{H0:AC}{n0:Nat}{qs:List Int}{m:Nat}(F:ApM q c L l' H0 n0 qs H m)(x:Int)(hs:qs.length<1000000000){R:Bool->AC->Nat->Prop}
  (hR:∀H' m',ApM q c L l' H0 n0 (qs++[x]) H' m'->(∀j ob,j<m->j≠c->j≠L->(∀e Z,ob≠ .arr e Z)->hget H j=some ob->hget H' j=some ob)->m<=m'->R true H' m'):B2 prog l' [eI x] H m R:=by
 obtain⟨fr,lc,cl,lm,⟨lv,hc,hlv⟩,hL,kp⟩:=F;refine TQ hL rfl (AE AI.tnil (AF ?_));simp only[eE,eN,seval,JH,renv,XN,XY,X3,Yk];refine⟨_,hL,rfl,AE AI.tnil (AF ?_)⟩;have y1:∀k,(L=m+k)=False:=λk=>Vs zo
 have y2:(L=c)=False:=Vs zo;have y3:(c=L)=False:=Vs zo;simp only[eE,seval,JG,hc,y2];have g1:∀k,hget (hset H L (.lp ⟨l',.busy,none,13,eApM q c, #[7],EV,EW⟩)) (m+k)=none:=λk=>by rw[AA _ _ _ _ zo];exact fr1 fr k
 refine JK (enc:=eI) (lo:=L+1) (qs:=qs) (z0:=0) ?_ rfl zd rfl rfl (AP zo zd) (g1 3) zo zo ?_
 ·rcases hlv with h|⟨hne,id,rest,h1,h2,h3⟩
  ·exact .inl h
  ·exact .inr ⟨hne,id,rest,h1,h2,by rw[AA _ _ _ _ zo];exact h3⟩
 intro id rest hlo d7;have hidm:id<m+5:=by
  rcases d7 with rfl|⟨Z,h⟩
  ·omega
  ·apply Classical.byContradiction;intro z;obtain⟨k,rfl⟩:∃k,id=m+k:=⟨id-m,zo⟩;rw[g1]at h;cases h
 have hida:∀j ob,j<m->j≠L->(∀e Z,ob≠ .arr e Z)->hget H j=some ob->j≠id:=by grind [AA]
 have z1:(id=L)=False:=Vs zo;have z2:(id=c)=False:=Vs zo;have z3:(L=id)=False:=Vs zo;have z4:(c=id)=False:=Vs zo;have hidn:¬id<n0:=zo
 simp only[eE,eN,seval,DF,z2,y2,hc];refine⟨⟨l',.busy,none,13,eApM q c, #[7],EV,EW⟩,by simp only[AJ,y3,z1,Wf,WB],hR _ _ ⟨?_,lc,cl,zp,⟨_,by simp only[AJ,y2,Wf,WB],.inr ⟨zw,id,rest,rfl,hlo,by simp only[AJ,z3,z4,Wf,WB]⟩⟩,by simp only[AJ,WB],?_⟩ ?_ (Wx _ _)⟩
 ·intro j hj;have x7:m+5<=j:=hj;simp only[AJ];repeat rw[V5 zo]
  exact fr j zo
 ·intro j ob hj h0;simp only[AJ];repeat rw[V5 zo]
  exact kp j ob hj h0
 ·intro j ob hj hjc hjL hob h0;have:=hida j ob hj hjL hob h0;simp only[AJ];repeat rw[V5 zo]
  exact h0
theorem ApM.it{c L l':Nat}{H0:AC}{n0:Nat}{qs:List Int}{m it:Nat}{ob ob':Z7}(F:ApM q c L l' H0 n0 qs H m)(h1:n0<=it)(h2:it≠c)(h3:it≠L)(h4:it<m)(h5:hget H it=some ob)(h6:∀e Z,ob≠ .arr e Z):ApM q c L l' H0 n0 qs (hset H it ob') m:=by
 obtain⟨fr,lc,cl,lm,⟨lv,hc,hlv⟩,hL,kp⟩:=F;refine⟨fr.hset (V4 _) h4,lc,cl,lm,⟨lv,by rw[AA _ _ _ _ h2];exact hc,?_⟩,by rw[AA _ _ _ _ h3];exact hL,λj o hj h0=>by rw[AA _ _ _ _ zo];exact kp j o hj h0⟩;rcases hlv with h|⟨hne,id,rest,k1,k2,k3⟩
 ·exact .inl h
 ·exact .inr ⟨hne,id,rest,k1,k2,by rw[AA _ _ _ _ (λe=>by subst e;rw[h5]at k3;cases k3;exact h6 _ _ rfl)];exact k3⟩
theorem JU{α:Type}[DecidableEq α]:∀{a b:List α},a.Nodup->(∀x∈a,x∈b)->a.length<=b.length
 |[],_,_,_=>V8 _
 |x::a,b,hn,h=>by
  rw[Xv]at hn;have hx:=h x (Wu ..);have:=JU (b:=b.erase x) hn.2 λy hy=>(List.mem_erase_of_ne (λe=>hn.1 (by rw[<-e];exact hy))).2 (h y (WJ _ hy))
  rw[List.length_erase_of_mem hx]at this;have:=List.length_pos_of_mem hx;simp only[Vz];omega
abbrev Ent:=Fs×Fs×Nat
structure EsOK(es:List Ent)(clk:Nat):Prop where
 key:∀e∈es,e.1=eI (toI e.1)
 nd:(es.map (·.2.2)).Nodup
 lt:∀e∈es,e.2.2<clk
def esK(es:List Ent):List Int:=es.map λe=>toI e.1
def Kq(es:List Ent)(b:Nat):Int:=match es.find? (λe=>decide (e.2.2=b))with
 |some e=>toI e.1
 |none=>0
theorem Of{es:List Ent}(hn:(es.map (·.2.2)).Nodup){e:Ent}(he:e∈es):es.find? (λx=>decide (x.2.2=e.2.2))=some e:=by
 induction es with
 |nil=>cases he
 |cons x r ih=>grind
theorem Og{es:List Ent}(hn:(es.map (·.2.2)).Nodup){e:Ent}(he:e∈es):K5 e.2.2 es=some (e.1,e.2.1):=by
 induction es with
 |nil=>cases he
 |cons x r ih=>
  obtain⟨k,v,b⟩:=x;rw[W6,Xv]at hn;rw[K5];rcases Wp.1 he with rfl|he
  ·rw[Vv rfl]
  ·grind
theorem JV{es:List Ent}(h:EsOK es clk){e:Ent}(he:e∈es):e.1=eI (Kq es e.2.2):=by
 unfold Kq;rw[Of h.nd he];exact h.key e he
theorem Oh{es:List Ent}(h:EsOK es clk){seen:List Nat}(hn:seen.Nodup)(hs:∀b∈seen,b∈es.map (·.2.2))(hd:Cp es seen=[]):(seen.map (Kq es)).Perm (esK es):=by
 have h1:seen.Perm (es.map (·.2.2)):=(XW hn h.nd).2 λb=>⟨hs b,λhb=>by
  obtain⟨e,he,rfl⟩:=WL.1 hb;apply Classical.byContradiction;intro hns;have:e∈Cp es seen:=Xb.2 ⟨he,by simpa using hns⟩;rw[hd]at this;cases this⟩
 refine(h1.map (Kq es)).trans ?_;rw[X2];have:es.map (Kq es∘λx=>x.2.2)=esK es:=Wz λe he=>by
  have:=JV h he;simp only[Function.comp];rw[this];rfl
 rw[this]
theorem RM{es:List Ent}{seen:List Nat}{e:Ent}(h:e∈Cp es seen):(Cp es (seen++[e.2.2])).length<(Cp es seen).length:=by
 have e1:Cp es (seen++[e.2.2])=(Cp es seen).filter λx=>decide (x.2.2≠e.2.2):=by grind [Cp,List.filter_filter]
 rw[e1,List.length_filter_lt_length_iff_exists];exact⟨e,h,zw⟩
structure VKm where
 seen:List Nat
 H:AC
 n:Nat
structure IKm(es:List Ent)(clk q n mp l':Nat)(H:AC)(v:VKm):Prop where
 F:ApM q n (n+2) l' H n (v.seen.map (Kq es)) v.H v.n
 it:hget v.H (n+4)=some (.mit mp clk v.seen clk)
 lt:n+4<v.n
 nd:v.seen.Nodup
 rg:∀b∈v.seen,b∈es.map (·.2.2)
theorem t_apM{es:List Ent}(ho:EsOK es clk)(hl:es.length<1000000)(hf:AR H n)(hq:hget H q=some (.box [.mp mp]))(hm:hget H mp=some (.map es clk)):
  AN prog 214 [.sl .nil [],clM q] H n λo H' n'=>∃lv qs,o= .ret lv/\qs.Perm (esK es)/\LvG eI 1 (n+3) H' lv qs/\AR H' n'/\n<=n'/\∀id ob,id<n->hget H id=some ob->hget H' id=some ob:=by
 have hqn:=hf.lt hq;have hmn:=hf.lt hm;refine a214 (AE AI.tnil (AF ?_));simp only[eE,eN,seval,c214,fr0 hf,Fw];intro l';generalize hH1:hset (hset H n (.box [.sl .nil []])) (n+2) _=H1;have F0:ApM q n (n+2) l' H n [] H1 (n+3):=by
  subst hH1;refine⟨λj hj=>?_,V4 _,zo,zo,⟨.sl .nil [],?_,.inl ⟨rfl,rfl⟩⟩,AB ..,λj ob hj h0=>?_⟩
  ·simp only[AJ];repeat rw[V5 zo]
   exact hf j zo
  ·simp only[AJ];rw[V5 zo,Vv trivial]
  ·simp only[AJ];repeat rw[V5 zo]
   exact h0
 have hc0:hget H1 n=some (.box [.sl .nil []]):=by
  subst hH1;simp only[AJ];rw[V5 zo,Vv trivial]
 clear hH1;have hq1:=F0.kp q _ hqn hq;have hm1:=F0.kp mp _ hmn hm;have hfn:=fr1 F0.fr;refine c242.a (AE AI.tnil (AF ?_));simp only[eE,eN,seval,xE,c242,hq1,hm1];refine⟨hfn 1,?_⟩;refine AO (λv:VKm=>⟨[(0,true,.fn (.yield l') [] []),(5,true,.ptr (n+4) 0)],v.H,v.n⟩) (IKm es clk q n mp l' H) (λv=>(Cp es v.seen).length) ⟨[],hset H1 (n+4) (.mit mp clk [] clk),n+5⟩ rfl
  ⟨⟨F0.fr.hset (m:=n+5) zo zo,V4 _,zo,zp,⟨.sl .nil [],by rw[AA _ _ _ _ zo];exact hc0,.inl ⟨rfl,rfl⟩⟩,by rw[AA _ _ _ _ zo];exact F0.hL,λj o hj h0=>by rw[AA _ _ _ _ zo];exact F0.kp j o hj h0⟩,AB ..,zp,List.nodup_nil,λb hb=>(by cases hb)⟩ ?_
 rintro⟨seen,H2,m⟩ ⟨F,hit,c6,m0,hrg⟩;simp only at F hit c6 m0 hrg;have hsl:seen.length<=es.length:=by
  have:=JU m0 hrg;simpa using this
 have hm2:=F.kp mp _ hmn hm;have hq2:=F.kp q _ hqn hq;simp only[eE,eC,seval];rw[QI hit hm2];refine⟨V4 _,λe he=>ho.lt e he,λhnil=>?_,λe he=>?_⟩
 ·have hp:=Oh ho m0 hrg hnil;obtain⟨fr,lc,cl,lm,⟨lv,hc,hlv⟩,hL,kp⟩:=F;have y1:(n+2=n)=False:=Vs zo;simp only[eZ,seval,eY,Gl,hL,hc,y1];refine⟨lv,_,rfl,hp,?_,fr.hset (V4 m) (show n+2<m by omega),zo,λid ob d7 h0=>by rw[V5 zo];exact kp id ob d7 h0⟩;rcases hlv with h|⟨hne,id,rest,h1,h2,h3⟩
  ·exact .inl h
  ·exact .inr ⟨hne,id,rest,h1,h2,by rw[AA _ _ _ _ zo];exact h3⟩
 ·obtain⟨he1,he2⟩:=Xb.1 he;have b2:=JV ho he1;have b3:=Og ho.nd he1;have hns:e.2.2∉seen:=by simpa using he2
  have hst:Gj (hset H2 (n+4) (.mit mp clk (seen++[e.2.2]) clk)) mp (seen++[e.2.2])=some (e.1,e.2.1):=by grind [Gj,AA,List.getLast?_concat]
  have y0:(n+4=mp)=False:=Vs zo;simp only[eZ,seval,xE,eY,y0,hm2,hst,b2];refine y_apM (F.it zo zo zo c6 hit zw) (Kq es e.2.2) (by rw[V0];omega) λH' m' F' hk hmm=>?_
  simp only[eZ,seval,V3,yldK];refine⟨⟨seen++[e.2.2],H',m'⟩,.inr ⟨?_,.inl ⟨rfl,rfl⟩⟩,⟨by simp only[Vt,W6,Wh];exact F',hk _ _ c6 zo zo zw (AB ..),zp,?_,λb hb=>?_⟩,RM he⟩
  ·exact⟨⟨_,rfl,Wk.refl _⟩,⟨_,rfl,Wk.refl _⟩,trivial⟩
  ·grind
  ·grind
theorem Tz{es:List Ent}(ho:EsOK es clk)(hl:es.length<1000000)(hf:AR H n)(hq:hget H q=some (.box [.mp mp]))(hm:hget H mp=some (.map es clk)):
  AN prog 182 [clM q] H n λo H' n'=>∃lv qs,o= .ret lv/\qs.Perm (esK es)/\LvG eI 1 (n+3) H' lv qs/\AR H' n'/\n<=n'/\∀id ob,id<n->hget H id=some ob->hget H' id=some ob:=by
 refine c182.a (AE AI.tnil (AF ?_));simp only[eE,eN,seval,c182];refine(t_apM ho hl hf hq hm).mono ?_;rintro o H' n' ⟨lv,qs,rfl,h1,h2,h3,h4,h5⟩;simp only[eE,eN,seval,retK];exact⟨lv,qs,rfl,h1,h2,h3,h4,h5⟩
theorem Oi{a b:List Int}(h:a.Perm b):a.mergeSort leI=b.mergeSort leI:=by
 refine List.Perm.eq_of_pairwise (le:=λx y=>x<=y) (λx y _ _ h k=>zo) (Ff a) (Ff b) ?_;exact(Xp a leI).trans (h.trans (Xp b leI).symm)
theorem t_srtM{es:List Ent}(ho:EsOK es clk)(hl:es.length<1000000)(hf:AR H n)(hq:hget H q=some (.box [.mp mp]))(hm:hget H mp=some (.map es clk)):
  AN prog 135 [clM q] H n (QRet H (eIs ((esK es).mergeSort leI))):=by
 have hel:(esK es).length=es.length:=V0 ..;refine AN.out (AN.seal (R:=SrA (.arr 1) H (esK es)) (R':=SrA (.frz 1) H (esK es)) (c135.a (AE AI.tnil (AF ?_))) ?_) ?_
 ·simp only[eE,eN,seval,c135];refine(Tz ho hl hf hq hm).mono ?_;rintro o H1 n1 ⟨lv,qs,rfl,hp,hlv,e9,j9,hk⟩;simp only[eE,eN,seval,retK];have hK:Ce H H1:=λid ob h0=>hk id ob (hf.lt h0) h0
  have hql:=hp.length_eq;rcases hlv with⟨rfl,rfl⟩|⟨hne,id,rest,rfl,h2,h3⟩
  ·refine Lx.mono ?_;rintro o H2 n2 ⟨rfl,rfl,rfl⟩;simp only[eE,eN,seval,retK];exact⟨hK,.inl ⟨hp.nil_eq.symm,rfl⟩⟩
  ·refine(M6 h3 zw zo).mono ?_;rintro o H2 n2 ⟨rfl,rfl,rfl⟩;rw[Yl,List.drop_left];simp only[eE,eN,seval,retK];refine⟨λi ob h0=>?_,.inr ⟨λe=>hne (Wv (by rw[hql,e];rfl)),id,rest,by rw[hql],hf _ zo,by rw[AB,Oi hp]⟩⟩;rw[AA _ _ _ _ (λe=>by subst e;rw[hf _ zo]at h0;cases h0)];exact hK i ob h0
 ·rintro o H' n' ⟨hK,h⟩;rcases h with h|⟨hne,id,rest,h1,h2,h3⟩
  ·exact .inl ⟨hK,.inl h⟩
  ·refine .inr ⟨id,1,_,h3,λi ob h0=>?_,.inr ⟨hne,id,rest,h1,h2,AB ..⟩⟩;rw[AA _ _ _ _ (λe=>by subst e;rw[h2]at h0;cases h0)];exact hK i ob h0
 ·rintro o H' n' ⟨hK,h⟩;refine⟨.ret (eIs ((esK es).mergeSort leI)),⟨⟨_,rfl,Wk.refl _⟩,hK⟩,λg w e hR he=>?_⟩;have hL:∃lv,o= .ret lv/\LF 1 lv H' (((esK es).mergeSort leI).map eI):=by
   rcases h with⟨h0,rfl⟩|⟨hz,id,rest,rfl,h2,h3⟩
   ·exact⟨_,rfl,.inl ⟨by rw[h0,List.mergeSort_nil];rfl,_,rfl,.inl rfl⟩⟩
   ·refine⟨_,rfl,?_⟩;have hl2:=DJ (esK es);refine .inr ⟨λq=>hz (by rw[List.map_eq_nil_iff]at q;rw[q]at hl2;exact X1.1 hl2.symm),id,(esK es).length+rest.length,rest.map eI,by rw[V0,hl2],by rw[h3,Vt],by simp [hl2]⟩
  obtain⟨lv,rfl,hL⟩:=hL;cases e with
  |returned v=>exact Ie hL hR he
  |panicked c=>exact he.elim
  |outgrown=>exact he.elim
theorem T0(hf:AR H n):AN prog 198 [.mp mp] H n λo H' n'=>o= .ret (clM n)/\H'=hset H n (.box [.mp mp])/\n'=n+2:=by
 refine c198.a (AE AI.tnil (AF ?_));simp only[eE,eN,seval,c198,fr0 hf]
end
section
theorem Oj:∀{es:List Ent},Di (.int .i64) es->∀e∈es,e.1=eI (toI e.1)
 |[],_,_,h=>by cases h
 |(k,v,b)::r,hf,e,h=>by
  obtain⟨h1,h2⟩:=hf;rcases Wp.1 h with rfl|h
  ·cases k<;>simp only[KT.is]at h1;subst h1;rfl
  ·exact Oj h2 e h
theorem JW{z:Int}{v:Fs}{c:Nat}:∀{es:List Ent},Di (.int .i64) es->esK (mset (eI z) v c es)=(if(BN (eI z) es).isSome=true then esK es else esK es++[z])/\(mset (eI z) v c es).map (λe=>e.2.2)=if(BN (eI z) es).isSome=true then es.map (λe=>e.2.2)else es.map (λe=>e.2.2)++[c]
 |[],_=>⟨rfl,rfl⟩
 |(k,w,b)::r,hf=>by
  obtain⟨h1,h2⟩:=hf;have ih:=JW (z:=z) (v:=v) (c:=c) h2;rw[mset,BN];by_cases q:ceq (eI z) k=true
  ·rw[Vv q,Vv q];exact⟨rfl,rfl⟩
  ·rw[V5 q,V5 q];refine⟨?_,?_⟩
   ·show toI k::esK (mset (eI z) v c r)=_;rw[ih.1];split<;>rfl
   ·rw[W6,ih.2];split<;>rfl
theorem JX{z:Int}:∀{es:List Ent},Di (.int .i64) es->((BN (eI z) es).isSome=true↔z∈esK es)
 |[],_=>by simp [BN,esK]
 |(k,w,b)::r,hf=>by
  obtain⟨h1,h2⟩:=hf;have ih:=JX (z:=z) h2;cases k<;>simp only[KT.is]at h1;rename_i kk y;subst h1;rw[BN,show esK ((Fs.int .i64 y,w,b)::r)=y::esK r from rfl,Wp];by_cases q:z=y
  ·subst q;simp [ceq]
  ·simp only[ceq,q,Yu,W5,Wf,false_or];exact ih
section
variable (g:Zc) (fn:Spot->Option Int)
def lnI(i:Nat)(z:Int):List Int:=idxP i λc=>decide (fn (spC g c)=some z)
variable {z:Int} {i:Nat}
theorem RN(h:fn (spC g i)=none)(z:Int):lnI g fn (i+1) z=lnI g fn i z:=by
 unfold lnI;rw[Ci,h,V5 zw]
theorem RO(h:fn (spC g i)=some z):lnI g fn (i+1) z=lnI g fn i z++[(i:Int)]:=by
 unfold lnI;rw[Ci,h,Vv zw]
theorem lnI_ne{w:Int}(h:fn (spC g i)=some z)(hw:w≠z):lnI g fn (i+1) w=lnI g fn i w:=by
 unfold lnI;rw[Ci,h,V5 (by simp;exact λe=>hw e.symm)]
theorem T5(i:Nat)(z:Int):(lnI g fn i z).length<=i:=Bq ..
theorem Ok(z:Int):lnI g fn g.cells.length z=Bv (AQ g.sh g.w g.cells) fn z:=by
 unfold lnI Bv;rw[BI];refine CW λc hc=>?_
 rw[C5 hc,Ya]
structure LnE(lo i:Nat)(H:AC)(es:List Ent)(clk:Nat)(tk:Int->Nat):Prop where
 fit:Di (.int .i64) es
 ok:EsOK es clk
 fnd:∀z,BN (eI z) es=if lnI g fn i z=[]then none else some (.sl (.own (tk z) 1) ((lnI g fn i z).map eI))
 tok:∀z,lnI g fn i z≠[]->lo<=tk z/\hget H (tk z)=some .tok
 inj:∀z w,lnI g fn i z≠[]->lnI g fn i w≠[]->tk z=tk w->z=w
 knd:(esK es).Nodup
 kmem:∀z,z∈esK es↔lnI g fn i z≠[]
 len:es.length<=i
variable {g fn} {lo i:Nat} {H H':AC} {es:List Ent} {clk:Nat} {tk:Int->Nat}
theorem LnE.skip(h:LnE g fn lo i H es clk tk)(hn:fn (spC g i)=none)(hk:∀z,lnI g fn i z≠[]->hget H' (tk z)=some .tok):LnE g fn lo (i+1) H' es clk tk:=by
 obtain⟨h1,h2,h3,h4,h5,h6,h7,h8⟩:=h;have e:=RN g fn hn;exact⟨h1,h2,λz=>by rw[e];exact h3 z,λz hz=>by rw[e]at hz;exact⟨(h4 z hz).1,hk z hz⟩,λz w hz hw=>by rw[e]at hz hw;exact h5 z w hz hw,h6,λz=>by rw[e];exact h7 z,zo⟩
theorem LnE.step(h:LnE g fn lo i H es clk tk)(hz:fn (spC g i)=some z){t:Nat}(hlo:lo<=t)(ht:hget H t=none)(ht':hget H' t=some .tok)(hk:∀w,lnI g fn i w≠[]->w≠z->hget H' (tk w)=some .tok):
  LnE g fn lo (i+1) H' (mset (eI z) (.sl (.own t 1) ((lnI g fn i z++[(i:Int)]).map eI)) clk es) (if(BN (eI z) es).isSome=true then clk else clk+1) (λw=>if w=z then t else tk w):=by
 obtain⟨h1,h2,h3,h4,h5,h6,h7,h8⟩:=h;have hs:=RO g fn hz;have hne:=λw=>lnI_ne g fn (w:=w) hz
 have hfit:=HQ (y:=z) (v:=.sl (.own t 1) ((lnI g fn i z++[(i:Int)]).map eI)) (c:=clk) h1;obtain⟨k1,k2⟩:=JW (z:=z) (v:=.sl (.own t 1) ((lnI g fn i z++[(i:Int)]).map eI)) (c:=clk) h1;have hkey:=JX (z:=z) h1;generalize d9:mset (eI z) (.sl (.own t 1) ((lnI g fn i z++[(i:Int)]).map eI)) clk es=es' at hfit k1 k2;have d6:es'.length=if(BN (eI z) es).isSome=true then es.length else es.length+1:=by grind [List.length_map]
 refine⟨hfit,⟨Oj hfit,?_,λe he=>?_⟩,λw=>?_,λw hw=>?_,λw w' hw hw'=>?_,?_,λw=>?_,by rw[d6];split<;>omega⟩
 ·rw[k2];split
  ·exact h2.nd
  ·rw[Xo];refine⟨h2.nd,zw,λa ha b hb=>?_⟩;rw[WV.1 hb];obtain⟨e,he,rfl⟩:=WL.1 ha;have:=h2.lt e he;omega
 ·have hm:e.2.2∈es'.map (λe=>e.2.2):=WL.2 ⟨e,he,rfl⟩;rw[k2]at hm;split at hm
  ·rename_i q;obtain⟨e',t9,e1⟩:=WL.1 hm;rw[Vv q,<-e1];exact h2.lt e' t9
  ·rename_i q;rw[V5 q];rcases WH.1 hm with hm|hm
   ·obtain⟨e',t9,e1⟩:=WL.1 hm;have:=h2.lt e' t9;omega
   ·rw[WV.1 hm];omega
 ·rw[<-d9,HP h1];by_cases q:w=z
  ·subst q;rw[Vv rfl,Vv rfl,hs,V5 zw]
  ·rw[V5 q,V5 q,h3 w,hne w q]
 ·grind
 ·grind
 ·grind
 ·rw[k1];by_cases q:w=z
  ·subst q;rw[hs];split
   ·rename_i p;exact⟨λ_=>zw,λ_=>hkey.1 p⟩
   ·exact⟨λ_=>zw,λ_=>zw⟩
  ·rw[hne w q,<-h7 w];split
   ·exact Iff.rfl
   ·simp [q]
end
def resP(o:Option Int):Fs:=.tup [.int .i64 (o.getD 0),.bool o.isSome]
def rowP(cap:List Fs)(okH:AC->Prop)(okS:Spot->Prop)(fn:Spot->Option Int):List Fs->AC->Prop×Fs:=λa H=>match a with
 | .agg [.int .i64 x,.int .i64 y]::c=>(c=cap/\okH H/\okS (x,y),resP (fn (x,y)))
 |_=>(False,.tup [])
variable {H:AC} {f0:FuncId} {g:Zc} {cap:List Fs} {n:Nat} {fn:Spot->Option Int}
theorem rowPq{fid:FuncId}{okH:AC->Prop}{okS:Spot->Prop}(h:∀s H n,okS s->okH H->Ab prog fid (eSp s::cap) H n (resP (fn s))):∀args H n,(rowP cap okH okS fn args H).1->Ab prog fid args H n (rowP cap okH okS fn args H).2:=by
 intro args H n hh;unfold rowP at hh⊢;split at hh
 ·obtain⟨rfl,h1,h2⟩:=hh;exact h _ H n h2 h1
 ·exact hh.elim
def Fq(H0:AC)(n:Nat)(H:AC):Prop:=∀id ob,id<n->hget H0 id=some ob->hget H id=some ob
abbrev eLn(n:Nat):List (Nat×Bool×Fs):=[(3,true,.ptr (n+1) 0),(4,true,.sl .nil []),(5,true,.ptr (n+4) 0),(14,true,clG (n+6))]
structure LnF(g:Zc)(fn:Spot->Option Int)(bv:Fs)(H0:AC)(n l':Nat)(i:Nat)(H:AC)(m:Nat):Prop where
 fr:AR H m
 lm:n+9<=m
 kp:Fq H0 n H
 h1:hget H (n+1)=some (.box [bv])
 h4:hget H (n+4)=some (.box [.mp (n+3)])
 hq:hget H (n+6)=some (.box (AH g.sh g.w g.h g.holes g.cells))
 hL:hget H (n+8)=some (.lp ⟨l',.ready,none,48,eLn n, #[15,16],FD,FE⟩)
 hm:∃es clk tk,hget H (n+3)=some (.map es clk)/\LnE g fn (n+9) i H es clk tk
theorem y_ln{H0:AC}{l' i:Nat}{T:Tab}(hT:AI prog T)(hTe:∀a H,T f0 a H=rowP cap (Fq H0 n) (λs=>s∈AQ g.sh g.w g.cells) fn a H)
  (hcl:g.cells.length<=256) (hi:i<g.cells.length) {m:Nat} (F:LnF g fn (.fn (.func f0) [] cap) H0 n l' i H m) {R:Bool->AC->Nat->Prop} (hR:∀H' m',LnF g fn (.fn (.func f0) [] cap) H0 n l' (i+1) H' m'->R true H' m'):
  B2 prog l' [.int .i64 i,eSp (spC g i)] H m R:=by
 obtain⟨fr,lm,kp,h1,h4,hq,hL,es,clk,tk,hm,hE⟩:=F;refine y147_0 hL rfl (AE AI.tnil (AF ?_));simp only[eE,eN,seval,Lk,renv,XN,XY,X3,Yk,fr0 fr,AD];refine⟨_,(AA _ _ _ _ zo).trans hL,rfl,AE hT (AF ?_)⟩;have hmem:spC g i∈AQ g.sh g.w g.cells:=XE (C5 hi);have y1:(m=n+1)=False:=Vs zo;have y2:(n+8=n+1)=False:=Vs zo;have y3:(n+8=m)=False:=Vs zo;have hk:Fq H0 n (hset (hset H m (.box [.int .i64 (spC g i).1,.int .i64 (spC g i).2])) (n+8) (.lp ⟨l',.busy,none,48,eLn n, #[15,16],FD,FE⟩)):=λid ob d7 h0=>by
  rw[AA _ _ _ _ zo,AA _ _ _ _ zo];exact kp id ob d7 h0
 generalize hs:spC g i=s at hmem hk;have hmem':(s.1,s.2)∈AQ g.sh g.w g.cells:=hmem;cases hfn:fn s with
 |none=>
  have hfn':fn (s.1,s.2)=none:=hfn;simp only[eZ,seval,eY,HG,h1,y1,y2,y3,hTe,rowP,V1 hk,V1 hmem',hfn',resP];refine⟨⟨l',.busy,none,48,eLn n, #[15,16],FD,FE⟩,AB ..,hR _ _ ⟨?_,zp,λid ob d7 h0=>?_,?_,?_,?_,AB ..,es,clk,tk,?_,hE.skip (by rw[hs];exact hfn) λz hz=>?_⟩⟩
  ·exact((fr.hset (m:=m+2) zo zo).hset (m:=m+2) (V4 _) zo).hset (V4 _) (show n+8<m+2 by omega)
  ·rw[AA _ _ _ _ zo];exact hk id ob d7 h0
  ·repeat rw[AA _ _ _ _ zo]
   exact h1
  ·repeat rw[AA _ _ _ _ zo]
   exact h4
  ·repeat rw[AA _ _ _ _ zo]
   exact hq
  ·repeat rw[AA _ _ _ _ zo]
   exact hm
  ·obtain⟨t1,t2⟩:=hE.tok z hz;have:=fr.lt t2;repeat rw[AA _ _ _ _ zo]
   exact t2
 |some z=>
 have hfn':fn (s.1,s.2)=some z:=hfn;have y4:∀k,(n+8=n+k)=(8=k):=λk=>propext zo
 have y5:∀k,(m+k=n+3)=False:=λk=>Vs zo
 have y6:(m=n+3)=False:=Vs zo;have y7:(m=n+4)=False:=Vs zo;have y8:∀k,(n+8=m+k)=False:=λk=>Vs zo
 have m6:=T5 g fn i z;have hfd:=hE.fnd z;have hkt:(KT.int IntKind.i64).is (.int .i64 z)=True:=V1 rfl;by_cases hz:lnI g fn i z=[]
 ·rw[Vv hz]at hfd;simp only[eZ,seval,xE,eY,HG,h1,h4,hm,y1,y2,y3,y4,y5,y6,y7,y8,hTe,rowP,V1 hk,V1 hmem',hfn',resP,CQ,hfd,hkt,V1 hE.fit,fr1 fr,small];have hst:=λH' ht' hkk=>hE.step (H':=H') (by rw[hs];exact hfn) (t:=m+9) zo (fr _ zo) ht' hkk
  simp only[hfd,Option.isSome_none,W5,Wf,hz,Wi,W6,Wh]at hst;refine⟨⟨l',.busy,none,48,eLn n, #[15,16],FD,FE⟩,?_,hR _ _ ⟨?_,zp,λid ob d7 h0=>?_,?_,?_,?_,AB ..,_,_,_,?_,hst _ ?_ λw hw hwz=>?_⟩⟩
  ·grind [AA,AB]
  ·exact((((fr.hset (m:=m+11) zo zo).hset (m:=m+11) (V4 _) zo).hset (m:=m+11) (V4 _) zo).hset (m:=m+11) (V4 _) zo).hset (V4 _) (show n+8<m+11 by omega)
  ·rw[AA _ _ _ _ zo,AA _ _ _ _ zo,AA _ _ _ _ (by have:=hk id ob d7 h0;omega)];exact hk id ob d7 h0
  ·repeat rw[AA _ _ _ _ zo]
   exact h1
  ·repeat rw[AA _ _ _ _ zo]
   exact h4
  ·repeat rw[AA _ _ _ _ zo]
   exact hq
  ·rw[AA _ _ _ _ zo,AB]
  ·repeat rw[AA _ _ _ _ zo]
   exact AB ..
  ·obtain⟨t1,t2⟩:=hE.tok w hw;have:=fr.lt t2;repeat rw[AA _ _ _ _ zo]
   exact t2
 ·rw[V5 hz]at hfd;obtain⟨z1,z2⟩:=hE.tok z hz;have z3:=fr.lt z2;have x1:(n+8=tk z)=False:=Vs zo;have x2:(m=tk z)=False:=Vs zo;have x3:(tk z=n+3)=False:=Vs zo;have x4:∀k,(tk z=m+k)=False:=λk=>Vs zo
  have q2:((lnI g fn i z).length+1<=35184372088832)=True:=V1 zo;have q3:((lnI g fn i z).length<=35184372088831)=True:=V1 zo;have q4:small ((lnI g fn i z).length+1) 8=True:=V1 (AP zo zd);simp only[eZ,seval,xE,eY,HG,h1,h4,hm,y1,y2,y3,y4,y5,y6,y7,y8,hTe,rowP,V1 hk,V1 hmem',hfn',resP,CQ,hfd,hkt,V1 hE.fit,fr1 fr,z2,x1,x2,x3,q2,q4];have hst:=λH' ht' hkk=>hE.step (H':=H') (by rw[hs];exact hfn) (t:=m+9) zo (fr _ zo) ht' hkk
  simp only[hfd,Option.isSome_some,WB,Vt,W6,Wh]at hst;refine⟨⟨l',.busy,none,48,eLn n, #[15,16],FD,FE⟩,?_,hR _ _ ⟨?_,zp,λid ob d7 h0=>?_,?_,?_,?_,AB ..,_,_,_,?_,hst _ ?_ λw hw hwz=>?_⟩⟩
  ·grind [AA,AB]
  ·exact(((((fr.hset (m:=m+11) zo zo).hset (m:=m+11) (V4 _) zo).hset (m:=m+11) (V4 _) zo).hset (m:=m+11) (V4 _) zo).hset (m:=m+11) (V4 _) zo).hset (V4 _) (show n+8<m+11 by omega)
  ·repeat rw[AA _ _ _ _ zo]
   exact kp id ob d7 h0
  ·repeat rw[AA _ _ _ _ zo]
   exact h1
  ·repeat rw[AA _ _ _ _ zo]
   exact h4
  ·repeat rw[AA _ _ _ _ zo]
   exact hq
  ·rw[AA _ _ _ _ zo,AB]
  ·repeat rw[AA _ _ _ _ zo]
   exact AB ..
  ·obtain⟨t1,t2⟩:=hE.tok w hw;have:=fr.lt t2;have:tk z≠tk w:=λe=>hwz (hE.inj _ _ hz hw e).symm
   repeat rw[AA _ _ _ _ zo]
   exact t2
def EL:List Fs->List (List Int)->Prop
 |[],[]=>True
 |a::E,l::L=>(∃t,a= .sl t (l.map eI)/\(t.esz=1\/l=[]))/\EL E L
 |_,_=>False
theorem EL.wks:∀{E:List Fs} {L:List (List Int)},EL E L->Wks E (L.map eIs)
 |[],[],_=>.nil
 |a::E,l::L,⟨⟨t,h1,h2⟩,h⟩=>by
  subst h1;exact .cons (Wk.sl (h2.imp (λz=>z) λq=>by rw[q];rfl)) (EL.wks h)
theorem EL.app:∀{E F:List Fs} {L M:List (List Int)},EL E L->EL F M->EL (E++F) (L++M)
 |[],_,[],_,_,h=>h
 |a::E,_,l::L,_,⟨h1,h⟩,k=>⟨h1,EL.app h k⟩
theorem EL.len:∀{E:List Fs} {L:List (List Int)},EL E L->E.length=L.length
 |[],[],_=>rfl
 |a::E,l::L,⟨_,h⟩=>by rw[Vz,Vz,EL.len h]
structure LnL(g:Zc)(fn:Spot->Option Int)(H0:AC)(n c:Nat)(Ks:List Int)(es:List Ent)(clk:Nat)(v:VRg):Prop where
 hi:v.i<=Ks.length
 lm:c<=v.n
 fr:AR v.H v.n
 kp:Fq H0 n v.H
 h4:hget v.H (n+4)=some (.box [.mp (n+3)])
 hm:hget v.H (n+3)=some (.map es clk)
 tok:tkG 1 c v.H v.tl
 es:v.tl.esz=1\/v.E=[]
 hE:EL v.E ((Ks.take v.i).map (Bv (AQ g.sh g.w g.cells) fn))
def LnP(H:AC)(n:Nat)(L:List (List Int)):Zb->AC->Nat->Prop:=λo H' n'=>
 ∃tl E,o= .ret (.sl tl E)/\tkG 1 n H' tl/\(tl.esz=1\/E=[])/\EL E L/\Fq H n H'/\AR H' n'/\n<=n'
theorem Ol(G:GrV g)(hf:AR H n)
  (hb:∀s H' m,s∈AQ g.sh g.w g.cells->Fq H n H'->Ab prog f0 (eSp s::cap) H' m (resP (fn s))) (hbd:∀s∈AQ g.sh g.w g.cells,∀z,fn s=some z-> -16<=z/\z<=32):
  AN prog 147 [Bu g,.fn (.func f0) [] cap] H n (LnP H n (Bd (AQ g.sh g.w g.cells) fn)):=by
 have hT:AI prog (tadd f0 (rowP cap (Fq H n) (λs=>s∈AQ g.sh g.w g.cells) fn) tnil):=AI.tnil.add (rowPq λs H' m h1 h2=>hb s H' m h1 h2);have hTe:∀a H',tadd f0 (rowP cap (Fq H n) (λs=>s∈AQ g.sh g.w g.cells) fn) tnil f0 a H'=rowP cap (Fq H n) (λs=>s∈AQ g.sh g.w g.cells) fn a H':=λa H'=>by unfold tadd;rw[Vv rfl]
 generalize tadd f0 _ tnil=T at hT hTe;obtain⟨q9,v8,x0⟩:=Ax G.hG;refine a147 (AE hT (AF ?_));simp only[eE,eN,seval,xE,c147,AH,fr0 hf,fr1 hf,AD];generalize hH0:hset _ (n+4) (Z7.box [Fs.mp (n+3)])=H0;have af:AR H0 (n+6):=by
  rw[<-hH0];exact(((hf.hset (m:=n+6) zo zo).hset (m:=n+6) (V4 _) zo).hset (m:=n+6) (V4 _) zo).hset (V4 _) zo
 have ak:Fq H n H0:=λid ob d7 h0=>by
  rw[<-hH0];repeat rw[AA _ _ _ _ zo]
  exact h0
 have a1:hget H0 (n+1)=some (.box [.fn (.func f0) [] cap]):=by grind [AA,AB]
 have a3:hget H0 (n+3)=some (.map [] 0):=by rw[<-hH0,AA _ _ _ _ zo,AB]
 have a4:hget H0 (n+4)=some (.box [.mp (n+3)]):=by rw[<-hH0,AB]
 clear hH0;refine(Ir af).mono ?_;rintro o H1 n1 ⟨rfl,rfl,rfl⟩;simp only[eE,eN,seval,retK,Fw];intro l';refine(In g G (J:=LnF g fn (.fn (.func f0) [] cap) H n l') (λi H n F=>F.hq) (λi H2 m hi F R hR=>y_ln hT hTe v8 hi F hR) ?_).mono ?_
 ·refine⟨(af.hset (m:=n+9) zo zo).hset (V4 _) zo,V4 _,λid ob d7 h0=>?_,?_,?_,?_,AB ..,[],0,λ_=>0,?_,⟨trivial,⟨zw,zw,zw⟩,λz=>?_,λz hz=>absurd rfl hz,λz w hz=>absurd rfl hz,by simp [esK],λz=>⟨λh=>by simp [esK]at h,λh=>absurd rfl h⟩,V4 _⟩⟩
  ·repeat rw[AA _ _ _ _ zo]
   exact ak id ob d7 h0
  ·repeat rw[AA _ _ _ _ zo]
   exact a1
  ·repeat rw[AA _ _ _ _ zo]
   exact a4
  ·rw[AA _ _ _ _ zo,AB]
  ·repeat rw[AA _ _ _ _ zo]
   exact a3
  ·have:lnI g fn 0 z=[]:=rfl;rw[Vv this];rfl
 rintro o H2 n2 ⟨rfl,F⟩;obtain⟨ffr,flm,fkp,f1,f4,fq,fL,es,clk,tk,fm,hE⟩:=F;have u1:(n+8=n+4)=False:=Vs zo;simp only[eE,eN,seval,Gl,fL,f4,u1];have gf:AR (hset H2 (n+8) .dead) n2:=ffr.hset (V4 _) zo;have gk:Fq H n (hset H2 (n+8) .dead):=λid ob d7 h0=>by rw[AA _ _ _ _ zo];exact fkp id ob d7 h0
 have g4:hget (hset H2 (n+8) .dead) (n+4)=some (.box [.mp (n+3)]):=by rw[AA _ _ _ _ zo];exact f4
 have gm:hget (hset H2 (n+8) .dead) (n+3)=some (.map es clk):=by rw[AA _ _ _ _ zo];exact fm
 generalize hset H2 (n+8) .dead=H3 at gf gk g4 gm;refine(T0 gf).mono ?_;rintro o H4 n4 ⟨rfl,rfl,rfl⟩;simp only[eE,seval,retK];have kf:AR (hset H3 n2 (.box [.mp (n+3)])) (n2+2):=gf.hset zo zo;have kk:Fq H n (hset H3 n2 (.box [.mp (n+3)])):=λid ob d7 h0=>by rw[AA _ _ _ _ zo];exact gk id ob d7 h0
 have k4:hget (hset H3 n2 (.box [.mp (n+3)])) (n+4)=some (.box [.mp (n+3)]):=by rw[AA _ _ _ _ zo];exact g4
 have km:hget (hset H3 n2 (.box [.mp (n+3)])) (n+3)=some (.map es clk):=by rw[AA _ _ _ _ zo];exact gm
 have kq:hget (hset H3 n2 (.box [.mp (n+3)])) n2=some (.box [.mp (n+3)]):=AB ..;generalize hset H3 n2 (.box [.mp (n+3)])=H5 at kf kk k4 km kq;have hesl:=hE.len;refine(Ab.of (n:=n2+2) c135.l (Ai _ _) (λ_=>t_srtM hE.ok zo kf kq km)).mono ?_;rintro o H6 n6 ⟨rfl,rfl,rfl⟩;have hK:((esK es).mergeSort leI).map (Bv (AQ g.sh g.w g.cells) fn)=Bd (AQ g.sh g.w g.cells) fn:=by
  refine Sm hE.knd (λz=>?_) hbd;rw[hE.kmem z,Ok,<-L2,<-List.isEmpty_eq_false_iff]
 have hKl:((esK es).mergeSort leI).length<=g.cells.length:=by
  rw[DJ];show(es.map _).length<=_;rw[V0];exact hesl
 have hKm:∀z∈(esK es).mergeSort leI,BN (eI z) es=some (.sl (.own (tk z) 1) ((Bv (AQ g.sh g.w g.cells) fn z).map eI)):=λz hz=>by
  rw[List.mem_mergeSort]at hz;rw[hE.fnd z,V5 ((hE.kmem z).1 hz),Ok]
 rw[<-hK];generalize (esK es).mergeSort leI=Ks at hKl hKm;simp only[eE,eN,seval,V0,retK];refine AO (λv:VRg=>⟨[(4,true,.sl v.tl v.E),(5,true,.ptr (n+4) 0),(34,true,eIs Ks),(35,true,.int .i64 Ks.length),(36,true,.int .i64 v.i)],v.H,v.n⟩) (LnL g fn H n (n2+2) Ks es clk) (λv=>Ks.length-v.i)
  ⟨0,[],.nil,H6,n2+2⟩ rfl ⟨V8 _,V4 _,kf,kk,k4,km,.inl rfl,.inr rfl,trivial⟩ ?_
 rintro⟨j,E,tl,H7,m⟩ ⟨hj,hlm,d5,hkp,h4,hm,htl,d9,hWE⟩;simp only at hj hlm d5 hkp h4 hm htl d9 hWE;by_cases c6:j<Ks.length
 ·have hg:=V2 c6;have e:=AG (k:=j) zo;have hfd:=hKm _ (W1 c6);have c7:Ks.take (j+1)=Ks.take j++[Ks[j]]:=by rw[Vx,hg];rfl
  generalize Ks[j]=z at hg hfd c7;have hkt:(KT.int IntKind.i64).is (.int .i64 z)=True:=V1 rfl;have hEl:E.length=j:=by
   have:=hWE.len;rw[V0,W0]at this;omega
  have q1:At H7 1 tl=True:=V1 htl.app;have q2:(E.length<=35184372088831)=True:=V1 zo;have q3:small (E.length+1) 24=True:=V1 (AP zo zd);simp only[eZ,seval,xE,eY,lt_T c6,hg,h4,hm,hkt,V1 hE.fit,CQ,hfd,q1,q2,q3,fr1 d5,e];refine .mk ⟨j+1,E++[.sl (.own (tk z) 1) ((Bv (AQ g.sh g.w g.cells) fn z).map eI)],.own (m+5) 1,hset (AL H7 tl) (m+5) .tok,m+7⟩ rfl ⟨c6,zp,(AT htl d5).hset (m:=m+7) zo zo,λid ob d7 h0=>?_,?_,?_,.inr (.inr ⟨m+5,rfl,zo,AB ..⟩),.inl rfl,?_⟩ zp
  ·rw[AA _ _ _ _ zo,AX htl (.inl zo)];exact hkp id ob d7 h0
  ·grind [AA,AX]
  ·grind [AA,AX]
  ·simp only[c7,Vt,W6,Wh]at hWE⊢;exact hWE.app ⟨⟨_,rfl,.inl rfl⟩,trivial⟩
 obtain rfl:j=Ks.length:=zo
 rw[Vw]at hWE;simp only[eZ,seval,lt_F c6];exact⟨tl,E,rfl,htl.imp id λq=>q.imp id λ⟨z,z1,z2,z3⟩=>⟨z,z1,zo,z3⟩,d9,hWE,hkp,d5,zo⟩
theorem Gb(G:GrV g)
  (hb:∀s H' m,s∈AQ g.sh g.w g.cells->Fq H n H'->Ab prog f0 (eSp s::cap) H' m (resP (fn s))) (hbd:∀s∈AQ g.sh g.w g.cells,∀z,fn s=some z-> -16<=z/\z<=32):
  Ab prog 147 [Bu g,.fn (.func f0) [] cap] H n (eLl (Bd (AQ g.sh g.w g.cells) fn)):=
 Ab.of l147 (Am n _) λhf=>(Ol G hf hb hbd).mono λo H' n' ⟨tl,E,h1,h2,h3,h4,h5,h6,h7⟩=>⟨⟨_,h1,Wk.slx h3 h4.wks⟩,λid ob h0=>h5 id ob (hf.lt h0) h0⟩
end
mutual
inductive View(H:AC):Fs->Fs->Prop
 |wk {a b:Fs}:Wk b a->View H a b
 |ref {id e off len cap:Nat} {l:List Fs}:hget H id=some (.arr e l)->off+len<=l.length->len<=cap->View H (.sl (.none e) ((l.drop off).take len)) (.ref id e off len cap)
 |ptr {id off:Nat} {cs:List Fs}:hget H id=some (.box cs)->View H (.ep (cs.drop off)) (.ptr id off)
 |pw {id off:Nat} {cs us:List Fs}:hget H id=some (.box cs)->Views H us (cs.drop off)->View H (.ep us) (.ptr id off)
 |agg {us bs:List Fs}:Views H us bs->View H (.agg us) (.agg bs)
 |fn {f:Fn} {us bs cs ds:List Fs}:Views H us bs->Views H cs ds->View H (.fn f us cs) (.fn f bs ds)
inductive Views(H:AC):List Fs->List Fs->Prop
 |nil:Views H [] []
 |cons {a b:Fs} {us bs:List Fs}:View H a b->Views H us bs->Views H (a::us) (b::bs)
end
mutual
def Fs.flat:Fs->Prop
 | .bool _| .int _ _| .str _| .nilp| .nilfn| .nilifc| .nilmp=>True
 | .agg cs=>flats cs
 | .tup cs=>flats cs
 |_=>False
def flats:List Fs->Prop
 |[]=>True
 |a::us=>a.flat/\flats us
end
mutual
theorem L6{g g':Yx}:∀(a:Fs) (v:Value),a.flat->VRel g a v->VRel g' a v
 | .bool _,_,_,h=>h
 | .int _ _,_,_,h=>h
 | .str _,_,_,h=>h
 | .nilp,_,_,h=>h
 | .nilfn,_,_,h=>h
 | .nilifc,_,_,h=>h
 | .nilmp,_,_,h=>h
 | .agg cs,_,hf,h=>by
  obtain⟨vs,rfl,h1,h2⟩:=h;exact⟨vs,rfl,flats_rel cs _ hf h1,h2⟩
 | .tup cs,_,hf,h=>by
  obtain⟨vs,rfl,h1⟩:=h;exact⟨vs,rfl,flats_rel cs _ hf h1⟩
 | .ptr _ _,_,hf,_=>hf.elim
 | .ep _,_,hf,_=>hf.elim
 | .gp _,_,hf,_=>hf.elim
 | .sl _ _,_,hf,_=>hf.elim
 | .ref _ _ _ _ _,_,hf,_=>hf.elim
 | .ap _ _ _ _,_,hf,_=>hf.elim
 | .fn _ _ _,_,hf,_=>hf.elim
 | .ifc _ _,_,hf,_=>hf.elim
 | .mp _,_,hf,_=>hf.elim
 | .up,_,hf,_=>hf.elim
theorem flats_rel{g g':Yx}:∀(us:List Fs) (vs:List Value),flats us->VRels g us vs->VRels g' us vs
 |[],_,_,h=>h
 |a::us,_,hf,h=>by
  obtain⟨v,r,rfl,h1,h2⟩:=h;exact⟨v,r,rfl,L6 a v hf.1 h1,flats_rel us r hf.2 h2⟩
end
def allσ(w:World):Nat->Nat->Option Value:=λb o=>w.cell? ⟨b,o,none⟩
section
variable {g:Yx} {H:AC} {n:Nat} {w:World}
theorem FM(R:Z2 g H n w):Iz 0 g ⟨λ_=>none,allσ w⟩:=⟨λ_ _ h=>absurd h (WE _),λb o v h=>R.σw b o v h⟩
theorem Hq{f:Nat->Option Value}:∀(cs:List Fs) (o k:Nat),PStab g f o cs->PStab g f (o+k) (cs.drop k)
 |[],o,k,_=>by rw[List.drop_nil];trivial
 |a::cs,o,0,h=>h
 |a::cs,o,k+1,h=>by rw[List.drop_succ_cons,show o+(k+1)=o+1+k by omega];exact Hq cs (o+1) k h.2
mutual
theorem L7(R:Z2 g H n w):∀{a b:Fs} {v:Value},View H a b->a.under 0->VRel g b v->VRel ⟨λ_=>none,allσ w⟩ a v
 |a,b,v,.wk h,hu,hv=>VRel.agree (n:=0) (FM R) a v hu (h g v hv)
 |_,_,v,.ref (id:=id) (e:=e) (off:=off) (len:=len) (cap:=cap) (l:=l) h1 h2 h3,hu,hv=>by
  obtain⟨L,k1,k2,rfl⟩:=hv;obtain⟨L',c,ty,j1,j2,j3,j4,j5,j6⟩:=R.obj id _ h1;rw[k1]at j1;cases j1;have d6:((l.drop off).take len).length=len:=by simp;omega
  have hst:=Stab.take len _ _ (Stab.drop off _ _ j6);rw[Wr]at hst;refine .inr ⟨trivial,L.blk,off*e,cap,⟨none,by rw[d6],.inl rfl⟩,by rw[d6];exact h3,?_,trivial⟩;have hst2:Stab g e (allσ w L.blk) (off*e) ((l.drop off).take len):=Stab.mono (Yx.le.refl g) (λo x hx=>by
   show w.cell? ⟨L.blk,o,none⟩=some x;rw[An j4];exact hx) e _ _ hst
  exact Stab.agree (n:=0) (FM R) (λo x h=>h) e _ _ hu.2 hst2
 |_,_,v,.ptr (id:=id) (off:=off) (cs:=cs) h1,hu,hv=>by
  obtain⟨L,k1,k2,rfl⟩:=hv;obtain⟨L',c,ty,j1,j2,j3,j4,j5,j6⟩:=R.obj id _ h1;rw[k1]at j1;cases j1;refine⟨L.blk,off,rfl,?_⟩;have hd:∀(cs:List Fs) (o k:Nat),PStab g (λo=>c[o]?) o cs->PStab g (λo=>c[o]?) (o+k) (cs.drop k):=by
   intro cs;induction cs with
   |nil=>intro o k _;rw[List.drop_nil];trivial
   |cons a cs ih=>
    intro o k h;cases k with
    |zero=>exact h
    |succ k=>rw[List.drop_succ_cons,show o+(k+1)=o+1+k by omega];exact ih (o+1) k h.2
  have h2:=hd cs 0 off j6;rw[Wr]at h2;have h3:PStab g (allσ w L.blk) off (cs.drop off):=PStab.mono (Yx.le.refl g) (λo x hx=>by
   show w.cell? ⟨L.blk,o,none⟩=some x;rw[An j4];exact hx) _ _ h2
  exact PStab.agree (n:=0) (FM R) (λo x h=>h) _ _ hu h3
 |_,_,v,.pw (id:=id) (off:=off) (cs:=cs) h1 hw,hu,hv=>by
  obtain⟨L,k1,k2,rfl⟩:=hv;obtain⟨L',c,ty,j1,j2,j3,j4,j5,j6⟩:=R.obj id _ h1;rw[k1]at j1;cases j1;refine⟨L.blk,off,rfl,?_⟩;have h2:=Hq cs 0 off j6;rw[Wr]at h2;exact pstab_rel R hw hu (PStab.mono (Yx.le.refl g) (λo x hx=>by
   show w.cell? ⟨L.blk,o,none⟩=some x;rw[An j4];exact hx) _ _ h2)
 |_,_,v,.agg h,hu,hv=>by
  obtain⟨vs,rfl,h1,h2⟩:=hv;exact⟨vs,rfl,views_rel R h hu h1,h2⟩
 |_,_,v,.fn h k,hu,hv=>by
  obtain⟨x,c,rfl,h1,h2⟩:=hv;exact⟨x,c,rfl,views_rel R h hu.1 h1,views_rel R k hu.2 h2⟩
theorem views_rel(R:Z2 g H n w):∀{us bs:List Fs} {vs:List Value},Views H us bs->unders 0 us->VRels g bs vs->VRels ⟨λ_=>none,allσ w⟩ us vs
 |_,_,vs,.nil,_,hv=>hv
 |_,_,vs,.cons h t,hu,hv=>by
  obtain⟨v,r,rfl,h1,h2⟩:=hv;exact⟨v,r,rfl,L7 R h hu.1 h1,views_rel R t hu.2 h2⟩
theorem pstab_rel(R:Z2 g H n w):∀{us bs:List Fs} {f:Nat->Option Value} {o:Nat},Views H us bs->unders 0 us->PStab g f o bs->PStab ⟨λ_=>none,allσ w⟩ f o us
 |_,_,f,o,.nil,_,_=>trivial
 |_,_,f,o,.cons h t,hu,hp=>by
  obtain⟨⟨v,h1,h2,h4⟩,h3⟩:=hp;exact⟨⟨v,h1,L7 R h hu.1 h2,h4⟩,pstab_rel R t hu.2 h3⟩
end
end
def Pur.viewF{P:Program}{f:FuncId}{args args':List Fs}{r:Fs}{H:AC}(h:Pur P f args r)(hf:∀g g' v,VRel g r v->VRel g' r v)(hv:Views H args args')(n:Nat):Ab P f args' H n r:=by
 obtain⟨ha,hr,hcb,hc⟩:=h;refine⟨hcb,λg w vs R hvs=>?_⟩;have R0:Z2 ⟨λ_=>none,allσ w⟩ hnil 0 w:=
  {σw:=λb o v h=>h
   obj:=λ_ _ h=>by simp [hget,hnil]at h
   dom:=λ_ _ h=>by simp at h
   hd:=λ_ _ h=>by simp [hget,hnil]at h
   ap:=λ_ _ _ _ _ _ _ h=>by simp [hget,hnil]at h
   un:=λ_ _ _ _ h=>by simp [hget,hnil]at h
   gl:=λi cs h=>PStab.agree (n:=0) (FM R) (λo x h=>R.σw i o x h) cs 0 (Hz i cs h) (R.gl i cs h)
   gz:=R.gz}
 refine(hc _ w vs R0 (views_rel R hv ha hvs)).mono ?_;rintro e w' ⟨g',out,H',n',⟨v,rfl,hw⟩,he,hR',-,ht⟩;cases e with
 |panicked c=>exact he.elim
 |outgrown=>exact he.elim
 |returned x=>
  have hx:VRel g' r x:=hw _ _ he;have keep:∀(b:Nat) ob,w.heap[b]?=some ob->w'.heap[b]?=some ob:=by
   intro b ob hb;have hk:=ht.kept b ob hb;cases ob<;>first|exact hk.resolve_left C8|skip
   obtain⟨c',h1,h2,h3⟩:=hk;rw[h1];congr 2;exact Array.ext_getElem? λi=>h3 i C8
  have inH:∀b o v,w.cell? ⟨b,o,none⟩=some v->b<w.heap.size:=by
   intro b o v hc;unfold World.cell? at hc;split at hc
   ·rename_i hb;exact(Wc.1 hb).1
   ·cases hc
  let σ2:Nat->Nat->Option Value:=λb o=>if b<w.heap.size then g.σ b o else g'.σ b o
  have old:∀b o v,g.σ b o=some v->σ2 b o=some v:=λb o v hh=>by
   simp only[σ2];rw[Vv (inH b o v (R.σw b o v hh))];exact hh
  have gle:g.le ⟨g.β,σ2⟩:=⟨λ_ _ h=>h,old⟩;have hcell:∀b o v,b<w.heap.size->w.cell? ⟨b,o,none⟩=some v->w'.cell? ⟨b,o,none⟩=some v:=by
   intro b o v hb hh;have e1:=X8 hb;have e2:=keep b _ e1;unfold World.cell? at hh⊢;simp only[e1,e2]at hh⊢;exact hh
  refine⟨⟨g.β,σ2⟩,.ret r,H,n,⟨rfl,rfl,rfl⟩,hf _ _ x hx,?_,V4 _,?_⟩
  ·refine⟨?_,?_,?_,R.hd,R.ap,?_,R.gl.mono gle,hR'.gz⟩
   ·intro b o v hh;simp only[σ2]at hh;split at hh
    ·rename_i hb;exact hcell b o v hb (R.σw b o v hh)
    ·exact hR'.σw b o v hh
   ·intro id ob hob;have ho:=R.obj id ob hob;cases ob with
    |box cs=>obtain⟨L,c,e,h1,h2,h3,h4,h5,h6⟩:=ho;exact⟨L,c,e,h1,h2,h3,keep _ _ h4,h5,PStab.mono gle (λ_ _ h=>h) cs 0 h6⟩
    |tok=>obtain⟨L,h1,h2⟩:=ho;exact⟨L,h1,λc6=>let ⟨c,e,h3,h4⟩:=h2 c6;⟨c,e,keep _ _ h3,h4⟩⟩
    |arr esz l=>obtain⟨L,c,e,h1,h2,h3,h4,h5,h6⟩:=ho;exact⟨L,c,e,h1,h2,h3,keep _ _ h4,h5,Stab.mono gle (λ_ _ h=>h) esz l 0 h6⟩
    |frz esz l=>obtain⟨L,h1,h2,h3⟩:=ho;exact⟨L,h1,h2,Stab.mono gle (λo x hx=>old L.blk o x hx) esz l 0 h3⟩
    |map es c=>obtain⟨L,es',h1,h2,h3,h4,h5⟩:=ho;exact⟨L,es',h1,h2,h3,keep _ _ h4,MRel.mono gle _ _ h5⟩
    |sit s pos=>obtain⟨L,h1,h2,h3,h4⟩:=ho;exact⟨L,h1,h2,h3,keep _ _ h4⟩
    |mit m c seen last=>obtain⟨L,Lm,h1,h2,h3,h4,h5⟩:=ho;exact⟨L,Lm,h1,h2,h3,keep _ _ h4,h5⟩
    |lp x=>obtain⟨L,h1,h2,h3,h4,r,k1,k2,k3,k4,k5,k6,k7,k8⟩:=ho;exact⟨L,h1,h2,h3,h4,r,keep _ _ k1,k2,k3,k4,k5,k6,BU.mono gle k7,k8⟩
    |dead=>trivial
   ·intro id L hL;exact⟨(R.dom id L hL).1,λc6=>X6 ((R.dom id L hL).2 c6) ht.size⟩
   ·intro id ob L o q1 q2 q3 q4 q5;have hb:=(R.dom id L q3).2 zo;show σ2 L.blk o=none;simp only[σ2];rw[Vv hb];exact R.un id ob L o q1 q2 q3 q4 q5
  ·refine⟨gle,λ_ _ h=>.inl h,ht.os,ht.tape,ht.output,ht.size,λb ob hb=>by rw[keep b ob hb];exact Kept.same _ _,λ_ _ _ h=>h,λb o v hb h=>.inl ?_⟩;have h':σ2 b o=some v:=h;simp only[σ2]at h';rw[Vv hb]at h';exact h'
def Pur.view{P:Program}{f:FuncId}{args args':List Fs}{r:Fs}{H:AC}(h:Pur P f args r)(hf:r.flat)(hv:Views H args args')(n:Nat):Ab P f args' H n r:=h.viewF (λ_ _ v=>L6 r v hf) hv n
section
def RdI(H:AC)(av:Fs)(l:List Int):Prop:=(∃t,av= .sl t (l.map eI)/\(t.esz=1\/l=[]))\/∃id cap rest,av= .ref id 1 0 l.length cap/\hget H id=some (.arr 1 ((l++rest).map eI))/\l.length<=cap
def ClnP(H:AC)(n:Nat)(l:List Int):Zb->AC->Nat->Prop:=λo H' n'=>
 (l=[]/\H'=H/\(n'=n\/n'=n+4)/\∃t,o= .ret (.sl t [])/\(t= .nil\/t= .exact 1))\/
 (l≠[]/\n'=n+4/\∃rest,o= .ret (.ref (n+2) 1 0 l.length (l.length+rest.length))/\H'=hset H (n+2) (.arr 1 ((l++rest).map eI)))
def t_clnI{H:AC}{n:Nat}{av:Fs}{l:List Int}(hr:RdI H av l)(hl:few l):AN prog 133 [av] H n (ClnP H n l):=by
 refine AN.fresh c133.l λhf=>?_
 have m6:l.length<1000000000:=hl;have hrep:∀k,List.replicate k (Fs.int .i64 0)=(List.replicate k (0:Int)).map eI:=λk=>by rw[XO]
 rcases hr with⟨t,rfl,ht⟩|⟨id,cp,rest,rfl,ho,hc⟩
 ·refine AN.args (a:=[eIs l]) ?_ λg vs ⟨v,r,h1,h2,h3⟩=>⟨v,r,h1,Wk.sl (ht.imp (λz=>z) λq=>by rw[q];rfl) _ _ h2,h3⟩
  refine QV.a (AE AI.tnil (AF ?_));cases l with
  |nil=>
   simp only[eZ,seval,QV];refine⟨?_,?_⟩
   ·simp only[eZ,seval,CZ,DF,fr1 hf,small,XD,V8];exact .inl ⟨rfl,rfl,.inr rfl,.exact 1,rfl,.inr rfl⟩
   ·simp only[eZ,seval,V6];exact .inl ⟨rfl,rfl,.inl rfl,.nil,rfl,.inl rfl⟩
  |cons x r=>
   rw[Vz]at m6;simp only[eZ,seval,V0,QV,eIs,CZ,DF,fr1 hf];refine⟨AP zo zd,zo,λcap hcap=>.inr ⟨zw,rfl,List.replicate (cap-(r.length+1)) 0,?_,?_⟩⟩
   ·simp_all
   ·rw[hrep];simp
 ·refine QV.a (AE AI.tnil (AF ?_));have c7:List.take l.length ((l++rest).map eI)=l.map eI:=by rw[Vt,List.take_left' (by rw[V0])]
  have d6:(l.length<=(l++rest).length)=True:=V1 zw;simp only[eZ,seval,V0,QV,ho,c7,d6,CZ,DF,fr1 hf];refine⟨AP zo zd,zo,λh0=>?_,λh0 cap hcap=>?_⟩
  ·exact .inl ⟨by simpa using h0,rfl,.inr rfl,.exact 1,rfl,.inr rfl⟩
  ·refine .inr ⟨by simpa using h0,rfl,List.replicate (cap-l.length) 0,?_,?_⟩
   ·simp_all
   ·rw[hrep];simp
def p148(s:Spot):Pur prog 148 [eSp s] (resP (some s.2)):=by
 refine .mk ⟨⟨trivial,trivial,trivial⟩,trivial⟩ ⟨trivial,trivial,trivial⟩ (c148.a (AE AI.tnil (AF ?_)));simp only[eE,eN,seval,Int.toNat_one,c148,c2n];exact Wk.refl _
def p149(s:Spot):Pur prog 149 [eSp s] (resP (some s.1)):=by
 refine .mk ⟨⟨trivial,trivial,trivial⟩,trivial⟩ ⟨trivial,trivial,trivial⟩ (c149.a (AE AI.tnil (AF ?_)));simp only[eE,eN,seval,eY,c149,c2n];exact Wk.refl _
variable {g:Zc}
theorem Gc(G:GrV g){s:Spot}(h:s∈AQ g.sh g.w g.cells): -16<=s.1/\s.1<=16/\0<=s.2/\s.2<=15/\ -16<=s.1+s.2/\s.1+s.2<=31:=by
 obtain⟨i,hi,rfl⟩:=WP.1 h;rw[BI]at hi;have e:=C5 hi;rw[V2 (by rw[BI];exact hi)]at e;rw[Option.some.inj e];have gi:inG g (i:Int):=⟨zo,by rw[Vy];exact hi⟩;obtain⟨k,hk,-,hg,hp,w1,w2,x1,x2,y1,y2,ey,hss⟩:=G.at gi;obtain rfl:k=i:=zo
 unfold spC Cz;split<;>simp only[]<;>omega
theorem p199(s:Spot)(h: -16<=s.1+s.2/\s.1+s.2<=31):Pur prog 199 [eSp s] (resP (some (s.1+s.2))):=by
 refine .mk ⟨⟨trivial,trivial,trivial⟩,trivial⟩ ⟨trivial,trivial,trivial⟩ (c199.a (AE AI.tnil (AF ?_)));have w:IntKind.wrap .i64 (s.1+s.2)=s.1+s.2:=Ae zo zo;simp only[eE,eN,seval,eY,c199,c2n,w];exact Wk.refl _
def dgF1(s:Spot):Option Int:=if s.1=s.2 then some 0 else none
def dgF2(w:Int)(s:Spot):Option Int:=if s.1+s.2=w-1 then some 0 else none
theorem p200(s:Spot):Pur prog 200 [eSp s] (resP (dgF1 s)):=by
 refine .mk ⟨⟨trivial,trivial,trivial⟩,trivial⟩ ⟨trivial,trivial,trivial⟩ (c200.a (AE AI.tnil (AF ?_)));unfold dgF1;by_cases h:s.1=s.2
 ·rw[Vv h];simp only[eE,eN,seval,eY,c200,c2n,BA h];exact Wk.refl _
 ·rw[V5 h];simp only[eE,eN,seval,eY,c200,c2n,Az h];exact Wk.refl _
theorem p201(g:Zc)(hw:0<=g.w/\g.w<=16)(s:Spot)(h: -16<=s.1+s.2/\s.1+s.2<=31):Pur prog 201 [eSp s,.ep (AH g.sh g.w g.h g.holes g.cells)] (resP (dgF2 g.w s)):=by
 refine .mk ⟨⟨trivial,trivial,trivial⟩,Ar 0 ..,trivial⟩ ⟨trivial,trivial,trivial⟩ (c201.a (AE AI.tnil (AF ?_)));have w:IntKind.wrap .i64 (s.1+s.2)=s.1+s.2:=Ae zo zo;have w2:IntKind.wrap .i64 (g.w-1)=g.w-1:=Ae zo zo;unfold dgF2;by_cases h:s.1+s.2=g.w-1
 ·rw[Vv h];simp only[eE,eN,seval,eY,c201,AH,c2n,w,w2,BA h];exact Wk.refl _
 ·rw[V5 h];simp only[eE,eN,seval,eY,c201,AH,c2n,w,w2,Az h];exact Wk.refl _
section
variable {g:Zc} (G:GrV g) (H:AC) (n:Nat)
include G
theorem q_ln1:Ab prog 147 [Bu g,.fn (.func 148) [] []] H n (eLl (Bd (AQ g.sh g.w g.cells) λs=>some s.2)):=
 Gb G (λs H' m _ _=>(p148 s).quiet H' m) λs hs z hz=>by have:=Gc G hs;have:=Option.some.inj hz;omega
theorem q_ln2:Ab prog 147 [Bu g,.fn (.func 149) [] []] H n (eLl (Bd (AQ g.sh g.w g.cells) λs=>some s.1)):=
 Gb G (λs H' m _ _=>(p149 s).quiet H' m) λs hs z hz=>by have:=Gc G hs;have:=Option.some.inj hz;omega
theorem q_ln3:Ab prog 147 [Bu g,.fn (.func 199) [] []] H n (eLl (Bd (AQ g.sh g.w g.cells) λs=>some (s.1+s.2))):=
 Gb G (λs H' m hs _=>(p199 s (by have:=Gc G hs;omega)).quiet H' m) λs hs z hz=>by have:=Gc G hs;have:=Option.some.inj hz;omega
theorem q_ln4:Ab prog 147 [Bu g,.fn (.func 200) [] []] H n (eLl (Bd (AQ g.sh g.w g.cells) dgF1)):=
 Gb G (λs H' m hs _=>(p200 s).quiet H' m) λs hs z hz=>by
  unfold dgF1 at hz;split at hz
  ·have:=Option.some.inj hz;omega
  ·cases hz
theorem q_ln5{q:Nat}(hq:hget H q=some (.box (AH g.sh g.w g.h g.holes g.cells)))(hf:AR H n):Ab prog 147 [Bu g,.fn (.func 201) [] [.ptr q 0]] H n (eLl (Bd (AQ g.sh g.w g.cells) (dgF2 g.w))):=by
 obtain⟨hs1,hs2⟩:=Fj G.hG;refine Gb G (λs H' m hs hk=>(p201 g zo s (by have:=Gc G hs;omega)).view ⟨trivial,trivial,trivial⟩ (.cons (.wk (Wk.refl _)) (.cons (View.ptr (off:=0) (hk q _ (hf.lt hq) hq)) .nil)) m) λs hs z hz=>?_
 unfold dgF2 at hz;split at hz
 ·have:=Option.some.inj hz;omega
 ·cases hz
end
def Is(g:Zc):List Fs->AC->Prop×Fs:=λa H=>match a with
 |[x,.fn (.func f) [] cap]=>(x=Bu g/\((f=148\/f=149\/f=199\/f=200)/\cap=[]\/f=201/\∃q,cap=[.ptr q 0]/\hget H q=some (.box (AH g.sh g.w g.h g.holes g.cells))),
   eLl (Bd (AQ g.sh g.w g.cells) (if f=148 then λs=>some s.2 else if f=149 then λs=>some s.1 else if f=199 then λs=>some (s.1+s.2)else if f=200 then dgF1 else dgF2 g.w)))
 |_=>(False,.tup [])
theorem Sv(G:GrV g):∀args H n,(Is g args H).1->Ab prog 147 args H n (Is g args H).2:=by
 intro args H n hh;unfold Is at hh⊢;split at hh
 ·obtain⟨rfl,⟨h|h|h|h,rfl⟩|⟨rfl,q,rfl,hq⟩⟩:=hh
  ·subst h;exact q_ln1 G H n
  ·subst h;exact q_ln2 G H n
  ·subst h;exact q_ln3 G H n
  ·subst h;exact q_ln4 G H n
  ·refine⟨l147,?_⟩;exact(AN.fresh l147 λhf=>q_ln5 G H n hq hf).2
 ·exact hh.elim
def Tdg(g:Zc):Tab:=tadd 147 (Is g) (tadd 45 (s2 dIs dIs (λ_ b=>wide b) λa b=>.bool (decide (a=b))) tnil)
theorem Tdg_ok(G:GrV g):AI prog (Tdg g):=(AI.tnil.add (q2 p45)).add (Sv G)
theorem Gd{S:List Spot}{fn:Spot->Option Int}(h:∀s∈S,∀z,fn s=some z->z=0):Bd S fn=if(Bv S fn 0).isEmpty then[]else[Bv S fn 0]:=by
 have he:∀z,z≠0->(Bv S fn z).isEmpty=true:=λz hz=>by
  rw[<-Yi];intro q;obtain⟨s,hs,e⟩:=L2.1 q;exact hz (h s hs z e)
 unfold Bd JN;rw[show List.range 49=List.range 16++(16::(List.range 32).map (· +17))from rfl];simp only[Vt,W6,Xh,X2];have z1:((List.range 16).map λk:Nat=>Bv S fn ((k:Int)-16)).filter (λl=>!l.isEmpty)=[]:=by grind [List.filter_eq_nil_iff]
 have z2:((List.range 32).map λk:Nat=>Bv S fn (((k+17:Nat):Int)-16)).filter (λl=>!l.isEmpty)=[]:=by grind [List.filter_eq_nil_iff]
 have z1':((List.range 16).map (Bv S fn∘λk:Nat=>(k:Int)-16)).filter (λl=>!l.isEmpty)=[]:=z1;have z2':((List.range 32).map (Bv S fn∘((λk:Nat=>(k:Int)-16)∘λx=>x+17))).filter (λl=>!l.isEmpty)=[]:=z2;rw[z1',Wi,X7,z2'];have e0:(((16:Nat):Int)-16)=0:=rfl;rw[e0];cases (Bv S fn 0).isEmpty<;>rfl
def dgP(g:Zc):List (List Int):=if g.sh=2 then Bd (AQ g.sh g.w g.cells) (λs=>some (s.1+s.2))else if g.w=g.h then Kj g.w (AQ g.sh g.w g.cells)else[]
structure IDgp(LB D:List (List Int))(H0:AC)(n0:Nat)(tl0:Zd)(E0:List Fs)(v:VRg):Prop where
 hi:v.i<=LB.length
 h0:v.i=0->v.E=E0/\v.tl=tl0/\v.H=H0/\v.n=n0
 h1:v.i=1->(v.tl.esz=1\/v.E=[])/\EL v.E D
theorem w01:IntKind.wrap .i64 (0+1)=1:=Ae zd zd
theorem L8(S:List Spot)(f:Spot->Option Int)(z:Int):(Bv S f z).length<=S.length:=Bq ..
theorem p150(g:Zc)(G:GrV g):Pur prog 150 [Bu g] (eLl (dgP g)):=by
 refine .mk ⟨Ar 0 ..,trivial⟩ (Am 0 _) (c150.a (AE (Tdg_ok G) (AF ?_)));unfold dgP;obtain⟨q9,v8,x0⟩:=Ax G.hG;by_cases h2:g.sh=2
 ·rw[Vv h2];simp only[eZ,seval,c150,AH,BA h2,Tdg,Is,tadd];exact Wk.refl _
 by_cases hw:g.w=g.h;case neg=>
  rw[V5 h2,V5 hw];simp only[eZ,seval,V6,c150,AH,Az h2,Az hw];exact Wk.sl (.inr rfl)
 rw[V5 h2,Vv hw];have hf2:AR (hset hnil 0 (.box (AH g.sh g.w g.h g.holes g.cells))) 2:=AR.nil.hset (V8 2) zd;simp only[eZ,seval,V3,c150,AH,Az h2,BA hw];refine(Ol G hf2 (λs H' m hs _=>(p200 s).quiet H' m) λs hs z hz=>by
  unfold dgF1 at hz;split at hz
  ·have:=Option.some.inj hz;omega
  ·cases hz).mono ?_
 rintro o H1 n1 ⟨tl,E,rfl,htl,d9,hEL,hk,e9,j9⟩;have h10:hget H1 0=some (.box (AH g.sh g.w g.h g.holes g.cells)):=hk 0 _ zd rfl;have hex:(∃q,[Fs.ptr 0 0]=[Fs.ptr q 0]/\hget H1 q=some (.box (AH g.sh g.w g.h g.holes g.cells)))=True:=V1 ⟨0,rfl,h10⟩;simp only[AH]at h10 hex;have hD:Kj g.w (AQ g.sh g.w g.cells)=(Bd (AQ g.sh g.w g.cells) dgF1)++(if(Bv (AQ g.sh g.w g.cells) (dgF2 g.w) 0).isEmpty||decide (Bv (AQ g.sh g.w g.cells) dgF1 0=Bv (AQ g.sh g.w g.cells) (dgF2 g.w) 0)then[]else[Bv (AQ g.sh g.w g.cells) (dgF2 g.w) 0]):=by
  rw[Gd (fn:=dgF1) λs _ z hz=>by
   unfold dgF1 at hz;split at hz
   ·exact(Option.some.inj hz).symm
   ·cases hz]
  rfl
 have hLB:=Gd (S:=AQ g.sh g.w g.cells) (fn:=dgF2 g.w) λs _ z hz=>by
  unfold dgF2 at hz;split at hz
  ·exact(Option.some.inj hz).symm
  ·cases hz
 have hLA:=Gd (S:=AQ g.sh g.w g.cells) (fn:=dgF1) λs _ z hz=>by
  unfold dgF1 at hz;split at hz
  ·exact(Option.some.inj hz).symm
  ·cases hz
 rw[hLA]at hEL hD;generalize Kj g.w (AQ g.sh g.w g.cells)=D at hD;simp only[eE,eN,seval,V0,retK,h10,Tdg,Is,hex,tadd];rw[hLB];have hBl:=L8 (AQ g.sh g.w g.cells) (dgF2 g.w) 0;have hAl:=L8 (AQ g.sh g.w g.cells) dgF1 0;rw[BI]at hBl hAl;generalize Bv (AQ g.sh g.w g.cells) dgF1 0=A at hEL hAl hD;generalize Bv (AQ g.sh g.w g.cells) (dgF2 g.w) 0=B at hBl hD;generalize hLAg:(if A.isEmpty=true then[]else[A])=LA at hEL hD;generalize hLBg:(if B.isEmpty=true then[]else[B])=LB;refine AO (λv:VRg=>⟨[(3,true,.sl v.tl v.E),(20,true,eLl LB),(21,true,.int .i64 LB.length),(22,true,.int .i64 v.i)],v.H,v.n⟩) (IDgp LB D H1 n1 tl E) (λv=>LB.length-v.i)
  ⟨0,E,tl,H1,n1⟩ rfl ⟨V8 _,λ_=>⟨rfl,rfl,rfl,rfl⟩,λh=>by cases h⟩ ?_
 rintro⟨i,E2,tl2,H2,n2⟩ ⟨hi,i0,i1⟩;simp only at hi i0 i1;cases hB:B.isEmpty with
 |true=>
  rw[hB]at hLBg hD;rw[Bool.true_or,Vv rfl,W9]at hD;rw[Vv rfl]at hLBg;subst hLBg;subst hD;obtain rfl:i=0:=by simpa using hi
  obtain⟨rfl,rfl,rfl,rfl⟩:=i0 rfl;simp only[eZ,seval,eY];exact Wk.slx d9 hEL.wks
 |false=>
 rw[hB]at hLBg hD;rw[Xx]at hD;rw[V5 zd]at hLBg;subst hLBg;have i8:i=0\/i=1:=by simp at hi;omega
 rcases i8 with rfl|rfl
 case inr=>
  obtain⟨k1,k2⟩:=i1 rfl;simp only[eZ,seval,c1];exact Wk.slx k1 k2.wks
 obtain⟨rfl,rfl,rfl,rfl⟩:=i0 rfl;have hwB:wide B:=by show B.length<_;omega
 have c1n:((1:Nat):Int)=1:=rfl;cases hA:A.isEmpty with
 |true=>
  rw[hA,Vv rfl]at hLAg;subst hLAg;have hE0:E2=[]:=Wv hEL.len;subst hE0;have hAB:decide (A=B)=false:=W2 λe=>by rw[e,hB]at hA;cases hA
  rw[hAB,V5 zd,Wi]at hD;subst hD;have q1:At H2 1 tl2=True:=V1 htl.app;simp only[eZ,seval,V3,eY,q1,fr1 e9,small,c1n,w01];exact .mk ⟨1,[eIs B],.own (n2+3) 1,_,n2+5⟩ rfl ⟨V4 _,λh=>(by cases h),λ_=>⟨.inl rfl,⟨_,rfl,.inl rfl⟩,trivial⟩⟩ (show 1-1<1-0 by decide)
 |false=>
  rw[hA,V5 zd]at hLAg;subst hLAg;obtain⟨x,hx⟩:∃x,E2=[x]:=by
   have:=hEL.len
   match E2,this with
   |[x],_=>exact⟨x,rfl⟩
  subst hx;obtain⟨⟨t,rfl,ht⟩,-⟩:=hEL;have htl1:tl2.esz=1:=d9.resolve_right zw;have ka:dIs.ok (.sl t (A.map eI))=True:=V1 ⟨ht.imp (λz=>z) λq=>by rw[q];rfl,by rw[Dk]⟩;have kd:dIs.dec (.sl t (A.map eI))=A:=Dk A;have q1:At H2 1 tl2=True:=V1 htl.app;by_cases hAB:A=B
  ·rw[Wo hAB,Vv rfl,W9]at hD;subst hD;simp only[eZ,seval,V3,eY,c1n,w01,htl1,Tdg,s2,ka,kd,Al,AZ,V1 hwB,BA hAB,V3,tadd];exact .mk ⟨1,[.sl t (A.map eI)],tl2,H2,n2⟩ rfl ⟨V4 _,λh=>(by cases h),λ_=>⟨.inl htl1,⟨t,rfl,ht⟩,trivial⟩⟩ (show 1-1<1-0 by decide)
  ·rw[W2 hAB,V5 zd]at hD;subst hD;simp only[eZ,seval,V6,eY,q1,fr1 e9,small,c1n,w01,htl1,Tdg,s2,ka,kd,Al,AZ,V1 hwB,Az hAB,V6,tadd];exact .mk ⟨1,[.sl t (A.map eI),eIs B],.own (n2+3) 1,_,n2+5⟩ rfl ⟨V4 _,λh=>(by cases h),λ_=>⟨.inl rfl,⟨t,rfl,ht⟩,⟨_,rfl,.inl rfl⟩,trivial⟩⟩ (show 1-1<1-0 by decide)
end
def Tfa(g:Zc):Tab:=tadd 86 (s1 dGd (λg=>few g.holes/\few g.cells) nbV) (tadd 147 (Is g) (tadd 150 (s1 dGd GrV λg=>eLl (dgP g)) tnil))
def Tfa_ok{g:Zc}(G:GrV g):AI prog (Tfa g):=((AI.tnil.add (q1 p150)).add (Sv G)).add (q1 λg h=>p86 g h.1 h.2)
structure IFy(N:Nat)(L:Nat->List (List Int))(v:VRg):Prop where
 hi:v.i<=N
 hn:2<=v.n
 fr:AR v.H v.n
 tok:tkG 1 2 v.H v.tl
 es:v.tl.esz=1\/v.E=[]
 hE:EL v.E (L v.i)
structure IFz(N:Nat)(v:VRg):Prop where
 hi:v.i<=N
 hn:2<=v.n
 fr:AR v.H v.n
 tok:tkG 1 2 v.H v.tl
 es:v.tl.esz=1\/allL v.i=[]
 hE:v.E=(allL v.i).map eI
def Om(sh:Int){S:List Spot}(hd:S.Nodup){c:Nat}{s:Spot}(hs:S[c]?=some s):(nbS sh S s++[(c:Int)]).mergeSort leI=idxP S.length λb=>decide (b=c)||((D9 sh).any λd=>decide (S[b]?=(S[c]?).map λs=>addP s d)):=by
 have hself:(c:Int)∉nbS sh S s:=by simp_all [St,JM,RF]
 have hcl:=(WN.1 hs).1;refine Hd ?_ (Hc ..) λx=>?_
 ·rw[Xo];refine⟨(Hc ..).imp λq=>zo,zw,λa ha b hb e=>?_⟩;rw[WV.1 hb]at e;exact hself (e▸ha)
 ·rw[WH,WV,hs];unfold nbS;rw[Fo,Fo];simp only[Wt,Wd,Vu];constructor
  ·grind
  ·grind
def T6{H H':AC}{n0 n' m:Nat}{x:List Int}{y:Int}{lv:Fs}{K:AC->Fs->Prop}(h:ClnP H n0 x (.ret lv) H' n')(hx:x.length<1000000)(hm:hget H' m=none)
  (hK:∀id (rest:List Int),(id=m\/id=n0+2/\n'=n0+4)->K (hset H' id (.arr 1 (((x++[y])++rest).map eI))) (.ref id 1 0 (x++[y]).length ((x++[y]).length+rest.length))):KQ H' m 1 8 (.int .i64 0) K lv (some [eI y]):=by
 rcases h with⟨rfl,rfl,hn,t,ho,ht⟩|⟨hne,rfl,rest,ho,rfl⟩
 ·obtain rfl:=Zb.ret.inj ho;rw[CZ];refine⟨hm,zd,rfl,ht,by simp [small],zw,(λe=>by cases e),λ_ cap hcap=>?_⟩;have:=hK m (List.replicate (cap-1) 0) (.inl rfl);simp only[Wi,W6,Vz,Wq,Wj,Ww,XO]at this hcap⊢;rw[show 0+1+(cap-1)=cap by omega]at this;exact this
 ·obtain rfl:=Zb.ret.inj ho;have hg:hget (hset H (n0+2) (.arr 1 ((x++rest).map eI))) (n0+2)=some (.arr 1 ((x++rest).map eI)):=AB ..;generalize hset H (n0+2) (.arr 1 ((x++rest).map eI))=G at hg hm hK;rw[HB hg];have el:(x++[y]).length=x.length+1:=zw
  refine⟨hm,zd,rfl,rfl,rfl,AP (by simp only[Vz,Wq];omega) zd,by simp only[Vz,Wq];omega,rfl,zw,zo,λhr=>?_,λhr cap' hc=>?_⟩
  ·have:=hK (n0+2) (rest.drop 1) (.inr ⟨rfl,rfl⟩);simp only[Vz,Wq]at hr⊢;have e1:List.take x.length ((x++rest).map eI)=x.map eI:=by rw[Vt,WK zw,We zw]
   have e2:List.drop (x.length+(0+1)) ((x++rest).map eI)=(rest.drop 1).map eI:=by rw[Vt,Yb,Yh zw];simp
   rw[e1,e2];rw[el,Vt,Vt,Wl,show x.length+1+(rest.length-1)=x.length+rest.length by omega]at this;exact this
  ·have:=hK m (List.replicate (cap'-(x.length+1)) 0) (.inl rfl);simp only[Vz,Wq]at hr hc⊢;have e1:List.take x.length ((x++rest).map eI)=x.map eI:=by rw[Vt,WK zw,We zw]
   rw[e1];rw[el,Vt,Vt,XO,Wj,show x.length+1+(cap'-(x.length+1))=cap' by omega]at this;exact this
def prY(x:List Int)(c j:Nat):List (List Int):=((x.take j).filter λb=>decide ((c:Int)<b)).map λb=>[(c:Int),b]
def RP(x:List Int)(c:Nat){j:Nat}{b:Int}(h:x[j]?=some b):prY x c (j+1)=prY x c j++if(c:Int)<b then[[(c:Int),b]]else[]:=by
 unfold prY;rw[Vx,h,Xh,Vt];congr 1;by_cases q:(c:Int)<b<;>simp [q]
def On(x:List Int)(c j:Nat):(prY x c j).length<=j:=by
 unfold prY;rw[V0];refine WD (X0 ..) ?_;rw[W0];omega
theorem c3n:((3:Nat):Int)=3:=rfl
theorem c4n:((4:Nat):Int)=4:=rfl
theorem c5n:((5:Nat):Int)=5:=rfl
theorem c6n:((6:Nat):Int)=6:=rfl
theorem c7n:((7:Nat):Int)=7:=rfl
def p87(g:Zc)(f:Nat)(G:GrV g)(hf:f<=7):Pur prog 87 [Bu g,.int .i64 (f:Int)] (.tup [eLl (famS g.sh g.w g.h (AQ g.sh g.w g.cells) f),.int .i64 0]):=by
 refine .mk ⟨Ar 0 ..,trivial,trivial⟩ ⟨Am 0 _,trivial,trivial⟩ (c87.a (AE (Tfa_ok G) (AF ?_)));have f1:dGd.ok (.agg (AH g.sh g.w g.h g.holes g.cells))=True:=DI g;have f2:dGd.dec (.agg (AH g.sh g.w g.h g.holes g.cells))=g:=B6 g;simp only[AH]at f1 f2;obtain⟨q9,v8,x0⟩:=Ax G.hG;have hc:few g.cells:=by show g.cells.length<_;omega
 have hnv:=Tu G;have hslen:=BI g;obtain⟨hs1,hs2⟩:=Fj G.hG;have hd:(AQ g.sh g.w g.cells).Nodup:=He zo q9 λp hp=>(x0 p hp).1
 have hfrN:AR (hset hnil 0 (.box (AH g.sh g.w g.h g.holes g.cells))) 3:=AR.nil.hset (V8 3) zd;simp only[AH]at hfrN;rcases(by omega:f=0\/f=1\/f=2\/f=3\/f=4\/f=5\/f=6\/f=7)with rfl|rfl|rfl|rfl|rfl|rfl|rfl|rfl
 ·
  simp only[eZ,seval,V3,eY,c87,AH,Tfa,s1,f1,f2,V1 G.2,V1 hc,hnv,tadd];have hfam:famS g.sh g.w g.h (AQ g.sh g.w g.cells) 0=(List.range g.cells.length).map λ(c:Nat)=>[(c:Int)]:=by
   unfold famS;rw[Vv rfl,ND,hslen,X2];rfl
  rw[hfam];refine AO (λv:VRg=>⟨[(4,true,.sl v.tl v.E),(30,true,.int .i64 g.cells.length),(31,true,.int .i64 v.i)],v.H,v.n⟩) (IFy g.cells.length λi=>(List.range i).map λ(c:Nat)=>[(c:Int)]) (λv=>g.cells.length-v.i)
   ⟨0,[],.nil,_,3⟩ rfl ⟨V8 _,(show 2<=3 by decide),hfrN,.inl rfl,.inr rfl,trivial⟩ ?_
  rintro⟨i,E,tl,H,n⟩ ⟨hi,hn,d5,htl,d9,hEL⟩;simp only at hi hn d5 htl d9 hEL;by_cases c6:i<g.cells.length
  ·have e:=AG (k:=i) zo;have hEl:E.length=i:=by rw[hEL.len,V0,Xd]
   have q1:At H 1 tl=True:=V1 htl.app;have q2:(E.length<=35184372088831)=True:=V1 zo;have q3:small (E.length+1) 24=True:=V1 (AP zo zd);simp only[eZ,seval,lt_T c6,e,q1,q2,q3,fr1 d5];refine .mk ⟨i+1,E++[.sl (.exact 1) [.int .i64 i]],.own (n+4) 1,hset (AL H tl) (n+4) .tok,n+6⟩ rfl ⟨c6,zp,(AT htl d5).hset (m:=n+6) zo zo,.inr (.inr ⟨n+4,rfl,zo,AB ..⟩),.inl rfl,?_⟩ zp;simp only[WT,Vt,W6,Wh];exact hEL.app ⟨⟨.exact 1,rfl,.inl rfl⟩,trivial⟩
  obtain rfl:i=g.cells.length:=zo
  simp only[eZ,seval,lt_F c6];exact Wk.tup (.cons (Wk.slx d9 hEL.wks) (.cons (Wk.refl _) .nil))
 ·simp only[eZ,seval,V3,eY,c87,AH,Tfa,Is,s1,f1,f2,V1 G.2,V1 hc,hnv,tadd];exact Wk.refl _
 ·simp only[eZ,seval,V3,eY,c87,AH,Tfa,Is,s1,f1,f2,V1 G.2,V1 hc,hnv,c2n,tadd];exact Wk.refl _
 ·simp only[eZ,seval,V3,eY,c87,AH,Tfa,s1,f1,f2,V1 G.2,V1 hc,hnv,c3n,V1 G,tadd];exact Wk.refl _
 ·simp only[eZ,seval,V3,eY,c87,AH,Tfa,s1,f1,f2,V1 G.2,V1 hc,hnv,c4n,tadd];exact Wk.refl _
 ·
  have hfam:famS g.sh g.w g.h (AQ g.sh g.w g.cells) 5=(List.range g.cells.length).map λ(c:Nat)=>(nbS g.sh (AQ g.sh g.w g.cells) (spC g c)++[(c:Int)]).mergeSort leI:=by
   unfold famS;rw[V5 zd,V5 zd,V5 zd,V5 zd,V5 zd,Vv rfl,hslen];refine Wz λc x9=>?_
   rw[Om g.sh hd (C5 (Wy.1 x9)),hslen]
  rw[hfam];simp only[eZ,seval,V3,eY,c87,AH,Tfa,s1,f1,f2,V1 G.2,V1 hc,hnv,c5n,tadd];have hnl:(nbsS g.sh (AQ g.sh g.w g.cells)).length=g.cells.length:=by rw[nbsS,V0,hslen]
  have hna:∀i,i<g.cells.length->(nbsS g.sh (AQ g.sh g.w g.cells))[i]?=some (nbS g.sh (AQ g.sh g.w g.cells) (spC g i)):=λi hi=>by rw[nbsS,W3,C5 hi];rfl
  have hnx:∀s,(nbS g.sh (AQ g.sh g.w g.cells) s).length<=g.cells.length:=λs=>by rw[<-hslen];exact Bq ..
  generalize AQ g.sh g.w g.cells=S at hnl hna hnx;generalize hNB:nbsS g.sh S=NB at hnl hna;refine AO (λv:VRg=>⟨[(4,true,.sl v.tl v.E),(57,true,eLl NB),(58,true,.int .i64 NB.length),(59,true,.int .i64 v.i)],v.H,v.n⟩) (IFy NB.length λi=>(List.range i).map λ(c:Nat)=>(nbS g.sh S (spC g c)++[(c:Int)]).mergeSort leI) (λv=>NB.length-v.i)
   ⟨0,[],.nil,_,3⟩ rfl ⟨V8 _,(show 2<=3 by decide),hfrN,.inl rfl,.inr rfl,trivial⟩ ?_
  rintro⟨i,E,tl,H,n⟩ ⟨hi,hn,d5,htl,d9,hEL⟩;simp only at hi hn d5 htl d9 hEL;by_cases c6:i<NB.length;case neg=>
   obtain rfl:i=NB.length:=zo
   simp only[eZ,seval,lt_F c6];rw[hnl]at hEL;exact Wk.tup (.cons (Wk.slx d9 hEL.wks) (.cons (Wk.refl _) .nil))
  have e:=AG (k:=i) zo;have hg:=hna i zo;have hxl:=hnx (spC g i);have hEl:E.length=i:=by rw[hEL.len,V0,Xd]
  generalize hx:nbS g.sh S (spC g i)=x at hg hxl;simp only[eZ,seval,eY,lt_T c6,hg];refine(t_clnI (.inl ⟨_,rfl,.inl rfl⟩) (show x.length<_ by omega)).mono ?_;intro o H1 n1 hcl;have hlv:∃lv,o= .ret lv:=by
   rcases hcl with⟨-,-,-,t,ho,-⟩|⟨-,-,rest,ho,-⟩<;>exact⟨_,ho⟩
  obtain⟨lv,rfl⟩:=hlv;have j9:n+6<=n1/\n1<=n+10:=by rcases hcl with⟨-,-,h,-⟩|⟨-,h,-⟩<;>omega
  have e9:AR H1 n1:=by
   rcases hcl with⟨-,rfl,-⟩|⟨-,rfl,rest,-,rfl⟩
   ·exact λj hj=>d5 j zo
   ·exact d5.hset zo zo
  have hk1:∀j,j<n+6->hget H1 j=hget H j:=λj hj=>by
   rcases hcl with⟨-,rfl,-⟩|⟨-,rfl,rest,-,rfl⟩
   ·rfl
   ·rw[AA _ _ _ _ zo]
  have hm4:hget H1 (n+4)=none:=by rw[hk1 _ zo];exact d5 _ zo
  simp only[eE,seval,retK];refine T6 hcl zo hm4 λid rest d7=>?_
  have hidn:n<=id/\id<n1:=zo
  simp only[eE,eN,seval,DF];refine(M6 (AB ..) zw (by simp;omega)).mono ?_;rintro o H2 n2 ⟨rfl,rfl,rfl⟩;rw[Yl,List.drop_left,AD];have hsl:((x++[(i:Int)]).mergeSort leI).length=(x++[(i:Int)]).length:=DJ _;have m5:List.take (x++[(i:Int)]).length (((x++[(i:Int)]).mergeSort leI++rest).map eI)=((x++[(i:Int)]).mergeSort leI).map eI:=by rw[Vt,List.take_left' (by rw[V0,hsl])]
  have hle:((x++[(i:Int)]).length<=(((x++[(i:Int)]).mergeSort leI++rest)).length)=True:=V1 (by have:=hsl;simp only[V9]at this⊢;omega);have hle2:((x++[(i:Int)]).length<=(x++[(i:Int)]).length+rest.length)=True:=V1 zo;have gt:tkG 1 2 (hset H1 id (.frz 1 (((x++[(i:Int)]).mergeSort leI++rest).map eI))) tl:=by
   rcases htl with h|h|⟨z,h1,h2,h3⟩
   ·exact .inl h
   ·exact .inr (.inl h)
   ·have:=d5.lt h3;exact .inr (.inr ⟨z,h1,h2,by rw[AA _ _ _ _ zo,hk1 z zo];exact h3⟩)
  have gf:AR (hset H1 id (.frz 1 (((x++[(i:Int)]).mergeSort leI++rest).map eI))) n2:=e9.hset (V4 _) zo;have q1:=V1 gt.app;have q2:(E.length<=35184372088831)=True:=V1 zo;have q3:small (E.length+1) 24=True:=V1 (AP zo zd);have hm3:=fr1 gf 3;simp only[eE,eN,seval,V0,retK,frzE,hle,hle2,m5,AD,q1,q2,q3,hm3,e];generalize hset H1 id (.frz 1 (((x++[(i:Int)]).mergeSort leI++rest).map eI))=H5 at gt gf;refine .mk ⟨i+1,E++[.sl (if rest.length=0 then .exact 1 else .none 1) (((x++[(i:Int)]).mergeSort leI).map eI)],.own (n2+3) 1,hset (AL H5 tl) (n2+3) .tok,n2+5⟩ rfl ⟨c6,zp,(AT gt gf).hset (m:=n2+5) zo zo,.inr (.inr ⟨n2+3,rfl,zo,AB ..⟩),.inl rfl,?_⟩ zp
  ·simp only[WT,Vt,W6,Wh];rw[hx];exact hEL.app ⟨⟨_,rfl,.inl (by split<;>rfl)⟩,trivial⟩
 ·
  have hnl:(nbsS g.sh (AQ g.sh g.w g.cells)).length=g.cells.length:=by rw[nbsS,V0,hslen]
  have hna:∀i,i<g.cells.length->(nbsS g.sh (AQ g.sh g.w g.cells))[i]?=some (nbS g.sh (AQ g.sh g.w g.cells) (spC g i)):=λi hi=>by rw[nbsS,W3,C5 hi];rfl
  have hnx:∀s,(nbS g.sh (AQ g.sh g.w g.cells) s).length<=g.cells.length:=λs=>by rw[<-hslen];exact Bq ..
  have hfam:famS g.sh g.w g.h (AQ g.sh g.w g.cells) 6=(List.range g.cells.length).flatMap λ(c:Nat)=>prY (nbS g.sh (AQ g.sh g.w g.cells) (spC g c)) c (nbS g.sh (AQ g.sh g.w g.cells) (spC g c)).length:=by
   unfold famS;rw[V5 zd,V5 zd,V5 zd,V5 zd,V5 zd,V5 zd,Vv rfl,hslen];rw[List.flatMap_def,List.flatMap_def];congr 1;refine Wz λc x9=>?_
   rw[hna c (Wy.1 x9),W7];unfold prY;rw[Vw]
  rw[hfam];simp only[eZ,seval,V3,eY,c87,AH,Tfa,s1,f1,f2,V1 G.2,V1 hc,hnv,c6n,tadd];generalize AQ g.sh g.w g.cells=S at hnl hna hnx;generalize hNB:nbsS g.sh S=NB at hnl hna;have hLl:∀i,((List.range i).flatMap λ(c:Nat)=>prY (nbS g.sh S (spC g c)) c (nbS g.sh S (spC g c)).length).length<=256*i:=λi=>by
   induction i with
   |zero=>simp
   |succ i ih=>
    rw[WT,XK,V9];simp only[List.flatMap_cons,List.flatMap_nil,W9];have:=On (nbS g.sh S (spC g i)) i (nbS g.sh S (spC g i)).length;have:=hnx (spC g i);omega
  refine AO (λv:VRg=>⟨[(4,true,.sl v.tl v.E),(78,true,eLl NB),(79,true,.int .i64 NB.length),(80,true,.int .i64 v.i)],v.H,v.n⟩) (IFy NB.length λi=>(List.range i).flatMap λ(c:Nat)=>prY (nbS g.sh S (spC g c)) c (nbS g.sh S (spC g c)).length) (λv=>NB.length-v.i)
   ⟨0,[],.nil,_,3⟩ rfl ⟨V8 _,(show 2<=3 by decide),hfrN,.inl rfl,.inr rfl,trivial⟩ ?_
  rintro⟨i,E,tl,H,n⟩ ⟨hi,hn,d5,htl,d9,hEL⟩;simp only at hi hn d5 htl d9 hEL;by_cases c6:i<NB.length;case neg=>
   obtain rfl:i=NB.length:=zo
   simp only[eZ,seval,lt_F c6];rw[hnl]at hEL;exact Wk.tup (.cons (Wk.slx d9 hEL.wks) (.cons (Wk.refl _) .nil))
  have e:=AG (k:=i) zo;have hg:=hna i zo;have hxl:=hnx (spC g i);have hLi:=hLl i;have hstep:∀z,((List.range (i+1)).flatMap λ(c:Nat)=>prY (nbS g.sh S (spC g c)) c (nbS g.sh S (spC g c)).length)=z->((List.range i).flatMap λ(c:Nat)=>prY (nbS g.sh S (spC g c)) c (nbS g.sh S (spC g c)).length)++prY (nbS g.sh S (spC g i)) i (nbS g.sh S (spC g i)).length=z:=λz hz=>by
   rw[<-hz,WT,XK];simp only[List.flatMap_cons,List.flatMap_nil,W9]
  have hstep:=hstep _ rfl;generalize ((List.range i).flatMap λ(c:Nat)=>prY (nbS g.sh S (spC g c)) c (nbS g.sh S (spC g c)).length)=L at hEL hLi hstep;generalize hx:nbS g.sh S (spC g i)=x at hg hxl hstep;simp only[eZ,seval,eY,lt_T c6,hg];refine AO (λv:VRg=>⟨[(4,true,.sl v.tl v.E),(11,true,.int .i64 i),(78,true,eLl NB),(79,true,.int .i64 NB.length),(80,true,.int .i64 i),(85,true,eIs x),(86,true,.int .i64 x.length),(87,true,.int .i64 v.i)],v.H,v.n⟩) (IFy x.length λj=>L++prY x i j) (λv=>x.length-v.i)
   ⟨0,E,tl,H,n⟩ rfl ⟨V8 _,hn,d5,htl,d9,by rw[show prY x i 0=[]from rfl,W9];exact hEL⟩ ?_
  rintro⟨j,E2,tl2,H2,n2⟩ ⟨hj,hn2,hfr2,htl2,v9,hEL2⟩;simp only at hj hn2 hfr2 htl2 v9 hEL2;by_cases i4:j<x.length;case neg=>
   obtain rfl:j=x.length:=zo
   simp only[eZ,seval,lt_F i4,e];rw[hstep]at hEL2;exact .mk ⟨i+1,E2,tl2,H2,n2⟩ rfl ⟨c6,hn2,hfr2,htl2,v9,hEL2⟩ zp
  have ej:=AG (k:=j) zo;have s6:=V2 i4;have hsu:=RP x i s6;generalize x[j]=b at s6 hsu;by_cases hb:(i:Int)<b
  ·rw[Vv hb]at hsu;have r9:=On x i j;have hEl:E2.length<=70000:=by rw[hEL2.len,V9];omega
   have q1:At H2 1 tl2=True:=V1 htl2.app;have q2:(E2.length<=35184372088831)=True:=V1 zo;have q3:small (E2.length+1) 24=True:=V1 (AP zo zd);simp only[eZ,seval,eY,lt_T i4,s6,BA hb,ej,q1,q2,q3,fr1 hfr2];refine .mk ⟨j+1,E2++[.sl (.exact 1) [.int .i64 i,.int .i64 b]],.own (n2+5) 1,hset (AL H2 tl2) (n2+5) .tok,n2+7⟩ rfl ⟨i4,zp,(AT htl2 hfr2).hset (m:=n2+7) zo zo,.inr (.inr ⟨n2+5,rfl,zo,AB ..⟩),.inl rfl,?_⟩ zp;simp only[hsu];rw[<-Wb];exact hEL2.app ⟨⟨.exact 1,rfl,.inl rfl⟩,trivial⟩
  ·rw[V5 hb,W9]at hsu;simp only[eZ,seval,eY,lt_T i4,s6,Az hb,ej];exact .mk ⟨j+1,E2,tl2,H2,n2⟩ rfl ⟨i4,hn2,hfr2,htl2,v9,by simp only[hsu];exact hEL2⟩ zp
 ·
  have hfam:famS g.sh g.w g.h (AQ g.sh g.w g.cells) 7=[allL g.cells.length]:=by
   unfold famS;rw[V5 zd,V5 zd,V5 zd,V5 zd,V5 zd,V5 zd,V5 zd,hslen];rfl
  rw[hfam];simp only[eZ,seval,V3,eY,c87,AH,Tfa,s1,f1,f2,V1 G.2,V1 hc,hnv,c7n,tadd];refine AO (λv:VRg=>⟨[(15,true,.sl v.tl v.E),(106,true,.int .i64 g.cells.length),(107,true,.int .i64 v.i)],v.H,v.n⟩) (IFz g.cells.length) (λv=>g.cells.length-v.i)
   ⟨0,[],.nil,_,3⟩ rfl ⟨V8 _,(show 2<=3 by decide),hfrN,.inl rfl,.inr rfl,rfl⟩ ?_
  rintro⟨i,E,tl,H,n⟩ ⟨hi,hn,d5,htl,d9,hEL⟩;simp only at hi hn d5 htl d9 hEL;subst hEL;have hEl:(allL i).length<=i:=Bq ..;by_cases c6:i<g.cells.length
  ·have e:=AG (k:=i) zo;have q1:At H 1 tl=True:=V1 htl.app;have q2:((allL i).length<=35184372088831)=True:=V1 zo;have q3:small ((allL i).length+1) 8=True:=V1 (AP zo zd);simp only[eZ,seval,V0,lt_T c6,e,q1,q2,q3,fr1 d5];refine .mk ⟨i+1,(allL i).map eI++[.int .i64 i],.own (n+3) 1,hset (AL H tl) (n+3) .tok,n+5⟩ rfl ⟨c6,zp,(AT htl d5).hset (m:=n+5) zo zo,.inr (.inr ⟨n+3,rfl,zo,AB ..⟩),.inl rfl,?_⟩ zp;simp only[JS,Vt,W6,Wh]
  obtain rfl:i=g.cells.length:=zo
  simp only[eZ,seval,lt_F c6];exact Wk.tup (.cons (Wk.slx (m:=[eIs (allL g.cells.length)]) (.inl rfl) (.cons (Wk.sl (d9.imp (λz=>z) λq=>by rw[q];rfl)) .nil)) (.cons (Wk.refl _) .nil))
abbrev cDz(d:Z8):List Fs:=[.str d.nm,.int .i64 d.ver,.int .i64 d.sh,.int .i64 d.w,.int .i64 d.h,eIs d.holes,eSys d.syms,eRgs d.regs,eCls d.clus,eRus d.ruls,z0,z0,z0,zs,zs,zs,zs]
def Tbs:Tab:=tadd 19 (s1 dD Z4 Bh) (tadd 20 (s1 dD Z4 λd=>.int .i64 (chkD d)) (tadd 69 sMk (tadd 86 (s1 dGd (λg=>few g.holes/\few g.cells) nbV) tnil)))
def gMk:∀args H n,(sMk args H).1->Ab prog 69 args H n (sMk args H).2:=by
 intro args H n hh;unfold sMk at hh⊢;split at hh
 ·obtain⟨h1,h2⟩:=hh;refine AN.args ((p69 _ _ _ _ h2).quiet H n) ?_;rintro g vs ⟨v,r,rfl,k1,v2,r2,rfl,k2,v3,r3,rfl,k3,v4,r4,rfl,k4,k5⟩;exact⟨v,_,rfl,k1,v2,_,rfl,k2,v3,_,rfl,k3,v4,_,rfl,dIs.wk _ h1 _ _ k4,k5⟩
 ·exact hh.elim
def Oo:AI prog Tbs:=(((AI.tnil.add (q1 λg h=>p86 g h.1 h.2)).add gMk).add (q1 p20)).add (q1 p19)
theorem Tbs_m(sh w h:Int)(x:Fs)(H:AC):Tbs 69 [.int .i64 sh,.int .i64 w,.int .i64 h,x] H=(dIs.ok x/\few (dIs.dec x),BL sh w h (dIs.dec x)):=rfl
theorem Tbs_n(a:List Fs)(H:AC):Tbs 86 a H=s1 dGd (λg=>few g.holes/\few g.cells) nbV a H:=rfl
section
variable {H:AC} {n p:Nat} {d:Z8}
theorem Kr(hd:Z4 d)(hp:hget H p=some (.box (cDz d))):AN prog 26 [.ptr p 0] H n λo H' n'=>n'=n/\match resD d with
  | .error e=>o= .ret (.int .i64 e)/\H'=hset H p (.box (cDz dcl0))
  | .ok x=>o= .ret (.int .i64 0)/\H'=hset H p (.box (cDz x)):=by
 refine c26.a (AE Oo (AF ?_));have e1:dD.ok (.agg (AK d))=True:=A0 d;have e2:dD.dec (.agg (AK d))=d:=Aj d;simp only[AK]at e1 e2;cases hr:resD d with
 |error e=>
  have hv:Bh d= .tup [encD dcl0,.int .i64 e]:=by unfold Bh;rw[hr]
  simp only[eE,eN,seval,eY,c26,hp,Tbs,s1,e1,e2,V1 hd,hv,tadd]
 |ok x=>
  have hv:Bh d= .tup [encD x,.int .i64 0]:=by unfold Bh;rw[hr]
  simp only[eE,eN,seval,eY,c26,hp,Tbs,s1,e1,e2,V1 hd,hv,tadd]
theorem Oq(hd:Z4 d)(hp:hget H p=some (.box (cDz d))):AN prog 27 [.ptr p 0] H n λo H' n'=>o= .ret (.int .i64 (chkD d))/\H'=H/\n'=n:=by
 refine c27.a (AE Oo (AF ?_));have e1:dD.ok (.agg (AK d))=True:=A0 d;have e2:dD.dec (.agg (AK d))=d:=Aj d;simp only[AK]at e1 e2;simp only[eE,eN,seval,c27,hp,Tbs,s1,e1,e2,V1 hd,tadd]
theorem RQ{cells:List Int}(hd:Z4 d)(hg:Ak d.sh d.w d.h d.holes=some cells)(hp:hget H p=some (.box (cDz d))):AN prog 28 [.ptr p 0] H n λo H' n'=>o= .ret (.int .i64 0)/\H'=hset H p (.box (cKb d cells zs))/\n'=n:=by
 refine c28.a (AE Oo (AF ?_));have hm:BL d.sh d.w d.h d.holes= .tup [encG d.sh d.w d.h d.holes cells,.int .i64 0]:=by unfold BL;rw[hg]
 have G:GrV (Av d cells):=⟨hg,hd.ho⟩;have g1:dGd.ok (.agg [.int .i64 d.sh,.int .i64 d.w,.int .i64 d.h,eIs d.holes,eIs cells])=True:=DI (Av d cells);have g2:dGd.dec (.agg [.int .i64 d.sh,.int .i64 d.w,.int .i64 d.h,eIs d.holes,eIs cells])=Av d cells:=B6 (Av d cells);have hho:few (Av d cells).holes=True:=V1 hd.ho;have hce:few (Av d cells).cells=True:=V1 (by
  obtain⟨-,h2,-⟩:=Ax hg;show cells.length<_;omega)
 have hnb:nbV (Av d cells)= .tup [eLl (nbsS d.sh (AQ d.sh d.w cells)),.int .i64 0]:=Tu G;simp only[eZ,seval,eY,c28,hp,Tbs_m,Tbs_n,s1,g1,g2,Al,AZ,V1 hd.ho,hho,hce,hm,hnb,AD]
end
def Tbc:Tab:=tadd 87 (s2 dGd dI (λg f=>GrV g/\0<=f/\f<=7) λg f=>.tup [eLl (famS g.sh g.w g.h (AQ g.sh g.w g.cells) f.toNat),.int .i64 0])
 (tadd 88 (s2 dGd dLl (λg l=>Ak g.sh g.w g.h g.holes=some g.cells/\few g.holes/\Bm l) λg l=>rgsV g.cells l) tnil)
def Tbc_ok:AI prog Tbc:=(AI.tnil.add (q2 λg l h=>p88 g l h.1 h.2.1 h.2.2)).add (q2 λg f h=>by
 have:=p87 g f.toNat h.1 zo;rw[WR h.2.1]at this;exact this)
structure IBk(x:Z8)(cells:List Int)(p n0:Nat)(H0:AC)(m:Nat)(L:Nat->List (List (List Int)))(v:VRg):Prop where
 hi:v.i<=m
 hn:n0<=v.n
 fr:AR v.H v.n
 kp:∀id ob,id≠p->id<n0->hget H0 id=some ob->hget v.H id=some ob
 hp:hget v.H p=some (.box (cKb x cells (.sl v.tl v.E)))
 tok:tkG 1 n0 v.H v.tl
 es:v.tl.esz=1\/v.E=[]
 hE:Wks v.E ((L v.i).map eLl)
def Kt{x:Z8}{cells:List Int}{H:AC}{n p:Nat}(hfx:Z4 x)(hc:chkD x=0)(hg:Ak x.sh x.w x.h x.holes=some cells)(hf:AR H n)(hp:hget H p=some (.box (cKb x cells zs))):
  AN prog 29 [.ptr p 0] H n λo H' n'=>o= .ret (.int .i64 0)/\AR H' n'/\n<=n'/\(∀id ob,id≠p->id<n->hget H id=some ob->hget H' id=some ob)/\
   ∃tl E,hget H' p=some (.box (cKb x cells (.sl tl E)))/\(tl.esz=1\/E=[])/\Wks E ((((List.range 8).map λf=>famS x.sh x.w x.h (AQ x.sh x.w cells) f)++x.regs.map λr=>r.ls.map (BO cells)).map eLl):=by
 have hpn:=hf.lt hp;refine c29.a (AE Tbc_ok (AF ?_));have G:GrV (Av x cells):=⟨hg,hfx.ho⟩;have g1:dGd.ok (.agg [.int .i64 x.sh,.int .i64 x.w,.int .i64 x.h,eIs x.holes,eIs cells])=True:=DI (Av x cells);have g2:dGd.dec (.agg [.int .i64 x.sh,.int .i64 x.w,.int .i64 x.h,eIs x.holes,eIs cells])=Av x cells:=B6 (Av x cells);have hho:few (Av x cells).holes=True:=V1 hfx.ho;simp only[eE,eN,seval,c29];refine AO (λv:VRg=>⟨[(0,true,.ptr p 0),(10,true,.int .i64 v.i)],v.H,v.n⟩) (IBk x cells p n H 8 λi=>(List.range i).map λf=>famS x.sh x.w x.h (AQ x.sh x.w cells) f) (λv=>8-v.i)
  ⟨0,[],.nil,H,n⟩ rfl ⟨V8 _,V4 _,hf,λid ob _ _ h=>h,hp,.inl rfl,.inr rfl,.nil⟩ ?_
 rintro⟨i,E,tl,H1,m⟩ hI;obtain⟨hi,hn,d5,hkp,hp1,htl,d9,hE⟩:=hI;simp only at hi hn d5 hkp hp1 htl d9 hE;by_cases c6:i<8
 ·have e:=AG (k:=i) zo;have hq:((i:Int)<8)=True:=V1 zo;have hq7:((i:Int)<=7)=True:=V1 zo;have hEl:E.length=i:=by
   have:=hE.len;rw[V0,V0,Xd]at this;exact this
  have hfm:(Av x cells).sh=x.sh/\(Av x cells).w=x.w/\(Av x cells).h=x.h/\(Av x cells).cells=cells:=⟨rfl,rfl,rfl,rfl⟩;have q1:At H1 1 tl=True:=V1 htl.app;have q2:(E.length<=35184372088831)=True:=V1 zo;have q3:small (E.length+1) 24=True:=V1 (AP zo zd);have hkP:=AX htl (i:=p) (.inr ⟨_,hp1⟩);rw[hp1]at hkP;have y1:∀k,(p=m+k)=False:=λk=>Vs zo
  have y2:∀k,(m+k=p)=False:=λk=>Vs zo
  simp only[eZ,seval,V3,eY,hp1,hq,hq7,Tbc,s2,g1,g2,BH,As,V1 G,hfm.1,hfm.2.1,hfm.2.2.1,hfm.2.2.2,e,q1,q2,q3,fr1 d5,hkP,y2,tadd];refine .mk ⟨i+1,E++[eLl (famS x.sh x.w x.h (AQ x.sh x.w cells) i)],.own (m+8) 1,hset (hset (AL H1 tl) (m+8) .tok) p (.box (cKb x cells (.sl (.own (m+8) 1) (E++[eLl (famS x.sh x.w x.h (AQ x.sh x.w cells) i)])))),m+13⟩ rfl ⟨c6,zp,((AT htl d5).hset (m:=m+13) zo zo).hset (V4 _) (show p<m+13 by omega),λid ob h1 h2 h3=>?_,AB ..,.inr (.inr ⟨m+8,rfl,zo,?_⟩),.inl rfl,?_⟩ zp
  ·grind [AA,AX]
  ·simp only[];rw[AA _ _ _ _ zo,AB]
  ·simp only[WT,Vt,W6,Wh]at hE⊢;exact hE.app (.cons (Wk.refl _) .nil)
 obtain rfl:i=8:=zo
 have hq:(((8:Nat):Int)<8)=False:=Vs zd;simp only[eZ,seval,V0,hq,hp1];refine AO (λv:VRg=>⟨[(0,true,.ptr p 0),(44,true,eRgs x.regs),(45,true,.int .i64 x.regs.length),(46,true,.int .i64 v.i)],v.H,v.n⟩) (IBk x cells p n H x.regs.length λi=>((List.range 8).map λf=>famS x.sh x.w x.h (AQ x.sh x.w cells) f)++(x.regs.take i).map λr=>r.ls.map (BO cells)) (λv=>x.regs.length-v.i)
  ⟨0,E,tl,H1,m⟩ rfl ⟨V8 _,hn,d5,hkp,hp1,htl,d9,by
   simp only[WZ,Wh,W9];exact hE⟩ ?_
 clear hE d9 htl hp1 hkp d5 hn hq c6 hi;rintro⟨i,E,tl,H1,m⟩ hI;obtain⟨hi,hn,d5,hkp,hp1,htl,d9,hE⟩:=hI;simp only at hi hn d5 hkp hp1 htl d9 hE;have v7:x.regs.length<=4:=by simp_all [chkD,limD,V7,Vu]<;>omega
 by_cases c6:i<x.regs.length
 ·have e:=AG (k:=i) zo;have hgr:=V2 c6;have hmem:x.regs[i]∈x.regs:=W1 c6;have hrg:=OY hc hg hmem;have q8:Bm x.regs[i].ls=True:=V1 (hfx.rgs _ hmem);have c7:x.regs.take (i+1)=x.regs.take i++[x.regs[i]]:=by rw[Vx,hgr];rfl
  generalize x.regs[i]=r at hgr hrg q8 c7;have hgc:(Ak (Av x cells).sh (Av x cells).w (Av x cells).h (Av x cells).holes=some (Av x cells).cells)=True:=V1 hg;have hgd:(Ak (Av x cells).sh (Av x cells).w (Av x cells).h (Av x cells).holes=some cells)=True:=V1 hg;have hgx:(Av x cells).cells=cells:=rfl;have hEl:E.length=8+i:=by
   have:=hE.len;rw[V0,V9,V0,V0,Xd,W0]at this;omega
  have q1:At (hset H1 (m+2) (.box [.str r.nm,eLl r.ls])) 1 tl=True:=V1 ((htl.set (.inr (.inr (d5 _ zo)))).app);have gt:tkG 1 n (hset H1 (m+2) (.box [.str r.nm,eLl r.ls])) tl:=htl.set (.inr (.inr (d5 _ zo)));have gf:AR (hset H1 (m+2) (.box [.str r.nm,eLl r.ls])) (m+4):=d5.hset (m:=m+4) zo zo;have gp:hget (hset H1 (m+2) (.box [.str r.nm,eLl r.ls])) p=some (.box (cKb x cells (.sl tl E))):=by rw[AA _ _ _ _ zo];exact hp1
  have q2:(E.length<=35184372088831)=True:=V1 zo;have q3:small (E.length+1) 24=True:=V1 (AP zo zd);have hkP:=AX gt (i:=p) (.inr ⟨_,gp⟩);rw[gp]at hkP;have y1:∀k,(p=m+k)=False:=λk=>Vs zo
  have y2:∀k,(m+k=p)=False:=λk=>Vs zo
  simp only[eZ,seval,V3,eY,hp1,lt_T c6,hgr,fr1 d5,AD,Tbc,s2,g1,g2,CM,Bl,hho,hgd,hgx,q8,hrg,e,q1,q2,q3,hkP,y2,tadd];refine .mk ⟨i+1,E++[eLl (r.ls.map (BO cells))],.own (m+12) 1,hset (hset (AL (hset H1 (m+2) (.box [.str r.nm,eLl r.ls])) tl) (m+12) .tok) p (.box (cKb x cells (.sl (.own (m+12) 1) (E++[eLl (r.ls.map (BO cells))])))),m+17⟩ rfl ⟨c6,zp,((AT gt gf).hset (m:=m+17) zo zo).hset (V4 _) (show p<m+17 by omega),λid ob h1 h2 h3=>?_,AB ..,.inr (.inr ⟨m+12,rfl,zo,?_⟩),.inl rfl,?_⟩ zp
  ·grind [AA,AX]
  ·simp only[];rw[AA _ _ _ _ zo,AB]
  ·simp only[c7,Vt,W6,Wh]at hE⊢;rw[<-Wb];exact hE.app (.cons (Wk.refl _) .nil)
 obtain rfl:i=x.regs.length:=zo
 rw[Vw]at hE;simp only[eZ,seval,lt_F c6];exact⟨d5,hn,hkp,tl,E,hp1,d9,hE⟩
def stB(d:Z8)(H:AC):Nat->Prop
 |0=>hget H 3=some (.box (cDz d))
 |1=>∃x,resD d= .ok x/\hget H 3=some (.box (cDz x))
 |2=>∃x,resD d= .ok x/\chkD x=0/\hget H 3=some (.box (cDz x))
 |3=>∃x cells,resD d= .ok x/\chkD x=0/\Ak x.sh x.w x.h x.holes=some cells/\hget H 3=some (.box (cKb x cells zs))
 |_=>∃x cells tl E,resD d= .ok x/\chkD x=0/\Ak x.sh x.w x.h x.holes=some cells/\hget H 3=some (.box (cKb x cells (.sl tl E)))/\(tl.esz=1\/E=[])/\Wks E ((((List.range 8).map λf=>famS x.sh x.w x.h (AQ x.sh x.w cells) f)++x.regs.map λr=>r.ls.map (BO cells)).map eLl)
structure IBu(d:Z8)(v:VF):Prop where
 hi:v.i<=4
 hn:4<=v.n
 fr:AR v.H v.n
 h1:hget v.H 1=some (.box zKn)
 st:stB d v.H v.i
abbrev fB(f:FuncId):Fs:=.fn (.func f) [.ptr 3 0] []
def p10(d:Z8)(hd:Z4 d):Pur prog 10 [encD d] (BB d):=by
 refine .mk ⟨AW 0 d,trivial⟩ (by unfold BB;split<;>exact⟨BT 0 _,trivial,trivial⟩) (c10.a (AE AI.tnil (AF ?_)));simp only[eE,eN,seval,c10,AK];refine AO (λv:VF=>⟨[(2,true,.ptr 1 0),(4,true,.ptr 3 0),(15,true,.sl (.exact 1) [fB 26,fB 27,fB 28,fB 29]),(16,true,.int .i64 4),(17,true,.int .i64 v.i)],v.H,v.n⟩) (IBu d) (λv=>4-v.i)
  ⟨0,_,4⟩ rfl ⟨zp,V4 _,?_,rfl,?_⟩ ?_
 ·simp only[];repeat' (first|exact AR.nil|refine AR.hset ?_ (V4 _) zd)
 ·rfl
 rintro⟨i,H,n⟩ ⟨hi,hn,d5,h1,hst⟩;simp only at hi hn d5 h1 hst;have w1':IntKind.wrap .i64 (1+1)=2:=Ae zd zd;have w2':IntKind.wrap .i64 (2+1)=3:=Ae zd zd;have w3':IntKind.wrap .i64 (3+1)=4:=Ae zd zd;rcases(by omega:i=0\/i=1\/i=2\/i=3\/i=4)with rfl|rfl|rfl|rfl|rfl
 ·simp only[eZ,seval,eY,c4n];refine(Kr hd hst).mono ?_;rintro o H1 n1 ⟨rfl,hm⟩;cases hr:resD d with
  |error e=>
   rw[hr]at hm;obtain⟨rfl,rfl⟩:=hm;have he:(e=0)=False:=Vs (Dd hr);have hb:BB d= .tup [BR knd0,.int .i64 e]:=by unfold BB CA;rw[hr]
   rw[hb];simp only[eZ,seval,V6,Au,retK,he,h1];exact L4 e
  |ok x=>
   rw[hr]at hm;obtain⟨rfl,rfl⟩:=hm;simp only[eZ,seval,V3,retK,w01];exact .mk ⟨1,hset H 3 (.box (cDz x)),n1⟩ rfl ⟨zp,hn,d5.hset (V4 _) (show 3<n1 by omega),by simp only[];rw[AA _ _ _ _ zd];exact h1,x,hr,AB ..⟩ zp
 ·obtain⟨x,hr,h3⟩:=hst;have hfx:=ED hd hr;simp only[eZ,seval,eY,c4n];refine(Oq hfx h3).mono ?_;rintro o H1 n1 ⟨rfl,rfl,rfl⟩;by_cases hc:chkD x=0
  ·simp only[eZ,seval,V3,retK,BA hc,w1'];exact .mk ⟨2,H1,n1⟩ rfl ⟨zp,hn,d5,h1,x,hr,hc,h3⟩ zp
  ·have hb:BB d= .tup [BR knd0,.int .i64 (chkD x)]:=by unfold BB CA;rw[hr];simp only[];rw[Vv hc]
   rw[hb];simp only[eZ,seval,V6,Au,retK,Az hc,h1];exact L4 _
 ·obtain⟨x,hr,hc,h3⟩:=hst;have hfx:=ED hd hr;obtain⟨cells,hg⟩:=JO hc;simp only[eZ,seval,eY,c2n,c4n];refine(RQ hfx hg h3).mono ?_;rintro o H1 n1 ⟨rfl,rfl,rfl⟩;simp only[eZ,seval,V3,retK,w2'];exact .mk ⟨3,hset H 3 (.box (cKb x cells zs)),n1⟩ rfl ⟨zp,hn,d5.hset (V4 _) (show 3<n1 by omega),by simp only[];rw[AA _ _ _ _ zd];exact h1,x,cells,hr,hc,hg,AB ..⟩ zp
 ·obtain⟨x,cells,hr,hc,hg,h3⟩:=hst;have hfx:=ED hd hr;simp only[eZ,seval,eY,c3n,c4n];refine(Kt hfx hc hg d5 h3).mono ?_;rintro o H1 n1 ⟨rfl,e9,j9,hk,tl,E,hp,d9,hE⟩;simp only[eZ,seval,V3,retK,w3'];exact .mk ⟨4,H1,n1⟩ rfl ⟨V4 _,zp,e9,hk 1 _ zd zo h1,x,cells,tl,E,hr,hc,hg,hp,d9,hE⟩ zp
 ·obtain⟨x,cells,tl,E,hr,hc,hg,hp,d9,hE⟩:=hst;have hb:BB d= .tup [BR (OH x cells),.int .i64 0]:=by
   unfold BB CA;rw[hr];simp only[];rw[V5 (λz=>z hc),hg]
  rw[hb];simp only[eZ,seval,Au,c4n,hp,h1];exact Wk.tup (.cons (Tv (d:=x) (g:=Av x cells) (Wk.refl _) (Wk.refl _) (Wk.refl _) (Wk.refl _) (Wk.refl _) (Wk.refl _) (Wk.refl _) (Wk.refl _) (Wk.slx d9 hE)) (.cons (Wk.refl _) .nil))
def Or{sh w h:Int}{S:List Spot}(hS:S.length<=256)(f:Nat):Bm (famS sh w h S f):=by
 have hidx:∀p:Nat->Bool,(idxP S.length p).length<=256:=λp=>WD (Bq ..) hS
 have hln:∀f,Bm (Bd S f):=λf=>by
  refine⟨?_,λx hx=>?_⟩
  ·have:(Bd S f).length<=49:=WD (X0 ..) (by simp [JN]);show _<_;omega
  ·grind [Bd,Bv]
 have hnb:∀s,(nbS sh S s).length<=256:=λs=>hidx _
 have hmap:∀(l:List (List Int)),l.length<=256->(∀x∈l,x.length<=256)->Bm l:=λl h1 h2=>⟨show _<_ by omega,λx hx=>by
  have:=h2 x hx;show _<_;omega⟩
 unfold famS;split
 ·grind
 split
 ·exact hln _
 split
 ·exact hln _
 split
 ·split
  ·exact hln _
  ·split
   ·refine hmap _ ?_ λx hx=>?_
    ·unfold Kj;simp only[V9];split<;>split<;>simp
    ·unfold Kj at hx;rcases WH.1 hx with hx|hx
     ·split at hx
      ·cases hx
      ·rw[WV.1 hx];exact hidx _
     ·split at hx
      ·cases hx
      ·rw[WV.1 hx];exact hidx _
   ·exact hmap _ zw zw
 split
 ·grind [nbsS,List.length_map]
 split
 ·grind
 split
 ·refine⟨?_,λx hx=>?_⟩
  ·have key:∀n,n<=S.length->((List.range n).flatMap λ(c:Nat)=>(((nbsS sh S)[c]?.getD []).filter λb=>decide ((c:Int)<b)).map λb=>[(c:Int),b]).length<=256*n:=λn=>by
    induction n with
    |zero=>intro _;simp
    |succ n ih=>
     intro hn;rw[WT,XK,V9];simp only[List.flatMap_cons,List.flatMap_nil,W9,V0];have h1:=ih zo;have h2:(((nbsS sh S)[n]?.getD []).filter λb=>decide ((n:Int)<b)).length<=256:=by
      refine WD (X0 ..) ?_;rw[nbsS,W3];cases S[n]? with
      |none=>simp
      |some s=>exact hnb s
     omega
   have:=key S.length (V4 _);show _<_;omega
  ·grind
 ·grind
def Ot{d:Z8}(hd:Z4 d){k:Knd}(h:CA d= .ok k):FewKn k:=by
 obtain⟨x,cells,hr,hc,hg,rfl⟩:=So h;have hfx:=ED hd hr;obtain⟨-,h2,-⟩:=Ax hg;have hS:(AQ x.sh x.w cells).length<=256:=by unfold AQ;rw[V0];exact h2
 have v7:x.regs.length<1000000000:=hfx.rg;have hrl4:x.regs.length<=4:=by simp_all [chkD,limD,V7,Vu]<;>omega
 refine⟨hfx,Ca hfx.ho,show cells.length<_ by omega,Or (w:=x.w) (h:=x.h) hS 4,?_,λl hl=>?_⟩
 ·show(((List.range 8).map _)++x.regs.map _).length<_;rw[V9,V0,V0,Xd];omega
 ·rcases WH.1 hl with hl|hl
  ·obtain⟨f,-,rfl⟩:=WL.1 hl;exact Or hS f
  ·obtain⟨r,hr,rfl⟩:=WL.1 hl;have:=hfx.rgs r hr;refine⟨by show(r.ls.map _).length<_;rw[V0];exact this.1,λy hy=>?_⟩;obtain⟨z,hz,rfl⟩:=WL.1 hy;have:=this.2 z hz;show(z.map _).length<_;rw[V0];exact this
def Tkc:Tab:=tadd 10 (s1 dD Z4 BB) (tadd 18 (s2 dKn dKn (λ_ b=>FewKn b) λa b=>.bool (decide (a=b))) tnil)
def Tkc_ok:AI prog Tkc:=(AI.tnil.add (q2 λa b h=>p18 a b h)).add (q1 λd h=>p10 d h)
def p16(k:Knd)(h1:Z4 k.d):Pur prog 16 [BR k] (.int .i64 (CN k)):=by
 refine .mk ⟨BT 0 k,trivial⟩ trivial (c16.a (AE Tkc_ok (AF ?_)));have e1:dD.ok (.agg (AK k.d))=True:=A0 k.d;have e2:dD.dec (.agg (AK k.d))=k.d:=Aj k.d;have u1:dKn.ok (.agg (Ah k))=True:=GK k;have u2:dKn.dec (.agg (Ah k))=k:=Eg k;simp only[AK]at e1 e2;simp only[Ah,AH,AK,Ww,Wi]at u1 u2;unfold CN NF;cases hb:CA k.d with
 |error e=>
  have hv:BB k.d= .tup [BR knd0,.int .i64 e]:=by unfold BB;rw[hb]
  have he:(e=0)=False:=Vs (JT hb);simp only[eZ,seval,V3,V6,eY,c16,Ah,AH,AK,Tkc,s1,s2,e1,e2,u1,u2,V1 h1,hv,he,tadd]
 |ok x=>
 have hv:BB k.d= .tup [BR x,.int .i64 0]:=by unfold BB;rw[hb]
 have v1:dKn.ok (.agg (Ah x))=True:=GK x;have v2:dKn.dec (.agg (Ah x))=x:=Eg x;have h2:=Ot h1 hb;simp only[Ah,AH,AK,Ww,Wi]at v1 v2;simp only[];by_cases hx:k=x
 ·simp only[eZ,seval,V3,eY,c16,Ah,AH,AK,Tkc,s1,s2,e1,e2,u1,u2,v1,v2,V1 h1,V1 h2,hv,BA hx,tadd]
 ·simp only[eZ,seval,V3,V6,eY,c16,Ah,AH,AK,Tkc,s1,s2,e1,e2,u1,u2,v1,v2,V1 h1,V1 h2,hv,Az hx,tadd]
end Go.AM
