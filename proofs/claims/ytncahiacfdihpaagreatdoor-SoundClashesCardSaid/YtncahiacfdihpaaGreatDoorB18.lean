/-
  Parts of the proof. Conditions: none.
-/
import Derived.Test.YtncahiacfdihpaaGreatDoorB17
set_option maxRecDepth 20000
set_option linter.all false
set_option maxHeartbeats 1000000
namespace Go.AM
open Go.Proofs Go.Proofs.Tryz
section
def ownS(ls l:List Int):Nat:=(l.map λs=>ls.countP λt=>decide (t=s)).sum
def difL:List Int->Bool
 |[]=>true
 |a::r=>(r.all λb=>decide (b≠a))&&difL r
def DR(vals:List Int):List Int->Bool
 |a::b::r=>decide (at0 vals a<at0 vals b)&&DR vals (b::r)
 |_=>true
def satL(vals:List Int)(k n:Int)(ls l:List Int):Bool:=
 if k=1 then difL l
 else if k=2 then decide (0<ownS ls l)
 else if k=3 then decide (n<=at0 vals (at0 l 0)-at0 vals (at0 l 1))||decide (n<= -(at0 vals (at0 l 0)-at0 vals (at0 l 1)))
 else if k=4 then DR vals l
 else if k=6 then decide ((ownS ls l:Int)=n)
 else true
variable {ls l vals:List Int}
theorem Vv(hn:ls.Nodup)(s:Int):(ls.countP λt=>decide (t=s))=if ls.contains s=true then 1 else 0:=by
 induction ls with
 |nil=>rfl
 |cons a r ih=>
  rw[Ys]at hn;rw[List.countP_cons,ih hn.2];by_cases h:a=s
  ·subst h;simp [hn.1]
  ·simp [h,Ne.symm h]
theorem Ug(hn:ls.Nodup)(h:∀s∈l,0<=s):ownS ls l=cOwn ls l:=by
 induction l with
 |nil=>rfl
 |cons s r ih=>
  have h0:=h s zw;have ih:=ih λx hx=>h x (by simp [hx])
  unfold ownS cOwn at*;rw[Xh,List.sum_cons,ih,XA,Vv hn];cases hc:ls.contains s<;>simp [h0]<;>omega
theorem Vw(h:∀s∈l,0<=s):cOwn ls l+cOth ls l=l.length:=by
 induction l with
 |nil=>rfl
 |cons s r ih=>
  have h0:=h s zw;have ih:=ih λx hx=>h x (by simp [hx])
  unfold cOwn cOth at*;rw[XA,XA,Xe];cases hc:ls.contains s
  ·rw[W6 zw,X0 (by simp [h0]),Xe];omega
  ·rw[X0 (by simp [h0]),W6 zw,Xe];omega
theorem S1(h:∀s∈l,0<=s):cNon l=0:=by
 unfold cNon;rw[XZ,YX];intro s hs;have:=h s hs;simp;omega
theorem QE(h:∀s∈l,0<=s):Au (λa b=>decide (a=b)) l= !difL l:=by
 induction l with
 |nil=>rfl
 |cons a r ih=>
  have h0:=h a zw;rw[Au,difL,ih λx hx=>h x (by simp [hx]),Bool.not_and];congr 1;rw[Xc];simp only[Yy,W5,W8,Y9,Z1];constructor
  ·rintro⟨b,hb,_,e⟩;exact⟨b,hb,by simp [e]⟩
  ·rintro⟨b,hb,e⟩;exact⟨b,hb,⟨h0,h b (by simp [hb])⟩,by simpa using Eq.symm (by simpa using e)⟩
theorem Mp:∀{a:Int} {r:List Int},DR vals (a::r)=true->∀b∈r,at0 vals a<at0 vals b
 |a,[],_,b,hb=>by cases hb
 |a,c::r,h,b,hb=>by
  rw[DR,W5,W8]at h;rcases Xr.1 hb with rfl|hb
  ·exact h.1
  ·exact Int.lt_trans h.1 (Mp h.2 b hb)
theorem IP{vals:List Int}:∀{l:List Int},(∀s∈l,0<=s)->Au (λa b=>decide (at0 vals b<=at0 vals a)) l= !DR vals l
 |[],_=>rfl
 |[a],_=>by simp [Au,DR]
 |a::b::r,h=>by
  have ih:=IP (vals:=vals) (l:=b::r) λx hx=>h x (by simp [hx])
  have ha:=h a zw;have hb:=h b zw;rw[Au,ih,DR];cases hr:DR vals (b::r)with
  |false=>simp
  |true=>
   have d6:=Mp hr;by_cases o6:at0 vals a<at0 vals b
   ·have:((b::r).any λb=>decide (0<=a)&&decide (0<=b)&&decide (at0 vals b<=at0 vals a))=false:=by
     rw[YD];intro x hx;have:at0 vals a<at0 vals x:=by
      rcases Xr.1 hx with rfl|hx
      ·exact o6
      ·exact Int.lt_trans o6 (d6 x hx)
     simp;omega
    rw[this];simp [o6]
   ·have:((b::r).any λb=>decide (0<=a)&&decide (0<=b)&&decide (at0 vals b<=at0 vals a))=true:=by
     rw[Za];simp [ha,hb,Int.not_lt.1 o6]
    rw[this];simp [o6]
theorem QF{k n:Int}(h:∀s∈l,0<=s)(hn:ls.Nodup)(h3:k=3->l.length=2):BU vals k n ls l= !satL vals k n ls l:=by
 unfold BU satL;by_cases k1:k=1
 ·rw[X0 k1,X0 k1];exact QE h
 rw[W6 k1,W6 k1];by_cases k2:k=2
 ·rw[X0 k2,X0 k2,Ug hn h,S1 h];rw[Xc];simp;
 rw[W6 k2,W6 k2];by_cases k3:k=3
 ·rw[X0 k3,X0 k3]
  match l,h3 k3,h with
  |[a,b],_,h=>
   have ha:=h a zw;have hb:=h b zw;have key:Au (λa b=>decide (absI (at0 vals a-at0 vals b)<n)) [a,b]=decide (absI (at0 vals a-at0 vals b)<n):=by simp [Au,ha,hb]
   rw[key,show at0 [a,b] 0=a from rfl,show at0 [a,b] 1=b from rfl];generalize at0 vals a=u,at0 vals b=v;unfold absI;by_cases h1:n<=u-v
   ·rw[Xf h1,X9 zo];rfl
   ·by_cases h2:n<= -(u-v)
    ·rw[Xf h2,X9 zo,Bool.or_true];rfl
    ·rw[X9 h1,X9 h2,Xf zo];rfl
 rw[W6 k3,W6 k3];by_cases k4:k=4
 ·rw[X0 k4,X0 k4];exact IP h
 rw[W6 k4,W6 k4];by_cases k6:k=6
 ·rw[X0 k6,X0 k6,Ug hn h];have:=Vw (ls:=ls) h;rw[Xc];simp;omega
 ·rw[W6 k6,W6 k6];rfl
end
theorem KF{a:Int}:∀{l:List Int},difL (l++[a])=(difL l&&l.all λb=>decide (a≠b))
 |[]=>rfl
 |b::r=>by
  have ih:=KF (a:=a) (l:=r);rw[Xm,difL,ih,difL,List.all_append,YA,Xc];simp only[W5,X8,YA,List.all_nil,W8,ne_eq];constructor
  ·rintro⟨⟨h1,h2,-⟩,h3,h4⟩;exact⟨⟨h1,h3⟩,λe=>h2 e,h4⟩
  ·rintro⟨⟨h1,h3⟩,h2,h4⟩;exact⟨⟨h1,λe=>h2 e,trivial⟩,h3,h4⟩
theorem IQ{vals:List Int}{b p:Int}:∀{l:List Int},l.getLast?=some p->DR vals (l++[b])=(DR vals l&&decide (at0 vals p<at0 vals b))
 |[],h=>by cases h
 |[a],h=>by cases h;simp [DR];rfl
 |a::c::r,h=>by
  have ih:=IQ (vals:=vals) (b:=b) (p:=p) (l:=c::r) (by simpa using h);show DR vals (a::c::(r++[b]))=_;rw[DR,DR];have:DR vals (c::(r++[b]))=DR vals (c::r++[b]):=rfl;rw[this,ih,Zy]
def QG{ls l:List Int}{s:Int}:ownS ls (l++[s])=ownS ls l+ls.countP λt=>decide (t=s):=by
 unfold ownS;rw[X2,List.sum_append];simp
def S2{cells some:List Int}(hl:some.length=cells.length)(h:∀(j:Nat) (s:Int),some[j]?= .some s->s= -1\/cells[j]?= .some s)(hc:∀s∈cells,0<=s):ExtC some cells:=by
 refine⟨hl,λi s h1 h0=>?_,λs hs=>?_⟩
 ·rcases h i s h1 with q|q
  ·omega
  ·exact q
 ·obtain⟨i,hi,e⟩:=Xq.1 hs;rcases h i s (by rw[W2 hi,e])with q|q
  ·omega
  ·have:=hc s (Xw q);omega
end Go.AM
set_option maxHeartbeats 1000000
set_option maxHeartbeats 1000000
namespace Go.AM
open Go.Lib Go.Proofs Go.Proofs.Tryz
theorem QH(ls:List Int):∀l:List Int,ownS ls l<=l.length*ls.length
 |[]=>Wz _
 |a::l=>by
  have ih:=QH ls l;have:=List.countP_le_length (p:=λt=>decide (t=a)) (l:=ls);unfold ownS at ih⊢;rw[Xh,List.sum_cons,Xe,XT];omega
structure SaOK(k:z8)(q:Cnd)(letters cells:List Int):Prop where
 c10:q.cs.length<=10
 l10:q.ls.length<=10
 n:0<=q.n/\q.n<=99
 ci:∀c∈q.cs,0<=c/\c<(cells.length:Int)
 li:∀c∈q.ls,0<=c/\c<(letters.length:Int)
 sy:∀s∈cells,okSy k s
 vl:∀y∈k.d.syms,0<=y.v/\y.v<=99
 h3:q.k=3->q.cs.length=2
abbrev Hkq(k:z8)(q:Cnd):AC:=hset (hset hnil 0 (.box (AJ k))) 1 (.box [.int .i64 q.k,eIs q.cs,eIs q.ls,.int .i64 q.n])
def Mq{k:z8}{s:Int}(h:okSy k s):∃y:j7,k.d.syms[s.toNat]?=some y/\y.v=at0 (AV k) s:=by
 have c5:s.toNat<k.d.syms.length:=by have:=h.1;have:=h.2;omega
 exact⟨_,W2 c5,(FU (W2 c5)).symm⟩
def p25(k:z8)(q:Cnd)(letters cells:List Int)(h:SaOK k q letters cells):Pur prog 25 [Bj k,encQ q,eIs letters,eIs cells] (.bool (satL (AV k) q.k q.n (q.ls.map (at0 letters)) (q.cs.map (at0 cells)))):=by
 refine .mk ⟨Ag 0 k,B3 0 q,AR 0 _,AR 0 _,trivial⟩ trivial (c25.a (AF AI.tnil (AG ?_)));have hc10:=h.c10;have hl10:=h.l10;generalize hL:q.cs.map (at0 cells)=l;generalize hM:q.ls.map (at0 letters)=ls;have m9:l.length=q.cs.length:=by rw[<-hL,W0]
 have hlm:ls.length=q.ls.length:=by rw[<-hM,W0]
 have hlgen:∀(j:Nat) c,q.cs[j]?=some c->l[j]?=some (at0 cells c):=λj c hc=>by rw[<-hL,Xa,hc];rfl
 have hown:∀i,ownS ls (l.take i)<=100:=λi=>by
  have h1:=QH ls (l.take i);have h2:(l.take i).length<=10:=by rw[Xg];omega
  have:=Nat.mul_le_mul h2 (show ls.length<=10 by omega);omega
 simp only[eE,eN,seval,W0,c25];refine AL (λi:Nat=>⟨[(2,true,eIs letters),(3,true,eIs cells),(4,true,.ptr 0 0),(5,true,.ptr 1 0),(9,true,.int .i64 (ownS ls (l.take i))),(10,true,.bool (difL (l.take i))),(11,true,.bool (DR (AV k) (l.take i))),(20,true,eIs q.cs),(21,true,.int .i64 q.cs.length),(22,true,.int .i64 i)],Hkq k q,3⟩) (λi=>i<=q.cs.length) (λi=>q.cs.length-i) 0 rfl (Wz _) ?_;rintro i hi;by_cases c5:i<q.cs.length
 ·have hg:=W2 c5;have hcm:=X5 c5;have hlg:l[i]?=some (at0 cells q.cs[i]):=by rw[<-hL,Xa,hg];rfl
  generalize q.cs[i]=c at hg hcm hlg;obtain⟨c0',c1'⟩:=h.ci c hcm;have hgc:=BE c0' c1';have i4:=h.sy _ (Xw hgc);have ht:l.take (i+1)=l.take i++[at0 cells c]:=by rw[X7,hlg];rfl
  generalize hs:at0 cells c=s at hgc i4 ht hlg;have e:=AE (k:=i) zo;simp only[eZ,seval,eY,lt_T c5,hg];refine AL (λj:Nat=>⟨[(2,true,eIs letters),(3,true,eIs cells),(4,true,.ptr 0 0),(5,true,.ptr 1 0),(9,true,.int .i64 ((ownS ls (l.take i)+(ls.take j).countP (λt=>decide (t=s)):Nat):Int)),(10,true,.bool (difL (l.take i))),(11,true,.bool (DR (AV k) (l.take i))),(12,true,.int .i64 i),(13,true,.int .i64 c),(20,true,eIs q.cs),(21,true,.int .i64 q.cs.length),(22,true,.int .i64 i),(28,true,eIs q.ls),(29,true,.int .i64 q.ls.length),(30,true,.int .i64 j)],Hkq k q,3⟩) (λj=>j<=q.ls.length) (λj=>q.ls.length-j) 0 rfl (Wz _) ?_;rintro j hj;by_cases hjt:j<q.ls.length
  ·have gj:=W2 hjt;have o8:=X5 hjt;have hlj:ls[j]?=some (at0 letters q.ls[j]):=by rw[<-hM,Xa,gj];rfl
   generalize q.ls[j]=m at gj o8 hlj;obtain⟨m0,m1⟩:=h.li m o8;have w9:=BE m0 m1;have e':=AE (k:=j) zo;have htj:ls.take (j+1)=ls.take j++[at0 letters m]:=by rw[X7,hlj];rfl
   have m7:=List.countP_le_length (p:=λt=>decide (t=s)) (l:=ls.take j);rw[Xg]at m7;have ho:=hown i;have hctj:(ls.take (j+1)).countP (λt=>decide (t=s))=(ls.take j).countP (λt=>decide (t=s))+if at0 letters m=s then 1 else 0:=by
    rw[htj,List.countP_append,List.countP_cons,List.countP_nil];simp
   by_cases hq:at0 letters m=s
   ·have eo:IntKind.wrap .i64 (((ownS ls (l.take i)+(ls.take j).countP (λt=>decide (t=s)):Nat):Int)+1)=((ownS ls (l.take i)+(ls.take (j+1)).countP (λt=>decide (t=s)):Nat):Int):=by
     rw[hctj,X0 hq,An zo zo];omega
    simp only[eZ,seval,eY,lt_T hjt,gj,W1 m0,W1 m1,w9,W1 c0',W1 c1',hgc,W1 hq,e',eo];exact .mk (j+1) rfl hjt zo
   ·have hctj:(ls.take (j+1)).countP (λt=>decide (t=s))=(ls.take j).countP (λt=>decide (t=s)):=by rw[hctj,W6 hq];rfl
    simp only[eZ,seval,eY,lt_T hjt,gj,W1 m0,W1 m1,w9,W1 c0',W1 c1',hgc,W4 hq,e'];exact .mk (j+1) (by rw[hctj]) hjt zo
  obtain rfl:j=q.ls.length:=zo
  have hown1:ownS ls (l.take (i+1))=ownS ls (l.take i)+(ls.take q.ls.length).countP (λt=>decide (t=s)):=by
   rw[ht,QG,XE (l:=ls) zo]
  rw[<-hown1];have hile:((i:Int)<=(q.cs.length:Int))=True:=W1 zo;have htm:(q.cs.map eI).take i=(q.cs.take i).map eI:=by rw[List.map_take]
  have hlen:(q.cs.take i).length=i:=by rw[Xg];omega
  simp only[eZ,seval,eY,lt_F hjt,hile,htm,hlen];generalize hD:difL (l.take i)=D;have hltk:(l.take i).length=i:=by rw[Xg];omega
  refine AL (λj:Nat=>⟨[(2,true,eIs letters),(3,true,eIs cells),(4,true,.ptr 0 0),(5,true,.ptr 1 0),(9,true,.int .i64 (ownS ls (l.take (i+1)))),(10,true,.bool (D&&((l.take i).take j).all λb=>decide (s≠b))),(11,true,.bool (DR (AV k) (l.take i))),(12,true,.int .i64 i),(13,true,.int .i64 c),(20,true,eIs q.cs),(21,true,.int .i64 q.cs.length),(22,true,.int .i64 i),(49,true,eIs (q.cs.take i)),(50,true,.int .i64 i),(51,true,.int .i64 j)],Hkq k q,3⟩) (λj=>j<=i) (λj=>i-j) 0 (by rw[Y5,List.all_nil,Zp];rfl) (Wz _) ?_;rintro j hj;by_cases hji:j<i
  ·have gj:(q.cs.take i)[j]?=some q.cs[j]:=by rw[List.getElem?_take,X0 hji,W2 zo]
   have hym:=X5 (show j<q.cs.length by omega);have hlj:(l.take i)[j]?=some (at0 cells q.cs[j]):=by rw[List.getElem?_take,X0 hji];exact hlgen j _ (W2 _)
   generalize q.cs[j]=y at gj hym hlj;obtain⟨y0',y1'⟩:=h.ci y hym;have hgy:=BE y0' y1';have e':=AE (k:=j) zo;have htj:(l.take i).take (j+1)=(l.take i).take j++[at0 cells y]:=by rw[X7,hlj];rfl
   have am:j<(q.cs.take i).length:=zo
   have hji':((j:Int)<(i:Int))=True:=W1 zo;cases hB:(D&&((l.take i).take j).all λb=>decide (s≠b))with
   |false=>
    have hB':(D&&((l.take i).take (j+1)).all λb=>decide (s≠b))=false:=by
     rw[htj,List.all_append,<-Zy,hB,YC]
    simp only[eZ,seval,eY,hji',hlen,gj,e'];exact .mk (j+1) (by rw[hB']) hji zo
   |true=>
    have hB':(D&&((l.take i).take (j+1)).all λb=>decide (s≠b))=decide (s≠at0 cells y):=by
     rw[htj,List.all_append,<-Zy,hB,Yc,YA,List.all_nil,Zp]
    by_cases hq:s=at0 cells y
    ·rw[X9 (by simpa using hq)]at hB';simp only[eZ,seval,W3,eY,hji',hlen,gj,e',W1 c0',W1 c1',hgc,W1 y0',W1 y1',hgy,W1 hq];exact .mk (j+1) (by rw[hB']) hji zo
    ·rw[Xf hq]at hB';simp only[eZ,seval,W7,eY,hji',hlen,gj,e',W1 c0',W1 c1',hgc,W1 y0',W1 y1',hgy,W4 hq];exact .mk (j+1) (by rw[hB']) hji zo
  obtain rfl:j=i:=zo
  have hdif:difL (l.take (j+1))=(D&&((l.take j).take j).all λb=>decide (s≠b)):=by
   rw[ht,KF,hD,XE (l:=l.take j) zo]
  rw[<-hdif];have hjj:((j:Int)<(j:Int))=False:=W4 zo;have e9:IntKind.wrap .i64 ((j:Int)+1)=((j+1:Nat):Int):=e;by_cases j0:j=0
  ·subst j0;have r0:DR (AV k) (l.take 0)=true:=by rw[Y5];rfl
   have r1:DR (AV k) (l.take (0+1))=true:=by rw[ht,Y5];rfl
   rw[r0];simp only[eZ,seval,W3,eY];exact .mk (0+1) (by rw[r1];rfl) c5 zo
  obtain⟨p,rfl⟩:∃p,j=p+1:=⟨j-1,zo⟩;have hjz:(((p+1:Nat):Int)=0)=False:=W4 zo;have hw1:IntKind.wrap .i64 (((p+1:Nat):Int)-1)=(p:Int):=by rw[An zo zo];omega
  have s8:p<q.cs.length:=zo
  have gp:=W2 s8;have hym:=X5 s8;have hlp:=hlgen p _ gp;generalize q.cs[p]=y at gp hym hlp;obtain⟨y0',y1'⟩:=h.ci y hym;have hgy:=BE y0' y1';have hoy:=h.sy _ (Xw hgy);have hlast:(l.take (p+1)).getLast?=some (at0 cells y):=by
   rw[List.getLast?_eq_getElem?,hltk,Nat.add_sub_cancel,List.getElem?_take,X0 zo];exact hlp
  have hrs:=IQ (vals:=AV k) (b:=s) hlast;rw[<-ht]at hrs;generalize hsy:at0 cells y=t at hgy hoy hrs hlast;obtain⟨ys,gs1,gs2⟩:=Mq i4;obtain⟨yt,gt1,gt2⟩:=Mq hoy;have hp1:((p:Int)<(q.cs.length:Int))=True:=W1 zo;have hp0:(0<=(p:Int))=True:=W1 zo;cases hRj:DR (AV k) (l.take (p+1))with
  |false=>
   rw[hRj,YC]at hrs;simp only[eZ,seval,eY,hjj,e9];exact .mk (p+1+1) (by rw[hrs]) c5 zo
  |true=>
   rw[hRj,Yc]at hrs;by_cases hv:at0 (AV k) t<at0 (AV k) s
   ·rw[Xf hv]at hrs;simp only[eZ,seval,eY,hjj,e9,hjz,hw1,hp0,hp1,gp,W1 y0',W1 y1',hgy,W1 hoy.1,W1 hoy.2,gt1,gt2,W1 c0',W1 c1',hgc,W1 i4.1,W1 i4.2,gs1,gs2,W1 hv,AJ,AD,AH];exact .mk (p+1+1) (by rw[hrs]) c5 zo
   ·rw[X9 hv]at hrs;simp only[eZ,seval,eY,hjj,e9,hjz,hw1,hp0,hp1,gp,W1 y0',W1 y1',hgy,W1 hoy.1,W1 hoy.2,gt1,gt2,W1 c0',W1 c1',hgc,W1 i4.1,W1 i4.2,gs1,gs2,W4 hv,AJ,AD,AH];exact .mk (p+1+1) (by rw[hrs]) c5 zo
 obtain rfl:i=q.cs.length:=zo
 have hfull:l.take q.cs.length=l:=XE zo;rw[hfull];unfold satL;by_cases k1:q.k=1
 ·rw[X0 k1];simp only[eZ,seval,lt_F c5,k1]
 rw[W6 k1];by_cases k2:q.k=2
 ·rw[X0 k2];simp only[eZ,seval,lt_F c5,k2];exact decide_eq_decide.2 zo
 rw[W6 k2];by_cases k3:q.k=3
 ·rw[X0 k3];have h2:=h.h3 k3;have g0:=W2 (show 0<q.cs.length by omega);have g1:=W2 (show 1<q.cs.length by omega);have m0:=X5 (show 0<q.cs.length by omega);have m1:=X5 (show 1<q.cs.length by omega);have l0:=hlgen 0 _ g0;have l1:=hlgen 1 _ g1;generalize q.cs[0]=a at g0 m0 l0;generalize q.cs[1]=b at g1 m1 l1;obtain⟨a0',a1'⟩:=h.ci a m0;obtain⟨b0',b1'⟩:=h.ci b m1;have ga:=BE a0' a1';have gb:=BE b0' b1';have oa:=h.sy _ (Xw ga);have ob:=h.sy _ (Xw gb);have la:at0 l 0=at0 cells a:=by unfold at0 at l0⊢;rw[show(0:Int).toNat=0 from rfl,l0];rfl
  have lb:at0 l 1=at0 cells b:=by unfold at0 at l1⊢;rw[show(1:Int).toNat=1 from rfl,l1];rfl
  rw[la,lb];have ra:=Gi h.vl oa;have rb:=Gi h.vl ob;generalize at0 cells a=s at ga oa ra;generalize at0 cells b=t at gb ob rb;obtain⟨ys,gs1,gs2⟩:=Mq oa;obtain⟨yt,gt1,gt2⟩:=Mq ob;rw[<-gs2]at ra⊢;rw[<-gt2]at rb⊢;have z1:((0:Int)<(q.cs.length:Int))=True:=W1 zo;have z2:((1:Int)<(q.cs.length:Int))=True:=W1 zo;have wd:IntKind.wrap .i64 (ys.v-yt.v)=ys.v-yt.v:=An zo zo;have wn:IntKind.wrap .i64 (0-(ys.v-yt.v))= -(ys.v-yt.v):=by rw[An zo zo];omega
  simp only[eZ,seval,eY,lt_F c5,k3,AJ,AD,AH,g0,g1,z1,z2,W1 a0',W1 a1',W1 b0',W1 b1',ga,gb,W1 oa.1,W1 oa.2,W1 ob.1,W1 ob.2,gs1,gt1,wd,wn]
 rw[W6 k3];by_cases k4:q.k=4
 ·rw[X0 k4];simp only[eZ,seval,lt_F c5,k4]
 rw[W6 k4];by_cases k6:q.k=6
 ·rw[X0 k6];simp only[eZ,seval,lt_F c5,k6]
 rw[W6 k6];simp only[eZ,seval,lt_F c5,W4 k1,W4 k2,W4 k3,W4 k4,W4 k6]
section
def Lc(k:z8)(q:Cnd)(letters cells:List Int):(Ck k q letters cells).flat:=by
 unfold Ck
 repeat' split
 all_goals exact⟨trivial,trivial,trivial⟩
def JR(k:z8):List Fs->AC->Prop×Fs:=λa H=>match a with
 |[K,Q,a1,a2]=>(dKn.ok K/\dKn.dec K=k/\dQ.ok Q/\(few (dQ.dec Q).cs/\few (dQ.dec Q).ls)/\dIs.ok a1/\few (dIs.dec a1)/\RdI H a2 (rdL H a2)/\few (rdL H a2),Ck k (dQ.dec Q) (dIs.dec a1) (rdL H a2))
 |_=>(False,.tup [])
variable {k:z8}
theorem rowS6q(hk:qk k.d):∀args H n,(JR k args H).1->Am prog 13 args H n (JR k args H).2:=by
 intro args H n hh;unfold JR at hh⊢;split at hh
 ·obtain⟨h1,h2,h3,h4,h5,h6,h7,h8⟩:=hh;have w1:=dKn.wk _ h1;rw[h2]at w1;exact(p13 k _ _ _ hk h4 h6 h8).view (Lc _ _ _ _) (.cons (.wk w1) (.cons (.wk (dQ.wk _ h3)) (.cons (.wk (dIs.wk _ h5)) (.cons (LU h7) .nil)))) n
 ·exact hh.elim
def Tlc0:Tab:=tadd 9 (s0v (.bool true)) (tadd 10 (s1 dKn WdS λk=>.bool (JO k)) tnil)
theorem QI:AI prog Tlc0:=(AI.tnil.add (q1 λk h=>p10 k h)).add (q0v p9)
def Tlc(k:z8):Tab:=tadd 13 (JR k) (tadd 14 (s4 dKn dQ dIs dIs (λk q l c=>RfK k/\(few q.cs/\few q.ls)/\few l/\few c) Ck) (tadd 25 (s4 dKn dQ dIs dIs SaOK λk q l c=>.bool (satL (AV k) q.k q.n (q.ls.map (at0 l)) (q.cs.map (at0 c)))) Tlc0))
theorem Tlc_ok(hk:qk k.d):AI prog (Tlc k):=((QI.add (q4 λk q l c h=>p25 k q l c h)).add (q4 λk q l c h=>p14 k q l c h.1 h.2.1 h.2.2.1 h.2.2.2)).add (rowS6q hk)
section
variable (k:z8) (a:List Fs) (H:AC)
theorem Tlc0_n:Tlc0 9 a H=s0v (.bool true) a H:=rfl
theorem Tlc0_f:Tlc0 10 a H=s1 dKn WdS (λk=>.bool (JO k)) a H:=rfl
theorem QJ:Tlc k 9 a H=s0v (.bool true) a H:=rfl
theorem QK:Tlc k 10 a H=s1 dKn WdS (λk=>.bool (JO k)) a H:=rfl
theorem S3:Tlc k 13 a H=JR k a H:=rfl
theorem Tlc_d:Tlc k 14 a H=s4 dKn dQ dIs dIs (λk q l c=>RfK k/\(few q.cs/\few q.ls)/\few l/\few c) Ck a H:=rfl
theorem Tlc_s:Tlc k 25 a H=s4 dKn dQ dIs dIs SaOK (λk q l c=>.bool (satL (AV k) q.k q.n (q.ls.map (at0 l)) (q.cs.map (at0 c)))) a H:=rfl
end
theorem Ld(k:z8)(q:Cnd)(letters cells:List Int):(∃e,e≠0/\Ck k q letters cells= .tup [.bool false,.int .i64 e])\/
  (Ck k q letters cells= .tup [.bool (CV (AV k) q letters cells),.int .i64 0]/\BG k=0/\1<=letters.length/\letters.length<=3/\1<=cells.length/\cells.length<=4/\difI letters k.d.syms.length=true/\(cells.any λs=>decide (s< -1)||decide ((k.d.syms.length:Int)<=s))=false/\Bc q cells.length letters.length=true):=by
 unfold Ck;split
 ·rename_i h;exact .inl ⟨_,h,rfl⟩
 rename_i h1;split
 ·exact .inl ⟨1,zd,rfl⟩
 split
 ·exact .inl ⟨1,zd,rfl⟩
 split
 ·exact .inl ⟨1,zd,rfl⟩
 split
 ·exact .inl ⟨300,zd,rfl⟩
 rename_i h2 h3 h4 h5;exact .inr ⟨rfl,Decidable.not_not.1 h1,zo,zo,zo,zo,by simpa using h3,by simpa using h4,by simpa using h5⟩
theorem QL{q:Cnd}{letters cells:List Int}(h0:BG k=0)(h1:1<=letters.length/\letters.length<=3)(h2:1<=cells.length/\cells.length<=4)(h3:difI letters k.d.syms.length=true)(h4:∀s∈cells,-1<=s/\s<(k.d.syms.length:Int))(h5:Bc q cells.length letters.length=true):Ck k q letters cells= .tup [.bool (CV (AV k) q letters cells),.int .i64 0]:=by
 unfold Ck;rw[W6 (by simpa using h0),W6 zo,W6 (by rw[h3];decide),W6 ?_,W6 (by rw[h5];decide)];rw[Zk,YD];intro s hs;have:=h4 s hs;simp only[Xi,W8,not_or];omega
structure V6 where
 i:Nat
 L:List Int
structure I6(cells:List Int)(v:V6):Prop where
 hi:v.i<=cells.length
 len:v.L.length=cells.length
 el:∀(j:Nat) (s:Int),v.L[j]?=some s->s= -1\/cells[j]?=some s
theorem p6(k:z8)(q:Cnd)(letters cells:List Int)(d7:Int)(hw:WdS k):Pur prog 6 [Bj k,encQ q,eIs letters,eIs cells,.int .u8 d7] (.bool true):=by
 have u1:dKn.ok (.agg (AJ k))=True:=DW k
 have u2:dKn.dec (.agg (AJ k))=k:=CJ k
 simp only[AJ,AD,AH,Xm,Xl]at u1 u2
 have v1:dQ.ok (.agg [.int .i64 q.k,eIs q.cs,eIs q.ls,.int .i64 q.n])=True:=SA q
 have v2:dQ.dec (.agg [.int .i64 q.k,eIs q.cs,eIs q.ls,.int .i64 q.n])=q:=LI q
 refine .mk ⟨Ag 0 k,B3 0 q,AR 0 _,AR 0 _,trivial,trivial⟩ trivial (c6.a ?_)
 cases hf:JO k with
 |false=>
  refine AF QI (AG ?_)
  simp only[eZ,seval,W3,W7,W0,c6,Tlc0_n,Tlc0_f,s0v,s1,AJ,AD,AH,u1,u2,W1 hw,hf,W7,W3]
 |true=>
 have hR:=wds_rf hf hw
 have hD:=hR.kn.d
 refine AF (Tlc_ok hD) (AG ?_)
 by_cases g2:(10:Int)<(q.cs.length:Int)
 ·simp only[eZ,seval,W3,W0,c6,QJ,QK,s0v,s1,AJ,AD,AH,u1,u2,W1 hw,hf,W3,W1 g2]
 by_cases g3:(10:Int)<(q.ls.length:Int)
 ·simp only[eZ,seval,W3,W0,c6,QJ,QK,s0v,s1,AJ,AD,AH,u1,u2,W1 hw,hf,W3,W4 g2,W1 g3]
 by_cases g4:(4:Int)<(cells.length:Int)
 ·simp only[eZ,seval,W3,W0,c6,QJ,QK,s0v,s1,AJ,AD,AH,u1,u2,W1 hw,hf,W3,W4 g2,W4 g3,W1 g4]
 by_cases g5:(10:Int)<(letters.length:Int)
 ·simp only[eZ,seval,W3,W0,c6,QJ,QK,s0v,s1,AJ,AD,AH,u1,u2,W1 hw,hf,W3,W4 g2,W4 g3,W4 g4,W1 g5]
 simp only[eZ,seval,W3,W0,c6,QJ,QK,s0v,s1,AJ,AD,AH,u1,u2,W1 hw,hf,W3,W4 g2,W4 g3,W4 g4,W4 g5]
 have hq:few q.cs/\few q.ls:=⟨show q.cs.length<_ by omega,show q.ls.length<_ by omega⟩
 have hl:few letters:=by show letters.length<_;omega
 have hc:few cells:=by show cells.length<_;omega
 refine AL (λi:Nat=>⟨[(2,true,eIs letters),(3,true,eIs cells),(4,true,.int .u8 d7),(5,true,.ptr 0 0),(6,true,.ptr 1 0),(48,true,eIs cells),(49,true,.int .i64 cells.length),(50,true,.int .i64 i)],Hkq k q,3⟩) (λi=>i<=cells.length/\∀(j:Nat) s,j<i->cells[j]?=some s->0<=s) (λi=>cells.length-i) 0 rfl ⟨Wz _,λj s h=>zo⟩ ?_
 rintro i ⟨hi,i5⟩
 by_cases c5:i<cells.length
 ·have hg:=W2 c5
  have e:=AE (k:=i) zo
  generalize cells[i]=s at hg
  by_cases c1:s<0
  ·simp only[eZ,seval,eY,c1,lt_T c5,hg]
  simp only[eZ,seval,eY,lt_T c5,hg,W4 c1,e]
  refine .mk (i+1) rfl ⟨c5,λj t hj ht=>?_⟩ zo
  by_cases w:j<i
  ·exact i5 j t w ht
  ·obtain rfl:j=i:=zo
   rw[hg]at ht;cases ht;omega
 obtain rfl:i=cells.length:=zo
 have hge:∀s∈cells,0<=s:=λs hs=>by
  obtain⟨j,hj,rfl⟩:=Xq.1 hs
  exact i5 j _ hj (W2 hj)
 have r1:∀H,rdL H (eIs cells)=cells:=λH=>Hy (.inl ⟨_,rfl,.inl rfl⟩)
 have r2:∀H,RdI H (eIs cells) cells=True:=λH=>W1 (.inl ⟨_,rfl,.inl rfl⟩)
 rcases Ld k q letters cells with⟨e,he,m7⟩|⟨m7,h0,hl1,hl3,hc1,hc4,hdf,hany,hcd⟩
 ·simp only[eZ,seval,W3,W7,eY,lt_F c5,AJ,AD,AH,S3,Tlc_d,JR,s4,u1,u2,v1,v2,W1 hq,Ad,AY,W1 hl,W1 hc,r1,r2,m7,W1 hR,W4 he]
 have hrng:∀s∈cells,0<=s/\s<(k.d.syms.length:Int):=λs hs=>⟨hge s hs,by
  have:=YD.1 hany s hs
  simp only[Xi,W8,not_or]at this
  omega⟩
 have hcn:=NQ hcd
 have hsa:SaOK k q letters cells:=⟨zo,zo,by
   have:=JL hcn.cs
   rcases hcn.kind with h|h|h|h|h<;>omega,λc hcc=>by
   have:=X8.1 (DO hcn.cs) c hcc
   simpa only[W5,W8]using this,λc hcc=>by
   have:=X8.1 (DO hcn.ls) c hcc
   simpa only[W5,W8]using this,hrng,En h0,λh3=>by
   rcases hcn.kind with⟨z,-⟩|⟨z,-⟩|⟨-,z,-⟩|⟨z,-⟩|⟨z,-⟩<;>first|exact z|omega⟩
 have hsat:CV (AV k) q letters cells= !satL (AV k) q.k q.n (q.ls.map (at0 letters)) (q.cs.map (at0 cells)):=by
  refine QF (λs hs=>?_) ?_ λh3=>by rw[W0];exact hsa.h3 h3
  ·obtain⟨c,hc,rfl⟩:=XB.1 hs
   obtain⟨a,b⟩:=hsa.ci c hc
   exact hge _ (Xw (BE a b))
  ·have l5:=(CL.1 hdf).2
   have hn2:=(CL.1 hcn.ls).2
   refine YT.2 (List.Pairwise.imp_of_mem (λ{a b} ha hb o6 e=>o6 ?_) hn2)
   obtain⟨a0,a1⟩:=hsa.li a ha
   obtain⟨b0,b1⟩:=hsa.li b hb
   have ga:=BE a0 a1
   have gb:=BE b0 b1
   rw[e,<-gb]at ga
   have:=(List.getElem?_inj zo l5).1 ga
   omega
 have d9:cells.map eI≠[]:=λe=>by rw[List.map_eq_nil_iff]at e;rw[e]at hc1;simp at hc1
 simp only[eZ,seval,W3,eY,lt_F c5,AJ,AD,AH,S3,Tlc_d,JR,s4,u1,u2,v1,v2,W1 hq,Ad,AY,W1 hl,W1 hc,r1,r2,m7,W1 hR,CO]
 refine⟨AZ zo zd,zo,λq=>absurd q d9,λ_ cap hcap=>?_⟩
 simp only[eE,eN,seval,EI]
 have hRR:List.replicate (cap-cells.length) (Fs.int .i64 0)=(List.replicate (cap-cells.length) (0:Int)).map eI:=by rw[YI]
 rw[hRR]
 generalize List.replicate (cap-cells.length) (0:Int)=rest
 generalize d6:CV (AV k) q letters cells=all at hsat m7
 refine AL (λv:V6=>⟨[(2,true,eIs letters),(3,true,eIs cells),(4,true,.int .u8 d7),(5,true,.ptr 0 0),(6,true,.ptr 1 0),(13,true,.bool all),(17,true,.ref 5 1 0 cells.length cap),(91,true,.int .i64 cells.length),(92,true,.int .i64 v.i)],hset (Hkq k q) 5 (.arr 1 (v.L.map eI++rest.map eI)),7⟩) (I6 cells) (λv=>cells.length-v.i) ⟨0,cells⟩ rfl ⟨Wz _,rfl,λj s hs=>.inr hs⟩ ?_
 rintro⟨i,L⟩ ⟨hi6,hlen,hel⟩
 simp only at hi6 hlen hel
 by_cases hi7:i<cells.length
 ·have e:=AE (k:=i) zo
  have z0:(0<=(i:Int))=True:=W1 zo
  have z1:((i:Int)<(cells.length:Int))=True:=W1 zo
  have u0:i<L.length:=zo
  have hst:(L.map eI++rest.map eI).set i (.int .i64 (-1))=(L.set i (-1)).map eI++rest.map eI:=by
   rw[Z3 _ _ (by rw[W0];exact u0),List.map_set]
  have hlt2:i<(L.map eI++rest.map eI).length:=by rw[Xb,W0];omega
  simp only[eZ,seval,lt_T hi7,z0]
  rw[cK_i]
  refine⟨λhB=>?_,λhB=>?_⟩
  ·simp only[eZ,seval,X1,z0,z1,hlt2,AN,hst,e]
   refine .mk ⟨i+1,L.set i (-1)⟩ rfl ⟨hi7,by simp only[];rw[YS];exact hlen,λj t ht=>?_⟩ zp
   simp only[]at ht
   rw[List.getElem?_set]at ht
   split at ht
   ·cases ht;exact .inl rfl
   ·exact hel j t ht
  ·simp only[eE,eN,seval,e]
   exact .mk ⟨i+1,L⟩ rfl ⟨hi7,hlen,hel⟩ zp
 obtain rfl:i=cells.length:=zo
 have r3:∀H,rdL (hset H 5 (.arr 1 (L.map eI++rest.map eI))) (.ref 5 1 0 cells.length cap)=L:=λH=>by
  simp only[rdL,AB]
  rw[<-hlen,Zt (by rw[W0]),As]
 have r4:∀H,RdI (hset H 5 (.arr 1 (L.map eI++rest.map eI))) (.ref 5 1 0 cells.length cap) L=True:=λH=>W1 (.inr ⟨5,cap,rest,by rw[hlen],by rw[AB,X2],by rw[hlen];exact hcap⟩)
 have hLl:few L:=by show L.length<_;omega
 have hLr:∀s∈L,-1<=s/\s<(k.d.syms.length:Int):=λs hs=>by
  obtain⟨j,hj,rfl⟩:=Xq.1 hs
  have hsy:=CE h0
  rcases hel j _ (W2 hj)with q|q
  ·rw[q];omega
  ·have:=hrng _ (Xw q);omega
 have hcl2:Ck k q letters L= .tup [.bool (CV (AV k) q letters L),.int .i64 0]:=QL h0 ⟨hl1,hl3⟩ ⟨zo,zo⟩ hdf hLr (by rw[hlen];exact hcd)
 have hpart:CV (AV k) q letters L=true->all=true:=λhp=>by
  rw[<-d6]
  exact Oy (R5 (S2 hlen hel hge) λc hcc=>by rw[hlen];exact hsa.ci c hcc) hp
 have hsq:satL (AV k) q.k q.n (q.ls.map (at0 letters)) (q.cs.map (at0 cells))= !all:=by rw[hsat,Bool.not_not]
 cases hp:CV (AV k) q letters L with
 |true=>
  rw[hp]at hcl2
  obtain rfl:=hpart hp
  simp only[eZ,seval,W3,W7,eY,lt_F hi7,AJ,AD,AH,S3,Tlc_s,JR,s4,u1,u2,v1,v2,W1 hq,Ad,AY,W1 hl,r3,r4,W1 hLl,hcl2,W1 hsa,hsq]
 |false=>
  rw[hp]at hcl2
  cases all<;>
  simp only[eZ,seval,W3,W7,eY,lt_F hi7,AJ,AD,AH,S3,Tlc_s,JR,s4,u1,u2,v1,v2,W1 hq,Ad,AY,W1 hl,r3,r4,W1 hLl,hcl2,W1 hsa,hsq]
end
end Go.AM
