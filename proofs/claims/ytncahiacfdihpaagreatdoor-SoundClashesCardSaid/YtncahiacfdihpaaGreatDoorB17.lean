/-
  Parts of the proof. Conditions: none.
-/
import Derived.Test.YtncahiacfdihpaaGreatDoorB16
set_option maxRecDepth 20000
set_option linter.all false
namespace Go.AM
open Go.Lib Go.Proofs Go.Proofs.Tryz
def p63(l:List Int)(s:Int)(hl:few l):Pur prog 63 [eIs l,eI s] (.bool (l.contains s)):=by
 refine .mk ⟨AR 0 l,trivial,trivial⟩ trivial (c63.a (AF AI.tnil (AG ?_)));have m9:l.length<1000000000:=hl;simp only[eE,eN,seval,c63];refine AL (λi:Nat=>⟨[(0,true,eIs l),(1,true,eI s),(5,true,.int .i64 i)],hnil,0⟩) (λi=>i<=l.length/\∀(j:Nat) q,j<i->l[j]?=some q->q≠s) (λi=>l.length-i) 0 rfl ⟨Wz _,λj q h=>zo⟩ ?_;rintro i ⟨hi,d6⟩;by_cases c5:i<l.length
 ·have e:=AE (k:=i) zo;have hg:=W2 c5;have hm:=X5 c5;generalize l[i]=q at hg hm;by_cases hq:q=s
  ·rw[show l.contains s=true from Xs.2 (hq▸hm)];simp only[eZ,seval,eY,lt_T c5,hg,W1 hq]
  simp only[eZ,seval,eY,lt_T c5,hg,W4 hq,e];refine .mk (i+1) rfl ⟨c5,λj y hj hy=>?_⟩ zo;by_cases w:j<i
  ·exact d6 j y w hy
  ·obtain rfl:j=i:=zo
   rw[hg]at hy;cases hy;exact hq
 obtain rfl:i=l.length:=zo
 have:l.contains s=false:=by
  rw[YL];intro hc;obtain⟨j,hj,hjs⟩:=Xq.1 (Xs.1 hc);exact d6 j _ hj (W2 hj) hjs
 rw[this];simp only[eZ,seval,W0,lt_F c5]
structure IPs(l cells:List Int)(v:VPl):Prop where
 hj:v.j<=l.length
 fr:AQ v.H v.n
 tok:tkG 1 0 v.H v.tk
 es:v.tk.esz=1\/(l.take v.j).map (at0 cells)=[]
def p78(l cells:List Int)(hl:few l)(hc:∀c∈l,0<=c/\c<(cells.length:Int)):Pur prog 78 [eIs l,eIs cells] (eIs (l.map (at0 cells))):=by
 refine .mk ⟨AR 0 l,AR 0 cells,trivial⟩ (AR 0 _) (c78.a (AF AI.tnil (AG ?_)));have m9:l.length<1000000000:=hl;simp only[eE,eN,seval,c78];refine AL (λv:VPl=>⟨[(0,true,eIs l),(1,true,eIs cells),(5,true,.sl v.tk (((l.take v.j).map (at0 cells)).map eI)),(6,true,.int .i64 v.j)],v.H,v.n⟩) (IPs l cells) (λv=>l.length-v.j) ⟨0,.exact 1,hnil,0⟩ rfl ⟨Wz _,AQ.nil,.inr (.inl rfl),.inl rfl⟩ ?_;rintro⟨j,tk,H,n⟩ ⟨hj,hf,c8,d8⟩;simp only at hj hf c8 d8;by_cases hlj:j<l.length;case neg=>
  obtain rfl:j=l.length:=zo
  rw[X4]at d8;simp only[eZ,seval,W0,lt_F hlj];rw[X4];exact Wk.sl (d8.imp id λq=>by rw[q];rfl)
 have hg:=W2 hlj;have e:=AE (k:=j) zo;have hci:=hc _ (X5 hlj);have htake:l.take (j+1)=l.take j++[l[j]]:=by rw[X7,hg];rfl
 generalize l[j]=y at hg hci htake;have hgx:=BE hci.1 hci.2;have hX:((l.take j).map (at0 cells)).length<=j:=by simp;omega
 have q1:A8 H 1 tk=True:=W1 c8.app;have q2:(((l.take j).map (at0 cells)).length<=35184372088831)=True:=W1 zo;have q3:Aj (((l.take j).map (at0 cells)).length+1) 8=True:=W1 (AZ zo zd);generalize hXd:(l.take j).map (at0 cells)=X at hX q2 q3 d8;simp only[eZ,seval,eY,lt_T hlj,hg,W1 hci.1,W1 hci.2,hgx,q1,q2,q3,fr1 hf,e];refine .mk ⟨j+1,.own (n+9) 1,hset (AP H tk) (n+9) .tok,n+11⟩ ?_ ⟨hlj,(AU c8 hf).hset (m:=n+11) zo zo,.inr (.inr ⟨n+9,rfl,Wz _,AB ..⟩),.inl rfl⟩ zp;simp only[htake,X2,Xh,Xp,hXd]
def p79(k:z8)(s:Int)(h:okSy k s):Pur prog 79 [Bj k,eI s] (eI (at0 (AV k) s)):=by
 refine .mk ⟨Ag 0 k,trivial,trivial⟩ trivial (c79.a (AF AI.tnil (AG ?_)));have c5:s.toNat<k.d.syms.length:=by have:=h.1;have:=h.2;omega
 have hg:=W2 c5;rw[FU hg];generalize k.d.syms[s.toNat]=y at hg;simp only[eE,eN,seval,eY,c79,AJ,AD,AH,W1 h.1,W1 h.2,hg]
def JP(k:z8):List Fs->AC->Prop×Fs:=λa _=>match a with
 |[K,.int .i64 s]=>(dKn.ok K/\dKn.dec K=k/\okSy k s,eI (at0 (AV k) s))
 |_=>(False,.tup [])
def Ue(k:z8):∀args H n,(JP k args H).1->Am prog 79 args H n (JP k args H).2:=by
 intro args H n hh;unfold JP at hh⊢;split at hh
 ·obtain⟨h1,h2,h3⟩:=hh;have w1:=dKn.wk _ h1;rw[h2]at w1;refine AO.args ((p79 k _ h3).quiet H n) ?_;rintro g vs ⟨v,r,rfl,k1,k2⟩;exact⟨v,_,rfl,w1 _ _ k1,k2⟩
 ·exact hh.elim
def Tva(k:z8):Tab:=tadd 79 (JP k) tnil
def Tva_ok(k:z8):AI prog (Tva k):=AI.tnil.add (Ue k)
def Gi{k:z8}(hv:∀y∈k.d.syms,0<=y.v/\y.v<=99){s:Int}(h:okSy k s):0<=at0 (AV k) s/\at0 (AV k) s<=99:=by
 have c5:s.toNat<k.d.syms.length:=by have:=h.1;have:=h.2;omega
 rw[FU (W2 c5)];exact hv _ (X5 c5)
def p80(k:z8)(s t:Int)(hv:∀y∈k.d.syms,0<=y.v/\y.v<=99)(hs:okSy k s)(ht:okSy k t):Pur prog 80 [Bj k,eI s,eI t] (eI (J3 (AV k) s t)):=by
 have u1:dKn.ok (.agg (AJ k))=True:=DW k;have u2:dKn.dec (.agg (AJ k))=k:=CJ k;simp only[AJ,AD,AH,Xm,Xl]at u1 u2;refine .mk ⟨Ag 0 k,trivial,trivial,trivial⟩ trivial (c80.a (AF (Tva_ok k) (AG ?_)));have r1:=Gi hv hs;have r2:=Gi hv ht;unfold J3;generalize hx:at0 (AV k) s=x at r1;generalize hy:at0 (AV k) t=y at r2;have w1:IntKind.wrap .i64 (x-y)=x-y:=An zo zo;have w2:IntKind.wrap .i64 (y-x)=y-x:=An zo zo;simp only[eE,eN,seval,c80,AJ,AD,AH,Tva,JP,u1,u2,W1 hs,W1 ht,hx,hy,w1,w2,tadd]
 done
section
def N7(k:z8):List Fs->AC->Prop×Fs:=λa _=>match a with
 |[K,.int .i64 s,.int .i64 t]=>(dKn.ok K/\dKn.dec K=k/\okSy k s/\okSy k t,eI (J3 (AV k) s t))
 |_=>(False,.tup [])
def rowApq{k:z8}(hv:∀y∈k.d.syms,0<=y.v/\y.v<=99):∀args H n,(N7 k args H).1->Am prog 80 args H n (N7 k args H).2:=by
 intro args H n hh;unfold N7 at hh⊢;split at hh
 ·obtain⟨h1,h2,h3,h4⟩:=hh;have w1:=dKn.wk _ h1;rw[h2]at w1;refine AO.args ((p80 k _ _ hv h3 h4).quiet H n) ?_;rintro g vs ⟨v,r,rfl,k1,k2⟩;exact⟨v,_,rfl,w1 _ _ k1,k2⟩
 ·exact hh.elim
def rowSm:List Fs->AC->Prop×Fs:=s2 dIs dIs (λl cells=>few l/\∀c∈l,0<=c/\c<(cells.length:Int)) λl cells=>eIs (l.map (at0 cells))
def rowHs:List Fs->AC->Prop×Fs:=s2 dIs dI (λl _=>few l) λl s=>.bool (l.contains s)
def Tks'(k:z8):Tab:=tadd 78 rowSm (tadd 63 rowHs (tadd 79 (JP k) (tadd 80 (N7 k) tnil)))
def Vs{k:z8}(hv:∀y∈k.d.syms,0<=y.v/\y.v<=99):AI prog (Tks' k):=(((AI.tnil.add (rowApq hv)).add (Ue k)).add (q2 λl s h=>p63 l s h)).add (q2 λl c h=>p78 l c h.1 h.2)
theorem QA(k:z8)(a:List Fs)(H:AC):Tks' k 78 a H=s2 dIs dIs (λl cells=>few l/\∀c∈l,0<=c/\c<(cells.length:Int)) (λl cells=>eIs (l.map (at0 cells))) a H:=rfl
theorem QB(k:z8)(a:List Fs)(H:AC):Tks' k 63 a H=s2 dIs dI (λl _=>few l) (λl s=>.bool (l.contains s)) a H:=rfl
theorem Uf(k:z8)(a:List Fs)(H:AC):Tks' k 79 a H=JP k a H:=rfl
theorem Tks'_a(k:z8)(a:List Fs)(H:AC):Tks' k 80 a H=N7 k a H:=rfl
variable {l:List Int} {i:Nat}
theorem N8{bad:Int->Int->Bool}(h:i<l.length):Au bad (l.drop i)=(((l.drop (i+1)).any λb=>decide (0<=l[i])&&decide (0<=b)&&bad l[i] b)||Au bad (l.drop (i+1))):=by
 rw[Xj h,Au]
theorem badR_k{vals:List Int}{k a b:Int}(h1:k≠1)(h4:k≠4):badR vals k a b=false:=by unfold badR;simp [h1,h4]
theorem Sy{ls:List Int}{s:Int}(h:l[i]?=some s):cOwn ls (l.take (i+1))=cOwn ls (l.take i)+if(decide (0<=s)&&ls.contains s)=true then 1 else 0:=by
 rw[X7,h];exact Pm ..
theorem Sz{ls:List Int}{s:Int}(h:l[i]?=some s):cOth ls (l.take (i+1))=cOth ls (l.take i)+if(decide (0<=s)&& !ls.contains s)=true then 1 else 0:=by
 rw[X7,h];exact Pn ..
abbrev Hcq(k:z8)(q:Cnd):AC:=hset (hset hnil 0 (.box (AJ k))) 1 (.box (Pq q))
abbrev eCq(letters l:List Int)(all:Bool)(ow ot:Nat)(rest:List (Nat×Bool×Fs)):List (Nat×Bool×Fs):=[(2,true,eIs letters),(4,true,.ptr 0 0),(5,true,.ptr 1 0),(9,true,eIs l),(10,true,.bool all),(11,true,.int .i64 ow),(12,true,.int .i64 ot)]++rest
set_option maxHeartbeats 1000000 in
theorem p44R(k:z8)(q:Cnd)(letters cells:List Int)(h:ClOK k q letters cells)(hge:∀s∈cells,-1<=s)(h3:q.k=3->q.cs.length=2):
  Pur prog 44 [Bj k,encQ q,eIs letters,eIs cells] (.bool (IJ (AV k) q.k q.n (q.ls.map (at0 letters)) (q.cs.map (at0 cells)))):=by
 have u1:dKn.ok (.agg (AJ k))=True:=DW k;have u2:dKn.dec (.agg (AJ k))=k:=CJ k;simp only[AJ,AD,AH,Xm,Xl]at u1 u2;refine .mk ⟨Ag 0 k,B3 0 q,AR 0 _,AR 0 _,trivial⟩ trivial (c44.a (AF (Vs h.vl) (AG ?_)));have t5:q.cs.length<1000000000:=h.cs;have f1:(few q.cs/\∀c∈q.cs,0<=c/\c<(cells.length:Int))=True:=W1 ⟨h.cs,h.ci⟩;have f2:(few q.ls/\∀c∈q.ls,0<=c/\c<(letters.length:Int))=True:=W1 ⟨h.ls,h.li⟩;have f3:few (q.cs.map (at0 cells))=True:=W1 (by show(q.cs.map (at0 cells)).length<_;rw[W0];exact t5);have f4:few (q.ls.map (at0 letters))=True:=W1 (by show(q.ls.map (at0 letters)).length<_;rw[W0];exact h.ls);have i4:∀s∈q.cs.map (at0 cells),0<=s->okSy k s:=λs hs h0=>by
  obtain⟨c,hc,rfl⟩:=XB.1 hs;have:=h.ci c hc;exact h.sy _ (Xw (BE this.1 this.2)) h0
 have hml:∀s∈q.cs.map (at0 cells),-1<=s:=λs hs=>by
  obtain⟨c,hc,rfl⟩:=XB.1 hs;have:=h.ci c hc;exact hge _ (Xw (BE this.1 this.2))
 have s5:(q.cs.map (at0 cells)).length=q.cs.length:=W0 ..;have hk:=h.kind;have hn:=h.n;simp only[eE,eN,seval,c44,QA,QB,s2,Ad,AY,A0,Ah,f1,f3];generalize q.cs.map (at0 cells)=l at f3 i4 hml s5;generalize t8:q.ls.map (at0 letters)=ls at f4;have m9:l.length<1000000000:=zo
 obtain⟨bad,i8⟩:∃bad,badR (AV k) q.k=bad:=⟨_,rfl⟩;refine AL (λi:Nat=>⟨eCq letters l (!l.contains (-1)) (cOwn ls (l.take i)) (cOth ls (l.take i)) [(13,true,.int .i64 i)],Hcq k q,3⟩) (λi=>i<=l.length/\Au bad l=Au bad (l.drop i)) (λi=>l.length-i) 0 rfl ⟨Wz _,rfl⟩ ?_;rintro i ⟨hi,hp⟩;by_cases c5:i<l.length;case neg=>
  obtain rfl:i=l.length:=zo
  rw[Xv,Au]at hp;rw[X4];unfold IJ;rw[i8,hp,Y3];unfold endR;have lo:=Po ls l;by_cases k2:q.k=2
  ·rw[X0 k2];cases hc:l.contains (-1)with
   |true=>simp only[eZ,seval,W3,W0,lt_F c5,W1 k2,W3]
   |false=>
    simp only[eZ,seval,W7,W0,lt_F c5,W1 k2,W7];exact decide_eq_decide.2 zo
  rw[W6 k2];by_cases k3:q.k=3
  ·rw[X0 k3];cases hc:l.contains (-1)with
   |true=>simp only[eZ,seval,W3,eY,lt_F c5,W4 k2,W1 k3,W3]
   |false=>
    have hge':∀s∈l,okSy k s:=λs hs=>i4 s hs (by
     have hnc:¬(-1:Int)∈l:=λq=>by rw[Xs.2 q]at hc;cases hc
     have hm1:=hml s hs;by_cases e:s= -1
     ·subst e;exact absurd hs hnc
     ·omega)
    have hl2:l.length=2:=by have:=h3 k3;omega
    obtain⟨a,hg0⟩:∃a,l[0]?=some a:=⟨_,W2 zo⟩;obtain⟨b,hg1⟩:∃b,l[1]?=some b:=⟨_,W2 zo⟩;have ha:=hge' a (Xw hg0);have hb:=hge' b (Xw hg1);have i0:((0:Int)<(l.length:Int))=True:=W1 zo;have i1:((1:Int)<(l.length:Int))=True:=W1 zo;have j0:(0<l.length)=True:=W1 zo;have j1:(1<l.length)=True:=W1 zo;rw[hg0,hg1,X6,X6,W7,Yc];simp only[eZ,seval,eY,lt_F c5,W4 k2,W1 k3,i0,i1,hg0,hg1,AJ,AD,AH,Tks'_a,N7,u1,u2,W1 ha,W1 hb]
  rw[W6 k3];by_cases k6:q.k=6
  ·rw[X0 k6];have w:=An (x:=(l.length:Int)-q.n) zo zo;by_cases c1':q.n<(cOwn ls l:Int)
   ·rw[Xf c1',Zg];simp only[eZ,seval,W3,W0,lt_F c5,W4 k2,W4 k3,W1 k6,W1 c1']
   ·rw[X9 c1',Y3];simp only[eZ,seval,W0,lt_F c5,W4 k2,W4 k3,W1 k6,W4 c1',w]
  ·rw[W6 k6];simp only[eZ,seval,W0,lt_F c5,W4 k2,W4 k3,W4 k6]
 have hg:=W2 c5;have hd:=N8 (bad:=bad) c5;have hsy:=i4 _ (X5 c5);generalize l[i]=a at hg hd hsy;have ho1:=Sy (ls:=ls) hg;have ho2:=Sz (ls:=ls) hg;have e0:=AE (k:=i) zo;have lo1:=Po ls (l.take i);have lo2:=UP ls (l.take i);rw[Xg]at lo1 lo2;have eo1:=AE (k:=cOwn ls (l.take i)) zo;have eo2:=AE (k:=cOth ls (l.take i)) zo;obtain⟨P,hP⟩:∃P:Int->Bool,(λb=>decide (0<=a)&&decide (0<=b)&&bad a b)=P:=⟨_,rfl⟩;have hPb:∀b,P b=(decide (0<=a)&&decide (0<=b)&&bad a b):=λb=>by rw[<-hP]
 rw[hP]at hd;simp only[eZ,seval,W0,lt_T c5,e0];refine AL (λj:Nat=>⟨eCq letters l (!l.contains (-1)) (cOwn ls (l.take i)) (cOth ls (l.take i)) [(13,true,.int .i64 i),(14,true,.int .i64 j)],Hcq k q,3⟩) (λj=>i+1<=j/\j<=l.length/\((l.drop (i+1)).any P)=((l.drop j).any P)) (λj=>l.length-j) (i+1) rfl ⟨W9 _,c5,rfl⟩ ?_;rintro j ⟨hj1,hj2,hany⟩;by_cases hlj:j<l.length;case neg=>
  obtain rfl:j=l.length:=zo
  rw[Xv,List.any_nil]at hany;rw[hany,Y3]at hd;have fin:i+1<=l.length/\Au bad l=Au bad (l.drop (i+1)):=⟨c5,hp.trans hd⟩;by_cases h0:0<=a
  ·rw[Xf h0,Yc]at ho1 ho2;cases hc:ls.contains a with
   |true=>
    simp only[hc,W3,XG,Xo,Xd,Yf]at ho1 ho2;simp only[eZ,seval,eY,lt_F hlj,hg,lt_T c5,W1 h0,QA,QB,s2,Ad,AY,A0,Ah,f2,f4,t8,hc,e0,eo1];exact .mk (i+1) (by simp only[ho1,ho2]) fin zo
   |false=>
    simp only[hc,W7,XG,Xo,Xd,Yf]at ho1 ho2;simp only[eZ,seval,eY,lt_F hlj,hg,lt_T c5,W1 h0,QA,QB,s2,Ad,AY,A0,Ah,f2,f4,t8,hc,e0,eo2];exact .mk (i+1) (by simp only[ho1,ho2]) fin zo
  ·simp only[X9 h0,YC,Xo,Xd,Yf]at ho1 ho2;simp only[eZ,seval,eY,lt_F hlj,hg,lt_T c5,W4 h0,e0];exact .mk (i+1) (by simp only[ho1,ho2]) fin zo
 have hgj:=W2 hlj;have hdj:=Xj hlj;have hsj:=i4 _ (X5 hlj);generalize l[j]=b at hgj hdj hsj;rw[hdj,Za]at hany;have ej:=AE (k:=j) zo;have fin:P b=false->(i+1<=j+1/\j+1<=l.length/\((l.drop (i+1)).any P)=((l.drop (j+1)).any P)):=λhf=>by
  rw[hf,Y3]at hany;exact⟨zo,hlj,hany⟩
 have res:P b=true->IJ (AV k) q.k q.n ls l=true:=λhf=>by
  rw[hf,Zg]at hany;unfold IJ;rw[i8,hp,hd,hany,Zg,Zg]
 by_cases h0a:0<=a;case neg=>
  have hf:=fin (by rw[hPb,X9 h0a];rfl);by_cases k1:q.k=1
  ·simp only[eZ,seval,eY,lt_T hlj,hgj,lt_T c5,hg,W4 h0a,W1 k1,show(q.k=4)=False from W4 zo,ej];exact .mk (j+1) rfl hf zo
  by_cases k4:q.k=4
  ·simp only[eZ,seval,eY,lt_T hlj,hgj,lt_T c5,hg,W4 h0a,W4 k1,W1 k4,ej];exact .mk (j+1) rfl hf zo
  ·simp only[eZ,seval,eY,lt_T hlj,hgj,lt_T c5,hg,W4 h0a,W4 k1,W4 k4,ej];exact .mk (j+1) rfl hf zo
 by_cases h0b:0<=b;case neg=>
  have hf:=fin (by rw[hPb,X9 h0b,YW];rfl);by_cases k1:q.k=1
  ·simp only[eZ,seval,eY,lt_T hlj,hgj,lt_T c5,hg,W1 h0a,W4 h0b,W1 k1,show(q.k=4)=False from W4 zo,ej];exact .mk (j+1) rfl hf zo
  by_cases k4:q.k=4
  ·simp only[eZ,seval,eY,lt_T hlj,hgj,lt_T c5,hg,W1 h0a,W4 h0b,W4 k1,W1 k4,ej];exact .mk (j+1) rfl hf zo
  ·simp only[eZ,seval,eY,lt_T hlj,hgj,lt_T c5,hg,W1 h0a,W4 h0b,W4 k1,W4 k4,ej];exact .mk (j+1) rfl hf zo
 have oa:=hsy h0a;have ob:=hsj h0b;by_cases k1:q.k=1
 ·by_cases o6:a=b
  ·rw[res (by rw[hPb,Xf h0a,Xf h0b,<-i8];unfold badR;simp [k1,o6])];simp only[eZ,seval,eY,lt_T hlj,hgj,lt_T c5,hg,W1 h0a,W1 h0b,W1 k1,W1 o6]
  ·have hf:=fin (by rw[hPb,<-i8];unfold badR;simp [k1,o6]);simp only[eZ,seval,eY,lt_T hlj,hgj,lt_T c5,hg,W1 h0a,W1 h0b,W1 k1,W4 o6,show(q.k=4)=False from W4 zo,ej];exact .mk (j+1) rfl hf zo
 by_cases k4:q.k=4
 ·by_cases o6:at0 (AV k) b<=at0 (AV k) a
  ·rw[res (by rw[hPb,Xf h0a,Xf h0b,<-i8];unfold badR;simp [k4,o6])];simp only[eZ,seval,eY,lt_T hlj,hgj,lt_T c5,hg,W1 h0a,W1 h0b,W4 k1,W1 k4,AJ,AD,AH,Uf,JP,u1,u2,W1 oa,W1 ob,W1 o6]
  ·have hf:=fin (by rw[hPb,<-i8];unfold badR;simp [k4,o6]);simp only[eZ,seval,eY,lt_T hlj,hgj,lt_T c5,hg,W1 h0a,W1 h0b,W4 k1,W1 k4,AJ,AD,AH,Uf,JP,u1,u2,W1 oa,W1 ob,W4 o6,ej];exact .mk (j+1) rfl hf zo
 ·have hf:=fin (by rw[hPb,<-i8,badR_k k1 k4,YW]);simp only[eZ,seval,eY,lt_T hlj,hgj,lt_T c5,hg,W1 h0a,W1 h0b,W4 k1,W4 k4,ej];exact .mk (j+1) rfl hf zo
theorem p44(k:z8)(q:Cnd)(letters cells:List Int)(h:ClOK k q letters cells)(hge:∀s∈cells,-1<=s)(h3:q.k=3->q.cs.length=2):
  Pur prog 44 [Bj k,encQ q,eIs letters,eIs cells] (.bool (CV (AV k) q letters cells)):=by
 refine(p44R k q letters cells h hge h3).all ?_;unfold CV;rw[PP]
 ·intro s hs;obtain⟨c,hc,rfl⟩:=XB.1 hs;have:=h.ci c hc;exact hge _ (Xw (BE this.1 this.2))
 ·intro hk;rw[W0];exact h3 hk
end
structure VPy where
 i:Nat
 tk:jz
 H:AC
 n:Nat
structure LsG(e:Nat)(Ls:List (List Int))(E:List Fs)(tk:jz)(H:AC)(n:Nat):Prop where
 fr:AQ H n
 tok:tkG 1 0 H tk
 es:tk.esz=1\/E=[]
 wk:Wks E (Ls.map eIs)
structure VLs where
 i:Nat
 E:List Fs
 tk:jz
 H:AC
 n:Nat
section
structure PrC(k:z8)(x:jq)(letters:List Int):Prop where
 ck:BG k=0
 fd:qk k.d
 fx:FewL x
 ox:OKL x
 lt:letters∈chs k.d.syms.length x.ls.length
variable {k:z8} {letters:List Int} {x:jq}
structure ClP(k:z8)(x:jq)(cells:List Int):Prop where
 cl:ClC k x cells
 ge:∀s∈cells,-1<=s
structure KlOK(k:z8)(q:Cnd)(letters cells:List Int):Prop where
 cl:ClOK k q letters cells
 ge:∀s∈cells,-1<=s
 h3:q.k=3->q.cs.length=2
def N9(k:z8):List Fs->AC->Prop×Fs:=λa _=>match a with
 |[K,Q,a1,a2]=>(dKn.ok K/\dKn.dec K=k/\dQ.ok Q/\dIs.ok a1/\dIs.ok a2/\KlOK k (dQ.dec Q) (dIs.dec a1) (dIs.dec a2),.bool (CV (AV k) (dQ.dec Q) (dIs.dec a1) (dIs.dec a2)))
 |_=>(False,.tup [])
theorem rowKlq(k:z8):∀args H n,(N9 k args H).1->Am prog 44 args H n (N9 k args H).2:=by
 intro args H n hh;unfold N9 at hh⊢;split at hh
 ·obtain⟨h1,h2,h3,h4,h5,h6⟩:=hh;have w1:=dKn.wk _ h1;rw[h2]at w1;refine AO.args ((p44 k _ _ _ h6.cl h6.ge h6.h3).quiet H n) ?_;rintro g vs ⟨v1,r1,rfl,k1,v2,r2,rfl,k2,v3,r3,rfl,k3,v4,r4,rfl,k4,k5⟩;exact⟨v1,_,rfl,w1 _ _ k1,v2,_,rfl,dQ.wk _ h3 _ _ k2,v3,_,rfl,dIs.wk _ h4 _ _ k3,v4,_,rfl,dIs.wk _ h5 _ _ k4,k5⟩
 ·exact hh.elim
structure BgC(x:jq)(letters:List Int):Prop where
 fx:few x.cs
 c:0<=x.c/\x.c<(x.cs.length:Int)
 l:0<=x.l/\x.l<(letters.length:Int)
structure IBg(x:jq)(v:VPy):Prop where
 hi:v.i<=x.cs.length
 hn:2<=v.n
 fr:AQ v.H v.n
 h0:hget v.H 0=some (.box (BN x))
 tok:tkG 1 1 v.H v.tk
 es:v.tk.esz=1\/v.i=0
end
structure RfK(k:z8):Prop where
 kn:FewKr k
 rg:k.d.regs.length<999999000
def RfK.fr{k:z8}(h:RfK k):FewR k.d:=⟨h.kn.d,h.rg⟩
def Vt:List Fs->AC->Prop×Fs:=s1 dKn RfK λk=>.int .i64 (BG k)
def rowKcq:∀args H n,(Vt args H).1->Am prog 22 args H n (Vt args H).2:=q1 λk h=>p22 k h.fr h.kn
structure DnC(p:Prm)(letters cells:List Int):Prop where
 c:0<=p.c/\p.c<(cells.length:Int)
 ls:few p.ls/\∀c∈p.ls,0<=c/\c<(letters.length:Int)
section
variable {k:z8}
theorem wds_rf(h:JO k=true)(hw:WdS k):RfK k:=by
 unfold JO at h;simp only[W5,W8]at h;obtain⟨⟨⟨⟨h1,h2⟩,h3⟩,h4⟩,h5⟩:=h;obtain⟨-,l2⟩:=P6 h1;obtain⟨n1,n2⟩:=G3 h2;have hr:k.d.regs.length<999999000:=by
  unfold JN at h5;simp only[W5,W8]at h5;omega
 exact⟨⟨P4 h5,show k.g.holes.length<_ by omega,show k.g.cells.length<_ by omega,⟨show k.nb.length<_ by omega,λl hl=>show l.length<_ by have:=n2 l hl;omega⟩,hw.ls,
  λl hl=>⟨show l.length<_ by have:=(G3 (l2 l hl)).1;omega,λm hm=>show m.length<_ by have:=(G3 (l2 l hl)).2 m hm;omega⟩⟩,hr⟩
def Tdf:Tab:=tadd 63 (s2 dIs dI (λl _=>few l) λl s=>.bool (l.contains s)) tnil
theorem Tdf_ok:AI prog Tdf:=AI.tnil.add (q2 λl s h=>p63 l s h)
theorem p42(l:List Int)(m:Nat)(hl:few l)(hm:m<=1000):Pur prog 42 [eIs l,eI 0,eI ((m:Int)-1)] (.bool (difI l m)):=by
 refine .mk ⟨AR 0 l,trivial,trivial,trivial⟩ trivial (c42.a (AF Tdf_ok (AG ?_)));have m9:l.length<1000000000:=hl;simp only[eE,eN,seval,c42];refine AL (λi:Nat=>⟨[(0,true,eIs l),(1,true,eI 0),(2,true,eI ((m:Int)-1)),(7,true,.int .i64 i)],hnil,0⟩) (λi=>i<=l.length/\difI (l.take i) m=true) (λi=>l.length-i) 0 rfl ⟨Wz _,by rw[Y5];rfl⟩ ?_;rintro i ⟨hi,hd⟩;by_cases c5:i<l.length;case neg=>
  obtain rfl:i=l.length:=zo
  rw[X4]at hd;rw[hd];simp only[eZ,seval,W0,lt_F c5]
 have hg:=W2 c5;have hm':=X5 c5;have e:=AE (k:=i) zo;have ht:l.take (i+1)=l.take i++[l[i]]:=by rw[X7,hg];rfl
 have hsplit:l=l.take i++l[i]::l.drop (i+1):=by rw[List.getElem_cons_drop,List.take_append_drop]
 generalize l[i]=c at hg hm' ht hsplit;have no:(c<0\/(m:Int)<=c\/c∈l.take i)->difI l m=false:=λq=>by
  cases w:difI l m with
  |false=>rfl
  |true=>
   obtain⟨w1,w2⟩:=CL.1 w;have:=w1 c hm';rw[hsplit,Yj]at w2;rcases q with q|q|q
   ·omega
   ·omega
   ·exact absurd rfl (w2.2.2 c q c zw)
 have f1:few (l.take i)=True:=W1 (by show(l.take i).length<_;rw[Xg];omega);have htm:(l.map eI).take i=(l.take i).map eI:=by rw[List.map_take]
 have k1:dIs.ok (.sl (.none 1) ((l.take i).map eI))=True:=Ad _;have k2:dIs.dec (.sl (.none 1) ((l.take i).map eI))=l.take i:=AY _;have i7:((i:Int)<=(l.length:Int))=True:=W1 zo;by_cases h1:c<0
 ·rw[no (.inl h1)];simp only[eZ,seval,W3,eY,lt_T c5,hg,W1 h1]
 by_cases h2:(m:Int)-1<c
 ·rw[no (.inr (.inl zo))];simp only[eZ,seval,W3,eY,lt_T c5,hg,W4 h1,W1 h2]
 cases h3:(l.take i).contains c with
 |true=>
  rw[no (.inr (.inr (Xs.1 h3)))];simp only[eZ,seval,eY,lt_T c5,hg,W4 h1,W4 h2,Tdf,s2,A0,Ah,f1,h3,i7,htm,k1,k2,tadd]
 |false=>
  simp only[eZ,seval,eY,lt_T c5,hg,W4 h1,W4 h2,Tdf,s2,A0,Ah,f1,h3,i7,htm,k1,k2,e,tadd];refine .mk (i+1) rfl ⟨c5,?_⟩ zo;rw[ht,CL];obtain⟨w1,w2⟩:=CL.1 hd;have h3':c∉l.take i:=λq=>by rw[Xs.2 q]at h3;cases h3
  refine⟨λa ha=>?_,?_⟩
  ·rcases XO.1 ha with q|q
   ·exact w1 a q
   ·rw[XR.1 q];omega
  ·rw[Yj];exact⟨w2,zw,λa ha b hb=>by rw[XR.1 hb];rintro rfl;exact h3' ha⟩
end
def QC(k:z8):Tab:=tadd 22 Vt (tadd 42 (s3 dIs dI dI (λl a b=>few l/\a=0/\ -1<=b/\b<=999) λl a b=>.bool (difI l (b+1).toNat)) (tadd 43 (s3 dQ dI dI (λq n m=>(few q.cs/\few q.ls)/\0<=n/\0<=m) λq n m=>.bool (Bc q n.toNat m.toNat)) (tadd 44 (N9 k) tnil)))
def S0(k:z8):AI prog (QC k):=(((AI.tnil.add (rowKlq k)).add (q3 λq n m h=>by
 obtain⟨j,rfl⟩:∃j:Nat,n=j:=⟨n.toNat,zo⟩;obtain⟨i,rfl⟩:∃j:Nat,m=j:=⟨m.toNat,zo⟩;exact p43 q j i h.1.1 h.1.2)).add (q3 λl a b h=>by
 obtain⟨h1,rfl,h2,h3⟩:=h;have:=p42 l (b+1).toNat h1 zo
 rwa[show(((b+1).toNat:Nat):Int)-1=b by omega]at this)).add rowKcq
section
variable (k:z8) (a:List Fs) (H:AC)
theorem FE:QC k 22 a H=s1 dKn RfK (λk=>.int .i64 (BG k)) a H:=rfl
theorem JQ:QC k 42 a H=s3 dIs dI dI (λl a b=>few l/\a=0/\ -1<=b/\b<=999) (λl a b=>.bool (difI l (b+1).toNat)) a H:=rfl
theorem QD:QC k 43 a H=s3 dQ dI dI (λq n m=>(few q.cs/\few q.ls)/\0<=n/\0<=m) (λq n m=>.bool (Bc q n.toNat m.toNat)) a H:=rfl
theorem Vu:QC k 44 a H=N9 k a H:=rfl
end
def kl_of{k:z8}{q:Cnd}{letters cells:List Int}(hk:BG k=0)(hq:few q.cs/\few q.ls)(hc:Bc q cells.length letters.length=true)(h4:cells.length<=4)(hs:∀s∈cells,-1<=s/\s<(k.d.syms.length:Int)):KlOK k q letters cells:=by
 have h1:=NQ hc;refine⟨⟨by rcases h1.kind with h|h|h|h|h<;>omega,?_,hq.1,λc hcc=>?_,hq.2,λc hcc=>?_,λs hm h0=>⟨h0,(hs s hm).2⟩,En hk⟩,λs hm=>(hs s hm).1,λh3=>?_⟩
 ·have:=JL h1.cs;rcases h1.kind with h|h|h|h|h<;>omega
 ·have:=X8.1 (DO h1.cs) c hcc;simpa only[W5,W8]using this
 ·have:=X8.1 (DO h1.ls) c hcc;simpa only[W5,W8]using this
 ·rcases h1.kind with⟨z,-⟩|⟨z,-⟩|⟨-,z,-⟩|⟨z,-⟩|⟨z,-⟩<;>first|exact z|omega
def p14(k:z8)(q:Cnd)(letters cells:List Int)(hk:RfK k)(hq:few q.cs/\few q.ls)(hl:few letters)(hc:few cells):Pur prog 14 [Bj k,encQ q,eIs letters,eIs cells] (Ck k q letters cells):=by
 have u1:dKn.ok (.agg (AJ k))=True:=DW k
 have u2:dKn.dec (.agg (AJ k))=k:=CJ k
 simp only[AJ,AD,AH,Xm,Xl]at u1 u2
 have v1:dQ.ok (.agg [.int .i64 q.k,eIs q.cs,eIs q.ls,.int .i64 q.n])=True:=SA q
 have v2:dQ.dec (.agg [.int .i64 q.k,eIs q.cs,eIs q.ls,.int .i64 q.n])=q:=LI q
 have m9:letters.length<1000000000:=hl
 have m7:cells.length<1000000000:=hc
 refine .mk ⟨Ag 0 k,B3 0 q,AR 0 _,AR 0 _,trivial⟩ ?_ (c14.a (AF (S0 k) (AG ?_)))
 ·unfold Ck
  repeat' split
  all_goals exact⟨trivial,trivial,trivial⟩
 unfold Ck
 by_cases h0:BG k=0
 case neg=>
  rw[X0 h0]
  simp only[eZ,seval,W7,c14,AJ,AD,AH,FE,s1,u1,u2,W1 hk,W4 h0]
  exact Wk.refl _
 rw[W6 (by simpa using h0)]
 have hsy:=CE h0
 by_cases b1:(letters.length:Int)<1
 ·simp only[eZ,seval,W3,W0,c14,AJ,AD,AH,FE,s1,u1,u2,W1 hk,W1 h0,W1 b1]
  rw[X0 zo];exact Wk.refl _
 by_cases b2:(3:Int)<letters.length
 ·simp only[eZ,seval,W3,W0,c14,AJ,AD,AH,FE,s1,u1,u2,W1 hk,W1 h0,W4 b1,W1 b2]
  rw[X0 zo];exact Wk.refl _
 have hm1:IntKind.wrap .i64 ((k.d.syms.length:Int)-1)=(k.d.syms.length:Int)-1:=An zo zo
 have z1:(-1<=(k.d.syms.length:Int)-1)=True:=W1 zo
 have z2:((k.d.syms.length:Int)-1<=999)=True:=W1 zo
 have z3:((k.d.syms.length:Int)-1+1).toNat=k.d.syms.length:=zo
 cases hd:difI letters k.d.syms.length with
 |false=>
  have:(if letters.length<1\/3<letters.length\/cells.length<1\/4<cells.length then Fs.tup [.bool false,.int .i64 1]else if false=false then .tup [.bool false,.int .i64 1]else if(cells.any λs=>decide (s< -1)||decide ((k.d.syms.length:Int)<=s))=true then .tup [.bool false,.int .i64 1]
   else if Bc q cells.length letters.length=false then .tup [.bool false,.int .i64 300]else .tup [.bool (CV (AV k) q letters cells),.int .i64 0])= .tup [.bool false,.int .i64 1]:=by
   split
   ·rfl
   ·rw[X0 rfl]
  rw[this]
  simp only[eZ,seval,W3,W7,W0,c14,AJ,AD,AH,FE,JQ,s1,s3,u1,u2,W1 hk,W1 h0,W4 b1,W4 b2,Ad,AY,A0,Ah,hm1,z1,z2,z3,W1 hl,eq_self,hd,W7]
  exact Wk.refl _
 |true=>
 by_cases b3:(cells.length:Int)<1
 ·simp only[eZ,seval,W3,W0,c14,AJ,AD,AH,FE,JQ,s1,s3,u1,u2,W1 hk,W1 h0,W4 b1,W4 b2,Ad,AY,A0,Ah,hm1,z1,z2,z3,W1 hl,eq_self,hd,W3,W1 b3]
  rw[X0 zo];exact Wk.refl _
 by_cases b4:(4:Int)<cells.length
 ·simp only[eZ,seval,W3,W0,c14,AJ,AD,AH,FE,JQ,s1,s3,u1,u2,W1 hk,W1 h0,W4 b1,W4 b2,Ad,AY,A0,Ah,hm1,z1,z2,z3,W1 hl,eq_self,hd,W3,W4 b3,W1 b4]
  rw[X0 zo];exact Wk.refl _
 rw[W6 zo,W6 zd]
 simp only[eZ,seval,W3,W0,c14,AJ,AD,AH,FE,JQ,s1,s3,u1,u2,W1 hk,W1 h0,W4 b1,W4 b2,Ad,AY,A0,Ah,hm1,z1,z2,z3,W1 hl,eq_self,hd,W3,W4 b3,W4 b4]
 have hle:cells.length<=4:=zo
 refine AL (λi:Nat=>⟨[(2,true,eIs letters),(3,true,eIs cells),(4,true,.ptr 0 0),(5,true,.ptr 1 0),(11,true,.int .i64 k.d.syms.length),(12,true,.int .i64 i)],hset (hset hnil 0 (.box (AJ k))) 1 (.box [.int .i64 q.k,eIs q.cs,eIs q.ls,.int .i64 q.n]),4⟩) (λi=>i<=cells.length/\∀(j:Nat) s,j<i->cells[j]?=some s-> -1<=s/\s<(k.d.syms.length:Int)) (λi=>cells.length-i) 0 rfl ⟨Wz _,λj s h=>zo⟩ ?_
 rintro i ⟨hi,i5⟩
 by_cases c5:i<cells.length
 ·have hg:=W2 c5
  have hm:=X5 c5
  have e:=AE (k:=i) zo
  generalize cells[i]=c at hg hm
  by_cases c1:c< -1
  ·rw[X0 (Yy.2 ⟨c,hm,by rw[Xf c1];rfl⟩)]
   simp only[eZ,seval,W3,eY,c1,lt_T c5,hg]
   exact Wk.refl _
  by_cases c2:(k.d.syms.length:Int)<=c
  ·rw[X0 (Yy.2 ⟨c,hm,by rw[Xf c2,Bool.or_true]⟩)]
   simp only[eZ,seval,eY,lt_T c5,hg,W4 c1,W1 c2]
   exact Wk.refl _
  simp only[eZ,seval,eY,lt_T c5,hg,W4 c1,W4 c2,e]
  refine .mk (i+1) rfl ⟨c5,λj s hj hs=>?_⟩ zo
  by_cases w:j<i
  ·exact i5 j s w hs
  ·obtain rfl:j=i:=zo
   rw[hg]at hs;cases hs;omega
 obtain rfl:i=cells.length:=zo
 have d6:∀s∈cells,-1<=s/\s<(k.d.syms.length:Int):=λs hs=>by
  obtain⟨j,hj,rfl⟩:=Xq.1 hs
  exact i5 j _ hj (W2 hj)
 rw[W6 (by
  rw[Zk,YD]
  intro s hs
  have:=d6 s hs
  simp only[Xi,W8,not_or]
  omega)]
 have z5:(0<=(cells.length:Int))=True:=W1 zo
 have z6:(0<=(letters.length:Int))=True:=W1 zo
 cases hcd:Bc q cells.length letters.length with
 |false=>
  simp only[eZ,seval,W7,eY,lt_F c5,AJ,AD,AH,QD,s3,v1,v2,W1 hq,A0,Ah,z5,z6,hcd,W7]
  exact Wk.refl _
 |true=>
  have hkl:=kl_of h0 hq hcd hle d6
  simp only[eZ,seval,W3,eY,lt_F c5,AJ,AD,AH,QD,Vu,s3,v1,v2,W1 hq,A0,Ah,z5,z6,hcd,W3,N9,u1,u2,Ad,AY,W1 hkl]
  exact Wk.refl _
def s4{α β γ δ:Type}(A:Dc α)(B:Dc β)(C:Dc γ)(D:Dc δ)(c:α->β->γ->δ->Prop)(f:α->β->γ->δ->Fs):List Fs->AC->Prop×Fs:=λa _=>match a with
 |[x,y,z,u]=>(A.ok x/\B.ok y/\C.ok z/\D.ok u/\c (A.dec x) (B.dec y) (C.dec z) (D.dec u),f (A.dec x) (B.dec y) (C.dec z) (D.dec u))
 |_=>(False,.tup [])
def q4{α β γ δ:Type}{A:Dc α}{B:Dc β}{C:Dc γ}{D:Dc δ}{c:α->β->γ->δ->Prop}{f:α->β->γ->δ->Fs}{i6:FuncId}(h:∀x y z u,c x y z u->Pur prog i6 [A.enc x,B.enc y,C.enc z,D.enc u] (f x y z u)):∀args H n,(s4 A B C D c f args H).1->Am prog i6 args H n (s4 A B C D c f args H).2:=by
 intro args H n hh;unfold s4 at hh⊢;split at hh
 ·obtain⟨h1,h2,h3,h4,h5⟩:=hh;refine AO.args ((h _ _ _ _ h5).quiet H n) ?_;rintro g vs ⟨v,r,rfl,k1,w,r',rfl,k2,u,r'',rfl,k3,t,r3,rfl,k4,k5⟩;exact⟨v,_,rfl,A.wk _ h1 _ _ k1,w,_,rfl,B.wk _ h2 _ _ k2,u,_,rfl,C.wk _ h3 _ _ k3,t,_,rfl,D.wk _ h4 _ _ k4,k5⟩
 ·exact hh.elim
end Go.AM
