/-
  Parts of the proof. Conditions: none.
-/
import Derived.Test.YtncahiacfdihpaaGreatDoorB16
set_option maxRecDepth 20000
set_option linter.all false
namespace Go.AM
open Go.Lib Go.Proofs Go.Proofs.Tryz
def p63(l:List Int)(s:Int)(hl:few l):Pur prog 63 [eIs l,eI s] (.bool (l.contains s)):=by
 refine .mk ⟨AU 0 l,trivial,trivial⟩ trivial (c63.a (AF AH.tnil (AG ?_)));have o7:l.length<1000000000:=hl;simp only[eE,eN,seval,c63];refine AL (λi:Nat=>⟨[(0,true,eIs l),(1,true,eI s),(5,true,.int .i64 i)],hnil,0⟩) (λi=>i<=l.length/\∀(j:Nat) q,j<i->l[j]?=some q->q≠s) (λi=>l.length-i) 0 rfl ⟨X3 _,λj q h=>zo⟩ ?_;rintro i ⟨hi,c7⟩;by_cases c6:i<l.length
 ·have e:=AE (k:=i) zo;have hg:=W5 c6;have hm:=Xa c6;generalize l[i]=q at hg hm;by_cases hq:q=s
  ·rw[show l.contains s=true from Xz.2 (hq▸hm)];simp only[eZ,seval,eY,lt_T c6,hg,W4 hq]
  simp only[eZ,seval,eY,lt_T c6,hg,W9 hq,e];refine .mk (i+1) rfl ⟨c6,λj y hj hy=>?_⟩ zo;by_cases w:j<i
  ·exact c7 j y w hy
  ·obtain rfl:j=i:=zo
   rw[hg]at hy;cases hy;exact hq
 obtain rfl:i=l.length:=zo
 have:l.contains s=false:=by
  rw[YZ];intro hc;obtain⟨j,hj,hjs⟩:=Xn.1 (Xz.1 hc);exact c7 j _ hj (W5 hj) hjs
 rw[this];simp only[eZ,seval,W3,lt_F c6]
structure IPs(l cells:List Int)(v:VPl):Prop where
 hj:v.j<=l.length
 fr:AQ v.H v.n
 tok:tkG 1 0 v.H v.tk
 es:v.tk.esz=1\/(l.take v.j).map (at0 cells)=[]
def p78(l cells:List Int)(hl:few l)(hc:∀c∈l,0<=c/\c<(cells.length:Int)):Pur prog 78 [eIs l,eIs cells] (eIs (l.map (at0 cells))):=by
 refine .mk ⟨AU 0 l,AU 0 cells,trivial⟩ (AU 0 _) (c78.a (AF AH.tnil (AG ?_)));have o7:l.length<1000000000:=hl;simp only[eE,eN,seval,c78];refine AL (λv:VPl=>⟨[(0,true,eIs l),(1,true,eIs cells),(5,true,.sl v.tk (((l.take v.j).map (at0 cells)).map eI)),(6,true,.int .i64 v.j)],v.H,v.n⟩) (IPs l cells) (λv=>l.length-v.j) ⟨0,.exact 1,hnil,0⟩ rfl ⟨X3 _,AQ.nil,.inr (.inl rfl),.inl rfl⟩ ?_;rintro⟨j,tk,H,n⟩ ⟨hj,hf,d6,d8⟩;simp only at hj hf d6 d8;by_cases hlj:j<l.length;case neg=>
  obtain rfl:j=l.length:=zo
  rw[Xb]at d8;simp only[eZ,seval,W3,lt_F hlj];rw[Xb];exact Wk.sl (d8.imp id λq=>by rw[q];rfl)
 have hg:=W5 hlj;have e:=AE (k:=j) zo;have hci:=hc _ (Xa hlj);have htake:l.take (j+1)=l.take j++[l[j]]:=by rw[Xd,hg];rfl
 generalize l[j]=y at hg hci htake;have hgx:=BG hci.1 hci.2;have hX:((l.take j).map (at0 cells)).length<=j:=by simp;omega
 have q1:A6 H 1 tk=True:=W4 d6.app;have q2:(((l.take j).map (at0 cells)).length<=35184372088831)=True:=W4 zo;have q3:Aj (((l.take j).map (at0 cells)).length+1) 8=True:=W4 (AY zo zd);generalize hXd:(l.take j).map (at0 cells)=X at hX q2 q3 d8;simp only[eZ,seval,eY,lt_T hlj,hg,W4 hci.1,W4 hci.2,hgx,q1,q2,q3,fr1 hf,e];refine .mk ⟨j+1,.own (n+9) 1,hset (AN H tk) (n+9) .tok,n+11⟩ ?_ ⟨hlj,(AT d6 hf).hset (m:=n+11) zo zo,.inr (.inr ⟨n+9,rfl,X3 _,AB ..⟩),.inl rfl⟩ zp;simp only[htake,X7,Xl,Xu,hXd]
def p79(k:zz)(s:Int)(h:okSy k s):Pur prog 79 [Bj k,eI s] (eI (at0 (AV k) s)):=by
 refine .mk ⟨Ag 0 k,trivial,trivial⟩ trivial (c79.a (AF AH.tnil (AG ?_)));have c6:s.toNat<k.d.syms.length:=by have:=h.1;have:=h.2;omega
 have hg:=W5 c6;rw[Gw hg];generalize k.d.syms[s.toNat]=y at hg;simp only[eE,eN,seval,eY,c79,AJ,AD,AI,W4 h.1,W4 h.2,hg]
def Ja(k:zz):List Fs->AC->Prop×Fs:=λa _=>match a with
 |[K,.int .i64 s]=>(dKn.ok K/\dKn.dec K=k/\okSy k s,eI (at0 (AV k) s))
 |_=>(False,.tup [])
def Uq(k:zz):∀args H n,(Ja k args H).1->An prog 79 args H n (Ja k args H).2:=by
 intro args H n hh;unfold Ja at hh⊢;split at hh
 ·obtain⟨h1,h2,h3⟩:=hh;have w1:=dKn.wk _ h1;rw[h2]at w1;refine AP.args ((p79 k _ h3).quiet H n) ?_;rintro g vs ⟨v,r,rfl,k1,k2⟩;exact⟨v,_,rfl,w1 _ _ k1,k2⟩
 ·exact hh.elim
def Tva(k:zz):Tab:=tadd 79 (Ja k) tnil
def Tva_ok(k:zz):AH prog (Tva k):=AH.tnil.add (Uq k)
def M4{k:zz}(hv:∀y∈k.d.syms,0<=y.v/\y.v<=99){s:Int}(h:okSy k s):0<=at0 (AV k) s/\at0 (AV k) s<=99:=by
 have c6:s.toNat<k.d.syms.length:=by have:=h.1;have:=h.2;omega
 rw[Gw (W5 c6)];exact hv _ (Xa c6)
def p80(k:zz)(s t:Int)(hv:∀y∈k.d.syms,0<=y.v/\y.v<=99)(hs:okSy k s)(ht:okSy k t):Pur prog 80 [Bj k,eI s,eI t] (eI (KE (AV k) s t)):=by
 have u1:dKn.ok (.agg (AJ k))=True:=DJ k;have u2:dKn.dec (.agg (AJ k))=k:=CG k;simp only[AJ,AD,AI,Xr,Xq]at u1 u2;refine .mk ⟨Ag 0 k,trivial,trivial,trivial⟩ trivial (c80.a (AF (Tva_ok k) (AG ?_)));have r1:=M4 hv hs;have r2:=M4 hv ht;unfold KE;generalize hx:at0 (AV k) s=x at r1;generalize hy:at0 (AV k) t=y at r2;have w1:IntKind.wrap .i64 (x-y)=x-y:=Aq zo zo;have w2:IntKind.wrap .i64 (y-x)=y-x:=Aq zo zo;simp only[eE,eN,seval,c80,AJ,AD,AI,Tva,Ja,u1,u2,W4 hs,W4 ht,hx,hy,w1,w2,tadd]
 done
section
def OK(k:zz):List Fs->AC->Prop×Fs:=λa _=>match a with
 |[K,.int .i64 s,.int .i64 t]=>(dKn.ok K/\dKn.dec K=k/\okSy k s/\okSy k t,eI (KE (AV k) s t))
 |_=>(False,.tup [])
def rowApq{k:zz}(hv:∀y∈k.d.syms,0<=y.v/\y.v<=99):∀args H n,(OK k args H).1->An prog 80 args H n (OK k args H).2:=by
 intro args H n hh;unfold OK at hh⊢;split at hh
 ·obtain⟨h1,h2,h3,h4⟩:=hh;have w1:=dKn.wk _ h1;rw[h2]at w1;refine AP.args ((p80 k _ _ hv h3 h4).quiet H n) ?_;rintro g vs ⟨v,r,rfl,k1,k2⟩;exact⟨v,_,rfl,w1 _ _ k1,k2⟩
 ·exact hh.elim
def rowSm:List Fs->AC->Prop×Fs:=s2 dIs dIs (λl cells=>few l/\∀c∈l,0<=c/\c<(cells.length:Int)) λl cells=>eIs (l.map (at0 cells))
def rowHs:List Fs->AC->Prop×Fs:=s2 dIs dI (λl _=>few l) λl s=>.bool (l.contains s)
def Tks'(k:zz):Tab:=tadd 78 rowSm (tadd 63 rowHs (tadd 79 (Ja k) (tadd 80 (OK k) tnil)))
def V0{k:zz}(hv:∀y∈k.d.syms,0<=y.v/\y.v<=99):AH prog (Tks' k):=(((AH.tnil.add (rowApq hv)).add (Uq k)).add (q2 λl s h=>p63 l s h)).add (q2 λl c h=>p78 l c h.1 h.2)
theorem QU(k:zz)(a:List Fs)(H:AC):Tks' k 78 a H=s2 dIs dIs (λl cells=>few l/\∀c∈l,0<=c/\c<(cells.length:Int)) (λl cells=>eIs (l.map (at0 cells))) a H:=rfl
theorem QV(k:zz)(a:List Fs)(H:AC):Tks' k 63 a H=s2 dIs dI (λl _=>few l) (λl s=>.bool (l.contains s)) a H:=rfl
theorem Ur(k:zz)(a:List Fs)(H:AC):Tks' k 79 a H=Ja k a H:=rfl
theorem Tks'_a(k:zz)(a:List Fs)(H:AC):Tks' k 80 a H=OK k a H:=rfl
variable {l:List Int} {i:Nat}
theorem OL{bad:Int->Int->Bool}(h:i<l.length):A5 bad (l.drop i)=(((l.drop (i+1)).any λb=>decide (0<=l[i])&&decide (0<=b)&&bad l[i] b)||A5 bad (l.drop (i+1))):=by
 rw[Xm h,A5]
theorem badR_k{vals:List Int}{k a b:Int}(h1:k≠1)(h4:k≠4):badR vals k a b=false:=by unfold badR;simp [h1,h4]
theorem TB{ls:List Int}{s:Int}(h:l[i]?=some s):cOwn ls (l.take (i+1))=cOwn ls (l.take i)+if(decide (0<=s)&&ls.contains s)=true then 1 else 0:=by
 rw[Xd,h];exact P0 ..
theorem TC{ls:List Int}{s:Int}(h:l[i]?=some s):cOth ls (l.take (i+1))=cOth ls (l.take i)+if(decide (0<=s)&& !ls.contains s)=true then 1 else 0:=by
 rw[Xd,h];exact P1 ..
abbrev Hcq(k:zz)(q:Cnd):AC:=hset (hset hnil 0 (.box (AJ k))) 1 (.box (P4 q))
abbrev eCq(letters l:List Int)(all:Bool)(ow ot:Nat)(rest:List (Nat×Bool×Fs)):List (Nat×Bool×Fs):=[(2,true,eIs letters),(4,true,.ptr 0 0),(5,true,.ptr 1 0),(9,true,eIs l),(10,true,.bool all),(11,true,.int .i64 ow),(12,true,.int .i64 ot)]++rest
set_option maxHeartbeats 1000000 in
theorem p44R(k:zz)(q:Cnd)(letters cells:List Int)(h:ClOK k q letters cells)(hge:∀s∈cells,-1<=s)(h3:q.k=3->q.cs.length=2):
  Pur prog 44 [Bj k,encQ q,eIs letters,eIs cells] (.bool (IY (AV k) q.k q.n (q.ls.map (at0 letters)) (q.cs.map (at0 cells)))):=by
 have u1:dKn.ok (.agg (AJ k))=True:=DJ k;have u2:dKn.dec (.agg (AJ k))=k:=CG k;simp only[AJ,AD,AI,Xr,Xq]at u1 u2;refine .mk ⟨Ag 0 k,E5 0 q,AU 0 _,AU 0 _,trivial⟩ trivial (c44.a (AF (V0 h.vl) (AG ?_)));have s9:q.cs.length<1000000000:=h.cs;have f1:(few q.cs/\∀c∈q.cs,0<=c/\c<(cells.length:Int))=True:=W4 ⟨h.cs,h.ci⟩;have f2:(few q.ls/\∀c∈q.ls,0<=c/\c<(letters.length:Int))=True:=W4 ⟨h.ls,h.li⟩;have f3:few (q.cs.map (at0 cells))=True:=W4 (by show(q.cs.map (at0 cells)).length<_;rw[W3];exact s9);have f4:few (q.ls.map (at0 letters))=True:=W4 (by show(q.ls.map (at0 letters)).length<_;rw[W3];exact h.ls);have e9:∀s∈q.cs.map (at0 cells),0<=s->okSy k s:=λs hs h0=>by
  obtain⟨c,hc,rfl⟩:=XH.1 hs;have:=h.ci c hc;exact h.sy _ (XE (BG this.1 this.2)) h0
 have hml:∀s∈q.cs.map (at0 cells),-1<=s:=λs hs=>by
  obtain⟨c,hc,rfl⟩:=XH.1 hs;have:=h.ci c hc;exact hge _ (XE (BG this.1 this.2))
 have o9:(q.cs.map (at0 cells)).length=q.cs.length:=W3 ..;have hk:=h.kind;have hn:=h.n;simp only[eE,eN,seval,c44,QU,QV,s2,Af,AZ,A3,Ai,f1,f3];generalize q.cs.map (at0 cells)=l at f3 e9 hml o9;generalize t9:q.ls.map (at0 letters)=ls at f4;have o7:l.length<1000000000:=zo
 obtain⟨bad,i7⟩:∃bad,badR (AV k) q.k=bad:=⟨_,rfl⟩;refine AL (λi:Nat=>⟨eCq letters l (!l.contains (-1)) (cOwn ls (l.take i)) (cOth ls (l.take i)) [(13,true,.int .i64 i)],Hcq k q,3⟩) (λi=>i<=l.length/\A5 bad l=A5 bad (l.drop i)) (λi=>l.length-i) 0 rfl ⟨X3 _,rfl⟩ ?_;rintro i ⟨hi,hp⟩;by_cases c6:i<l.length;case neg=>
  obtain rfl:i=l.length:=zo
  rw[Xy,A5]at hp;rw[Xb];unfold IY;rw[i7,hp,Y9];unfold endR;have lo:=P2 ls l;by_cases k2:q.k=2
  ·rw[X6 k2];cases hc:l.contains (-1)with
   |true=>simp only[eZ,seval,W6,W3,lt_F c6,W4 k2,W6]
   |false=>
    simp only[eZ,seval,W8,W3,lt_F c6,W4 k2,W8];exact decide_eq_decide.2 zo
  rw[X0 k2];by_cases k3:q.k=3
  ·rw[X6 k3];cases hc:l.contains (-1)with
   |true=>simp only[eZ,seval,W6,eY,lt_F c6,W9 k2,W4 k3,W6]
   |false=>
    have hge':∀s∈l,okSy k s:=λs hs=>e9 s hs (by
     have hnc:¬(-1:Int)∈l:=λq=>by rw[Xz.2 q]at hc;cases hc
     have hm1:=hml s hs;by_cases e:s= -1
     ·subst e;exact absurd hs hnc
     ·omega)
    have hl2:l.length=2:=by have:=h3 k3;omega
    obtain⟨a,hg0⟩:∃a,l[0]?=some a:=⟨_,W5 zo⟩;obtain⟨b,hg1⟩:∃b,l[1]?=some b:=⟨_,W5 zo⟩;have ha:=hge' a (XE hg0);have hb:=hge' b (XE hg1);have i0:((0:Int)<(l.length:Int))=True:=W4 zo;have i1:((1:Int)<(l.length:Int))=True:=W4 zo;have j0:(0<l.length)=True:=W4 zo;have j1:(1<l.length)=True:=W4 zo;rw[hg0,hg1,X8,X8,W8,XY];simp only[eZ,seval,eY,lt_F c6,W9 k2,W4 k3,i0,i1,hg0,hg1,AJ,AD,AI,Tks'_a,OK,u1,u2,W4 ha,W4 hb]
  rw[X0 k3];by_cases k6:q.k=6
  ·rw[X6 k6];have w:=Aq (x:=(l.length:Int)-q.n) zo zo;by_cases c1':q.n<(cOwn ls l:Int)
   ·rw[Xi c1',Zj];simp only[eZ,seval,W6,W3,lt_F c6,W9 k2,W9 k3,W4 k6,W4 c1']
   ·rw[Xe c1',Y9];simp only[eZ,seval,W3,lt_F c6,W9 k2,W9 k3,W4 k6,W9 c1',w]
  ·rw[X0 k6];simp only[eZ,seval,W3,lt_F c6,W9 k2,W9 k3,W9 k6]
 have hg:=W5 c6;have hd:=OL (bad:=bad) c6;have hsy:=e9 _ (Xa c6);generalize l[i]=a at hg hd hsy;have ho1:=TB (ls:=ls) hg;have ho2:=TC (ls:=ls) hg;have e0:=AE (k:=i) zo;have lo1:=P2 ls (l.take i);have lo2:=UZ ls (l.take i);rw[Xp]at lo1 lo2;have eo1:=AE (k:=cOwn ls (l.take i)) zo;have eo2:=AE (k:=cOth ls (l.take i)) zo;obtain⟨P,hP⟩:∃P:Int->Bool,(λb=>decide (0<=a)&&decide (0<=b)&&bad a b)=P:=⟨_,rfl⟩;have hPb:∀b,P b=(decide (0<=a)&&decide (0<=b)&&bad a b):=λb=>by rw[<-hP]
 rw[hP]at hd;simp only[eZ,seval,W3,lt_T c6,e0];refine AL (λj:Nat=>⟨eCq letters l (!l.contains (-1)) (cOwn ls (l.take i)) (cOth ls (l.take i)) [(13,true,.int .i64 i),(14,true,.int .i64 j)],Hcq k q,3⟩) (λj=>i+1<=j/\j<=l.length/\((l.drop (i+1)).any P)=((l.drop j).any P)) (λj=>l.length-j) (i+1) rfl ⟨X2 _,c6,rfl⟩ ?_;rintro j ⟨hj1,hj2,hany⟩;by_cases hlj:j<l.length;case neg=>
  obtain rfl:j=l.length:=zo
  rw[Xy,List.any_nil]at hany;rw[hany,Y9]at hd;have fin:i+1<=l.length/\A5 bad l=A5 bad (l.drop (i+1)):=⟨c6,hp.trans hd⟩;by_cases h0:0<=a
  ·rw[Xi h0,XY]at ho1 ho2;cases hc:ls.contains a with
   |true=>
    simp only[hc,W6,XJ,Xt,Xh,Yj]at ho1 ho2;simp only[eZ,seval,eY,lt_F hlj,hg,lt_T c6,W4 h0,QU,QV,s2,Af,AZ,A3,Ai,f2,f4,t9,hc,e0,eo1];exact .mk (i+1) (by simp only[ho1,ho2]) fin zo
   |false=>
    simp only[hc,W8,XJ,Xt,Xh,Yj]at ho1 ho2;simp only[eZ,seval,eY,lt_F hlj,hg,lt_T c6,W4 h0,QU,QV,s2,Af,AZ,A3,Ai,f2,f4,t9,hc,e0,eo2];exact .mk (i+1) (by simp only[ho1,ho2]) fin zo
  ·simp only[Xe h0,Yu,Xt,Xh,Yj]at ho1 ho2;simp only[eZ,seval,eY,lt_F hlj,hg,lt_T c6,W9 h0,e0];exact .mk (i+1) (by simp only[ho1,ho2]) fin zo
 have hgj:=W5 hlj;have hdj:=Xm hlj;have hsj:=e9 _ (Xa hlj);generalize l[j]=b at hgj hdj hsj;rw[hdj,Zr]at hany;have ej:=AE (k:=j) zo;have fin:P b=false->(i+1<=j+1/\j+1<=l.length/\((l.drop (i+1)).any P)=((l.drop (j+1)).any P)):=λhf=>by
  rw[hf,Y9]at hany;exact⟨zo,hlj,hany⟩
 have res:P b=true->IY (AV k) q.k q.n ls l=true:=λhf=>by
  rw[hf,Zj]at hany;unfold IY;rw[i7,hp,hd,hany,Zj,Zj]
 by_cases h0a:0<=a;case neg=>
  have hf:=fin (by rw[hPb,Xe h0a];rfl);by_cases k1:q.k=1
  ·simp only[eZ,seval,eY,lt_T hlj,hgj,lt_T c6,hg,W9 h0a,W4 k1,show(q.k=4)=False from W9 zo,ej];exact .mk (j+1) rfl hf zo
  by_cases k4:q.k=4
  ·simp only[eZ,seval,eY,lt_T hlj,hgj,lt_T c6,hg,W9 h0a,W9 k1,W4 k4,ej];exact .mk (j+1) rfl hf zo
  ·simp only[eZ,seval,eY,lt_T hlj,hgj,lt_T c6,hg,W9 h0a,W9 k1,W9 k4,ej];exact .mk (j+1) rfl hf zo
 by_cases h0b:0<=b;case neg=>
  have hf:=fin (by rw[hPb,Xe h0b,YT];rfl);by_cases k1:q.k=1
  ·simp only[eZ,seval,eY,lt_T hlj,hgj,lt_T c6,hg,W4 h0a,W9 h0b,W4 k1,show(q.k=4)=False from W9 zo,ej];exact .mk (j+1) rfl hf zo
  by_cases k4:q.k=4
  ·simp only[eZ,seval,eY,lt_T hlj,hgj,lt_T c6,hg,W4 h0a,W9 h0b,W9 k1,W4 k4,ej];exact .mk (j+1) rfl hf zo
  ·simp only[eZ,seval,eY,lt_T hlj,hgj,lt_T c6,hg,W4 h0a,W9 h0b,W9 k1,W9 k4,ej];exact .mk (j+1) rfl hf zo
 have oa:=hsy h0a;have ob:=hsj h0b;by_cases k1:q.k=1
 ·by_cases s6:a=b
  ·rw[res (by rw[hPb,Xi h0a,Xi h0b,<-i7];unfold badR;simp [k1,s6])];simp only[eZ,seval,eY,lt_T hlj,hgj,lt_T c6,hg,W4 h0a,W4 h0b,W4 k1,W4 s6]
  ·have hf:=fin (by rw[hPb,<-i7];unfold badR;simp [k1,s6]);simp only[eZ,seval,eY,lt_T hlj,hgj,lt_T c6,hg,W4 h0a,W4 h0b,W4 k1,W9 s6,show(q.k=4)=False from W9 zo,ej];exact .mk (j+1) rfl hf zo
 by_cases k4:q.k=4
 ·by_cases s6:at0 (AV k) b<=at0 (AV k) a
  ·rw[res (by rw[hPb,Xi h0a,Xi h0b,<-i7];unfold badR;simp [k4,s6])];simp only[eZ,seval,eY,lt_T hlj,hgj,lt_T c6,hg,W4 h0a,W4 h0b,W9 k1,W4 k4,AJ,AD,AI,Ur,Ja,u1,u2,W4 oa,W4 ob,W4 s6]
  ·have hf:=fin (by rw[hPb,<-i7];unfold badR;simp [k4,s6]);simp only[eZ,seval,eY,lt_T hlj,hgj,lt_T c6,hg,W4 h0a,W4 h0b,W9 k1,W4 k4,AJ,AD,AI,Ur,Ja,u1,u2,W4 oa,W4 ob,W9 s6,ej];exact .mk (j+1) rfl hf zo
 ·have hf:=fin (by rw[hPb,<-i7,badR_k k1 k4,YT]);simp only[eZ,seval,eY,lt_T hlj,hgj,lt_T c6,hg,W4 h0a,W4 h0b,W9 k1,W9 k4,ej];exact .mk (j+1) rfl hf zo
theorem p44(k:zz)(q:Cnd)(letters cells:List Int)(h:ClOK k q letters cells)(hge:∀s∈cells,-1<=s)(h3:q.k=3->q.cs.length=2):
  Pur prog 44 [Bj k,encQ q,eIs letters,eIs cells] (.bool (F4 (AV k) q letters cells)):=by
 refine(p44R k q letters cells h hge h3).all ?_;unfold F4;rw[Pc]
 ·intro s hs;obtain⟨c,hc,rfl⟩:=XH.1 hs;have:=h.ci c hc;exact hge _ (XE (BG this.1 this.2))
 ·intro hk;rw[W3];exact h3 hk
end
structure VPy where
 i:Nat
 tk:jj
 H:AC
 n:Nat
structure LsG(e:Nat)(Ls:List (List Int))(E:List Fs)(tk:jj)(H:AC)(n:Nat):Prop where
 fr:AQ H n
 tok:tkG 1 0 H tk
 es:tk.esz=1\/E=[]
 wk:Wks E (Ls.map eIs)
structure VLs where
 i:Nat
 E:List Fs
 tk:jj
 H:AC
 n:Nat
section
def dM:Dc Prm:=dEx encM decM
def dM_ok(p:Prm):dM.ok (encM p)=True:=W4 (by show encM p=encM (decM (encM p));rw[J3])
def dM_dec(p:Prm):dM.dec (encM p)=p:=J3 p
structure PrC(k:zz)(x:jq)(letters:List Int):Prop where
 ck:Bg k=0
 fd:qk k.d
 fx:FewL x
 ox:OKL x
 lt:letters∈chs k.d.syms.length x.ls.length
variable {k:zz} {letters:List Int} {x:jq}
theorem PrC.rd(h:PrC k x letters):RdC k x letters:=⟨h.ck,h.fd,h.fx,h.ox,(J0 h.lt).1⟩
structure ClP(k:zz)(x:jq)(cells:List Int):Prop where
 cl:ClC k x cells
 ge:∀s∈cells,-1<=s
structure KlOK(k:zz)(q:Cnd)(letters cells:List Int):Prop where
 cl:ClOK k q letters cells
 ge:∀s∈cells,-1<=s
 h3:q.k=3->q.cs.length=2
def QW(k:zz):List Fs->AC->Prop×Fs:=λa _=>match a with
 |[K,Q,a1,a2]=>(dKn.ok K/\dKn.dec K=k/\dQ.ok Q/\dIs.ok a1/\dIs.ok a2/\KlOK k (dQ.dec Q) (dIs.dec a1) (dIs.dec a2),.bool (F4 (AV k) (dQ.dec Q) (dIs.dec a1) (dIs.dec a2)))
 |_=>(False,.tup [])
theorem rowKlq(k:zz):∀args H n,(QW k args H).1->An prog 44 args H n (QW k args H).2:=by
 intro args H n hh;unfold QW at hh⊢;split at hh
 ·obtain⟨h1,h2,h3,h4,h5,h6⟩:=hh;have w1:=dKn.wk _ h1;rw[h2]at w1;refine AP.args ((p44 k _ _ _ h6.cl h6.ge h6.h3).quiet H n) ?_;rintro g vs ⟨v1,r1,rfl,k1,v2,r2,rfl,k2,v3,r3,rfl,k3,v4,r4,rfl,k4,k5⟩;exact⟨v1,_,rfl,w1 _ _ k1,v2,_,rfl,dQ.wk _ h3 _ _ k2,v3,_,rfl,dIs.wk _ h4 _ _ k3,v4,_,rfl,dIs.wk _ h5 _ _ k4,k5⟩
 ·exact hh.elim
theorem kl_ok{cells:List Int}(h:RdC k x letters)(hc:ClP k x cells){q:Cnd}(hq:q∈x.qs):KlOK k q letters cells:=by
 refine⟨cl_ok h hc.cl hq,hc.ge,λh3=>?_⟩;rcases(Ro (h.ox.qs q hq)).kind with⟨z,-⟩|⟨z,-⟩|⟨-,z,-⟩|⟨z,-⟩|⟨z,-⟩<;>first|exact z|omega
abbrev Hkx(k:zz)(x:jq):AC:=hset (hset hnil 0 (.box (AJ k))) 1 (.box (Am x))
structure BgC(x:jq)(letters:List Int):Prop where
 fx:few x.cs
 c:0<=x.c/\x.c<(x.cs.length:Int)
 l:0<=x.l/\x.l<(letters.length:Int)
structure IBg(x:jq)(v:VPy):Prop where
 hi:v.i<=x.cs.length
 hn:2<=v.n
 fr:AQ v.H v.n
 h0:hget v.H 0=some (.box (Am x))
 tok:tkG 1 1 v.H v.tk
 es:v.tk.esz=1\/v.i=0
theorem chk_ok(h:chk x=0):OKL x:=by
 unfold chk at h;split at h
 ·rename_i q;exact(Hu x).1 q
 ·cases h
theorem TD(hk:qk k.d)(hx:FewL x)(h:CK k x=0):Bg k=0/\OKL x:=by
 unfold CK at h;by_cases hc:Bg k=0
 ·rw[X0 (by simpa using hc)]at h;exact⟨hc,chk_ok h⟩
 ·rw[X6 hc]at h;exact absurd h hc
end
structure RfK(k:zz):Prop where
 kn:FewKr k
 rg:k.d.regs.length<999999000
def RfK.fr{k:zz}(h:RfK k):FewR k.d:=⟨h.kn.d,h.rg⟩
def V1:List Fs->AC->Prop×Fs:=s1 dKn RfK λk=>.int .i64 (Bg k)
def rowKcq:∀args H n,(V1 args H).1->An prog 22 args H n (V1 args H).2:=q1 λk h=>p22 k h.fr h.kn
def Tzd:Tab:=tadd 78 rowSm (tadd 63 rowHs tnil)
def Tzd_ok:AH prog Tzd:=(AH.tnil.add (q2 λl s h=>p63 l s h)).add (q2 λl c h=>p78 l c h.1 h.2)
theorem Tzd_s(a:List Fs)(H:AC):Tzd 78 a H=s2 dIs dIs (λl cells=>few l/\∀c∈l,0<=c/\c<(cells.length:Int)) (λl cells=>eIs (l.map (at0 cells))) a H:=rfl
theorem Tzd_h(a:List Fs)(H:AC):Tzd 63 a H=s2 dIs dI (λl _=>few l) (λl s=>.bool (l.contains s)) a H:=rfl
structure DnC(p:Prm)(letters cells:List Int):Prop where
 c:0<=p.c/\p.c<(cells.length:Int)
 ls:few p.ls/\∀c∈p.ls,0<=c/\c<(letters.length:Int)
def p96(p:Prm)(letters cells:List Int)(h:DnC p letters cells):Pur prog 96 [encM p,eIs letters,eIs cells] (.bool (Eo p letters cells)):=by
 refine .mk ⟨JK 0 p,AU 0 _,AU 0 _,trivial⟩ trivial (c96.a (AF Tzd_ok (AG ?_)));have hg:=BG h.c.1 h.c.2;have f3:few (p.ls.map (at0 letters))=True:=W4 (by show(p.ls.map (at0 letters)).length<_;rw[W3];exact h.ls.1);unfold Eo;by_cases h0:0<=at0 cells p.c
 ·rw[Xi h0,XY];simp only[eZ,seval,eY,c96,W4 h.c.1,W4 h.c.2,hg,W4 h0,Tzd_s,Tzd_h,s2,Af,AZ,A3,Ai,W4 h.ls,f3]
 ·rw[Xe h0,Yu];simp only[eZ,seval,eY,c96,W4 h.c.1,W4 h.c.2,hg,W9 h0]
def Tzm(k:zz):Tab:=tadd 44 (QW k) (tadd 96 (s3 dM dIs dIs DnC λp l c=>.bool (Eo p l c)) tnil)
def Tzm_ok(k:zz):AH prog (Tzm k):=(AH.tnil.add (q3 λp l c h=>p96 p l c h)).add (rowKlq k)
def p55(k:zz)(x:jq)(at':Int)(letters cells:List Int)(h:RdC k x letters)(hc:ClP k x cells):Pur prog 55 [Bj k,encL x,.int .i64 at',eIs letters,eIs cells] (.bool (Bp (AV k) x letters cells at')):=by
 have u1:dKn.ok (.agg (AJ k))=True:=DJ k;have u2:dKn.dec (.agg (AJ k))=k:=CG k;simp only[AJ,AD,AI,Xr,Xq]at u1 u2;have hnq:x.qs.length<1000000000:=h.fx.qs;have hnp:x.ps.length<1000000000:=h.fx.ps;refine .mk ⟨Ag 0 k,Be 0 x,trivial,AU 0 _,AU 0 _,trivial⟩ trivial (c55.a (AF (Tzm_ok k) (AG ?_)));have e2:IntKind.wrap .i64 ((x.qs.length:Int)+(x.ps.length:Int))=((x.qs.length+x.ps.length:Nat):Int):=by rw[Aq zo zo];omega
 by_cases hneg:at'<0
 ·rw[Mu hneg];simp only[eZ,seval,W6,W3,c55,W4 hneg]
 obtain⟨a,rfl⟩:=YM (Int.not_lt.1 hneg);by_cases hout:x.qs.length+x.ps.length<=a
 ·rw[Mv hout];have z:(((x.qs.length+x.ps.length:Nat):Int)<=(a:Int))=True:=W4 zo;simp only[eZ,seval,W3,c55,W9 hneg,e2,z]
 have z:(((x.qs.length+x.ps.length:Nat):Int)<=(a:Int))=False:=W9 zo;by_cases hq:a<x.qs.length
 ·have hg:=W5 hq;have hm:=Xa hq;generalize x.qs[a]=q at hg hm;rw[Ud hg];have hkl:=kl_ok h hc hm;simp only[eZ,seval,eY,c55,AJ,AD,AI,W9 hneg,e2,z,lt_T hq,hg,Tzm,QW,u1,u2,SO,LW,Af,AZ,W4 hkl,tadd]
 ·obtain⟨b,rfl⟩:∃b,a=x.qs.length+b:=⟨a-x.qs.length,zo⟩;have hb:b<x.ps.length:=zo
  have hg:=W5 hb;have hm:=Xa hb;generalize x.ps[b]=p at hg hm;rw[Ue hg];have hpc:=KL h.ox hm;rw[<-hc.cl.len]at hpc;have hdn:DnC p letters cells:=⟨hpc,Mt h p hm⟩;have w:IntKind.wrap .i64 (((x.qs.length+b:Nat):Int)-(x.qs.length:Int))=(b:Int):=by rw[Aq zo zo];omega
  simp only[eZ,seval,eY,c55,W9 hneg,e2,z,lt_F hq,lt_T hb,hg,w,Tzm,s3,dM_ok,dM_dec,Af,AZ,W4 hdn,tadd]
section
variable {k:zz} {letters:List Int} {x:jq}
section
variable (k:zz) (x:jq) (letters:List Int) (F:List Int->List jx->List jx×Bool) (ok:List Int->List jx->Prop) (a:List Fs) (H:AC)
end
structure VRe where
 i:Nat
 l:List jx
 ok:Bool
end
section
variable (k:zz) (x:jq) (a:List Fs) (H:AC)
end
section
variable {k:zz}
theorem wds_rf(h:JY k=true)(hw:WdS k):RfK k:=by
 unfold JY at h;simp only[W7,X1]at h;obtain⟨⟨⟨⟨h1,h2⟩,h3⟩,h4⟩,h5⟩:=h;obtain⟨-,l2⟩:=QK h1;obtain⟨n1,n2⟩:=HH h2;have hr:k.d.regs.length<999999000:=by
  unfold JX at h5;simp only[W7,X1]at h5;omega
 exact⟨⟨KO h5,show k.g.holes.length<_ by omega,show k.g.cells.length<_ by omega,⟨show k.nb.length<_ by omega,λl hl=>show l.length<_ by have:=n2 l hl;omega⟩,hw.ls,
  λl hl=>⟨show l.length<_ by have:=(HH (l2 l hl)).1;omega,λm hm=>show m.length<_ by have:=(HH (l2 l hl)).2 m hm;omega⟩⟩,hr⟩
def F9(k:zz)(x:jq)(letters:List Int):List Fs->AC->Prop×Fs:=λa _=>match a with
 |[K,X,.int .i64 i,a1,a2]=>(dKn.ok K/\dKn.dec K=k/\dX.ok X/\dX.dec X=x/\dIs.ok a1/\dIs.dec a1=letters/\dIs.ok a2/\ClP k x (dIs.dec a2),.bool (Bp (AV k) x letters (dIs.dec a2) i))
 |_=>(False,.tup [])
theorem TE{x:jq}{letters:List Int}(h:RdC k x letters):∀args H n,(F9 k x letters args H).1->An prog 55 args H n (F9 k x letters args H).2:=by
 intro args H n hh;unfold F9 at hh⊢;split at hh
 ·obtain⟨h1,h2,h3,h4,h5,h6,h7,h8⟩:=hh;have w1:=dKn.wk _ h1;have w2:=dX.wk _ h3;have w3:=dIs.wk _ h5;rw[h2]at w1;rw[h4]at w2;rw[h6]at w3;refine AP.args ((p55 k x _ letters _ h h8).quiet H n) ?_;rintro g vs ⟨v1,r1,rfl,k1,v2,r2,rfl,k2,v5,r5,rfl,k5,v3,r3,rfl,k3,v4,r4,rfl,k4,k6⟩;exact⟨v1,_,rfl,w1 _ _ k1,v2,_,rfl,w2 _ _ k2,v5,_,rfl,k5,v3,_,rfl,w3 _ _ k3,v4,_,rfl,dIs.wk _ h7 _ _ k4,k6⟩
 ·exact hh.elim
def Tho(k:zz)(x:jq)(letters:List Int):Tab:=tadd 55 (F9 k x letters) tnil
theorem Tho_ok{x:jq}{letters:List Int}(h:RdC k x letters):AH prog (Tho k x letters):=AH.tnil.add (TE h)
theorem p24(k:zz)(x:jq)(letters cells:List Int)(h:RdC k x letters)(hc:ClP k x cells):Pur prog 24 [Bj k,encL x,eIs letters,eIs cells] (.bool (CW (AV k) x letters cells)):=by
 have u1:dKn.ok (.agg (AJ k))=True:=DJ k;have u2:dKn.dec (.agg (AJ k))=k:=CG k;simp only[AJ,AD,AI,Xr,Xq]at u1 u2;have v1:dX.ok (.agg (Am x))=True:=LX x;have v2:dX.dec (.agg (Am x))=x:=Gi x;simp only[Am]at v1 v2;have hnq:x.qs.length<1000000000:=h.fx.qs;have hnp:x.ps.length<1000000000:=h.fx.ps;have e2:IntKind.wrap .i64 ((x.qs.length:Int)+(x.ps.length:Int))=((x.qs.length+x.ps.length:Nat):Int):=by rw[Aq zo zo];omega
 refine .mk ⟨Ag 0 k,Be 0 x,AU 0 _,AU 0 _,trivial⟩ trivial (c24.a (AF (Tho_ok h) (AG ?_)));simp only[eE,eN,seval,c24];refine AL (λi:Nat=>⟨[(2,true,eIs letters),(3,true,eIs cells),(4,true,.ptr 0 0),(5,true,.ptr 1 0),(9,true,.int .i64 i)],Hkx k x,3⟩) (λi=>i<=x.qs.length+x.ps.length/\∀j:Nat,j<i->Bp (AV k) x letters cells (j:Int)=false) (λi=>x.qs.length+x.ps.length-i) 0 rfl ⟨X3 _,λj h=>zo⟩ ?_;rintro i ⟨hi,i4⟩;by_cases c6:i<x.qs.length+x.ps.length;case neg=>
  obtain rfl:i=x.qs.length+x.ps.length:=zo
  rw[Fd.2 i4];simp only[eZ,seval,W3,Am,e2,lt_F c6]
 have e:=AE (k:=i) zo;cases hb:Bp (AV k) x letters cells (i:Int)with
 |true=>
  have:CW (AV k) x letters cells=false:=by
   cases q:CW (AV k) x letters cells with
   |false=>rfl
   |true=>rw[Fd.1 q i c6]at hb;cases hb
  rw[this];simp only[eZ,seval,W3,Am,e2,lt_T c6,AJ,AD,AI,Tho,F9,u1,u2,v1,v2,Af,AZ,W4 hc,hb,tadd]
 |false=>
  simp only[eZ,seval,W3,Am,e2,lt_T c6,AJ,AD,AI,Tho,F9,u1,u2,v1,v2,Af,AZ,W4 hc,hb,e,tadd];refine .mk (i+1) rfl ⟨c6,λj hj=>?_⟩ zo;by_cases w:j<i
  ·exact i4 j w
  ·obtain rfl:j=i:=zo
   exact hb
end
section
structure FlC(k:zz)(x:jq)(cells:List Int):Prop where
 len:cells.length=x.cs.length
 sy:∀s∈cells,okSy k s
variable {k:zz} {letters:List Int} {x:jq}
theorem FlC.cl{cells:List Int}(h:FlC k x cells):ClP k x cells:=⟨⟨h.len,λs hs _=>h.sy s hs⟩,λs hs=>by have:=(h.sy s hs).1;omega⟩
def rowAg(k:zz)(x:jq)(letters:List Int)(at':Int)(F:List Int->Bool)(ok:List Int->Prop):List Fs->AC->Prop×Fs:=λa _=>match a with
 |[K,X,a1,a2,.int .i64 i]=>(dKn.ok K/\dKn.dec K=k/\dX.ok X/\dX.dec X=x/\a1=eIs letters/\dIs.ok a2/\ok (dIs.dec a2)/\i=at',.bool (F (dIs.dec a2)))
 |_=>(False,.tup [])
def GA(k:zz)(x:jq)(letters:List Int):List Fs->AC->Prop×Fs:=λa _=>match a with
 |[K,X,a1,a2]=>(dKn.ok K/\dKn.dec K=k/\dX.ok X/\dX.dec X=x/\a1=eIs letters/\dIs.ok a2/\ClP k x (dIs.dec a2),.bool (CW (AV k) x letters (dIs.dec a2)))
 |_=>(False,.tup [])
theorem TF(h:RdC k x letters):∀args H n,(GA k x letters args H).1->An prog 24 args H n (GA k x letters args H).2:=by
 intro args H n hh;unfold GA at hh⊢;split at hh
 ·obtain⟨h1,h2,h3,h4,rfl,h7,h8⟩:=hh;have w1:=dKn.wk _ h1;have w2:=dX.wk _ h3;rw[h2]at w1;rw[h4]at w2;refine AP.args ((p24 k x letters _ h h8).quiet H n) ?_;rintro g vs ⟨v1,r1,rfl,k1,v2,r2,rfl,k2,v3,r3,rfl,k3,v4,r4,rfl,k4,k6⟩;exact⟨v1,_,rfl,w1 _ _ k1,v2,_,rfl,w2 _ _ k2,v3,_,rfl,k3,v4,_,rfl,dIs.wk _ h7 _ _ k4,k6⟩
 ·exact hh.elim
section
variable (k:zz) (x:jq) (letters:List Int) (at':Int) (F:List Int->Bool) (ok:List Int->Prop) (a:List Fs) (H:AC)
end
section
variable (k:zz) (x:jq) (a:List Fs) (H:AC)
end
end
end Go.AM
