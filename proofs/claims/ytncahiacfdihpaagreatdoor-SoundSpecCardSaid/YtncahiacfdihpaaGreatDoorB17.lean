/-
  Parts of the proof. Conditions: none.
-/
import Derived.Test.YtncahiacfdihpaaGreatDoorB16
set_option maxRecDepth 20000
set_option linter.all false
namespace Go.AM
open Go.Lib Go.Proofs Go.Proofs.Tryz
def p63(l:List Int)(s:Int)(hl:few l):Pur prog 63 [eIs l,eI s] (.bool (l.contains s)):=by
 refine .mk ⟨AQ 0 l,trivial,trivial⟩ trivial (c63.a (AF AJ.tnil (AG ?_)));have m7:l.length<1000000000:=hl;simp only[eE,eN,seval,c63];refine AL (λi:Nat=>⟨[(0,true,eIs l),(1,true,eI s),(5,true,.int .i64 i)],hnil,0⟩) (λi=>i<=l.length/\∀(j:Nat) q,j<i->l[j]?=some q->q≠s) (λi=>l.length-i) 0 rfl ⟨Xn _,λj q h=>zo⟩ ?_;rintro i ⟨hi,c6⟩;by_cases c5:i<l.length
 ·have e:=AE (k:=i) zo;have hg:=X2 c5;have hm:=Xt c5;generalize l[i]=q at hg hm;by_cases hq:q=s
  ·rw[show l.contains s=true from Yk.2 (hq▸hm)];simp only[eZ,seval,eY,lt_T c5,hg,X1 hq]
  simp only[eZ,seval,eY,lt_T c5,hg,X7 hq,e];refine .mk (i+1) rfl ⟨c5,λj y hj hy=>?_⟩ zo;by_cases w:j<i
  ·exact c6 j y w hy
  ·obtain rfl:j=i:=zo
   rw[hg]at hy;cases hy;exact hq
 obtain rfl:i=l.length:=zo
 have:l.contains s=false:=by
  rw[ZI];intro hc;obtain⟨j,hj,hjs⟩:=Yc.1 (Yk.1 hc);exact c6 j _ hj (X2 hj) hjs
 rw[this];simp only[eZ,seval,X0,lt_F c5]
structure IPs(l cells:List Int)(v:VPl):Prop where
 hj:v.j<=l.length
 fr:AR v.H v.n
 tok:tkG 1 0 v.H v.tk
 es:v.tk.esz=1\/(l.take v.j).map (at0 cells)=[]
def p78(l cells:List Int)(hl:few l)(hc:∀c∈l,0<=c/\c<(cells.length:Int)):Pur prog 78 [eIs l,eIs cells] (eIs (l.map (at0 cells))):=by
 refine .mk ⟨AQ 0 l,AQ 0 cells,trivial⟩ (AQ 0 _) (c78.a (AF AJ.tnil (AG ?_)));have m7:l.length<1000000000:=hl;simp only[eE,eN,seval,c78];refine AL (λv:VPl=>⟨[(0,true,eIs l),(1,true,eIs cells),(5,true,.sl v.tk (((l.take v.j).map (at0 cells)).map eI)),(6,true,.int .i64 v.j)],v.H,v.n⟩) (IPs l cells) (λv=>l.length-v.j) ⟨0,.exact 1,hnil,0⟩ rfl ⟨Xn _,AR.nil,.inr (.inl rfl),.inl rfl⟩ ?_;rintro⟨j,tk,H,n⟩ ⟨hj,hf,c8,d7⟩;simp only at hj hf c8 d7;by_cases hlj:j<l.length;case neg=>
  obtain rfl:j=l.length:=zo
  rw[Xu]at d7;simp only[eZ,seval,X0,lt_F hlj];rw[Xu];exact Wk.sl (d7.imp id λq=>by rw[q];rfl)
 have hg:=X2 hlj;have e:=AE (k:=j) zo;have hci:=hc _ (Xt hlj);have htake:l.take (j+1)=l.take j++[l[j]]:=by rw[Xx,hg];rfl
 generalize l[j]=y at hg hci htake;have hgx:=BI hci.1 hci.2;have hX:((l.take j).map (at0 cells)).length<=j:=by simp;omega
 have q1:A8 H 1 tk=True:=X1 c8.app;have q2:(((l.take j).map (at0 cells)).length<=35184372088831)=True:=X1 zo;have q3:Aj (((l.take j).map (at0 cells)).length+1) 8=True:=X1 (AY zo zd);generalize hXd:(l.take j).map (at0 cells)=X at hX q2 q3 d7;simp only[eZ,seval,eY,lt_T hlj,hg,X1 hci.1,X1 hci.2,hgx,q1,q2,q3,fr1 hf,e];refine .mk ⟨j+1,.own (n+9) 1,hset (AO H tk) (n+9) .tok,n+11⟩ ?_ ⟨hlj,(AU c8 hf).hset (m:=n+11) zo zo,.inr (.inr ⟨n+9,rfl,Xn _,AB ..⟩),.inl rfl⟩ zp;simp only[htake,Xr,Y8,Ye,hXd]
def p79(k:qw)(s:Int)(h:okSy k s):Pur prog 79 [A9 k,eI s] (eI (at0 (AT k) s)):=by
 refine .mk ⟨Aa 0 k,trivial,trivial⟩ trivial (c79.a (AF AJ.tnil (AG ?_)));have c5:s.toNat<k.d.syms.length:=by have:=h.1;have:=h.2;omega
 have hg:=X2 c5;rw[Gy hg];generalize k.d.syms[s.toNat]=y at hg;simp only[eE,eN,seval,eY,c79,AH,AD,AI,X1 h.1,X1 h.2,hg]
def Jf(k:qw):List Fs->AC->Prop×Fs:=λa _=>match a with
 |[K,.int .i64 s]=>(dKn.ok K/\dKn.dec K=k/\okSy k s,eI (at0 (AT k) s))
 |_=>(False,.tup [])
def VB(k:qw):∀args H n,(Jf k args H).1->Al prog 79 args H n (Jf k args H).2:=by
 intro args H n hh;unfold Jf at hh⊢;split at hh
 ·obtain⟨h1,h2,h3⟩:=hh;have w1:=dKn.wk _ h1;rw[h2]at w1;refine AP.args ((p79 k _ h3).quiet H n) ?_;rintro g vs ⟨v,r,rfl,k1,k2⟩;exact⟨v,_,rfl,w1 _ _ k1,k2⟩
 ·exact hh.elim
def Tva(k:qw):Tab:=tadd 79 (Jf k) tnil
def Tva_ok(k:qw):AJ prog (Tva k):=AJ.tnil.add (VB k)
def NI{k:qw}(hv:∀y∈k.d.syms,0<=y.v/\y.v<=99){s:Int}(h:okSy k s):0<=at0 (AT k) s/\at0 (AT k) s<=99:=by
 have c5:s.toNat<k.d.syms.length:=by have:=h.1;have:=h.2;omega
 rw[Gy (X2 c5)];exact hv _ (Xt c5)
def p80(k:qw)(s t:Int)(hv:∀y∈k.d.syms,0<=y.v/\y.v<=99)(hs:okSy k s)(ht:okSy k t):Pur prog 80 [A9 k,eI s,eI t] (eI (KP (AT k) s t)):=by
 have u1:dKn.ok (.agg (AH k))=True:=CC k;have u2:dKn.dec (.agg (AH k))=k:=BP k;simp only[AH,AD,AI,Y7,Y5]at u1 u2;refine .mk ⟨Aa 0 k,trivial,trivial,trivial⟩ trivial (c80.a (AF (Tva_ok k) (AG ?_)));have r1:=NI hv hs;have r2:=NI hv ht;unfold KP;generalize hx:at0 (AT k) s=x at r1;generalize hy:at0 (AT k) t=y at r2;have w1:IntKind.wrap .i64 (x-y)=x-y:=Aq zo zo;have w2:IntKind.wrap .i64 (y-x)=y-x:=Aq zo zo;simp only[eE,eN,seval,c80,AH,AD,AI,Tva,Jf,u1,u2,X1 hs,X1 ht,hx,hy,w1,w2,tadd]
 done
section
def Oi(k:qw):List Fs->AC->Prop×Fs:=λa _=>match a with
 |[K,.int .i64 s,.int .i64 t]=>(dKn.ok K/\dKn.dec K=k/\okSy k s/\okSy k t,eI (KP (AT k) s t))
 |_=>(False,.tup [])
def rowApq{k:qw}(hv:∀y∈k.d.syms,0<=y.v/\y.v<=99):∀args H n,(Oi k args H).1->Al prog 80 args H n (Oi k args H).2:=by
 intro args H n hh;unfold Oi at hh⊢;split at hh
 ·obtain⟨h1,h2,h3,h4⟩:=hh;have w1:=dKn.wk _ h1;rw[h2]at w1;refine AP.args ((p80 k _ _ hv h3 h4).quiet H n) ?_;rintro g vs ⟨v,r,rfl,k1,k2⟩;exact⟨v,_,rfl,w1 _ _ k1,k2⟩
 ·exact hh.elim
def rowSm:List Fs->AC->Prop×Fs:=s2 dIs dIs (λl cells=>few l/\∀c∈l,0<=c/\c<(cells.length:Int)) λl cells=>eIs (l.map (at0 cells))
def Oj:List Fs->AC->Prop×Fs:=s2 dIs dI (λl _=>few l) λl s=>.bool (l.contains s)
def Tks'(k:qw):Tab:=tadd 78 rowSm (tadd 63 Oj (tadd 79 (Jf k) (tadd 80 (Oi k) tnil)))
def WR{k:qw}(hv:∀y∈k.d.syms,0<=y.v/\y.v<=99):AJ prog (Tks' k):=(((AJ.tnil.add (rowApq hv)).add (VB k)).add (q2 λl s h=>p63 l s h)).add (q2 λl c h=>p78 l c h.1 h.2)
theorem Qt(k:qw)(a:List Fs)(H:AC):Tks' k 78 a H=s2 dIs dIs (λl cells=>few l/\∀c∈l,0<=c/\c<(cells.length:Int)) (λl cells=>eIs (l.map (at0 cells))) a H:=rfl
theorem Qu(k:qw)(a:List Fs)(H:AC):Tks' k 63 a H=s2 dIs dI (λl _=>few l) (λl s=>.bool (l.contains s)) a H:=rfl
theorem VC(k:qw)(a:List Fs)(H:AC):Tks' k 79 a H=Jf k a H:=rfl
theorem Tks'_a(k:qw)(a:List Fs)(H:AC):Tks' k 80 a H=Oi k a H:=rfl
variable {l:List Int} {i:Nat}
theorem Ok{bad:Int->Int->Bool}(h:i<l.length):A6 bad (l.drop i)=(((l.drop (i+1)).any λb=>decide (0<=l[i])&&decide (0<=b)&&bad l[i] b)||A6 bad (l.drop (i+1))):=by
 rw[Y2 h,A6]
theorem badR_k{vals:List Int}{k a b:Int}(h1:k≠1)(h4:k≠4):badR vals k a b=false:=by unfold badR;simp [h1,h4]
theorem TU{ls:List Int}{s:Int}(h:l[i]?=some s):cOwn ls (l.take (i+1))=cOwn ls (l.take i)+if(decide (0<=s)&&ls.contains s)=true then 1 else 0:=by
 rw[Xx,h];exact QV ..
theorem TV{ls:List Int}{s:Int}(h:l[i]?=some s):cOth ls (l.take (i+1))=cOth ls (l.take i)+if(decide (0<=s)&& !ls.contains s)=true then 1 else 0:=by
 rw[Xx,h];exact QW ..
abbrev Hcq(k:qw)(q:Cnd):AC:=hset (hset hnil 0 (.box (AH k))) 1 (.box (QZ q))
abbrev eCq(letters l:List Int)(all:Bool)(ow ot:Nat)(rest:List (Nat×Bool×Fs)):List (Nat×Bool×Fs):=[(2,true,eIs letters),(4,true,.ptr 0 0),(5,true,.ptr 1 0),(9,true,eIs l),(10,true,.bool all),(11,true,.int .i64 ow),(12,true,.int .i64 ot)]++rest
set_option maxHeartbeats 1000000 in
theorem p44R(k:qw)(q:Cnd)(letters cells:List Int)(h:ClOK k q letters cells)(hge:∀s∈cells,-1<=s)(h3:q.k=3->q.cs.length=2):
  Pur prog 44 [A9 k,encQ q,eIs letters,eIs cells] (.bool (Id (AT k) q.k q.n (q.ls.map (at0 letters)) (q.cs.map (at0 cells)))):=by
 have u1:dKn.ok (.agg (AH k))=True:=CC k;have u2:dKn.dec (.agg (AH k))=k:=BP k;simp only[AH,AD,AI,Y7,Y5]at u1 u2;refine .mk ⟨Aa 0 k,E9 0 q,AQ 0 _,AQ 0 _,trivial⟩ trivial (c44.a (AF (WR h.vl) (AG ?_)));have t5:q.cs.length<1000000000:=h.cs;have f1:(few q.cs/\∀c∈q.cs,0<=c/\c<(cells.length:Int))=True:=X1 ⟨h.cs,h.ci⟩;have f2:(few q.ls/\∀c∈q.ls,0<=c/\c<(letters.length:Int))=True:=X1 ⟨h.ls,h.li⟩;have f3:few (q.cs.map (at0 cells))=True:=X1 (by show(q.cs.map (at0 cells)).length<_;rw[X0];exact t5);have f4:few (q.ls.map (at0 letters))=True:=X1 (by show(q.ls.map (at0 letters)).length<_;rw[X0];exact h.ls);have d9:∀s∈q.cs.map (at0 cells),0<=s->okSy k s:=λs hs h0=>by
  obtain⟨c,hc,rfl⟩:=Yo.1 hs;have:=h.ci c hc;exact h.sy _ (Yx (BI this.1 this.2)) h0
 have hml:∀s∈q.cs.map (at0 cells),-1<=s:=λs hs=>by
  obtain⟨c,hc,rfl⟩:=Yo.1 hs;have:=h.ci c hc;exact hge _ (Yx (BI this.1 this.2))
 have r9:(q.cs.map (at0 cells)).length=q.cs.length:=X0 ..;have hk:=h.kind;have hn:=h.n;simp only[eE,eN,seval,c44,Qt,Qu,s2,Ac,AW,A4,Ai,f1,f3];generalize q.cs.map (at0 cells)=l at f3 d9 hml r9;generalize o8:q.ls.map (at0 letters)=ls at f4;have m7:l.length<1000000000:=zo
 obtain⟨bad,i5⟩:∃bad,badR (AT k) q.k=bad:=⟨_,rfl⟩;refine AL (λi:Nat=>⟨eCq letters l (!l.contains (-1)) (cOwn ls (l.take i)) (cOth ls (l.take i)) [(13,true,.int .i64 i)],Hcq k q,3⟩) (λi=>i<=l.length/\A6 bad l=A6 bad (l.drop i)) (λi=>l.length-i) 0 rfl ⟨Xn _,rfl⟩ ?_;rintro i ⟨hi,hp⟩;by_cases c5:i<l.length;case neg=>
  obtain rfl:i=l.length:=zo
  rw[Yj,A6]at hp;rw[Xu];unfold Id;rw[i5,hp,YN];unfold endR;have lo:=QX ls l;by_cases k2:q.k=2
  ·rw[Xp k2];cases hc:l.contains (-1)with
   |true=>simp only[eZ,seval,X3,X0,lt_F c5,X1 k2,X3]
   |false=>
    simp only[eZ,seval,X5,X0,lt_F c5,X1 k2,X5];exact decide_eq_decide.2 zo
  rw[X6 k2];by_cases k3:q.k=3
  ·rw[Xp k3];cases hc:l.contains (-1)with
   |true=>simp only[eZ,seval,X3,eY,lt_F c5,X7 k2,X1 k3,X3]
   |false=>
    have hge':∀s∈l,okSy k s:=λs hs=>d9 s hs (by
     have hnc:¬(-1:Int)∈l:=λq=>by rw[Yk.2 q]at hc;cases hc
     have hm1:=hml s hs;by_cases e:s= -1
     ·subst e;exact absurd hs hnc
     ·omega)
    have hl2:l.length=2:=by have:=h3 k3;omega
    obtain⟨a,hg0⟩:∃a,l[0]?=some a:=⟨_,X2 zo⟩;obtain⟨b,hg1⟩:∃b,l[1]?=some b:=⟨_,X2 zo⟩;have ha:=hge' a (Yx hg0);have hb:=hge' b (Yx hg1);have i0:((0:Int)<(l.length:Int))=True:=X1 zo;have i1:((1:Int)<(l.length:Int))=True:=X1 zo;have j0:(0<l.length)=True:=X1 zo;have j1:(1<l.length)=True:=X1 zo;rw[hg0,hg1,Xs,Xs,X5,Yq];simp only[eZ,seval,eY,lt_F c5,X7 k2,X1 k3,i0,i1,hg0,hg1,AH,AD,AI,Tks'_a,Oi,u1,u2,X1 ha,X1 hb]
  rw[X6 k3];by_cases k6:q.k=6
  ·rw[Xp k6];have w:=Aq (x:=(l.length:Int)-q.n) zo zo;by_cases c1':q.n<(cOwn ls l:Int)
   ·rw[Y3 c1',ZV];simp only[eZ,seval,X3,X0,lt_F c5,X7 k2,X7 k3,X1 k6,X1 c1']
   ·rw[Xy c1',YN];simp only[eZ,seval,X0,lt_F c5,X7 k2,X7 k3,X1 k6,X7 c1',w]
  ·rw[X6 k6];simp only[eZ,seval,X0,lt_F c5,X7 k2,X7 k3,X7 k6]
 have hg:=X2 c5;have hd:=Ok (bad:=bad) c5;have hsy:=d9 _ (Xt c5);generalize l[i]=a at hg hd hsy;have ho1:=TU (ls:=ls) hg;have ho2:=TV (ls:=ls) hg;have e0:=AE (k:=i) zo;have lo1:=QX ls (l.take i);have lo2:=Uu ls (l.take i);rw[Ya]at lo1 lo2;have eo1:=AE (k:=cOwn ls (l.take i)) zo;have eo2:=AE (k:=cOth ls (l.take i)) zo;obtain⟨P,hP⟩:∃P:Int->Bool,(λb=>decide (0<=a)&&decide (0<=b)&&bad a b)=P:=⟨_,rfl⟩;have hPb:∀b,P b=(decide (0<=a)&&decide (0<=b)&&bad a b):=λb=>by rw[<-hP]
 rw[hP]at hd;simp only[eZ,seval,X0,lt_T c5,e0];refine AL (λj:Nat=>⟨eCq letters l (!l.contains (-1)) (cOwn ls (l.take i)) (cOth ls (l.take i)) [(13,true,.int .i64 i),(14,true,.int .i64 j)],Hcq k q,3⟩) (λj=>i+1<=j/\j<=l.length/\((l.drop (i+1)).any P)=((l.drop j).any P)) (λj=>l.length-j) (i+1) rfl ⟨X9 _,c5,rfl⟩ ?_;rintro j ⟨hj1,hj2,hany⟩;by_cases hlj:j<l.length;case neg=>
  obtain rfl:j=l.length:=zo
  rw[Yj,aG]at hany;rw[hany,YN]at hd;have fin:i+1<=l.length/\A6 bad l=A6 bad (l.drop (i+1)):=⟨c5,hp.trans hd⟩;by_cases h0:0<=a
  ·rw[Y3 h0,Yq]at ho1 ho2;cases hc:ls.contains a with
   |true=>
    simp only[hc,X3,Yt,Yd,Y1,Z5]at ho1 ho2;simp only[eZ,seval,eY,lt_F hlj,hg,lt_T c5,X1 h0,Qt,Qu,s2,Ac,AW,A4,Ai,f2,f4,o8,hc,e0,eo1];exact .mk (i+1) (by simp only[ho1,ho2]) fin zo
   |false=>
    simp only[hc,X5,Yt,Yd,Y1,Z5]at ho1 ho2;simp only[eZ,seval,eY,lt_F hlj,hg,lt_T c5,X1 h0,Qt,Qu,s2,Ac,AW,A4,Ai,f2,f4,o8,hc,e0,eo2];exact .mk (i+1) (by simp only[ho1,ho2]) fin zo
  ·simp only[Xy h0,YP,Yd,Y1,Z5]at ho1 ho2;simp only[eZ,seval,eY,lt_F hlj,hg,lt_T c5,X7 h0,e0];exact .mk (i+1) (by simp only[ho1,ho2]) fin zo
 have hgj:=X2 hlj;have hdj:=Y2 hlj;have hsj:=d9 _ (Xt hlj);generalize l[j]=b at hgj hdj hsj;rw[hdj,ZX]at hany;have ej:=AE (k:=j) zo;have fin:P b=false->(i+1<=j+1/\j+1<=l.length/\((l.drop (i+1)).any P)=((l.drop (j+1)).any P)):=λhf=>by
  rw[hf,YN]at hany;exact⟨zo,hlj,hany⟩
 have res:P b=true->Id (AT k) q.k q.n ls l=true:=λhf=>by
  rw[hf,ZV]at hany;unfold Id;rw[i5,hp,hd,hany,ZV,ZV]
 by_cases h0a:0<=a;case neg=>
  have hf:=fin (by rw[hPb,Xy h0a];rfl);by_cases k1:q.k=1
  ·simp only[eZ,seval,eY,lt_T hlj,hgj,lt_T c5,hg,X7 h0a,X1 k1,show(q.k=4)=False from X7 zo,ej];exact .mk (j+1) rfl hf zo
  by_cases k4:q.k=4
  ·simp only[eZ,seval,eY,lt_T hlj,hgj,lt_T c5,hg,X7 h0a,X7 k1,X1 k4,ej];exact .mk (j+1) rfl hf zo
  ·simp only[eZ,seval,eY,lt_T hlj,hgj,lt_T c5,hg,X7 h0a,X7 k1,X7 k4,ej];exact .mk (j+1) rfl hf zo
 by_cases h0b:0<=b;case neg=>
  have hf:=fin (by rw[hPb,Xy h0b,ZD];rfl);by_cases k1:q.k=1
  ·simp only[eZ,seval,eY,lt_T hlj,hgj,lt_T c5,hg,X1 h0a,X7 h0b,X1 k1,show(q.k=4)=False from X7 zo,ej];exact .mk (j+1) rfl hf zo
  by_cases k4:q.k=4
  ·simp only[eZ,seval,eY,lt_T hlj,hgj,lt_T c5,hg,X1 h0a,X7 h0b,X7 k1,X1 k4,ej];exact .mk (j+1) rfl hf zo
  ·simp only[eZ,seval,eY,lt_T hlj,hgj,lt_T c5,hg,X1 h0a,X7 h0b,X7 k1,X7 k4,ej];exact .mk (j+1) rfl hf zo
 have oa:=hsy h0a;have ob:=hsj h0b;by_cases k1:q.k=1
 ·by_cases s7:a=b
  ·rw[res (by rw[hPb,Y3 h0a,Y3 h0b,<-i5];unfold badR;simp [k1,s7])];simp only[eZ,seval,eY,lt_T hlj,hgj,lt_T c5,hg,X1 h0a,X1 h0b,X1 k1,X1 s7]
  ·have hf:=fin (by rw[hPb,<-i5];unfold badR;simp [k1,s7]);simp only[eZ,seval,eY,lt_T hlj,hgj,lt_T c5,hg,X1 h0a,X1 h0b,X1 k1,X7 s7,show(q.k=4)=False from X7 zo,ej];exact .mk (j+1) rfl hf zo
 by_cases k4:q.k=4
 ·by_cases s7:at0 (AT k) b<=at0 (AT k) a
  ·rw[res (by rw[hPb,Y3 h0a,Y3 h0b,<-i5];unfold badR;simp [k4,s7])];simp only[eZ,seval,eY,lt_T hlj,hgj,lt_T c5,hg,X1 h0a,X1 h0b,X7 k1,X1 k4,AH,AD,AI,VC,Jf,u1,u2,X1 oa,X1 ob,X1 s7]
  ·have hf:=fin (by rw[hPb,<-i5];unfold badR;simp [k4,s7]);simp only[eZ,seval,eY,lt_T hlj,hgj,lt_T c5,hg,X1 h0a,X1 h0b,X7 k1,X1 k4,AH,AD,AI,VC,Jf,u1,u2,X1 oa,X1 ob,X7 s7,ej];exact .mk (j+1) rfl hf zo
 ·have hf:=fin (by rw[hPb,<-i5,badR_k k1 k4,ZD]);simp only[eZ,seval,eY,lt_T hlj,hgj,lt_T c5,hg,X1 h0a,X1 h0b,X7 k1,X7 k4,ej];exact .mk (j+1) rfl hf zo
theorem p44(k:qw)(q:Cnd)(letters cells:List Int)(h:ClOK k q letters cells)(hge:∀s∈cells,-1<=s)(h3:q.k=3->q.cs.length=2):
  Pur prog 44 [A9 k,encQ q,eIs letters,eIs cells] (.bool (F8 (AT k) q letters cells)):=by
 refine(p44R k q letters cells h hge h3).all ?_;unfold F8;rw[P6]
 ·intro s hs;obtain⟨c,hc,rfl⟩:=Yo.1 hs;have:=h.ci c hc;exact hge _ (Yx (BI this.1 this.2))
 ·intro hk;rw[X0];exact h3 hk
end
structure VPy where
 i:Nat
 tk:jx
 H:AC
 n:Nat
def Jg{m i:Nat}(h:i<m):(symI m).take (i+1)=(symI m).take i++[(i:Int)]:=by simp_all [Xx,symI]
def L5(m i:Nat)(p:Int->Bool):(((symI m).take i).filter p).length<=i:=by grind
def tkG.low{e lo n:Nat}{H H':AC}{tk:jx}(h:tkG e lo H tk)(hf:AR H n)(hk:∀i,i<n->hget H' i=hget H i):tkG e lo H' tk:=by
 rcases h with rfl|rfl|⟨id,rfl,h1,h2⟩
 ·exact .inl rfl
 ·exact .inr (.inl rfl)
 ·exact .inr (.inr ⟨id,rfl,h1,(hk id (hf.lt h2)).trans h2⟩)
structure LsG(e:Nat)(Ls:List (List Int))(E:List Fs)(tk:jx)(H:AC)(n:Nat):Prop where
 fr:AR H n
 tok:tkG 1 0 H tk
 es:tk.esz=1\/E=[]
 wk:Wks E (Ls.map eIs)
def LsG.fin{e:Nat}{Ls:List (List Int)}{E:List Fs}{tk:jx}{H:AC}{n:Nat}(h:LsG e Ls E tk H n):Wk (.sl tk E) (eLl Ls):=Wk.slx h.es h.wk
structure VLs where
 i:Nat
 E:List Fs
 tk:jx
 H:AC
 n:Nat
def chF(m:Nat)(l:List Int):List (List Int):=(Le m l).map λs=>l++[s]
def chT(m:Nat)(l:List Int)(i:Nat):List (List Int):=(((symI m).take i).filter λs=>!l.contains s).map λs=>l++[s]
def WS(m:Nat)(l:List Int):chT m l m=chF m l:=by
 unfold chT chF Le;rw[Yr (by unfold symI;simp)]
def chT_T{m i:Nat}{l:List Int}(h:i<m)(hc:l.contains (i:Int)=false):chT m l (i+1)=chT m l i++[l++[(i:Int)]]:=by
 unfold chT;rw[Jg h,YX,List.filter_cons_of_pos (by rw[hc];rfl),ZG,Xr];rfl
def chT_F{m i:Nat}{l:List Int}(h:i<m)(hc:l.contains (i:Int)=true):chT m l (i+1)=chT m l i:=by
 unfold chT;rw[Jg h,YX,List.filter_cons_of_neg (by rw[hc];decide),ZG,Yb]
def WT(m:Nat):∀n,∀l∈chsR m n,l.length=n:=λn l hl=>by
 rw[<-J8]at hl;exact(J9 hl).1
def TW(m n:Nat):List Fs->AC->Prop×Fs:=rowX [.int .i64 m,.int .i64 n] (λ_=>True) (eLl (chsR m n))
theorem p35(m:Nat)(hm:m<=16):∀n:Nat,n<=3->Pur prog 35 [.int .i64 (m:Int),.int .i64 (n:Int)] (eLl (chsR m n))
 |0,_=>by
  refine .mk ⟨trivial,trivial,trivial⟩ ⟨trivial,A7 (λl=>AQ 0 l) _⟩ (c35.a (AF AJ.tnil (AG ?_)));simp only[eZ,seval,c0,c35];exact Wk.slx (.inl rfl) (.cons (Wk.sl (.inr rfl)) .nil)
 |n+1,hn=>by
  have ih:=p35 m hm n zo;have hT:AJ prog (tadd 35 (TW m n) (tadd 63 Oj tnil)):=(AJ.tnil.add (q2 λl s h=>p63 l s h)).add (OW λH k _=>ih.quiet H k);have t1:∀a H,tadd 35 (TW m n) (tadd 63 Oj tnil) 35 a H=rowX [.int .i64 m,.int .i64 n] (λ_=>True) (eLl (chsR m n)) a H:=λ_ _=>rfl
  have t2:∀a H,tadd 35 (TW m n) (tadd 63 Oj tnil) 63 a H=s2 dIs dI (λl _=>few l) (λl s=>.bool (l.contains s)) a H:=λ_ _=>rfl
  generalize tadd 35 (TW m n) (tadd 63 Oj tnil)=T at hT t1 t2;refine .mk ⟨trivial,trivial,trivial⟩ ⟨trivial,A7 (λl=>AQ 0 l) _⟩ (c35.a (AF hT (AG ?_)));have hn0:(((n+1:Nat):Int)=0)=False:=X7 zo;have hsub:IntKind.wrap .i64 (((n+1:Nat):Int)-1)=(n:Int):=by rw[Aq zo zo];omega
  simp only[eZ,seval,c35,hn0,hsub,t1,rowX,ZY];have hA:(chsR m n).length<=4096:=Yi (JZ m n) (Yi (Nat.pow_le_pow_left hm _) (Yi (Nat.pow_le_pow_right zd (show n<=3 by omega)) zd));have hR:chsR m (n+1)=(chsR m n).flatMap (chF m):=rfl;have m7:=WT m n;rw[hR];generalize chsR m n=A at hA m7;refine AL (λv:VLs=>⟨[(0,true,.int .i64 m),(5,true,.sl v.tk v.E),(6,true,eLl A),(7,true,.int .i64 v.i)],v.H,v.n⟩) (λv=>v.i<=A.length/\v.E.length<=v.i*16/\LsG 0 ((A.take v.i).flatMap (chF m)) v.E v.tk v.H v.n) (λv=>A.length-v.i) ⟨0,[],.exact 1,hnil,0⟩ rfl ⟨Xn _,Xn _,AR.nil,.inr (.inl rfl),.inl rfl,.nil⟩ ?_;rintro⟨i,E,tk,H,k⟩ ⟨hi,hel,hG⟩;simp only at hi hel hG;by_cases c5:i<A.length;case neg=>
   obtain rfl:i=A.length:=zo
   rw[Xu]at hG;simp only[eZ,seval,X0,lt_F c5];exact hG.fin
  have hg:=X2 c5;have hlen:=m7 _ (Xt c5);have c8:(A.take (i+1)).flatMap (chF m)=(A.take i).flatMap (chF m)++chF m A[i]:=by rw[Xx,hg,ZJ];simp
  generalize A[i]=l at hg hlen c8;have e0:=AE (k:=i) zo;have hfl:few l:=by show l.length<_;omega
  simp only[eZ,seval,X0,lt_T c5];refine AL (λv:VLs=>⟨[(0,true,.int .i64 m),(5,true,.sl v.tk v.E),(6,true,eLl A),(7,true,.int .i64 i),(8,true,.int .i64 v.i)],v.H,v.n⟩) (λv=>v.i<=m/\v.E.length<=i*16+v.i/\LsG 0 ((A.take i).flatMap (chF m)++chT m l v.i) v.E v.tk v.H v.n) (λv=>m-v.i) ⟨0,E,tk,H,k⟩ rfl ⟨Xn _,hel,by
   rw[show chT m l 0=[]from rfl,Yb];exact hG⟩ ?_
  clear hG hel;rintro⟨j,E,tk,H,k⟩ ⟨hj,hel,hG⟩;simp only at hj hel hG;by_cases hlj:j<m;case neg=>
   obtain rfl:j=m:=zo
   rw[WS,<-c8]at hG;simp only[eZ,seval,lt_F hlj,e0];exact .mk ⟨i+1,E,tk,H,k⟩ rfl ⟨c5,zp,hG⟩ zp
  have ej:=AE (k:=j) zo;cases hc:l.contains (j:Int)with
  |true=>
   rw[<-chT_F hlj hc]at hG;simp only[eZ,seval,X3,eY,lt_T hlj,lt_T c5,hg,t2,s2,Ac,AW,A4,Ai,X1 hfl,hc,X3,ej];exact .mk ⟨j+1,E,tk,H,k⟩ rfl ⟨hlj,zp,hG⟩ zp
  |false=>
   obtain⟨hf,htok,d7,hwk⟩:=hG;have hiA:i*16<=4096*16:=Zd _ zo;have kp:∀x,x<k->hget (hset (hset H (k+6) .dead) (k+9) .tok) x=hget H x:=λx hx=>by rw[AA _ _ _ _ zo,AA _ _ _ _ zo]
   have m6:AR (hset (hset H (k+6) .dead) (k+9) .tok) (k+11):=(hf.hset (m:=k+11) zo zo).hset (X9 _) zo;have htok2:tkG 1 0 (hset (hset H (k+6) .dead) (k+9) .tok) tk:=htok.low hf kp;have q1:A8 (hset (hset H (k+6) .dead) (k+9) .tok) 1 tk=True:=X1 htok2.app;have q2:(E.length<=35184372088831)=True:=X1 zo;have q3:Aj (E.length+1) 24=True:=X1 (AY zo zd);have q4:(l.length<=35184372088832)=True:=X1 zo;have q5:(l.length<=35184372088831)=True:=X1 zo;have q6:Aj (l.length+1) 8=True:=X1 (AY zo zd);have q7:Aj l.length 8=True:=X1 (AY zo zd);simp only[eZ,seval,X5,eY,lt_T hlj,lt_T c5,hg,t2,s2,Ac,AW,A4,Ai,X1 hfl,hc,X5,ej,fr1 hf,AN,q1,q2,q3,q4,q5,q6,q7];refine .mk ⟨j+1,E++[.sl (.own (k+9) 1) (l.map eI++[eI j])],.own (k+11) 1,hset (AO (hset (hset H (k+6) .dead) (k+9) .tok) tk) (k+11) .tok,k+13⟩ rfl ⟨hlj,by simp only[Xz,Y4,YE];omega,(AU htok2 m6).hset (m:=k+13) zo zo,.inr (.inr ⟨k+11,rfl,Xn _,AB ..⟩),.inl rfl,?_⟩ zp;simp only[];rw[chT_T hlj hc,<-Yg,Xr];refine hwk.app (.cons ?_ .nil);show Wk _ (.sl (.none 1) ((l++[(j:Int)]).map eI));rw[Xr];exact Wk.sl (.inl rfl)
def TY{cells:List Int}{n:Nat}{s:Int}{R:List Fs}(hn:n<cells.length):List.take cells.length ((cells.map eI++R).set n (eI s))=(cells.set n s).map eI:=by simp_all
def p115(cells:List Int)(c s:Int)(hc:0<=c/\c<(cells.length:Int))(hl:few cells):Pur prog 115 [eIs cells,eI c,eI s] (eIs (cells.set c.toNat s)):=by
 refine .mk ⟨AQ 0 _,trivial,trivial,trivial⟩ (AQ 0 _) (c115.a (AF AJ.tnil (AG ?_)));have m7:cells.length<1000000000:=hl;have d8:cells.map eI≠[]:=λe=>by rw[List.map_eq_nil_iff]at e;rw[e]at hc;simp at hc;omega
 simp only[eE,eN,seval,eY,c115,CV];refine⟨AY zo zd,zo,λq=>absurd q d8,λ_ cap hcap=>?_⟩;obtain⟨n,rfl⟩:=Za hc.1;have hn:n<cells.length:=zo
 have z1:((n:Int)<(cells.length:Int))=True:=X1 hc.2;simp only[eZ,seval,eY,EN,z1];refine⟨by rw[Xz,X0];omega,⟨by rw[Z2,Xz,X0];omega,hcap⟩,?_⟩;rw[TY hn];exact Wk.sl (.inl (by split<;>rfl))
section
def dM:Dc Prm:=dEx encM decM
def dM_ok(p:Prm):dM.ok (encM p)=True:=X1 (by show encM p=encM (decM (encM p));rw[KE])
def dM_dec(p:Prm):dM.dec (encM p)=p:=KE p
structure PrC(k:qw)(x:zj)(letters:List Int):Prop where
 ck:Bl k=0
 fd:qv k.d
 fx:jk x
 ox:OKL x
 lt:letters∈chs k.d.syms.length x.ls.length
variable {k:qw} {letters:List Int} {x:zj}
theorem PrC.rd(h:PrC k x letters):RdC k x letters:=⟨h.ck,h.fd,h.fx,h.ox,(J9 h.lt).1⟩
structure ClP(k:qw)(x:zj)(cells:List Int):Prop where
 cl:ClC k x cells
 ge:∀s∈cells,-1<=s
structure KlOK(k:qw)(q:Cnd)(letters cells:List Int):Prop where
 cl:ClOK k q letters cells
 ge:∀s∈cells,-1<=s
 h3:q.k=3->q.cs.length=2
def Qv(k:qw):List Fs->AC->Prop×Fs:=λa _=>match a with
 |[K,Q,a1,a2]=>(dKn.ok K/\dKn.dec K=k/\dQ.ok Q/\dIs.ok a1/\dIs.ok a2/\KlOK k (dQ.dec Q) (dIs.dec a1) (dIs.dec a2),.bool (F8 (AT k) (dQ.dec Q) (dIs.dec a1) (dIs.dec a2)))
 |_=>(False,.tup [])
theorem rowKlq(k:qw):∀args H n,(Qv k args H).1->Al prog 44 args H n (Qv k args H).2:=by
 intro args H n hh;unfold Qv at hh⊢;split at hh
 ·obtain⟨h1,h2,h3,h4,h5,h6⟩:=hh;have w1:=dKn.wk _ h1;rw[h2]at w1;refine AP.args ((p44 k _ _ _ h6.cl h6.ge h6.h3).quiet H n) ?_;rintro g vs ⟨v1,r1,rfl,k1,v2,r2,rfl,k2,v3,r3,rfl,k3,v4,r4,rfl,k4,k5⟩;exact⟨v1,_,rfl,w1 _ _ k1,v2,_,rfl,dQ.wk _ h3 _ _ k2,v3,_,rfl,dIs.wk _ h4 _ _ k3,v4,_,rfl,dIs.wk _ h5 _ _ k4,k5⟩
 ·exact hh.elim
theorem kl_ok{cells:List Int}(h:RdC k x letters)(hc:ClP k x cells){q:Cnd}(hq:q∈x.qs):KlOK k q letters cells:=by
 refine⟨cl_ok h hc.cl hq,hc.ge,λh3=>?_⟩;rcases(SE (h.ox.qs q hq)).kind with⟨z,-⟩|⟨z,-⟩|⟨-,z,-⟩|⟨z,-⟩|⟨z,-⟩<;>first|exact z|omega
abbrev Hkx(k:qw)(x:zj):AC:=hset (hset hnil 0 (.box (AH k))) 1 (.box (Ab x))
structure BgC(x:zj)(letters:List Int):Prop where
 fx:few x.cs
 c:0<=x.c/\x.c<(x.cs.length:Int)
 l:0<=x.l/\x.l<(letters.length:Int)
theorem PrC.bg(h:PrC k x letters):BgC x letters:=⟨h.fx.cs,h.ox.c,by rw[h.rd.ll];exact h.ox.l⟩
structure IBg(x:zj)(v:VPy):Prop where
 hi:v.i<=x.cs.length
 hn:2<=v.n
 fr:AR v.H v.n
 h0:hget v.H 0=some (.box (Ab x))
 tok:tkG 1 1 v.H v.tk
 es:v.tk.esz=1\/v.i=0
def WU:List Fs->AC->Prop×Fs:=s3 dIs dI dI (λl c _=>few l/\0<=c/\c<(l.length:Int)) λl c s=>eIs (l.set c.toNat s)
theorem TZ(n:Nat)(v:Fs):List.replicate (n+1) v=List.replicate n v++[v]:=List.replicate_succ'
theorem WV{cells:List Int}{i:Nat}{s:Int}(hc:ClP k x cells)(hs:okSy k s):ClP k x (cells.set i s):=by
 refine⟨⟨by rw[Z2];exact hc.cl.len,λt ht h0=>?_⟩,λt ht=>?_⟩
 ·rcases Zf ht with q|q
  ·exact hc.cl.sy t q h0
  ·rw[q];exact hs
 ·rcases Zf ht with q|q
  ·exact hc.ge t q
  ·rw[q];have:=hs.1;omega
theorem WW(h:PrC k x letters):ClP k x (begC x letters):=by
 have hvl:(AT k).length=k.d.syms.length:=by unfold AT;rw[X0]
 have hb:=D0 (vals:=AT k) h.ox (by rw[hvl];exact h.lt);refine⟨⟨E8 ..,λs hs h0=>?_⟩,λs hs=>?_⟩
 ·grind [begC]
 ·grind [begC]
theorem chk_ok(h:chk x=0):OKL x:=by
 unfold chk at h;split at h
 ·rename_i q;exact(J3 x).1 q
 ·cases h
theorem NJ(hk:qv k.d)(hx:jk x)(h:BX k x=0):Bl k=0/\OKL x:=by
 unfold BX at h;by_cases hc:Bl k=0
 ·rw[X6 (by simpa using hc)]at h;exact⟨hc,chk_ok h⟩
 ·rw[Xp hc]at h;exact absurd h hc
end
structure RfK(k:qw):Prop where
 kn:FewKr k
 rg:k.d.regs.length<999999000
def RfK.fr{k:qw}(h:RfK k):FewR k.d:=⟨h.kn.d,h.rg⟩
def WX:List Fs->AC->Prop×Fs:=s1 dKn RfK λk=>.int .i64 (Bl k)
def rowKcq:∀args H n,(WX args H).1->Al prog 22 args H n (WX args H).2:=q1 λk h=>p22 k h.fr h.kn
def Ki:List Fs->AC->Prop×Fs:=λa _=>match a with
 |[.int .i64 m,.int .i64 n]=>(0<=m/\m<=16/\0<=n/\n<=3,eLl (chs m.toNat n.toNat))
 |_=>(False,.tup [])
def VD:∀args H k,(Ki args H).1->Al prog 35 args H k (Ki args H).2:=by
 intro args H k hh;unfold Ki at hh⊢;split at hh
 ·rename_i m n;obtain⟨h1,h2,h3,h4⟩:=hh;obtain⟨m,rfl⟩:=Za h1;obtain⟨n,rfl⟩:=Za h3;rw[Xo,Xo,J8];exact(p35 m zo n zo).quiet H k
 ·exact hh.elim
def Tva':Tab:=tadd 22 WX (tadd 23 (s1 dX jk λx=>eI (chk x)) tnil)
def WY:AJ prog Tva':=(AJ.tnil.add (q1 λx h=>p23 x h)).add rowKcq
theorem VE(a:List Fs)(H:AC):Tva' 22 a H=s1 dKn RfK (λk=>.int .i64 (Bl k)) a H:=rfl
theorem Tva'_z(a:List Fs)(H:AC):Tva' 23 a H=s1 dX jk (λx=>eI (chk x)) a H:=rfl
def p47(k:qw)(x:zj)(hk:RfK k)(hx:jk x):Pur prog 47 [A9 k,encL x] (eI (BX k x)):=by
 have u1:dKn.ok (.agg (AH k))=True:=CC k;have u2:dKn.dec (.agg (AH k))=k:=BP k;simp only[AH,AD,AI,Y7,Y5]at u1 u2;have v1:dX.ok (.agg (Ab x))=True:=Ff x;have v2:dX.dec (.agg (Ab x))=x:=DW x;simp only[Ab]at v1 v2;refine .mk ⟨Aa 0 k,As 0 x,trivial⟩ trivial (c47.a (AF WY (AG ?_)));unfold BX;by_cases hc:Bl k=0
 ·rw[X6 (by simpa using hc)];simp only[eZ,seval,X3,c47,AH,AD,AI,VE,Tva'_z,s1,u1,u2,v1,v2,X1 hk,X1 hx,X1 hc]
 ·rw[Xp hc];simp only[eZ,seval,X5,c47,AH,AD,AI,VE,s1,u1,u2,X1 hk,X7 hc]
def Tbh:Tab:=tadd 115 WU tnil
def Tbh_ok:AJ prog Tbh:=AJ.tnil.add (q3 λl c s h=>p115 l c s h.2 h.1)
theorem Tbh_w(a:List Fs)(H:AC):Tbh 115 a H=s3 dIs dI dI (λl c _=>few l/\0<=c/\c<(l.length:Int)) (λl c s=>eIs (l.set c.toNat s)) a H:=rfl
def WZ{tk:jx}{m:Nat}(h:tk.esz=1\/m=0):dIs.ok (.sl tk (List.replicate m (.int .i64 (-1))))=True:=X1 ⟨h.imp (λq=>q) (λq=>by rw[q];rfl),by rw[Z1,Z1];rfl⟩
def Ta{tk:jx}{m:Nat}:dIs.dec (.sl tk (List.replicate m (.int .i64 (-1))))=List.replicate m (-1):=by
 show(List.replicate m (Fs.int .i64 (-1))).map toI=_;rw[Z1];rfl
def p83(x:zj)(letters:List Int)(h:BgC x letters):Pur prog 83 [encL x,eIs letters] (eIs (begC x letters)):=by
 refine .mk ⟨As 0 x,AQ 0 _,trivial⟩ (AQ 0 _) (c83.a (AF Tbh_ok (AG ?_)));have hxl:x.cs.length<1000000000:=h.fx;have hlx:=h.l;have g2:=BI hlx.1 hlx.2;simp only[eE,eN,seval,c83];refine AL (λv:VPy=>⟨[(1,true,eIs letters),(2,true,.ptr 0 0),(5,true,.sl v.tk (List.replicate v.i (.int .i64 (-1)))),(6,true,.int .i64 v.i)],v.H,v.n⟩) (IBg x) (λv=>x.cs.length-v.i)
  ⟨0,.exact 1,_,2⟩ rfl ⟨Xn _,X9 _,AR.nil.hset (m:=2) (Xn _) zd,rfl,.inr (.inl rfl),.inr rfl⟩ ?_
 rintro⟨i,tk,H,n⟩ ⟨hi,hn,hf,h0,c8,d7⟩;simp only at hi hn hf h0 c8 d7;have o7:=h0;simp only[Ab]at h0;by_cases c5:i<x.cs.length;case neg=>
  obtain rfl:i=x.cs.length:=zo
  have w1:(few (List.replicate x.cs.length (-1:Int))/\0<=x.c/\x.c<((List.replicate x.cs.length (-1:Int)).length:Int))=True:=X1 ⟨by show(List.replicate x.cs.length (-1:Int)).length<_;rw[YL];exact hxl,h.c.1,by rw[YL];exact h.c.2⟩;simp only[eZ,seval,eY,lt_F c5,h0,X1 hlx.1,X1 hlx.2,g2,Tbh_w,s3,WZ d7,Ta,A4,Ai,w1];exact Wk.refl _
 have e:=AE (k:=i) zo;have q1:A8 H 1 tk=True:=X1 c8.app;have q2:(i<=35184372088831)=True:=X1 zo;have q3:Aj (i+1) 8=True:=X1 (AY zo zd);simp only[eZ,seval,X0,lt_T c5,h0,q1,q2,q3,fr1 hf,e,YL];exact .mk ⟨i+1,.own (n+2) 1,hset (AO H tk) (n+2) .tok,n+4⟩ (by simp only[TZ]) ⟨c5,zp,(AU c8 hf).hset (m:=n+4) zo zo,by
  simp only[];rw[AA _ _ _ _ zo,AX c8 (.inl zd)];exact o7,.inr (.inr ⟨n+2,rfl,zo,AB ..⟩),.inl rfl⟩ zp
def Tzd:Tab:=tadd 78 rowSm (tadd 63 Oj tnil)
def VG:AJ prog Tzd:=(AJ.tnil.add (q2 λl s h=>p63 l s h)).add (q2 λl c h=>p78 l c h.1 h.2)
theorem Tzd_s(a:List Fs)(H:AC):Tzd 78 a H=s2 dIs dIs (λl cells=>few l/\∀c∈l,0<=c/\c<(cells.length:Int)) (λl cells=>eIs (l.map (at0 cells))) a H:=rfl
theorem Wa(a:List Fs)(H:AC):Tzd 63 a H=s2 dIs dI (λl _=>few l) (λl s=>.bool (l.contains s)) a H:=rfl
structure DnC(p:Prm)(letters cells:List Int):Prop where
 c:0<=p.c/\p.c<(cells.length:Int)
 ls:few p.ls/\∀c∈p.ls,0<=c/\c<(letters.length:Int)
def p96(p:Prm)(letters cells:List Int)(h:DnC p letters cells):Pur prog 96 [encM p,eIs letters,eIs cells] (.bool (F9 p letters cells)):=by
 refine .mk ⟨JN 0 p,AQ 0 _,AQ 0 _,trivial⟩ trivial (c96.a (AF VG (AG ?_)));have hg:=BI h.c.1 h.c.2;have f3:few (p.ls.map (at0 letters))=True:=X1 (by show(p.ls.map (at0 letters)).length<_;rw[X0];exact h.ls.1);unfold F9;by_cases h0:0<=at0 cells p.c
 ·rw[Y3 h0,Yq];simp only[eZ,seval,eY,c96,X1 h.c.1,X1 h.c.2,hg,X1 h0,Tzd_s,Wa,s2,Ac,AW,A4,Ai,X1 h.ls,f3]
 ·rw[Xy h0,YP];simp only[eZ,seval,eY,c96,X1 h.c.1,X1 h.c.2,hg,X7 h0]
def Tzm(k:qw):Tab:=tadd 44 (Qv k) (tadd 96 (s3 dM dIs dIs DnC λp l c=>.bool (F9 p l c)) tnil)
def Tzm_ok(k:qw):AJ prog (Tzm k):=(AJ.tnil.add (q3 λp l c h=>p96 p l c h)).add (rowKlq k)
def p55(k:qw)(x:zj)(at':Int)(letters cells:List Int)(h:RdC k x letters)(hc:ClP k x cells):Pur prog 55 [A9 k,encL x,.int .i64 at',eIs letters,eIs cells] (.bool (Ba (AT k) x letters cells at')):=by
 have u1:dKn.ok (.agg (AH k))=True:=CC k;have u2:dKn.dec (.agg (AH k))=k:=BP k;simp only[AH,AD,AI,Y7,Y5]at u1 u2;have hnq:x.qs.length<1000000000:=h.fx.qs;have hnp:x.ps.length<1000000000:=h.fx.ps;refine .mk ⟨Aa 0 k,As 0 x,trivial,AQ 0 _,AQ 0 _,trivial⟩ trivial (c55.a (AF (Tzm_ok k) (AG ?_)));have e2:IntKind.wrap .i64 ((x.qs.length:Int)+(x.ps.length:Int))=((x.qs.length+x.ps.length:Nat):Int):=by rw[Aq zo zo];omega
 by_cases hneg:at'<0
 ·rw[M7 hneg];simp only[eZ,seval,X3,X0,c55,X1 hneg]
 obtain⟨a,rfl⟩:=Za (Int.not_lt.1 hneg);by_cases hout:x.qs.length+x.ps.length<=a
 ·rw[M8 hout];have z:(((x.qs.length+x.ps.length:Nat):Int)<=(a:Int))=True:=X1 zo;simp only[eZ,seval,X0,c55,X7 hneg,e2,z]
 have z:(((x.qs.length+x.ps.length:Nat):Int)<=(a:Int))=False:=X7 zo;by_cases hq:a<x.qs.length
 ·have hg:=X2 hq;have hm:=Xt hq;generalize x.qs[a]=q at hg hm;rw[Uy hg];have hkl:=kl_ok h hc hm;simp only[eZ,seval,eY,c55,AH,AD,AI,X7 hneg,e2,z,lt_T hq,hg,Tzm,Qv,u1,u2,Sj,Lk,Ac,AW,X1 hkl,tadd]
 ·obtain⟨b,rfl⟩:∃b,a=x.qs.length+b:=⟨a-x.qs.length,zo⟩;have hb:b<x.ps.length:=zo
  have hg:=X2 hb;have hm:=Xt hb;generalize x.ps[b]=p at hg hm;rw[Uz hg];have hpc:=KX h.ox hm;rw[<-hc.cl.len]at hpc;have hdn:DnC p letters cells:=⟨hpc,Jb h p hm⟩;have w:IntKind.wrap .i64 (((x.qs.length+b:Nat):Int)-(x.qs.length:Int))=(b:Int):=by rw[Aq zo zo];omega
  simp only[eZ,seval,eY,c55,X7 hneg,e2,z,lt_F hq,lt_T hb,hg,w,Tzm,s3,dM_ok,dM_dec,Ac,AW,X1 hdn,tadd]
def ownF(x:zj)(letters:List Int)(c:Int)(i:Nat):Fs:=match (x.ps.take i).find? λp=>decide (p.c=c)with
 |none=>.sl (.exact 1) []
 |some p=>eIs (p.ls.map (at0 letters))
def anyF(x:zj)(c:Int)(i:Nat):Bool:=((x.ps.take i).find? λp=>decide (p.c=c)).isNone
def Qw{x:zj}{c:Int}{i:Nat}{q:Prm}(hx:OKL x)(h:x.ps[i]?=some q):(x.ps.take (i+1)).find? (λp=>decide (p.c=c))=if q.c=c then some q else(x.ps.take i).find? λp=>decide (p.c=c):=by
 rw[Xx,h,List.find?_append];cases hf:(x.ps.take i).find? λp=>decide (p.c=c)with
 |none=>
  show(none:Option Prm).or ([q].find? λp=>decide (p.c=c))=_;rw[Option.none_or,List.find?_cons,List.find?_nil];by_cases e:q.c=c
  ·rw[Y3 e,Xp e]
  ·rw[Xy e,X6 e]
 |some p=>
  rw[Option.some_or];by_cases e:q.c=c
  ·rw[Xp e];have hp:=ZR (List.mem_of_find?_eq_some hf);have hpc:=List.find?_some hf;simp only[X8]at hpc;have h1:=HI hx hp;have h2:=HI hx (Yx h);rw[hpc]at h1;rw[e]at h2;rw[h1]at h2;exact h2
  ·rw[X6 e]
def p114(k:qw)(x:zj)(letters:List Int)(c:Int)(hm16:k.d.syms.length<=16)(hx:OKL x)(hps:few x.ps)(s5:∀p∈x.ps,few p.ls/\∀c∈p.ls,0<=c/\c<(letters.length:Int)):Pur prog 114 [A9 k,encL x,eIs letters,.int .i64 c] (eIs (ES k.d.syms.length x letters c)):=by
 refine .mk ⟨Aa 0 k,As 0 x,AQ 0 _,trivial,trivial⟩ (AQ 0 _) (c114.a (AF VG (AG ?_)));have hnp:x.ps.length<1000000000:=hps;simp only[eE,eN,seval,c114];refine AL (λi:Nat=>⟨[(2,true,eIs letters),(3,true,.int .i64 c),(4,true,.ptr 0 0),(5,true,.ptr 1 0),(9,true,ownF x letters c i),(10,true,.bool (anyF x c i)),(11,true,.int .i64 i)],Hkx k x,3⟩) (λi=>i<=x.ps.length) (λi=>x.ps.length-i) 0 rfl (Xn _) ?_;intro i hi;by_cases c5:i<x.ps.length
 ·have hg:=X2 c5;have hm:=Xt c5;have e:=AE (k:=i) zo;generalize x.ps[i]=q at hg hm;have hft:=Qw (c:=c) hx hg;have hpr:=s5 q hm;by_cases hq:q.c=c
  ·rw[Xp hq]at hft;simp only[eZ,seval,eY,Ab,lt_T c5,hg,X1 hq,Tzd_s,s2,Ac,AW,X1 hpr,e];exact .mk (i+1) (by unfold ownF anyF;rw[hft];rfl) c5 zo
  ·rw[X6 hq]at hft;simp only[eZ,seval,eY,Ab,lt_T c5,hg,X7 hq,e];exact .mk (i+1) (by unfold ownF anyF;rw[hft]) c5 zo
 obtain rfl:i=x.ps.length:=zo
 have hown:ownF x letters c x.ps.length=match ER x c with|none=>.sl (.exact 1) []|some p=>eIs (p.ls.map (at0 letters)):=by unfold ownF ER;rw[Xu]
 have hany:anyF x c x.ps.length=(ER x c).isNone:=by unfold anyF ER;rw[Xu]
 rw[HJ];simp only[eZ,seval,X0,lt_F c5,Ab];have hH0:hget (Hkx k x) 0=some (.box (AH k)):=rfl;have hfr0:AR (Hkx k x) 3:=(AR.nil.hset (m:=3) (Xn _) zd).hset (m:=3) (X9 _) zd;refine AL (λv:VPy=>⟨[(4,true,.ptr 0 0),(9,true,ownF x letters c x.ps.length),(10,true,.bool (anyF x c x.ps.length)),(12,true,.sl v.tk ((((symI k.d.syms.length).take v.i).filter (conB x letters c)).map eI)),(13,true,.int .i64 v.i)],v.H,v.n⟩)
  (λv=>v.i<=k.d.syms.length/\3<=v.n/\AR v.H v.n/\hget v.H 0=some (.box (AH k))/\tkG 1 2 v.H v.tk/\(v.tk.esz=1\/((symI k.d.syms.length).take v.i).filter (conB x letters c)=[])) (λv=>k.d.syms.length-v.i)
  ⟨0,.exact 1,Hkx k x,3⟩ rfl ⟨Xn _,X9 _,hfr0,hH0,.inr (.inl rfl),.inl rfl⟩ ?_
 clear hH0 hfr0;rintro⟨i,tk,H,n⟩ ⟨i6,hn,hf,h0,c8,d7⟩;simp only at i6 hn hf h0 c8 d7;have o7:=h0;simp only[AH,AD,AI,Y7,Y5]at h0;by_cases o8:i<k.d.syms.length;case neg=>
  obtain rfl:i=k.d.syms.length:=zo
  have c6:(symI k.d.syms.length).take k.d.syms.length=symI k.d.syms.length:=Yr (by unfold symI;simp);rw[c6]at d7;simp only[eZ,seval,X0,lt_F o8,h0,c6];exact Wk.sl (d7.imp (λz=>z) λq=>by rw[q];rfl)
 have e:=AE (k:=i) zo;have htake:=Jg o8;have m7:=L5 k.d.syms.length i (conB x letters c);have q1:A8 H 1 tk=True:=X1 c8.app;have q2:((((symI k.d.syms.length).take i).filter (conB x letters c)).length<=35184372088831)=True:=X1 zo;have q3:Aj ((((symI k.d.syms.length).take i).filter (conB x letters c)).length+1) 8=True:=X1 (AY zo zd);have addT:conB x letters c (i:Int)=true->((symI k.d.syms.length).take (i+1)).filter (conB x letters c)=((symI k.d.syms.length).take i).filter (conB x letters c)++[(i:Int)]:=λq=>by
  rw[htake,YX,List.filter_cons_of_pos q];rfl
 have addF:conB x letters c (i:Int)=false->((symI k.d.syms.length).take (i+1)).filter (conB x letters c)=((symI k.d.syms.length).take i).filter (conB x letters c):=λq=>by
  rw[htake,YX,List.filter_cons_of_neg (by rw[q];decide),ZG,Yb]
 have hk0:hget (hset (AO H tk) (n+3) .tok) 0=some (.box (AH k)):=by
  rw[AA _ _ _ _ zo,AX c8 (.inl zd)];exact o7
 have nxT:conB x letters c (i:Int)=true->_:=λq=>(⟨o8,zo,(AU c8 hf).hset (m:=n+5) zo zo,hk0,.inr (.inr ⟨n+3,rfl,zo,AB ..⟩),.inl rfl⟩:i+1<=k.d.syms.length/\3<=n+5/\AR (hset (AO H tk) (n+3) .tok) (n+5)/\hget (hset (AO H tk) (n+3) .tok) 0=some (.box (AH k))/\tkG 1 2 (hset (AO H tk) (n+3) .tok) (.own (n+3) 1)/\((jx.own (n+3) 1).esz=1\/((symI k.d.syms.length).take (i+1)).filter (conB x letters c)=[]))
 cases hpa:ER x c with
 |none=>
  have t6:conB x letters c (i:Int)=true:=by unfold conB;rw[hpa]
  rw[hpa]at hany hown;simp only[Option.isNone_none]at hany hown;simp only[eZ,seval,X3,X0,lt_T o8,h0,hany,q1,q2,q3,fr1 hf,e];exact .mk ⟨i+1,.own (n+3) 1,hset (AO H tk) (n+3) .tok,n+5⟩ (by simp only[addT t6,Xr];rfl) (nxT t6) zp
 |some p=>
  have hpm:p∈x.ps:=List.mem_of_find?_eq_some hpa;have hpr:=s5 p hpm;have f3:few (p.ls.map (at0 letters))=True:=X1 (by show(p.ls.map (at0 letters)).length<_;rw[X0];exact hpr.1);have m9:conB x letters c (i:Int)=(p.ls.map (at0 letters)).contains (i:Int):=by unfold conB;rw[hpa]
  rw[hpa]at hany hown;simp only[Option.isNone_some]at hany hown;cases t6:conB x letters c (i:Int)with
  |true=>
   rw[t6]at m9;simp only[eZ,seval,X0,lt_T o8,h0,hany,hown,Wa,s2,Ac,AW,A4,Ai,f3,<-m9,q1,q2,q3,fr1 hf,e];exact .mk ⟨i+1,.own (n+3) 1,hset (AO H tk) (n+3) .tok,n+5⟩ (by simp only[addT t6,Xr];rfl) (nxT t6) zp
  |false=>
   rw[t6]at m9;simp only[eZ,seval,X0,lt_T o8,h0,hany,hown,Wa,s2,Ac,AW,A4,Ai,f3,<-m9,e];exact .mk ⟨i+1,tk,H,n⟩ (by simp only[addF t6]) ⟨o8,hn,hf,o7,c8,by simp only[addF t6];exact d7⟩ zp
section
def seqQ(G:Int->List jj->List jj×Bool):List Int->List jj->List jj×Bool
 |[],l=>(l,true)
 |s::r,l=>if(G s l).2=true then seqQ G r (G s l).1 else((G s l).1,false)
def DM(vals:List Int)(x:zj)(letters:List Int):Nat->List Int->List jj->List jj×Bool
 |_,_,[]=>([],false)
 |f,cells,n::l=>
  if n.k=Gk then(l,Ba vals x letters cells n.a)
  else if n.k=JL/\0<=n.a/\n.a<cells.length/\at0 cells n.a<0 then
   match f with
   |0=>([],false)
   |f+1=>seqQ (λs l=>DM vals x letters f (cells.set n.a.toNat s) l) (ES vals.length x letters n.a) l
  else([],false)
def Wb(q:List jj×Bool)(o:Option (List jj)):Prop:=q.2=o.isSome/\∀r,o=some r->q.1=r
theorem NK{G:Int->List jj->List jj×Bool}{F:Int->List jj->Option (List jj)}(h:∀s l,Wb (G s l) (F s l)):∀(ss:List Int) (l:List jj),Wb (seqQ G ss l) (seqT F ss l)
 |[],l=>⟨rfl,λr h=>by rw[seqT]at h;cases h;rfl⟩
 |s::ss,l=>by
  obtain⟨h1,h2⟩:=h s l;rw[seqQ,seqT];cases hF:F s l with
  |none=>
   rw[hF]at h1;rw[X6 (by rw[h1];decide)];exact⟨rfl,λr q=>by cases q⟩
  |some r=>
   rw[hF]at h1;rw[Xp (show(G s l).2=true from h1),h2 r hF];exact NK h ss r
variable {k:qw} {letters:List Int} {x:zj}
theorem Kj{vals:List Int}:∀(f:Nat) (cells:List Int) (l:List jj),Wb (DM vals x letters f cells l) (CH vals x letters f cells l)
 |f,cells,[]=>by rw[DM,CH];exact⟨rfl,λr q=>by cases q⟩
 |0,cells,n::l=>by
  rw[DM,CH];by_cases hk:n.k=Gk
  ·rw[Xp hk,Xp hk];cases Ba vals x letters cells n.a with
   |true=>exact⟨rfl,λr q=>by cases q;rfl⟩
   |false=>exact⟨rfl,λr q=>by cases q⟩
  ·rw[X6 hk,X6 hk];split<;>exact⟨rfl,λr q=>by cases q⟩
 |f+1,cells,n::l=>by
  rw[DM,CH];by_cases hk:n.k=Gk
  ·rw[Xp hk,Xp hk];cases Ba vals x letters cells n.a with
   |true=>exact⟨rfl,λr q=>by cases q;rfl⟩
   |false=>exact⟨rfl,λr q=>by cases q⟩
  ·rw[X6 hk,X6 hk];split
   ·exact NK (λs l=>Kj f _ l) _ _
   ·exact⟨rfl,λr q=>by cases q⟩
theorem NL{G:Int->List jj->List jj×Bool}(h:∀s l,(G s l).1.length<=l.length):∀(ss:List Int) (l:List jj),(seqQ G ss l).1.length<=l.length
 |[],l=>X9 _
 |s::ss,l=>by
  rw[seqQ];split
  ·exact Yi (NL h ss _) (h s l)
  ·exact h s l
theorem NN{vals:List Int}:∀(f:Nat) (cells:List Int) (l:List jj),(DM vals x letters f cells l).1.length<=l.length
 |f,cells,[]=>by rw[DM];exact X9 _
 |0,cells,n::l=>by
  rw[DM];split
  ·simp
  ·split<;>simp
 |f+1,cells,n::l=>by
  rw[DM];split
  ·simp
  ·split
   ·refine Yi (NL (λs l=>NN f _ l) _ _) zw
   ·simp
abbrev L6(q:List jj×Bool):Fs:=.tup [eCs q.1,.bool q.2]
def dCs:Dc (List jj):=⟨eCs,WO,okL 2 encC decC,Nw⟩
theorem NO(l:List jj):dCs.ok (eCs l)=True:=X1 ⟨.inl rfl,by rw[Ci NH]⟩
theorem Jh(l:List jj):dCs.dec (eCs l)=l:=Kh l
def Ol(k:qw)(x:zj)(letters:List Int)(F:List Int->List jj->List jj×Bool)(ok:List Int->List jj->Prop):List Fs->AC->Prop×Fs:=λa _=>match a with
 |[K,X,a1,a2,a3]=>(dKn.ok K/\dKn.dec K=k/\dX.ok X/\dX.dec X=x/\a1=eIs letters/\dIs.ok a2/\dCs.ok a3/\ok (dIs.dec a2) (dCs.dec a3),L6 (F (dIs.dec a2) (dCs.dec a3)))
 |_=>(False,.tup [])
theorem rowReq{F:List Int->List jj->List jj×Bool}{ok:List Int->List jj->Prop}(h:∀cells l,ok cells l->Pur prog 82 [A9 k,encL x,eIs letters,eIs cells,eCs l] (L6 (F cells l))):
  ∀args H n,(Ol k x letters F ok args H).1->Al prog 82 args H n (Ol k x letters F ok args H).2:=by
 intro args H n hh;unfold Ol at hh⊢;split at hh
 ·obtain⟨h1,h2,h3,h4,rfl,h5,h6,h7⟩:=hh;have w1:=dKn.wk _ h1;rw[h2]at w1;have w2:=dX.wk _ h3;rw[h4]at w2;refine AP.args ((h _ _ h7).quiet H n) ?_;rintro g vs ⟨v1,r1,rfl,k1,v2,r2,rfl,k2,v3,r3,rfl,k3,v4,r4,rfl,k4,v5,r5,rfl,k5,k6⟩;exact⟨v1,_,rfl,w1 _ _ k1,v2,_,rfl,w2 _ _ k2,v3,_,rfl,k3,v4,_,rfl,dIs.wk _ h5 _ _ k4,v5,_,rfl,dCs.wk _ h6 _ _ k5,k6⟩
 ·exact hh.elim
def Om(k:qw)(x:zj)(letters:List Int):List Fs->AC->Prop×Fs:=λa _=>match a with
 |[K,X,.int .i64 i,a1,a2]=>(dKn.ok K/\dKn.dec K=k/\dX.ok X/\dX.dec X=x/\a1=eIs letters/\dIs.ok a2/\ClP k x (dIs.dec a2),.bool (Ba (AT k) x letters (dIs.dec a2) i))
 |_=>(False,.tup [])
theorem rowCxq(hp:RdC k x letters):∀args H n,(Om k x letters args H).1->Al prog 55 args H n (Om k x letters args H).2:=by
 intro args H n hh;unfold Om at hh⊢;split at hh
 ·obtain⟨h1,h2,h3,h4,rfl,h5,h6⟩:=hh;have w1:=dKn.wk _ h1;rw[h2]at w1;have w2:=dX.wk _ h3;rw[h4]at w2;refine AP.args ((p55 k x _ letters _ hp h6).quiet H n) ?_;rintro g vs ⟨v1,r1,rfl,k1,v2,r2,rfl,k2,v3,r3,rfl,k3,v4,r4,rfl,k4,v5,r5,rfl,k5,k6⟩;exact⟨v1,_,rfl,w1 _ _ k1,v2,_,rfl,w2 _ _ k2,v3,_,rfl,k3,v4,_,rfl,k4,v5,_,rfl,dIs.wk _ h5 _ _ k5,k6⟩
 ·exact hh.elim
def On(k:qw)(x:zj)(letters:List Int):List Fs->AC->Prop×Fs:=λa _=>match a with
 |[K,X,a1,.int .i64 c]=>(dKn.ok K/\dKn.dec K=k/\dX.ok X/\dX.dec X=x/\a1=eIs letters,eIs (ES k.d.syms.length x letters c))
 |_=>(False,.tup [])
theorem rowCdq(hp:RdC k x letters):∀args H n,(On k x letters args H).1->Al prog 114 args H n (On k x letters args H).2:=by
 intro args H n hh;unfold On at hh⊢;split at hh
 ·obtain⟨h1,h2,h3,h4,rfl⟩:=hh;have w1:=dKn.wk _ h1;rw[h2]at w1;have w2:=dX.wk _ h3;rw[h4]at w2;refine AP.args ((p114 k x letters _ (Bc hp.ck).2 hp.ox hp.fx.ps (Jb hp)).quiet H n) ?_;rintro g vs ⟨v1,r1,rfl,k1,v2,r2,rfl,k2,v3,r3,rfl,k3,v4,r4,rfl,k4,k5⟩;exact⟨v1,_,rfl,w1 _ _ k1,v2,_,rfl,w2 _ _ k2,v3,_,rfl,k3,v4,_,rfl,k4,k5⟩
 ·exact hh.elim
def Tzrr(k:qw)(x:zj)(letters:List Int)(F:List Int->List jj->List jj×Bool)(ok:List Int->List jj->Prop):Tab:=tadd 55 (Om k x letters) (tadd 114 (On k x letters) (tadd 115 WU (tadd 82 (Ol k x letters F ok) tnil)))
theorem Qx{F:List Int->List jj->List jj×Bool}{ok:List Int->List jj->Prop}(hp:RdC k x letters)(h:∀cells l,ok cells l->Pur prog 82 [A9 k,encL x,eIs letters,eIs cells,eCs l] (L6 (F cells l))):AJ prog (Tzrr k x letters F ok):=
 (((AJ.tnil.add (rowReq h)).add (q3 λl c s h=>p115 l c s h.2 h.1)).add (rowCdq hp)).add (rowCxq hp)
section
variable (k:qw) (x:zj) (letters:List Int) (F:List Int->List jj->List jj×Bool) (ok:List Int->List jj->Prop) (a:List Fs) (H:AC)
theorem Tzrr_c:Tzrr k x letters F ok 55 a H=Om k x letters a H:=rfl
theorem Tzrr_d:Tzrr k x letters F ok 114 a H=On k x letters a H:=rfl
theorem Tzrr_p:Tzrr k x letters F ok 115 a H=s3 dIs dI dI (λl c _=>few l/\0<=c/\c<(l.length:Int)) (λl c s=>eIs (l.set c.toNat s)) a H:=rfl
theorem Tzrr_r:Tzrr k x letters F ok 82 a H=Ol k x letters F ok a H:=rfl
end
structure VRe where
 i:Nat
 l:List jj
 ok:Bool
theorem Qy(h:RdC k x letters)(f:Nat)(ih:∀f',f=f'+1->∀cells l,negs cells<=f'->ClP k x cells->few l->Pur prog 82 [A9 k,encL x,eIs letters,eIs cells,eCs l] (L6 (DM (AT k) x letters f' cells l)))
  (cells:List Int) (l:List jj) (hneg:negs cells<=f) (hc:ClP k x cells) (hl:few l):Pur prog 82 [A9 k,encL x,eIs letters,eIs cells,eCs l] (L6 (DM (AT k) x letters f cells l)):=by
 have u1:dKn.ok (.agg (AH k))=True:=CC k;have u2:dKn.dec (.agg (AH k))=k:=BP k;simp only[AH,AD,AI,Y7,Y5]at u1 u2;have v1:dX.ok (.agg (Ab x))=True:=Ff x;have v2:dX.dec (.agg (Ab x))=x:=DW x;simp only[Ab]at v1 v2;have hx4:=h.ox.cs.2.2.2;have o6:=hc.cl.len;have hfc:few cells:=by show cells.length<_;omega
 have hsy:=Bc h.ck;have hvl:(AT k).length=k.d.syms.length:=by unfold AT;rw[X0]
 obtain⟨F,ok,hT,hF,d9⟩:∃(F:List Int->List jj->List jj×Bool) (ok:List Int->List jj->Prop),AJ prog (Tzrr k x letters F ok)/\(∀f',f=f'+1->F=λcells l=>DM (AT k) x letters f' cells l)/\(∀f',f=f'+1->ok=λcells l=>negs cells<=f'/\ClP k x cells/\few l):=by
  cases f with
  |zero=>exact⟨λ_ _=>([],false),λ_ _=>False,Qx h (λ_ _ q=>q.elim),λf' e=>zo,λf' e=>zo⟩
  |succ f=>exact⟨λcells l=>DM (AT k) x letters f cells l,λcells l=>negs cells<=f/\ClP k x cells/\few l,Qx h (λcells l q=>ih f rfl cells l q.1 q.2.1 q.2.2),λf' e=>by rw[Nat.succ.inj e],λf' e=>by rw[Nat.succ.inj e]⟩
 refine .mk ⟨Aa 0 k,As 0 x,AQ 0 _,AQ 0 _,HK 0 l,trivial⟩ ⟨HK 0 _,trivial,trivial⟩ (c82.a (AF hT (AG ?_)));cases l with
 |nil=>
  rw[DM];simp only[eZ,seval,c0,c82];exact Wk.tup (.cons (Wk.sl (.inr rfl)) (.cons (Wk.refl _) .nil))
 |cons n l=>
 have m7:l.length+1<1000000000:=hl;have htl:List.take l.length (l.map encC)=l.map encC:=Yr zw;by_cases hk:n.k=Gk
 ·have hr:DM (AT k) x letters f cells (n::l)=(l,Ba (AT k) x letters cells n.a):=by
   cases f<;>rw[DM,Xp hk]
  have k2:(n.k=2)=True:=X1 hk;rw[hr];simp only[eZ,seval,eY,c82,htl,AN,cS0,cS1,cS2,k2,AH,AD,AI,Tzrr_c,Om,u1,u2,v1,v2,Ac,AW,X1 hc,ZY];exact Wk.refl _
 have k2:(n.k=2)=False:=X7 hk;have i5:¬(n.k=JL/\0<=n.a/\n.a<cells.length/\at0 cells n.a<0)->DM (AT k) x letters f cells (n::l)=([],false):=λq=>by
  cases f<;>rw[DM,X6 hk,X6 q]
 by_cases hk1:n.k=1;case neg=>
  rw[i5 λq=>hk1 q.1];simp only[eZ,seval,X3,X5,eY,c82,htl,AN,cS0,cS1,cS2,k2,X7 hk1];exact Wk.tup (.cons (Wk.sl (.inr rfl)) (.cons (Wk.refl _) .nil))
 by_cases h0:n.a<0
 ·rw[i5 λq=>by have:=q.2.1;omega];simp only[eZ,seval,X3,eY,c82,htl,AN,cS0,cS1,cS2,k2,X1 hk1,X1 h0];exact Wk.tup (.cons (Wk.sl (.inr rfl)) (.cons (Wk.refl _) .nil))
 by_cases h1:(cells.length:Int)<=n.a
 ·rw[i5 λq=>by have:=q.2.2.1;omega];simp only[eZ,seval,X3,eY,c82,htl,AN,cS0,cS1,cS2,k2,X1 hk1,X7 h0,X1 h1];exact Wk.tup (.cons (Wk.sl (.inr rfl)) (.cons (Wk.refl _) .nil))
 have y0:(0<=n.a)=True:=X1 zo;have y1:(n.a<(cells.length:Int))=True:=X1 zo;have hga:=BI (of_eq_true y0) (of_eq_true y1);by_cases h2:0<=at0 cells n.a
 ·rw[i5 λq=>by have:=q.2.2.2;omega];simp only[eZ,seval,X3,eY,c82,htl,AN,cS0,cS1,cS2,k2,X1 hk1,X7 h0,X7 h1,y0,y1,hga,X1 h2];exact Wk.tup (.cons (Wk.sl (.inr rfl)) (.cons (Wk.refl _) .nil))
 obtain⟨f',rfl⟩:∃f',f=f'+1:=by
  cases f with
  |succ f=>exact⟨f,rfl⟩
  |zero=>exact absurd (Ka zo hga) zo
 obtain rfl:=hF f' rfl;obtain rfl:=d9 f' rfl;rw[DM,X6 hk,Xp ⟨hk1,of_eq_true y0,of_eq_true y1,zo⟩,hvl];simp only[eZ,seval,X3,eY,c82,htl,AN,cS0,cS1,cS2,k2,X1 hk1,X7 h0,X7 h1,y0,y1,hga,X7 h2,AH,AD,AI,Tzrr_d,On,u1,u2,v1,v2,ZY];generalize hG:(λs l=>DM (AT k) x letters f' (cells.set n.a.toNat s) l)=G;have hGs:∀s l,G s l=DM (AT k) x letters f' (cells.set n.a.toNat s) l:=λs l=>by rw[<-hG]
 have hrng:∀s∈ES k.d.syms.length x letters n.a,okSy k s:=λs hs=>by
  have:=Pg (vals:=AT k) (by rw[hvl];exact hs);rw[hvl]at this;exact this
 have hslen:(ES k.d.syms.length x letters n.a).length<=16:=by
  rw[HJ];refine Yi (Yz ..) ?_;unfold symI;simp;omega
 generalize ES k.d.syms.length x letters n.a=ss at hrng hslen;refine AL (λv:VRe=>⟨[(2,true,eIs letters),(3,true,eIs cells),(4,true,eCs v.l),(5,true,.ptr 0 0),(6,true,.ptr 1 0),(12,true,.ptr 7 0),(13,true,.bool v.ok),(14,true,eIs ss),(15,true,.int .i64 v.i)],hset (Hkx k x) 7 (.box [.int .i64 n.k,.int .i64 n.a]),9⟩)
  (λv=>v.i<=ss.length/\v.l.length<=l.length/\seqQ G ss l=if v.ok=true then seqQ G (ss.drop v.i) v.l else(v.l,false)) (λv=>ss.length-v.i) ⟨0,l,true⟩ rfl ⟨Xn _,X9 _,zw⟩ ?_
 rintro⟨i,l',b⟩ ⟨hi,hl',hR⟩;simp only at hi hl' hR;cases b with
 |false=>
  rw[X6 zd]at hR;rw[hR];by_cases c5:i<ss.length
  ·simp only[eZ,seval,X0,lt_T c5];exact Wk.refl _
  ·simp only[eZ,seval,X0,lt_F c5];exact Wk.refl _
 |true=>
 rw[Xp rfl]at hR;by_cases c5:i<ss.length;case neg=>
  rw[ZM zo,seqQ]at hR;rw[hR];simp only[eZ,seval,X0,lt_F c5];exact Wk.refl _
 have e:=AE (k:=i) zo;have hg:=X2 c5;have hsr:=hrng _ (Xt c5);rw[Y2 c5,seqQ]at hR;generalize ss[i]=s at hg hsr hR;have w1:few l'=True:=X1 (by show l'.length<_;omega);have hat:n.a.toNat<cells.length:=by have:=of_eq_true y0;have:=of_eq_true y1;omega
 have hns:=KC hga (show at0 cells n.a<0 by omega) hsr.1;have w2:ClP k x (cells.set n.a.toNat s)=True:=X1 (WV hc hsr);have w3:(negs (cells.set n.a.toNat s)<=f')=True:=X1 zo;have w4:=hGs s l';have hlen:=NN (vals:=AT k) (x:=x) (letters:=letters) f' (cells.set n.a.toNat s) l';rw[<-w4]at hlen;generalize G s l'=q at w4 hR hlen;simp only[eZ,seval,eY,lt_T c5,hg,AH,AD,AI,Ab,Tzrr_p,s3,Ac,AW,A4,Ai,X1 hfc,y0,y1,Tzrr_r,Ol,u1,u2,v1,v2,ZY,NO,Jh,w1,w2,w3,<-w4,e];refine .mk ⟨i+1,q.1,q.2⟩ rfl ⟨c5,zp,?_⟩ zp;simp only[];exact hR
theorem p82(h:RdC k x letters):∀(f:Nat) (cells:List Int) (l:List jj),negs cells<=f->ClP k x cells->few l->Pur prog 82 [A9 k,encL x,eIs letters,eIs cells,eCs l] (L6 (DM (AT k) x letters f cells l))
 |0,cells,l,hn,hc,hl=>Qy h 0 (λf' e=>zo) cells l hn hc hl
 |f+1,cells,l,hn,hc,hl=>Qy h (f+1) (λf' e cells l hn hc hl=>by obtain rfl:=Nat.succ.inj e;exact p82 h f cells l hn hc hl) cells l hn hc hl
end
def IQ(k:qw)(x:zj)(letters:List Int)(t:List jj):List jj×Bool:=DM (AT k) x letters x.cs.length (begC x letters) t
def L7(k:qw)(x:zj):List Fs->AC->Prop×Fs:=λa _=>match a with
 |[K,X,a1,a2,a3]=>(dKn.ok K/\dKn.dec K=k/\dX.ok X/\dX.dec X=x/\dIs.ok a1/\PrC k x (dIs.dec a1)/\dIs.ok a2/\dIs.dec a2=begC x (dIs.dec a1)/\dCs.ok a3/\few (dCs.dec a3),L6 (IQ k x (dIs.dec a1) (dCs.dec a3)))
 |_=>(False,.tup [])
def rowRbq(k:qw)(x:zj):∀args H n,(L7 k x args H).1->Al prog 82 args H n (L7 k x args H).2:=by
 intro args H n hh;unfold L7 at hh⊢;split at hh
 ·obtain⟨h1,h2,h3,h4,h5,h6,h7,h8,h9,h10⟩:=hh;have w1:=dKn.wk _ h1;rw[h2]at w1;have w2:=dX.wk _ h3;rw[h4]at w2;have w4:=dIs.wk _ h7;rw[h8]at w4;refine AP.args ((p82 h6.rd x.cs.length _ _ OF (WW h6) h10).quiet H n) ?_;rintro g vs ⟨v1,r1,rfl,k1,v2,r2,rfl,k2,v3,r3,rfl,k3,v4,r4,rfl,k4,v5,r5,rfl,k5,k6⟩;exact⟨v1,_,rfl,w1 _ _ k1,v2,_,rfl,w2 _ _ k2,v3,_,rfl,dIs.wk _ h5 _ _ k3,v4,_,rfl,w4 _ _ k4,v5,_,rfl,dCs.wk _ h9 _ _ k5,k6⟩
 ·exact hh.elim
def Tzrg(k:qw)(x:zj):Tab:=tadd 35 Ki (tadd 83 (s2 dX dIs BgC λx l=>eIs (begC x l)) (tadd 82 (L7 k x) tnil))
def Wc(k:qw)(x:zj):AJ prog (Tzrg k x):=((AJ.tnil.add (rowRbq k x)).add (q2 λx l h=>p83 x l h)).add VD
section
variable (k:qw) (x:zj) (a:List Fs) (H:AC)
end
def Oo{k:qw}{x:zj}{letters:List Int}{t:List jj}:decide (CH (AT k) x letters x.cs.length (begC x letters) t=some [])=((IQ k x letters t).2&&decide ((IQ k x letters t).1.length=0)):=by
 have h:=Kj (vals:=AT k) (x:=x) (letters:=letters) x.cs.length (begC x letters) t;unfold IQ;obtain⟨h1,h2⟩:=h;cases ht:CH (AT k) x letters x.cs.length (begC x letters) t with
 |none=>
  rw[ht]at h1;rw[h1];rfl
 |some r=>
  rw[ht]at h1;rw[h1,h2 r ht];cases r with
  |nil=>rfl
  |cons a r=>rfl
def NP(k:qw)(x:zj)(q:List Int×List jj):Bool:=decide (CH (AT k) x q.1 x.cs.length (begC x q.1) q.2=some [])
def p48(k:qw)(x:zj)(ts:List (List jj))(hk:qv k.d)(hx:jk x)(hv:BX k x=0)(ht:Oh ts):Pur prog 48 [A9 k,encL x,D5 ts] (.bool (EU (AT k) x ts)):=by
 have u1:dKn.ok (.agg (AH k))=True:=CC k;have u2:dKn.dec (.agg (AH k))=k:=BP k;simp only[AH,AD,AI,Y7,Y5]at u1 u2;have v1:dX.ok (.agg (Ab x))=True:=Ff x;have v2:dX.dec (.agg (Ab x))=x:=DW x;simp only[Ab]at v1 v2;obtain⟨hck,hox⟩:=NJ hk hx hv;have hsy:=Bc hck;have hvl:(AT k).length=k.d.syms.length:=by unfold AT;rw[X0]
 have hPr:∀l∈chs k.d.syms.length x.ls.length,PrC k x l:=λl hl=>⟨hck,hk,hx,hox,hl⟩
 have hl3:x.ls.length<=3:=hox.ls.2.2.2;have z1:((k.d.syms.length:Int)<=16)=True:=X1 zo;have z3:((x.ls.length:Int)<=3)=True:=X1 zo;have htl:ts.length<1000000000:=ht.1;have hR:EU (AT k) x ts=(decide ((chs k.d.syms.length x.ls.length).length=ts.length)&&((chs k.d.syms.length x.ls.length).zip ts).all (NP k x)):=by unfold EU;rw[hvl];rfl
 refine .mk ⟨Aa 0 k,As 0 x,DL 0 ts,trivial⟩ trivial (c48.a (AF (Wc k x) (AG ?_)));rw[hR];by_cases hlen:(chs k.d.syms.length x.ls.length).length=ts.length;case neg=>
  have w3:((ts.length:Int)=((chs k.d.syms.length x.ls.length).length:Int))=False:=X7 zo;rw[Xy hlen,YP];simp only[eZ,seval,X5,eY,c48,AH,AD,AI,Tzrg,Ki,z1,z3,w3,tadd]
 have w3:((ts.length:Int)=((chs k.d.syms.length x.ls.length).length:Int))=True:=X1 zo;rw[Y3 hlen,Yq];simp only[eZ,seval,X3,eY,c48,AH,AD,AI,Tzrg,Ki,z1,z3,w3,tadd];generalize chs k.d.syms.length x.ls.length=A at hPr hlen;refine AL (λi:Nat=>⟨[(3,true,.ptr 0 0),(4,true,.ptr 1 0),(5,true,.ptr 2 0),(7,true,eLl A),(8,true,.int .i64 i)],hset (Hkx k x) 2 (.box [eTr ts]),4⟩) (λi=>i<=A.length/\(A.zip ts).all (NP k x)=((A.drop i).zip (ts.drop i)).all (NP k x)) (λi=>A.length-i) 0 rfl ⟨Xn _,rfl⟩ ?_;rintro i ⟨hi,c6⟩;by_cases c5:i<A.length;case neg=>
  rw[ZM zo,Zr,List.all_nil]at c6;rw[c6];simp only[eZ,seval,X0,lt_F c5]
 have hltt:i<ts.length:=zo
 have e:=AE (k:=i) zo;have hg:=X2 c5;have hgt:=X2 hltt;have hpr:=hPr _ (Xt c5);have hft:=ht.2 _ (Xt hltt);rw[Y2 c5,Y2 hltt,Zo,Zy]at c6;generalize A[i]=l at hg hpr c6;generalize ts[i]=t at hgt hft c6;have x8:=Oo (k:=k) (x:=x) (letters:=l) (t:=t);have hrf:NP k x (l,t)=((IQ k x l t).2&&decide ((IQ k x l t).1.length=0)):=x8;rw[hrf]at c6;cases hb:(IQ k x l t).2 with
 |false=>
  rw[hb,YP,YP]at c6;rw[c6];simp only[eZ,seval,X3,X5,eY,lt_T c5,hg,lt_T hltt,hgt,AH,AD,AI,Ab,Tzrg,L7,s2,u1,u2,v1,v2,Ac,AW,NO,Jh,X1 hpr,X1 hpr.bg,X1 hft,ZY,hb,X5,tadd]
 |true=>
  rw[hb,Yq]at c6;by_cases hz:(IQ k x l t).1.length=0
  ·have w5:((0:Int)<((IQ k x l t).1.length:Int))=False:=X7 zo;rw[Y3 hz,Yq]at c6;simp only[eZ,seval,X3,eY,lt_T c5,hg,lt_T hltt,hgt,AH,AD,AI,Ab,Tzrg,L7,s2,u1,u2,v1,v2,Ac,AW,NO,Jh,X1 hpr,X1 hpr.bg,X1 hft,ZY,hb,X3,w5,e,tadd];exact .mk (i+1) rfl ⟨c5,c6⟩ zo
  ·have w5:((0:Int)<((IQ k x l t).1.length:Int))=True:=X1 zo;rw[Xy hz,YP]at c6;rw[c6];simp only[eZ,seval,X3,eY,lt_T c5,hg,lt_T hltt,hgt,AH,AD,AI,Ab,Tzrg,L7,s2,u1,u2,v1,v2,Ac,AW,NO,Jh,X1 hpr,X1 hpr.bg,X1 hft,ZY,hb,X3,w5,tadd]
def Tsck:Tab:=tadd 47 (s2 dKn dX (λk x=>RfK k/\jk x) λk x=>eI (BX k x)) (tadd 48 (s3 dKn dX dPf (λk x ts=>qv k.d/\jk x/\BX k x=0/\Oh ts) λk x ts=>.bool (EU (AT k) x ts)) tnil)
def Wd:AJ prog Tsck:=(AJ.tnil.add (q3 λk x ts h=>p48 k x ts h.1 h.2.1 h.2.2.1 h.2.2.2)).add (q2 λk x h=>p47 k x h.1 h.2)
def p19(k:qw)(x:zj)(ts:List (List jj))(hk:RfK k)(hx:jk x)(ht:Oh ts):Pur prog 19 [A9 k,encL x,D5 ts] (Cl k x ts):=by
 have u1:dKn.ok (.agg (AH k))=True:=CC k;have u2:dKn.dec (.agg (AH k))=k:=BP k;simp only[AH,AD,AI,Y7,Y5]at u1 u2;have v1:dX.ok (.agg (Ab x))=True:=Ff x;have v2:dX.dec (.agg (Ab x))=x:=DW x;simp only[Ab]at v1 v2;have t1:dPf.ok (.agg [eTr ts])=True:=dPf_ok ts;have t2:dPf.dec (.agg [eTr ts])=ts:=WP ts;refine .mk ⟨Aa 0 k,As 0 x,DL 0 ts,trivial⟩ ?_ (c19.a (AF Wd (AG ?_)))
 ·unfold Cl;split<;>exact⟨trivial,trivial,trivial⟩
 unfold Cl;by_cases hv:BX k x=0
 ·rw[X6 (by simpa using hv)];simp only[eZ,seval,X3,c19,AH,AD,AI,Tsck,s2,s3,u1,u2,v1,v2,t1,t2,X1 hk,X1 hk.kn.d,X1 hx,X1 ht,X1 hv,tadd];exact Wk.refl _
 ·rw[Xp hv];simp only[eZ,seval,X5,c19,AH,AD,AI,Tsck,s2,u1,u2,v1,v2,X1 hk,X1 hx,X7 hv,tadd];exact Wk.refl _
section
variable {k:qw}
theorem wds_rf(h:Je k=true)(hw:WdS k):RfK k:=by
 unfold Je at h;simp only[X4,X8]at h;obtain⟨⟨⟨⟨h1,h2⟩,h3⟩,h4⟩,h5⟩:=h;obtain⟨-,l2⟩:=Qm h1;obtain⟨n1,n2⟩:=HL h2;have hr:k.d.regs.length<999999000:=by
  unfold Jd at h5;simp only[X4,X8]at h5;omega
 exact⟨⟨Kb h5,show k.g.holes.length<_ by omega,show k.g.cells.length<_ by omega,⟨show k.nb.length<_ by omega,λl hl=>show l.length<_ by have:=n2 l hl;omega⟩,hw.ls,
  λl hl=>⟨show l.length<_ by have:=(HL (l2 l hl)).1;omega,λm hm=>show m.length<_ by have:=(HL (l2 l hl)).2 m hm;omega⟩⟩,hr⟩
def GE(k:qw)(x:zj)(letters:List Int):List Fs->AC->Prop×Fs:=λa _=>match a with
 |[K,X,.int .i64 i,a1,a2]=>(dKn.ok K/\dKn.dec K=k/\dX.ok X/\dX.dec X=x/\dIs.ok a1/\dIs.dec a1=letters/\dIs.ok a2/\ClP k x (dIs.dec a2),.bool (Ba (AT k) x letters (dIs.dec a2) i))
 |_=>(False,.tup [])
theorem Tb{x:zj}{letters:List Int}(h:RdC k x letters):∀args H n,(GE k x letters args H).1->Al prog 55 args H n (GE k x letters args H).2:=by
 intro args H n hh;unfold GE at hh⊢;split at hh
 ·obtain⟨h1,h2,h3,h4,h5,h6,h7,h8⟩:=hh;have w1:=dKn.wk _ h1;have w2:=dX.wk _ h3;have w3:=dIs.wk _ h5;rw[h2]at w1;rw[h4]at w2;rw[h6]at w3;refine AP.args ((p55 k x _ letters _ h h8).quiet H n) ?_;rintro g vs ⟨v1,r1,rfl,k1,v2,r2,rfl,k2,v5,r5,rfl,k5,v3,r3,rfl,k3,v4,r4,rfl,k4,k6⟩;exact⟨v1,_,rfl,w1 _ _ k1,v2,_,rfl,w2 _ _ k2,v5,_,rfl,k5,v3,_,rfl,w3 _ _ k3,v4,_,rfl,dIs.wk _ h7 _ _ k4,k6⟩
 ·exact hh.elim
def Tho(k:qw)(x:zj)(letters:List Int):Tab:=tadd 55 (GE k x letters) tnil
theorem Tho_ok{x:zj}{letters:List Int}(h:RdC k x letters):AJ prog (Tho k x letters):=AJ.tnil.add (Tb h)
theorem p24(k:qw)(x:zj)(letters cells:List Int)(h:RdC k x letters)(hc:ClP k x cells):Pur prog 24 [A9 k,encL x,eIs letters,eIs cells] (.bool (DV (AT k) x letters cells)):=by
 have u1:dKn.ok (.agg (AH k))=True:=CC k;have u2:dKn.dec (.agg (AH k))=k:=BP k;simp only[AH,AD,AI,Y7,Y5]at u1 u2;have v1:dX.ok (.agg (Ab x))=True:=Ff x;have v2:dX.dec (.agg (Ab x))=x:=DW x;simp only[Ab]at v1 v2;have hnq:x.qs.length<1000000000:=h.fx.qs;have hnp:x.ps.length<1000000000:=h.fx.ps;have e2:IntKind.wrap .i64 ((x.qs.length:Int)+(x.ps.length:Int))=((x.qs.length+x.ps.length:Nat):Int):=by rw[Aq zo zo];omega
 refine .mk ⟨Aa 0 k,As 0 x,AQ 0 _,AQ 0 _,trivial⟩ trivial (c24.a (AF (Tho_ok h) (AG ?_)));simp only[eE,eN,seval,c24];refine AL (λi:Nat=>⟨[(2,true,eIs letters),(3,true,eIs cells),(4,true,.ptr 0 0),(5,true,.ptr 1 0),(9,true,.int .i64 i)],Hkx k x,3⟩) (λi=>i<=x.qs.length+x.ps.length/\∀j:Nat,j<i->Ba (AT k) x letters cells (j:Int)=false) (λi=>x.qs.length+x.ps.length-i) 0 rfl ⟨Xn _,λj h=>zo⟩ ?_;rintro i ⟨hi,e9⟩;by_cases c5:i<x.qs.length+x.ps.length;case neg=>
  obtain rfl:i=x.qs.length+x.ps.length:=zo
  rw[Fg.2 e9];simp only[eZ,seval,X0,Ab,e2,lt_F c5]
 have e:=AE (k:=i) zo;cases hb:Ba (AT k) x letters cells (i:Int)with
 |true=>
  have:DV (AT k) x letters cells=false:=by
   cases q:DV (AT k) x letters cells with
   |false=>rfl
   |true=>rw[Fg.1 q i c5]at hb;cases hb
  rw[this];simp only[eZ,seval,X0,Ab,e2,lt_T c5,AH,AD,AI,Tho,GE,u1,u2,v1,v2,Ac,AW,X1 hc,hb,tadd]
 |false=>
  simp only[eZ,seval,X0,Ab,e2,lt_T c5,AH,AD,AI,Tho,GE,u1,u2,v1,v2,Ac,AW,X1 hc,hb,e,tadd];refine .mk (i+1) rfl ⟨c5,λj hj=>?_⟩ zo;by_cases w:j<i
  ·exact e9 j w
  ·obtain rfl:j=i:=zo
   exact hb
end
section
structure FlC(k:qw)(x:zj)(cells:List Int):Prop where
 len:cells.length=x.cs.length
 sy:∀s∈cells,okSy k s
variable {k:qw} {letters:List Int} {x:zj}
theorem FlC.cl{cells:List Int}(h:FlC k x cells):ClP k x cells:=⟨⟨h.len,λs hs _=>h.sy s hs⟩,λs hs=>by have:=(h.sy s hs).1;omega⟩
def L8(k:qw)(x:zj)(letters:List Int)(at':Int)(F:List Int->Bool)(ok:List Int->Prop):List Fs->AC->Prop×Fs:=λa _=>match a with
 |[K,X,a1,a2,.int .i64 i]=>(dKn.ok K/\dKn.dec K=k/\dX.ok X/\dX.dec X=x/\a1=eIs letters/\dIs.ok a2/\ok (dIs.dec a2)/\i=at',.bool (F (dIs.dec a2)))
 |_=>(False,.tup [])
theorem rowAgq{at':Int}{F:List Int->Bool}{ok:List Int->Prop}(h:∀cells,ok cells->Pur prog 84 [A9 k,encL x,eIs letters,eIs cells,.int .i64 at'] (.bool (F cells))):
  ∀args H n,(L8 k x letters at' F ok args H).1->Al prog 84 args H n (L8 k x letters at' F ok args H).2:=by
 intro args H n hh;unfold L8 at hh⊢;split at hh
 ·obtain⟨h1,h2,h3,h4,rfl,h5,h6,rfl⟩:=hh;have w1:=dKn.wk _ h1;rw[h2]at w1;have w2:=dX.wk _ h3;rw[h4]at w2;refine AP.args ((h _ h6).quiet H n) ?_;rintro g vs ⟨v1,r1,rfl,k1,v2,r2,rfl,k2,v3,r3,rfl,k3,v4,r4,rfl,k4,k5⟩;exact⟨v1,_,rfl,w1 _ _ k1,v2,_,rfl,w2 _ _ k2,v3,_,rfl,k3,v4,_,rfl,dIs.wk _ h5 _ _ k4,k5⟩
 ·exact hh.elim
def FP(k:qw)(x:zj)(letters:List Int):List Fs->AC->Prop×Fs:=λa _=>match a with
 |[K,X,a1,a2]=>(dKn.ok K/\dKn.dec K=k/\dX.ok X/\dX.dec X=x/\a1=eIs letters/\dIs.ok a2/\ClP k x (dIs.dec a2),.bool (DV (AT k) x letters (dIs.dec a2)))
 |_=>(False,.tup [])
theorem Tc(h:RdC k x letters):∀args H n,(FP k x letters args H).1->Al prog 24 args H n (FP k x letters args H).2:=by
 intro args H n hh;unfold FP at hh⊢;split at hh
 ·obtain⟨h1,h2,h3,h4,rfl,h7,h8⟩:=hh;have w1:=dKn.wk _ h1;have w2:=dX.wk _ h3;rw[h2]at w1;rw[h4]at w2;refine AP.args ((p24 k x letters _ h h8).quiet H n) ?_;rintro g vs ⟨v1,r1,rfl,k1,v2,r2,rfl,k2,v3,r3,rfl,k3,v4,r4,rfl,k4,k6⟩;exact⟨v1,_,rfl,w1 _ _ k1,v2,_,rfl,w2 _ _ k2,v3,_,rfl,k3,v4,_,rfl,dIs.wk _ h7 _ _ k4,k6⟩
 ·exact hh.elim
def Tag(k:qw)(x:zj)(letters:List Int)(at':Int)(F:List Int->Bool)(ok:List Int->Prop):Tab:=tadd 24 (FP k x letters) (tadd 115 WU (tadd 84 (L8 k x letters at' F ok) tnil))
theorem VH{at':Int}{F:List Int->Bool}{ok:List Int->Prop}(hp:PrC k x letters)(h:∀cells,ok cells->Pur prog 84 [A9 k,encL x,eIs letters,eIs cells,.int .i64 at'] (.bool (F cells))):AJ prog (Tag k x letters at' F ok):=
 ((AJ.tnil.add (rowAgq h)).add (q3 λl c s h=>p115 l c s h.2 h.1)).add (Tc hp.rd)
section
variable (k:qw) (x:zj) (letters:List Int) (at':Int) (F:List Int->Bool) (ok:List Int->Prop) (a:List Fs) (H:AC)
theorem Tag_h:Tag k x letters at' F ok 24 a H=FP k x letters a H:=rfl
theorem Tag_w:Tag k x letters at' F ok 115 a H=s3 dIs dI dI (λl c _=>few l/\0<=c/\c<(l.length:Int)) (λl c s=>eIs (l.set c.toNat s)) a H:=rfl
theorem Tag_a:Tag k x letters at' F ok 84 a H=L8 k x letters at' F ok a H:=rfl
end
theorem Ij(h:PrC k x letters)(j at':Nat)(cells:List Int)(hj:at'+j=x.cs.length)(hc:FlC k x cells)
  (ih:∀j',j=j'+1->∀cells,FlC k x cells->Pur prog 84 [A9 k,encL x,eIs letters,eIs cells,.int .i64 ((at'+1:Nat):Int)] (.bool (tryR (AT k) x letters j' (at'+1) cells))):
  Pur prog 84 [A9 k,encL x,eIs letters,eIs cells,.int .i64 at'] (.bool (tryR (AT k) x letters j at' cells)):=by
 have u1:dKn.ok (.agg (AH k))=True:=CC k;have u2:dKn.dec (.agg (AH k))=k:=BP k;simp only[AH,AD,AI,Y7,Y5]at u1 u2;have v1:dX.ok (.agg (Ab x))=True:=Ff x;have v2:dX.dec (.agg (Ab x))=x:=DW x;simp only[Ab]at v1 v2;have hx4:=h.ox.cs.2.2.2;have o6:=hc.len;have hfc:few cells:=by show cells.length<_;omega
 have hsy:=Bc h.ck;have hvl:(AT k).length=k.d.syms.length:=by unfold AT;rw[X0]
 cases j with
 |zero=>
  have hT:=VH (at':=0) (F:=λ_=>false) (ok:=λ_=>False) h (λ_ q=>q.elim);refine .mk ⟨Aa 0 k,As 0 x,AQ 0 _,AQ 0 _,trivial,trivial⟩ trivial (c84.a (AF hT (AG ?_)));have he:((at':Int)=(cells.length:Int))=True:=X1 zo;have hcx:=h.ox.c;have hlx:=h.ox.l;rw[<-o6]at hcx;rw[<-h.rd.ll]at hlx;have g1:=BI hcx.1 hcx.2;have g2:=BI hlx.1 hlx.2;rw[tryR];by_cases hq:at0 cells x.c=at0 letters x.l
  ·rw[Y3 hq,Yq];simp only[eZ,seval,eY,c84,AH,AD,AI,Tag_h,FP,u1,u2,v1,v2,Ac,AW,X1 hc.cl,ZY,he,X1 hcx.1,X1 hcx.2,X1 hlx.1,X1 hlx.2,g1,g2,X1 hq]
  ·rw[Xy hq,YP];simp only[eZ,seval,eY,c84,AH,AD,AI,Tag_h,FP,u1,u2,v1,v2,Ac,AW,X1 hc.cl,ZY,he,X1 hcx.1,X1 hcx.2,X1 hlx.1,X1 hlx.2,g1,g2,X7 hq]
 |succ j=>
  have hT:=VH (at':=((at'+1:Nat):Int)) h (ih j rfl);refine .mk ⟨Aa 0 k,As 0 x,AQ 0 _,AQ 0 _,trivial,trivial⟩ trivial (c84.a (AF hT (AG ?_)));have he:((at':Int)=(cells.length:Int))=False:=X7 zo;have e1:=AE (k:=at') zo;rw[tryR,hvl];simp only[eZ,seval,X0,c84,he];generalize hG:(λs=>tryR (AT k) x letters j (at'+1) (cells.set at' s))=G;have hGs:∀s,G s=tryR (AT k) x letters j (at'+1) (cells.set at' s):=λs=>by rw[<-hG]
  refine AL (λi:Nat=>⟨[(2,true,eIs letters),(3,true,eIs cells),(4,true,.int .i64 at'),(5,true,.ptr 0 0),(6,true,.ptr 1 0),(11,true,.int .i64 i)],Hkx k x,3⟩) (λi=>i<=k.d.syms.length/\(symI k.d.syms.length).any G=((symI k.d.syms.length).drop i).any G) (λi=>k.d.syms.length-i) 0 rfl ⟨Xn _,rfl⟩ ?_;rintro i ⟨hi,hR⟩;by_cases c5:i<k.d.syms.length;case neg=>
   obtain rfl:i=k.d.syms.length:=zo
   rw[ZM (by unfold symI;simp),aG]at hR;rw[hR];simp only[eZ,seval,X0,lt_F c5,AH,AD,AI]
  have e:=AE (k:=i) zo;have sd:(symI k.d.syms.length).drop i=(i:Int)::(symI k.d.syms.length).drop (i+1):=by
   unfold symI;rw[Y2 (by simpa using c5)];simp
  rw[sd,ZX]at hR;have hset:FlC k x (cells.set at' (i:Int)):=⟨by rw[Z2];exact o6,λs hs=>by
   rcases Zf hs with q|q
   ·exact hc.sy s q
   ·rw[q];exact⟨zo,zo⟩⟩
  have hcat:at'<cells.length:=zo
  cases hGi:G (i:Int)with
  |false=>
   rw[hGi,YN]at hR;have hGi':=hGi;rw[hGs]at hGi';simp only[eZ,seval,eY,lt_T c5,AH,AD,AI,Ab,Tag_w,s3,Ac,AW,A4,Ai,X1 hfc,lt_T hcat,Tag_a,L8,u1,u2,v1,v2,ZY,X1 hset,e1,hGi',e];exact .mk (i+1) rfl ⟨c5,hR⟩ zo
  |true=>
   rw[hGi,ZV]at hR;have hGi':=hGi;rw[hGs]at hGi';rw[hR];simp only[eZ,seval,eY,lt_T c5,AH,AD,AI,Ab,Tag_w,s3,Ac,AW,A4,Ai,X1 hfc,lt_T hcat,Tag_a,L8,u1,u2,v1,v2,ZY,X1 hset,e1,hGi']
theorem p84(h:PrC k x letters):∀(j at':Nat) (cells:List Int),at'+j=x.cs.length->FlC k x cells->Pur prog 84 [A9 k,encL x,eIs letters,eIs cells,.int .i64 at'] (.bool (tryR (AT k) x letters j at' cells))
 |0,at',cells,hj,hc=>Ij h 0 at' cells hj hc (λj' e=>zo)
 |j+1,at',cells,hj,hc=>Ij h (j+1) at' cells hj hc (λj' e cells hc=>by obtain rfl:=Nat.succ.inj e;exact p84 h j (at'+1) cells zo hc)
def agB(k:qw)(x:zj)(letters:List Int):Bool:=tryR (AT k) x letters x.cs.length 0 (List.replicate x.cs.length 0)
def Oq(k:qw)(x:zj):List Fs->AC->Prop×Fs:=λa _=>match a with
 |[K,X,a1,a2,.int .i64 i]=>(dKn.ok K/\dKn.dec K=k/\dX.ok X/\dX.dec X=x/\dIs.ok a1/\PrC k x (dIs.dec a1)/\dIs.ok a2/\dIs.dec a2=List.replicate x.cs.length 0/\i=0,.bool (agB k x (dIs.dec a1)))
 |_=>(False,.tup [])
theorem flc0(h:PrC k x letters):FlC k x (List.replicate x.cs.length 0):=⟨by rw[YL],λs hs=>by
 have:=(Bc h.ck).1;rw[(List.mem_replicate.1 hs).2];exact⟨ae _,zo⟩⟩
theorem rowA0q(k:qw)(x:zj):∀args H n,(Oq k x args H).1->Al prog 84 args H n (Oq k x args H).2:=by
 intro args H n hh;unfold Oq at hh⊢;split at hh
 ·obtain⟨h1,h2,h3,h4,h5,h6,h7,h8,rfl⟩:=hh;have w1:=dKn.wk _ h1;rw[h2]at w1;have w2:=dX.wk _ h3;rw[h4]at w2;have w4:=dIs.wk _ h7;rw[h8]at w4;refine AP.args ((p84 h6 x.cs.length 0 _ (Ys _) (flc0 h6)).quiet H n) ?_;rintro g vs ⟨v1,r1,rfl,k1,v2,r2,rfl,k2,v3,r3,rfl,k3,v4,r4,rfl,k4,k5⟩;exact⟨v1,_,rfl,w1 _ _ k1,v2,_,rfl,w2 _ _ k2,v3,_,rfl,dIs.wk _ h5 _ _ k3,v4,_,rfl,w4 _ _ k4,k5⟩
 ·exact hh.elim
def Tso(k:qw)(x:zj):Tab:=tadd 35 Ki (tadd 84 (Oq k x) tnil)
theorem Tso_ok(k:qw)(x:zj):AJ prog (Tso k x):=(AJ.tnil.add (rowA0q k x)).add VD
section
variable (k:qw) (x:zj) (a:List Fs) (H:AC)
end
theorem Qz{tk:jx}{m:Nat}(h:tk.esz=1):dIs.ok (.sl tk (List.replicate m (.int .i64 0)))=True:=X1 ⟨.inl h,by rw[Z1,Z1];rfl⟩
theorem NQ{tk:jx}{m:Nat}:dIs.dec (.sl tk (List.replicate m (.int .i64 0)))=List.replicate m 0:=by
 show(List.replicate m (Fs.int .i64 0)).map toI=_;rw[Z1];rfl
theorem p51(k:qw)(x:zj)(hk:qv k.d)(hx:jk x)(hv:BX k x=0):Pur prog 51 [A9 k,encL x] (.bool (FK (AT k) x)):=by
 have u1:dKn.ok (.agg (AH k))=True:=CC k;have u2:dKn.dec (.agg (AH k))=k:=BP k;simp only[AH,AD,AI,Y7,Y5]at u1 u2;have v1:dX.ok (.agg (Ab x))=True:=Ff x;have v2:dX.dec (.agg (Ab x))=x:=DW x;simp only[Ab]at v1 v2;obtain⟨hck,hox⟩:=NJ hk hx hv;have hvl:(AT k).length=k.d.syms.length:=by unfold AT;rw[X0]
 have hsy:=Bc hck;have hPr:∀l∈chs k.d.syms.length x.ls.length,PrC k x l:=λl hl=>⟨hck,hk,hx,hox,hl⟩
 have hl3:x.ls.length<=3:=hox.ls.2.2.2;have hAl:(chs k.d.syms.length x.ls.length).length<=4096:=by
  refine Yi (Qf _ _) (Yi (Nat.pow_le_pow_left hsy.2 _) (Yi (Nat.pow_le_pow_right zd hl3) zd))
 have z1:((k.d.syms.length:Int)<=16)=True:=X1 zo;have z3:((x.ls.length:Int)<=3)=True:=X1 zo;rw[<-Se hox];have hS:OD (AT k) x=(chs k.d.syms.length x.ls.length).all λl=>!agB k x l:=by unfold OD;rw[hvl];rfl
 rw[hS];refine .mk ⟨Aa 0 k,As 0 x,trivial⟩ trivial (c51.a (AF (Tso_ok k x) (AG ?_)));simp only[eE,eN,seval,eY,c51,AH,AD,AI,Tso,Ki,z1,z3,tadd];generalize chs k.d.syms.length x.ls.length=A at hPr hAl;have hx4:=hox.cs.2.2;refine AL (λi:Nat=>⟨[(2,true,.ptr 0 0),(3,true,.ptr 1 0),(5,true,eLl A),(6,true,.int .i64 i)],Hkx k x,3⟩) (λi=>i<=A.length/\(A.all λl=>!agB k x l)=((A.drop i).all λl=>!agB k x l)) (λi=>A.length-i) 0 rfl ⟨Xn _,rfl⟩ ?_;rintro i ⟨hi,hR⟩;by_cases c5:i<A.length;case neg=>
  obtain rfl:i=A.length:=zo
  rw[Yj,List.all_nil]at hR;rw[hR];simp only[eZ,seval,X0,lt_F c5]
 have e:=AE (k:=i) zo;have hg:=X2 c5;have hdr:=Y2 c5;have hpr:=hPr _ (Xt c5);rw[hdr,Zy]at hR;generalize A[i]=l at hg hpr hR;have w6:((x.cs.length:Int)<=35184372088832)=True:=X1 zo;have w7:Aj x.cs.length 8=True:=X1 (AY zo zd);cases hF:agB k x l with
 |false=>
  rw[hF,X5,Yq]at hR;simp only[eZ,seval,eY,lt_T c5,hg,AH,AD,AI,Ab,w6,w7,Tso,Oq,u1,u2,v1,v2,Ac,AW,X1 hpr,Qz,NQ,ZY,hF,e,tadd];exact .mk (i+1) rfl ⟨c5,hR⟩ zo
 |true=>
  rw[hF,X3,YP]at hR;rw[hR];simp only[eZ,seval,eY,lt_T c5,hg,AH,AD,AI,Ab,w6,w7,Tso,Oq,u1,u2,v1,v2,Ac,AW,X1 hpr,Qz,NQ,ZY,hF,tadd]
def We:Tab:=tadd 47 (s2 dKn dX (λk x=>RfK k/\jk x) λk x=>eI (BX k x)) (tadd 51 (s2 dKn dX (λk x=>qv k.d/\jk x/\BX k x=0) λk x=>.bool (FK (AT k) x)) tnil)
theorem Td:AJ prog We:=(AJ.tnil.add (q2 λk x h=>p51 k x h.1 h.2.1 h.2.2)).add (q2 λk x h=>p47 k x h.1 h.2)
theorem p21(k:qw)(x:zj)(hk:RfK k)(hx:jk x):Pur prog 21 [A9 k,encL x] (Dl k x):=by
 have u1:dKn.ok (.agg (AH k))=True:=CC k;have u2:dKn.dec (.agg (AH k))=k:=BP k;simp only[AH,AD,AI,Y7,Y5]at u1 u2;have v1:dX.ok (.agg (Ab x))=True:=Ff x;have v2:dX.dec (.agg (Ab x))=x:=DW x;simp only[Ab]at v1 v2;refine .mk ⟨Aa 0 k,As 0 x,trivial⟩ ?_ (c21.a (AF Td (AG ?_)))
 ·unfold Dl;split<;>exact⟨trivial,trivial,trivial⟩
 unfold Dl;by_cases hv:BX k x=0
 ·rw[X6 (by simpa using hv)];simp only[eZ,seval,X3,c21,AH,AD,AI,We,s2,u1,u2,v1,v2,X1 hk,X1 hk.kn.d,X1 hx,X1 hv,tadd];exact Wk.refl _
 ·rw[Xp hv];simp only[eZ,seval,X5,c21,AH,AD,AI,We,s2,u1,u2,v1,v2,X1 hk,X1 hx,X7 hv,tadd];exact Wk.refl _
end
end Go.AM
