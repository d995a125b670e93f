/-
  Parts of the proof. Conditions: none.
-/
import Derived.Test.YtncahiacfdihpaaGreatDoorB16
set_option maxRecDepth 20000
set_option linter.all false
namespace Go.AM
open Go.Lib Go.Proofs Go.Proofs.Tryz
def p63(l:List Int)(s:Int)(hl:few l):Pur prog 63 [eIs l,eI s] (.bool (l.contains s)):=by
 refine .mk ⟨AR 0 l,trivial,trivial⟩ trivial (c63.a (AF AI.tnil (AG ?_)));have l8:l.length<1000000000:=hl;simp only[eE,eN,seval,c63];refine AL (λi:Nat=>⟨[(0,true,eIs l),(1,true,eI s),(5,true,.int .i64 i)],hnil,0⟩) (λi=>i<=l.length/\∀(j:Nat) q,j<i->l[j]?=some q->q≠s) (λi=>l.length-i) 0 rfl ⟨We _,λj q h=>zo⟩ ?_;rintro i ⟨hi,c8⟩;by_cases c5:i<l.length
 ·have e:=AE (k:=i) zo;have hg:=W2 c5;have hm:=Wn c5;generalize l[i]=q at hg hm;by_cases hq:q=s
  ·rw[show l.contains s=true from X6.2 (hq▸hm)];simp only[eZ,seval,eY,lt_T c5,hg,W1 hq]
  simp only[eZ,seval,eY,lt_T c5,hg,W4 hq,e];refine .mk (i+1) rfl ⟨c5,λj y hj hy=>?_⟩ zo;by_cases w:j<i
  ·exact c8 j y w hy
  ·obtain rfl:j=i:=zo
   rw[hg]at hy;cases hy;exact hq
 obtain rfl:i=l.length:=zo
 have:l.contains s=false:=by
  rw[Yn];intro hc;obtain⟨j,hj,hjs⟩:=X9.1 (X6.1 hc);exact c8 j _ hj (W2 hj) hjs
 rw[this];simp only[eZ,seval,W0,lt_F c5]
structure IPs(l cells:List Int)(v:VPl):Prop where
 hj:v.j<=l.length
 fr:AQ v.H v.n
 tok:tkG 1 0 v.H v.tk
 es:v.tk.esz=1\/(l.take v.j).map (at0 cells)=[]
def p78(l cells:List Int)(hl:few l)(hc:∀c∈l,0<=c/\c<(cells.length:Int)):Pur prog 78 [eIs l,eIs cells] (eIs (l.map (at0 cells))):=by
 refine .mk ⟨AR 0 l,AR 0 cells,trivial⟩ (AR 0 _) (c78.a (AF AI.tnil (AG ?_)));have l8:l.length<1000000000:=hl;simp only[eE,eN,seval,c78];refine AL (λv:VPl=>⟨[(0,true,eIs l),(1,true,eIs cells),(5,true,.sl v.tk (((l.take v.j).map (at0 cells)).map eI)),(6,true,.int .i64 v.j)],v.H,v.n⟩) (IPs l cells) (λv=>l.length-v.j) ⟨0,.exact 1,hnil,0⟩ rfl ⟨We _,AQ.nil,.inr (.inl rfl),.inl rfl⟩ ?_;rintro⟨j,tk,H,n⟩ ⟨hj,hf,c7,d7⟩;simp only at hj hf c7 d7;by_cases hlj:j<l.length;case neg=>
  obtain rfl:j=l.length:=zo
  rw[Wj]at d7;simp only[eZ,seval,W0,lt_F hlj];rw[Wj];exact Wk.sl (d7.imp id λq=>by rw[q];rfl)
 have hg:=W2 hlj;have e:=AE (k:=j) zo;have hci:=hc _ (Wn hlj);have htake:l.take (j+1)=l.take j++[l[j]]:=by rw[Wl,hg];rfl
 generalize l[j]=y at hg hci htake;have hgx:=CQ hci.1 hci.2;have hX:((l.take j).map (at0 cells)).length<=j:=by simp;omega
 have q1:A5 H 1 tk=True:=W1 c7.app;have q2:(((l.take j).map (at0 cells)).length<=35184372088831)=True:=W1 zo;have q3:Aj (((l.take j).map (at0 cells)).length+1) 8=True:=W1 (AX zo zd);generalize hXd:(l.take j).map (at0 cells)=X at hX q2 q3 d7;simp only[eZ,seval,eY,lt_T hlj,hg,W1 hci.1,W1 hci.2,hgx,q1,q2,q3,fr1 hf,e];refine .mk ⟨j+1,.own (n+9) 1,hset (AO H tk) (n+9) .tok,n+11⟩ ?_ ⟨hlj,(AU c7 hf).hset (m:=n+11) zo zo,.inr (.inr ⟨n+9,rfl,We _,AB ..⟩),.inl rfl⟩ zp;simp only[htake,Wh,Wu,X5,hXd]
def p79(k:Zm)(s:Int)(h:okSy k s):Pur prog 79 [Bh k,eI s] (eI (at0 (AZ k) s)):=by
 refine .mk ⟨Ah 0 k,trivial,trivial⟩ trivial (c79.a (AF AI.tnil (AG ?_)));have c5:s.toNat<k.d.syms.length:=by have:=h.1;have:=h.2;omega
 have hg:=W2 c5;rw[Gg hg];generalize k.d.syms[s.toNat]=y at hg;simp only[eE,eN,seval,eY,c79,AJ,AD,AH,W1 h.1,W1 h.2,hg]
def JI(k:Zm):List Fs->AC->Prop×Fs:=λa _=>match a with
 |[K,.int .i64 s]=>(dKn.ok K/\dKn.dec K=k/\okSy k s,eI (at0 (AZ k) s))
 |_=>(False,.tup [])
def UM(k:Zm):∀args H n,(JI k args H).1->Am prog 79 args H n (JI k args H).2:=by
 intro args H n hh;unfold JI at hh⊢;split at hh
 ·obtain⟨h1,h2,h3⟩:=hh;have w1:=dKn.wk _ h1;rw[h2]at w1;refine AP.args ((p79 k _ h3).quiet H n) ?_;rintro g vs ⟨v,r,rfl,k1,k2⟩;exact⟨v,_,rfl,w1 _ _ k1,k2⟩
 ·exact hh.elim
def Tva(k:Zm):Tab:=tadd 79 (JI k) tnil
def Tva_ok(k:Zm):AI prog (Tva k):=AI.tnil.add (UM k)
def Mk{k:Zm}(hv:∀y∈k.d.syms,0<=y.v/\y.v<=99){s:Int}(h:okSy k s):0<=at0 (AZ k) s/\at0 (AZ k) s<=99:=by
 have c5:s.toNat<k.d.syms.length:=by have:=h.1;have:=h.2;omega
 rw[Gg (W2 c5)];exact hv _ (Wn c5)
def p80(k:Zm)(s t:Int)(hv:∀y∈k.d.syms,0<=y.v/\y.v<=99)(hs:okSy k s)(ht:okSy k t):Pur prog 80 [Bh k,eI s,eI t] (eI (Jx (AZ k) s t)):=by
 have u1:dKn.ok (.agg (AJ k))=True:=DE k;have u2:dKn.dec (.agg (AJ k))=k:=CC k;simp only[AJ,AD,AH,X3,X1]at u1 u2;refine .mk ⟨Ah 0 k,trivial,trivial,trivial⟩ trivial (c80.a (AF (Tva_ok k) (AG ?_)));have r1:=Mk hv hs;have r2:=Mk hv ht;unfold Jx;generalize hx:at0 (AZ k) s=x at r1;generalize hy:at0 (AZ k) t=y at r2;have w1:IntKind.wrap .i64 (x-y)=x-y:=Aq zo zo;have w2:IntKind.wrap .i64 (y-x)=y-x:=Aq zo zo;simp only[eE,eN,seval,c80,AJ,AD,AH,Tva,JI,u1,u2,W1 hs,W1 ht,hx,hy,w1,w2,tadd]
 done
section
def Nv(k:Zm):List Fs->AC->Prop×Fs:=λa _=>match a with
 |[K,.int .i64 s,.int .i64 t]=>(dKn.ok K/\dKn.dec K=k/\okSy k s/\okSy k t,eI (Jx (AZ k) s t))
 |_=>(False,.tup [])
def rowApq{k:Zm}(hv:∀y∈k.d.syms,0<=y.v/\y.v<=99):∀args H n,(Nv k args H).1->Am prog 80 args H n (Nv k args H).2:=by
 intro args H n hh;unfold Nv at hh⊢;split at hh
 ·obtain⟨h1,h2,h3,h4⟩:=hh;have w1:=dKn.wk _ h1;rw[h2]at w1;refine AP.args ((p80 k _ _ hv h3 h4).quiet H n) ?_;rintro g vs ⟨v,r,rfl,k1,k2⟩;exact⟨v,_,rfl,w1 _ _ k1,k2⟩
 ·exact hh.elim
def rowSm:List Fs->AC->Prop×Fs:=s2 dIs dIs (λl cells=>few l/\∀c∈l,0<=c/\c<(cells.length:Int)) λl cells=>eIs (l.map (at0 cells))
def P1:List Fs->AC->Prop×Fs:=s2 dIs dI (λl _=>few l) λl s=>.bool (l.contains s)
def Tks'(k:Zm):Tab:=tadd 78 rowSm (tadd 63 P1 (tadd 79 (JI k) (tadd 80 (Nv k) tnil)))
def VX{k:Zm}(hv:∀y∈k.d.syms,0<=y.v/\y.v<=99):AI prog (Tks' k):=(((AI.tnil.add (rowApq hv)).add (UM k)).add (q2 λl s h=>p63 l s h)).add (q2 λl c h=>p78 l c h.1 h.2)
theorem P2(k:Zm)(a:List Fs)(H:AC):Tks' k 78 a H=s2 dIs dIs (λl cells=>few l/\∀c∈l,0<=c/\c<(cells.length:Int)) (λl cells=>eIs (l.map (at0 cells))) a H:=rfl
theorem P3(k:Zm)(a:List Fs)(H:AC):Tks' k 63 a H=s2 dIs dI (λl _=>few l) (λl s=>.bool (l.contains s)) a H:=rfl
theorem UN(k:Zm)(a:List Fs)(H:AC):Tks' k 79 a H=JI k a H:=rfl
theorem Tks'_a(k:Zm)(a:List Fs)(H:AC):Tks' k 80 a H=Nv k a H:=rfl
variable {l:List Int} {i:Nat}
theorem Nw{bad:Int->Int->Bool}(h:i<l.length):A9 bad (l.drop i)=(((l.drop (i+1)).any λb=>decide (0<=l[i])&&decide (0<=b)&&bad l[i] b)||A9 bad (l.drop (i+1))):=by
 rw[Wy h,A9]
theorem badR_k{vals:List Int}{k a b:Int}(h1:k≠1)(h4:k≠4):badR vals k a b=false:=by unfold badR;simp [h1,h4]
theorem Sf{ls:List Int}{s:Int}(h:l[i]?=some s):cOwn ls (l.take (i+1))=cOwn ls (l.take i)+if(decide (0<=s)&&ls.contains s)=true then 1 else 0:=by
 rw[Wl,h];exact Pa ..
theorem Sg{ls:List Int}{s:Int}(h:l[i]?=some s):cOth ls (l.take (i+1))=cOth ls (l.take i)+if(decide (0<=s)&& !ls.contains s)=true then 1 else 0:=by
 rw[Wl,h];exact Pb ..
abbrev Hcq(k:Zm)(q:Cnd):AC:=hset (hset hnil 0 (.box (AJ k))) 1 (.box (Pe q))
abbrev eCq(letters l:List Int)(all:Bool)(ow ot:Nat)(rest:List (Nat×Bool×Fs)):List (Nat×Bool×Fs):=[(2,true,eIs letters),(4,true,.ptr 0 0),(5,true,.ptr 1 0),(9,true,eIs l),(10,true,.bool all),(11,true,.int .i64 ow),(12,true,.int .i64 ot)]++rest
set_option maxHeartbeats 1000000 in
theorem p44R(k:Zm)(q:Cnd)(letters cells:List Int)(h:ClOK k q letters cells)(hge:∀s∈cells,-1<=s)(h3:q.k=3->q.cs.length=2):
  Pur prog 44 [Bh k,encQ q,eIs letters,eIs cells] (.bool (IG (AZ k) q.k q.n (q.ls.map (at0 letters)) (q.cs.map (at0 cells)))):=by
 have u1:dKn.ok (.agg (AJ k))=True:=DE k;have u2:dKn.dec (.agg (AJ k))=k:=CC k;simp only[AJ,AD,AH,X3,X1]at u1 u2;refine .mk ⟨Ah 0 k,CI 0 q,AR 0 _,AR 0 _,trivial⟩ trivial (c44.a (AF (VX h.vl) (AG ?_)));have q8:q.cs.length<1000000000:=h.cs;have f1:(few q.cs/\∀c∈q.cs,0<=c/\c<(cells.length:Int))=True:=W1 ⟨h.cs,h.ci⟩;have f2:(few q.ls/\∀c∈q.ls,0<=c/\c<(letters.length:Int))=True:=W1 ⟨h.ls,h.li⟩;have f3:few (q.cs.map (at0 cells))=True:=W1 (by show(q.cs.map (at0 cells)).length<_;rw[W0];exact q8);have f4:few (q.ls.map (at0 letters))=True:=W1 (by show(q.ls.map (at0 letters)).length<_;rw[W0];exact h.ls);have d9:∀s∈q.cs.map (at0 cells),0<=s->okSy k s:=λs hs h0=>by
  obtain⟨c,hc,rfl⟩:=Xh.1 hs;have:=h.ci c hc;exact h.sy _ (XB (CQ this.1 this.2)) h0
 have hml:∀s∈q.cs.map (at0 cells),-1<=s:=λs hs=>by
  obtain⟨c,hc,rfl⟩:=Xh.1 hs;have:=h.ci c hc;exact hge _ (XB (CQ this.1 this.2))
 have m9:(q.cs.map (at0 cells)).length=q.cs.length:=W0 ..;have hk:=h.kind;have hn:=h.n;simp only[eE,eN,seval,c44,P2,P3,s2,Ad,AY,Aw,Ag,f1,f3];generalize q.cs.map (at0 cells)=l at f3 d9 hml m9;generalize s6:q.ls.map (at0 letters)=ls at f4;have l8:l.length<1000000000:=zo
 obtain⟨bad,i6⟩:∃bad,badR (AZ k) q.k=bad:=⟨_,rfl⟩;refine AL (λi:Nat=>⟨eCq letters l (!l.contains (-1)) (cOwn ls (l.take i)) (cOth ls (l.take i)) [(13,true,.int .i64 i)],Hcq k q,3⟩) (λi=>i<=l.length/\A9 bad l=A9 bad (l.drop i)) (λi=>l.length-i) 0 rfl ⟨We _,rfl⟩ ?_;rintro i ⟨hi,hp⟩;by_cases c5:i<l.length;case neg=>
  obtain rfl:i=l.length:=zo
  rw[Xc,A9]at hp;rw[Wj];unfold IG;rw[i6,hp,XG];unfold endR;have lo:=Pc ls l;by_cases k2:q.k=2
  ·rw[Wg k2];cases hc:l.contains (-1)with
   |true=>simp only[eZ,seval,W3,W0,lt_F c5,W1 k2,W3]
   |false=>
    simp only[eZ,seval,W6,W0,lt_F c5,W1 k2,W6];exact decide_eq_decide.2 zo
  rw[W7 k2];by_cases k3:q.k=3
  ·rw[Wg k3];cases hc:l.contains (-1)with
   |true=>simp only[eZ,seval,W3,eY,lt_F c5,W4 k2,W1 k3,W3]
   |false=>
    have hge':∀s∈l,okSy k s:=λs hs=>d9 s hs (by
     have hnc:¬(-1:Int)∈l:=λq=>by rw[X6.2 q]at hc;cases hc
     have hm1:=hml s hs;by_cases e:s= -1
     ·subst e;exact absurd hs hnc
     ·omega)
    have hl2:l.length=2:=by have:=h3 k3;omega
    obtain⟨a,hg0⟩:∃a,l[0]?=some a:=⟨_,W2 zo⟩;obtain⟨b,hg1⟩:∃b,l[1]?=some b:=⟨_,W2 zo⟩;have ha:=hge' a (XB hg0);have hb:=hge' b (XB hg1);have i0:((0:Int)<(l.length:Int))=True:=W1 zo;have i1:((1:Int)<(l.length:Int))=True:=W1 zo;have j0:(0<l.length)=True:=W1 zo;have j1:(1<l.length)=True:=W1 zo;rw[hg0,hg1,Wm,Wm,W6,XU];simp only[eZ,seval,eY,lt_F c5,W4 k2,W1 k3,i0,i1,hg0,hg1,AJ,AD,AH,Tks'_a,Nv,u1,u2,W1 ha,W1 hb]
  rw[W7 k3];by_cases k6:q.k=6
  ·rw[Wg k6];have w:=Aq (x:=(l.length:Int)-q.n) zo zo;by_cases c1':q.n<(cOwn ls l:Int)
   ·rw[Wv c1',YV];simp only[eZ,seval,W3,W0,lt_F c5,W4 k2,W4 k3,W1 k6,W1 c1']
   ·rw[Wp c1',XG];simp only[eZ,seval,W0,lt_F c5,W4 k2,W4 k3,W1 k6,W4 c1',w]
  ·rw[W7 k6];simp only[eZ,seval,W0,lt_F c5,W4 k2,W4 k3,W4 k6]
 have hg:=W2 c5;have hd:=Nw (bad:=bad) c5;have hsy:=d9 _ (Wn c5);generalize l[i]=a at hg hd hsy;have ho1:=Sf (ls:=ls) hg;have ho2:=Sg (ls:=ls) hg;have e0:=AE (k:=i) zo;have lo1:=Pc ls (l.take i);have lo2:=T7 ls (l.take i);rw[Wx]at lo1 lo2;have eo1:=AE (k:=cOwn ls (l.take i)) zo;have eo2:=AE (k:=cOth ls (l.take i)) zo;obtain⟨P,hP⟩:∃P:Int->Bool,(λb=>decide (0<=a)&&decide (0<=b)&&bad a b)=P:=⟨_,rfl⟩;have hPb:∀b,P b=(decide (0<=a)&&decide (0<=b)&&bad a b):=λb=>by rw[<-hP]
 rw[hP]at hd;simp only[eZ,seval,W0,lt_T c5,e0];refine AL (λj:Nat=>⟨eCq letters l (!l.contains (-1)) (cOwn ls (l.take i)) (cOth ls (l.take i)) [(13,true,.int .i64 i),(14,true,.int .i64 j)],Hcq k q,3⟩) (λj=>i+1<=j/\j<=l.length/\((l.drop (i+1)).any P)=((l.drop j).any P)) (λj=>l.length-j) (i+1) rfl ⟨W8 _,c5,rfl⟩ ?_;rintro j ⟨hj1,hj2,hany⟩;by_cases hlj:j<l.length;case neg=>
  obtain rfl:j=l.length:=zo
  rw[Xc,List.any_nil]at hany;rw[hany,XG]at hd;have fin:i+1<=l.length/\A9 bad l=A9 bad (l.drop (i+1)):=⟨c5,hp.trans hd⟩;by_cases h0:0<=a
  ·rw[Wv h0,XU]at ho1 ho2;cases hc:ls.contains a with
   |true=>
    simp only[hc,W3,Xi,X4,Ws,XV]at ho1 ho2;simp only[eZ,seval,eY,lt_F hlj,hg,lt_T c5,W1 h0,P2,P3,s2,Ad,AY,Aw,Ag,f2,f4,s6,hc,e0,eo1];exact .mk (i+1) (by simp only[ho1,ho2]) fin zo
   |false=>
    simp only[hc,W6,Xi,X4,Ws,XV]at ho1 ho2;simp only[eZ,seval,eY,lt_F hlj,hg,lt_T c5,W1 h0,P2,P3,s2,Ad,AY,Aw,Ag,f2,f4,s6,hc,e0,eo2];exact .mk (i+1) (by simp only[ho1,ho2]) fin zo
  ·simp only[Wp h0,Ys,X4,Ws,XV]at ho1 ho2;simp only[eZ,seval,eY,lt_F hlj,hg,lt_T c5,W4 h0,e0];exact .mk (i+1) (by simp only[ho1,ho2]) fin zo
 have hgj:=W2 hlj;have hdj:=Wy hlj;have hsj:=d9 _ (Wn hlj);generalize l[j]=b at hgj hdj hsj;rw[hdj,Z3]at hany;have ej:=AE (k:=j) zo;have fin:P b=false->(i+1<=j+1/\j+1<=l.length/\((l.drop (i+1)).any P)=((l.drop (j+1)).any P)):=λhf=>by
  rw[hf,XG]at hany;exact⟨zo,hlj,hany⟩
 have res:P b=true->IG (AZ k) q.k q.n ls l=true:=λhf=>by
  rw[hf,YV]at hany;unfold IG;rw[i6,hp,hd,hany,YV,YV]
 by_cases h0a:0<=a;case neg=>
  have hf:=fin (by rw[hPb,Wp h0a];rfl);by_cases k1:q.k=1
  ·simp only[eZ,seval,eY,lt_T hlj,hgj,lt_T c5,hg,W4 h0a,W1 k1,show(q.k=4)=False from W4 zo,ej];exact .mk (j+1) rfl hf zo
  by_cases k4:q.k=4
  ·simp only[eZ,seval,eY,lt_T hlj,hgj,lt_T c5,hg,W4 h0a,W4 k1,W1 k4,ej];exact .mk (j+1) rfl hf zo
  ·simp only[eZ,seval,eY,lt_T hlj,hgj,lt_T c5,hg,W4 h0a,W4 k1,W4 k4,ej];exact .mk (j+1) rfl hf zo
 by_cases h0b:0<=b;case neg=>
  have hf:=fin (by rw[hPb,Wp h0b,YA];rfl);by_cases k1:q.k=1
  ·simp only[eZ,seval,eY,lt_T hlj,hgj,lt_T c5,hg,W1 h0a,W4 h0b,W1 k1,show(q.k=4)=False from W4 zo,ej];exact .mk (j+1) rfl hf zo
  by_cases k4:q.k=4
  ·simp only[eZ,seval,eY,lt_T hlj,hgj,lt_T c5,hg,W1 h0a,W4 h0b,W4 k1,W1 k4,ej];exact .mk (j+1) rfl hf zo
  ·simp only[eZ,seval,eY,lt_T hlj,hgj,lt_T c5,hg,W1 h0a,W4 h0b,W4 k1,W4 k4,ej];exact .mk (j+1) rfl hf zo
 have oa:=hsy h0a;have ob:=hsj h0b;by_cases k1:q.k=1
 ·by_cases o7:a=b
  ·rw[res (by rw[hPb,Wv h0a,Wv h0b,<-i6];unfold badR;simp [k1,o7])];simp only[eZ,seval,eY,lt_T hlj,hgj,lt_T c5,hg,W1 h0a,W1 h0b,W1 k1,W1 o7]
  ·have hf:=fin (by rw[hPb,<-i6];unfold badR;simp [k1,o7]);simp only[eZ,seval,eY,lt_T hlj,hgj,lt_T c5,hg,W1 h0a,W1 h0b,W1 k1,W4 o7,show(q.k=4)=False from W4 zo,ej];exact .mk (j+1) rfl hf zo
 by_cases k4:q.k=4
 ·by_cases o7:at0 (AZ k) b<=at0 (AZ k) a
  ·rw[res (by rw[hPb,Wv h0a,Wv h0b,<-i6];unfold badR;simp [k4,o7])];simp only[eZ,seval,eY,lt_T hlj,hgj,lt_T c5,hg,W1 h0a,W1 h0b,W4 k1,W1 k4,AJ,AD,AH,UN,JI,u1,u2,W1 oa,W1 ob,W1 o7]
  ·have hf:=fin (by rw[hPb,<-i6];unfold badR;simp [k4,o7]);simp only[eZ,seval,eY,lt_T hlj,hgj,lt_T c5,hg,W1 h0a,W1 h0b,W4 k1,W1 k4,AJ,AD,AH,UN,JI,u1,u2,W1 oa,W1 ob,W4 o7,ej];exact .mk (j+1) rfl hf zo
 ·have hf:=fin (by rw[hPb,<-i6,badR_k k1 k4,YA]);simp only[eZ,seval,eY,lt_T hlj,hgj,lt_T c5,hg,W1 h0a,W1 h0b,W4 k1,W4 k4,ej];exact .mk (j+1) rfl hf zo
theorem p44(k:Zm)(q:Cnd)(letters cells:List Int)(h:ClOK k q letters cells)(hge:∀s∈cells,-1<=s)(h3:q.k=3->q.cs.length=2):
  Pur prog 44 [Bh k,encQ q,eIs letters,eIs cells] (.bool (El (AZ k) q letters cells)):=by
 refine(p44R k q letters cells h hge h3).all ?_;unfold El;rw[PD]
 ·intro s hs;obtain⟨c,hc,rfl⟩:=Xh.1 hs;have:=h.ci c hc;exact hge _ (XB (CQ this.1 this.2))
 ·intro hk;rw[W0];exact h3 hk
end
structure VPy where
 i:Nat
 tk:Zu
 H:AC
 n:Nat
def Ml{m i:Nat}(h:i<m):(symI m).take (i+1)=(symI m).take i++[(i:Int)]:=by simp_all [Wl,symI]
def tkG.low{e lo n:Nat}{H H':AC}{tk:Zu}(h:tkG e lo H tk)(hf:AQ H n)(hk:∀i,i<n->hget H' i=hget H i):tkG e lo H' tk:=by
 rcases h with rfl|rfl|⟨id,rfl,h1,h2⟩
 ·exact .inl rfl
 ·exact .inr (.inl rfl)
 ·exact .inr (.inr ⟨id,rfl,h1,(hk id (hf.lt h2)).trans h2⟩)
structure LsG(e:Nat)(Ls:List (List Int))(E:List Fs)(tk:Zu)(H:AC)(n:Nat):Prop where
 fr:AQ H n
 tok:tkG 1 0 H tk
 es:tk.esz=1\/E=[]
 wk:Wks E (Ls.map eIs)
def LsG.fin{e:Nat}{Ls:List (List Int)}{E:List Fs}{tk:Zu}{H:AC}{n:Nat}(h:LsG e Ls E tk H n):Wk (.sl tk E) (eLl Ls):=Wk.slx h.es h.wk
structure VLs where
 i:Nat
 E:List Fs
 tk:Zu
 H:AC
 n:Nat
def chF(m:Nat)(l:List Int):List (List Int):=(K7 m l).map λs=>l++[s]
def chT(m:Nat)(l:List Int)(i:Nat):List (List Int):=(((symI m).take i).filter λs=>!l.contains s).map λs=>l++[s]
def VY(m:Nat)(l:List Int):chT m l m=chF m l:=by
 unfold chT chF K7;rw[Xp (by unfold symI;simp)]
def chT_T{m i:Nat}{l:List Int}(h:i<m)(hc:l.contains (i:Int)=false):chT m l (i+1)=chT m l i++[l++[(i:Int)]]:=by
 unfold chT;rw[Ml h,XW,List.filter_cons_of_pos (by rw[hc];rfl),YE,Wh];rfl
def chT_F{m i:Nat}{l:List Int}(h:i<m)(hc:l.contains (i:Int)=true):chT m l (i+1)=chT m l i:=by
 unfold chT;rw[Ml h,XW,List.filter_cons_of_neg (by rw[hc];decide),YE,X2]
def VZ(m:Nat):∀n,∀l∈chsR m n,l.length=n:=λn l hl=>by
 rw[<-Jj]at hl;exact(Jk hl).1
def Si(m n:Nat):List Fs->AC->Prop×Fs:=rowX [.int .i64 m,.int .i64 n] (λ_=>True) (eLl (chsR m n))
theorem p35(m:Nat)(hm:m<=16):∀n:Nat,n<=3->Pur prog 35 [.int .i64 (m:Int),.int .i64 (n:Int)] (eLl (chsR m n))
 |0,_=>by
  refine .mk ⟨trivial,trivial,trivial⟩ ⟨trivial,Au (λl=>AR 0 l) _⟩ (c35.a (AF AI.tnil (AG ?_)));simp only[eZ,seval,c0,c35];exact Wk.slx (.inl rfl) (.cons (Wk.sl (.inr rfl)) .nil)
 |n+1,hn=>by
  have ih:=p35 m hm n zo;have hT:AI prog (tadd 35 (Si m n) (tadd 63 P1 tnil)):=(AI.tnil.add (q2 λl s h=>p63 l s h)).add (LQ λH k _=>ih.quiet H k);have t1:∀a H,tadd 35 (Si m n) (tadd 63 P1 tnil) 35 a H=rowX [.int .i64 m,.int .i64 n] (λ_=>True) (eLl (chsR m n)) a H:=λ_ _=>rfl
  have t2:∀a H,tadd 35 (Si m n) (tadd 63 P1 tnil) 63 a H=s2 dIs dI (λl _=>few l) (λl s=>.bool (l.contains s)) a H:=λ_ _=>rfl
  generalize tadd 35 (Si m n) (tadd 63 P1 tnil)=T at hT t1 t2;refine .mk ⟨trivial,trivial,trivial⟩ ⟨trivial,Au (λl=>AR 0 l) _⟩ (c35.a (AF hT (AG ?_)));have hn0:(((n+1:Nat):Int)=0)=False:=W4 zo;have hsub:IntKind.wrap .i64 (((n+1:Nat):Int)-1)=(n:Int):=by rw[Aq zo zo];omega
  simp only[eZ,seval,c35,hn0,hsub,t1,rowX,eq_self];have hA:(chsR m n).length<=4096:=Xb (JE m n) (Xb (Nat.pow_le_pow_left hm _) (Xb (Nat.pow_le_pow_right zd (show n<=3 by omega)) zd));have hR:chsR m (n+1)=(chsR m n).flatMap (chF m):=rfl;have l8:=VZ m n;rw[hR];generalize chsR m n=A at hA l8;refine AL (λv:VLs=>⟨[(0,true,.int .i64 m),(5,true,.sl v.tk v.E),(6,true,eLl A),(7,true,.int .i64 v.i)],v.H,v.n⟩) (λv=>v.i<=A.length/\v.E.length<=v.i*16/\LsG 0 ((A.take v.i).flatMap (chF m)) v.E v.tk v.H v.n) (λv=>A.length-v.i) ⟨0,[],.exact 1,hnil,0⟩ rfl ⟨We _,We _,AQ.nil,.inr (.inl rfl),.inl rfl,.nil⟩ ?_;rintro⟨i,E,tk,H,k⟩ ⟨hi,hel,hG⟩;simp only at hi hel hG;by_cases c5:i<A.length;case neg=>
   obtain rfl:i=A.length:=zo
   rw[Wj]at hG;simp only[eZ,seval,W0,lt_F c5];exact hG.fin
  have hg:=W2 c5;have hlen:=l8 _ (Wn c5);have c7:(A.take (i+1)).flatMap (chF m)=(A.take i).flatMap (chF m)++chF m A[i]:=by rw[Wl,hg,Yx];simp
  generalize A[i]=l at hg hlen c7;have e0:=AE (k:=i) zo;have hfl:few l:=by show l.length<_;omega
  simp only[eZ,seval,W0,lt_T c5];refine AL (λv:VLs=>⟨[(0,true,.int .i64 m),(5,true,.sl v.tk v.E),(6,true,eLl A),(7,true,.int .i64 i),(8,true,.int .i64 v.i)],v.H,v.n⟩) (λv=>v.i<=m/\v.E.length<=i*16+v.i/\LsG 0 ((A.take i).flatMap (chF m)++chT m l v.i) v.E v.tk v.H v.n) (λv=>m-v.i) ⟨0,E,tk,H,k⟩ rfl ⟨We _,hel,by
   rw[show chT m l 0=[]from rfl,X2];exact hG⟩ ?_
  clear hG hel;rintro⟨j,E,tk,H,k⟩ ⟨hj,hel,hG⟩;simp only at hj hel hG;by_cases hlj:j<m;case neg=>
   obtain rfl:j=m:=zo
   rw[VY,<-c7]at hG;simp only[eZ,seval,lt_F hlj,e0];exact .mk ⟨i+1,E,tk,H,k⟩ rfl ⟨c5,zp,hG⟩ zp
  have ej:=AE (k:=j) zo;cases hc:l.contains (j:Int)with
  |true=>
   rw[<-chT_F hlj hc]at hG;simp only[eZ,seval,W3,eY,lt_T hlj,lt_T c5,hg,t2,s2,Ad,AY,Aw,Ag,W1 hfl,hc,W3,ej];exact .mk ⟨j+1,E,tk,H,k⟩ rfl ⟨hlj,zp,hG⟩ zp
  |false=>
   obtain⟨hf,htok,d7,hwk⟩:=hG;have hiA:i*16<=4096*16:=Y3 _ zo;have kp:∀x,x<k->hget (hset (hset H (k+6) .dead) (k+9) .tok) x=hget H x:=λx hx=>by rw[AA _ _ _ _ zo,AA _ _ _ _ zo]
   have l9:AQ (hset (hset H (k+6) .dead) (k+9) .tok) (k+11):=(hf.hset (m:=k+11) zo zo).hset (W8 _) zo;have htok2:tkG 1 0 (hset (hset H (k+6) .dead) (k+9) .tok) tk:=htok.low hf kp;have q1:A5 (hset (hset H (k+6) .dead) (k+9) .tok) 1 tk=True:=W1 htok2.app;have q2:(E.length<=35184372088831)=True:=W1 zo;have q3:Aj (E.length+1) 24=True:=W1 (AX zo zd);have q4:(l.length<=35184372088832)=True:=W1 zo;have q5:(l.length<=35184372088831)=True:=W1 zo;have q6:Aj (l.length+1) 8=True:=W1 (AX zo zd);have q7:Aj l.length 8=True:=W1 (AX zo zd);simp only[eZ,seval,W6,eY,lt_T hlj,lt_T c5,hg,t2,s2,Ad,AY,Aw,Ag,W1 hfl,hc,W6,ej,fr1 hf,AN,q1,q2,q3,q4,q5,q6,q7];refine .mk ⟨j+1,E++[.sl (.own (k+9) 1) (l.map eI++[eI j])],.own (k+11) 1,hset (AO (hset (hset H (k+6) .dead) (k+9) .tok) tk) (k+11) .tok,k+13⟩ rfl ⟨hlj,by simp only[Wr,Ww,Xt];omega,(AU htok2 l9).hset (m:=k+13) zo zo,.inr (.inr ⟨k+11,rfl,We _,AB ..⟩),.inl rfl,?_⟩ zp;simp only[];rw[chT_T hlj hc,<-X8,Wh];refine hwk.app (.cons ?_ .nil);show Wk _ (.sl (.none 1) ((l++[(j:Int)]).map eI));rw[Wh];exact Wk.sl (.inl rfl)
section
structure PrC(k:Zm)(x:Zt)(letters:List Int):Prop where
 ck:BF k=0
 fd:Zh k.d
 fx:FewL x
 ox:OKL x
 lt:letters∈chs k.d.syms.length x.ls.length
variable {k:Zm} {letters:List Int} {x:Zt}
structure ClP(k:Zm)(x:Zt)(cells:List Int):Prop where
 cl:ClC k x cells
 ge:∀s∈cells,-1<=s
structure KlOK(k:Zm)(q:Cnd)(letters cells:List Int):Prop where
 cl:ClOK k q letters cells
 ge:∀s∈cells,-1<=s
 h3:q.k=3->q.cs.length=2
def Nx(k:Zm):List Fs->AC->Prop×Fs:=λa _=>match a with
 |[K,Q,a1,a2]=>(dKn.ok K/\dKn.dec K=k/\dQ.ok Q/\dIs.ok a1/\dIs.ok a2/\KlOK k (dQ.dec Q) (dIs.dec a1) (dIs.dec a2),.bool (El (AZ k) (dQ.dec Q) (dIs.dec a1) (dIs.dec a2)))
 |_=>(False,.tup [])
theorem rowKlq(k:Zm):∀args H n,(Nx k args H).1->Am prog 44 args H n (Nx k args H).2:=by
 intro args H n hh;unfold Nx at hh⊢;split at hh
 ·obtain⟨h1,h2,h3,h4,h5,h6⟩:=hh;have w1:=dKn.wk _ h1;rw[h2]at w1;refine AP.args ((p44 k _ _ _ h6.cl h6.ge h6.h3).quiet H n) ?_;rintro g vs ⟨v1,r1,rfl,k1,v2,r2,rfl,k2,v3,r3,rfl,k3,v4,r4,rfl,k4,k5⟩;exact⟨v1,_,rfl,w1 _ _ k1,v2,_,rfl,dQ.wk _ h3 _ _ k2,v3,_,rfl,dIs.wk _ h4 _ _ k3,v4,_,rfl,dIs.wk _ h5 _ _ k4,k5⟩
 ·exact hh.elim
structure BgC(x:Zt)(letters:List Int):Prop where
 fx:few x.cs
 c:0<=x.c/\x.c<(x.cs.length:Int)
 l:0<=x.l/\x.l<(letters.length:Int)
structure IBg(x:Zt)(v:VPy):Prop where
 hi:v.i<=x.cs.length
 hn:2<=v.n
 fr:AQ v.H v.n
 h0:hget v.H 0=some (.box (BM x))
 tok:tkG 1 1 v.H v.tk
 es:v.tk.esz=1\/v.i=0
end
structure RfK(k:Zm):Prop where
 kn:FewKr k
 rg:k.d.regs.length<999999000
def RfK.fr{k:Zm}(h:RfK k):FewR k.d:=⟨h.kn.d,h.rg⟩
def Sj:List Fs->AC->Prop×Fs:=s1 dKn RfK λk=>.int .i64 (BF k)
def UO:∀args H n,(Sj args H).1->Am prog 22 args H n (Sj args H).2:=q1 λk h=>p22 k h.fr h.kn
def Ny:List Fs->AC->Prop×Fs:=λa _=>match a with
 |[.int .i64 m,.int .i64 n]=>(0<=m/\m<=16/\0<=n/\n<=3,eLl (chs m.toNat n.toNat))
 |_=>(False,.tup [])
def rowCsq:∀args H k,(Ny args H).1->Am prog 35 args H k (Ny args H).2:=by
 intro args H k hh;unfold Ny at hh⊢;split at hh
 ·rename_i m n;obtain⟨h1,h2,h3,h4⟩:=hh;obtain⟨m,rfl⟩:=XZ h1;obtain⟨n,rfl⟩:=XZ h3;rw[Wf,Wf,Jj];exact(p35 m zo n zo).quiet H k
 ·exact hh.elim
def Tlz:Tab:=tadd 22 Sj (tadd 35 Ny tnil)
def Tlz_ok:AI prog Tlz:=(AI.tnil.add rowCsq).add UO
theorem Sk(a:List Fs)(H:AC):Tlz 22 a H=s1 dKn RfK (λk=>.int .i64 (BF k)) a H:=rfl
theorem Tlz_c(a:List Fs)(H:AC):Tlz 35 a H=Ny a H:=rfl
def p12(k:Zm)(n:Int)(h1:RfK k):Pur prog 12 [Bh k,.int .i64 n] (B2 k n):=by
 have u1:dKn.ok (.agg (AJ k))=True:=DE k;have u2:dKn.dec (.agg (AJ k))=k:=CC k;simp only[AJ,AD,AH,X3,X1]at u1 u2;refine .mk ⟨Ah 0 k,trivial,trivial⟩ ?_ (c12.a (AF Tlz_ok (AG ?_)))
 ·unfold B2;split
  ·exact⟨⟨trivial,trivial⟩,trivial,trivial⟩
  ·split
   ·exact⟨⟨trivial,trivial⟩,trivial,trivial⟩
   ·exact⟨⟨trivial,Au (λl=>AR 0 l) _⟩,trivial,trivial⟩
 unfold B2;by_cases hk:BF k=0;case neg=>
  rw[Wg hk];simp only[eZ,seval,W6,c12,AJ,AD,AH,Sk,s1,u1,u2,W1 h1,W4 hk];exact Wk.refl _
 rw[W7 (by simpa using hk)];have hsy:=B1 hk;by_cases hn0:n<0
 ·rw[Wg (.inl hn0)];simp only[eZ,seval,W3,c12,AJ,AD,AH,Sk,s1,u1,u2,W1 h1,W1 hk,W1 hn0];exact Wk.refl _
 by_cases hn3:3<n
 ·rw[Wg (.inr hn3)];simp only[eZ,seval,W3,c12,AJ,AD,AH,Sk,s1,u1,u2,W1 h1,W1 hk,W4 hn0,W1 hn3];exact Wk.refl _
 rw[W7 zo];have z1:((k.d.syms.length:Int)<=16)=True:=W1 zo;have z2:(0<=n)=True:=W1 zo;have z3:(n<=3)=True:=W1 zo;simp only[eZ,seval,W3,eY,c12,AJ,AD,AH,Sk,s1,u1,u2,W1 h1,W1 hk,W4 hn0,W4 hn3,Tlz_c,Ny,z1,z2,z3];exact Wk.refl _
structure DnC(p:Prm)(letters cells:List Int):Prop where
 c:0<=p.c/\p.c<(cells.length:Int)
 ls:few p.ls/\∀c∈p.ls,0<=c/\c<(letters.length:Int)
section
variable {k:Zm}
theorem wds_rf(h:J7 k=true)(hw:WdS k):RfK k:=by
 unfold J7 at h;simp only[W5,W9]at h;obtain⟨⟨⟨⟨h1,h2⟩,h3⟩,h4⟩,h5⟩:=h;obtain⟨-,l2⟩:=Px h1;obtain⟨n1,n2⟩:=G1 h2;have hr:k.d.regs.length<999999000:=by
  unfold JH at h5;simp only[W5,W9]at h5;omega
 exact⟨⟨Pv h5,show k.g.holes.length<_ by omega,show k.g.cells.length<_ by omega,⟨show k.nb.length<_ by omega,λl hl=>show l.length<_ by have:=n2 l hl;omega⟩,hw.ls,
  λl hl=>⟨show l.length<_ by have:=(G1 (l2 l hl)).1;omega,λm hm=>show m.length<_ by have:=(G1 (l2 l hl)).2 m hm;omega⟩⟩,hr⟩
def Tdf:Tab:=tadd 63 (s2 dIs dI (λl _=>few l) λl s=>.bool (l.contains s)) tnil
theorem Tdf_ok:AI prog Tdf:=AI.tnil.add (q2 λl s h=>p63 l s h)
theorem p42(l:List Int)(m:Nat)(hl:few l)(hm:m<=1000):Pur prog 42 [eIs l,eI 0,eI ((m:Int)-1)] (.bool (difI l m)):=by
 refine .mk ⟨AR 0 l,trivial,trivial,trivial⟩ trivial (c42.a (AF Tdf_ok (AG ?_)));have l8:l.length<1000000000:=hl;simp only[eE,eN,seval,c42];refine AL (λi:Nat=>⟨[(0,true,eIs l),(1,true,eI 0),(2,true,eI ((m:Int)-1)),(7,true,.int .i64 i)],hnil,0⟩) (λi=>i<=l.length/\difI (l.take i) m=true) (λi=>l.length-i) 0 rfl ⟨We _,by rw[XT];rfl⟩ ?_;rintro i ⟨hi,hd⟩;by_cases c5:i<l.length;case neg=>
  obtain rfl:i=l.length:=zo
  rw[Wj]at hd;rw[hd];simp only[eZ,seval,W0,lt_F c5]
 have hg:=W2 c5;have hm':=Wn c5;have e:=AE (k:=i) zo;have ht:l.take (i+1)=l.take i++[l[i]]:=by rw[Wl,hg];rfl
 have hsplit:l=l.take i++l[i]::l.drop (i+1):=by rw[List.getElem_cons_drop,List.take_append_drop]
 generalize l[i]=c at hg hm' ht hsplit;have no:(c<0\/(m:Int)<=c\/c∈l.take i)->difI l m=false:=λq=>by
  cases w:difI l m with
  |false=>rfl
  |true=>
   obtain⟨w1,w2⟩:=DG.1 w;have:=w1 c hm';rw[hsplit,Y1]at w2;rcases q with q|q|q
   ·omega
   ·omega
   ·exact absurd rfl (w2.2.2 c q c zw)
 have f1:few (l.take i)=True:=W1 (by show(l.take i).length<_;rw[Wx];omega);have htm:(l.map eI).take i=(l.take i).map eI:=by rw[List.map_take]
 have k1:dIs.ok (.sl (.none 1) ((l.take i).map eI))=True:=Ad _;have k2:dIs.dec (.sl (.none 1) ((l.take i).map eI))=l.take i:=AY _;have i5:((i:Int)<=(l.length:Int))=True:=W1 zo;by_cases h1:c<0
 ·rw[no (.inl h1)];simp only[eZ,seval,W3,eY,lt_T c5,hg,W1 h1]
 by_cases h2:(m:Int)-1<c
 ·rw[no (.inr (.inl zo))];simp only[eZ,seval,W3,eY,lt_T c5,hg,W4 h1,W1 h2]
 cases h3:(l.take i).contains c with
 |true=>
  rw[no (.inr (.inr (X6.1 h3)))];simp only[eZ,seval,eY,lt_T c5,hg,W4 h1,W4 h2,Tdf,s2,Aw,Ag,f1,h3,i5,htm,k1,k2,tadd]
 |false=>
  simp only[eZ,seval,eY,lt_T c5,hg,W4 h1,W4 h2,Tdf,s2,Aw,Ag,f1,h3,i5,htm,k1,k2,e,tadd];refine .mk (i+1) rfl ⟨c5,?_⟩ zo;rw[ht,DG];obtain⟨w1,w2⟩:=DG.1 hd;have h3':c∉l.take i:=λq=>by rw[X6.2 q]at h3;cases h3
  refine⟨λa ha=>?_,?_⟩
  ·rcases Xo.1 ha with q|q
   ·exact w1 a q
   ·rw[Xs.1 q];omega
  ·rw[Y1];exact⟨w2,zw,λa ha b hb=>by rw[Xs.1 hb];rintro rfl;exact h3' ha⟩
end
def P4(k:Zm):Tab:=tadd 22 Sj (tadd 42 (s3 dIs dI dI (λl a b=>few l/\a=0/\ -1<=b/\b<=999) λl a b=>.bool (difI l (b+1).toNat)) (tadd 43 (s3 dQ dI dI (λq n m=>(few q.cs/\few q.ls)/\0<=n/\0<=m) λq n m=>.bool (Bk q n.toNat m.toNat)) (tadd 44 (Nx k) tnil)))
def Sl(k:Zm):AI prog (P4 k):=(((AI.tnil.add (rowKlq k)).add (q3 λq n m h=>by
 obtain⟨j,rfl⟩:∃j:Nat,n=j:=⟨n.toNat,zo⟩;obtain⟨i,rfl⟩:∃j:Nat,m=j:=⟨m.toNat,zo⟩;exact p43 q j i h.1.1 h.1.2)).add (q3 λl a b h=>by
 obtain⟨h1,rfl,h2,h3⟩:=h;have:=p42 l (b+1).toNat h1 zo
 rwa[show(((b+1).toNat:Nat):Int)-1=b by omega]at this)).add UO
section
variable (k:Zm) (a:List Fs) (H:AC)
theorem FC:P4 k 22 a H=s1 dKn RfK (λk=>.int .i64 (BF k)) a H:=rfl
theorem JJ:P4 k 42 a H=s3 dIs dI dI (λl a b=>few l/\a=0/\ -1<=b/\b<=999) (λl a b=>.bool (difI l (b+1).toNat)) a H:=rfl
theorem P5:P4 k 43 a H=s3 dQ dI dI (λq n m=>(few q.cs/\few q.ls)/\0<=n/\0<=m) (λq n m=>.bool (Bk q n.toNat m.toNat)) a H:=rfl
theorem Va:P4 k 44 a H=Nx k a H:=rfl
end
def kl_of{k:Zm}{q:Cnd}{letters cells:List Int}(hk:BF k=0)(hq:few q.cs/\few q.ls)(hc:Bk q cells.length letters.length=true)(h4:cells.length<=4)(hs:∀s∈cells,-1<=s/\s<(k.d.syms.length:Int)):KlOK k q letters cells:=by
 have h1:=RI hc;refine⟨⟨by rcases h1.kind with h|h|h|h|h<;>omega,?_,hq.1,λc hcc=>?_,hq.2,λc hcc=>?_,λs hm h0=>⟨h0,(hs s hm).2⟩,Fu hk⟩,λs hm=>(hs s hm).1,λh3=>?_⟩
 ·have:=LW h1.cs;rcases h1.kind with h|h|h|h|h<;>omega
 ·have:=Wo.1 (D8 h1.cs) c hcc;simpa only[W5,W9]using this
 ·have:=Wo.1 (D8 h1.ls) c hcc;simpa only[W5,W9]using this
 ·rcases h1.kind with⟨z,-⟩|⟨z,-⟩|⟨-,z,-⟩|⟨z,-⟩|⟨z,-⟩<;>first|exact z|omega
def p14(k:Zm)(q:Cnd)(letters cells:List Int)(hk:RfK k)(hq:few q.cs/\few q.ls)(hl:few letters)(hc:few cells):Pur prog 14 [Bh k,encQ q,eIs letters,eIs cells] (ED k q letters cells):=by
 have u1:dKn.ok (.agg (AJ k))=True:=DE k
 have u2:dKn.dec (.agg (AJ k))=k:=CC k
 simp only[AJ,AD,AH,X3,X1]at u1 u2
 have v1:dQ.ok (.agg [.int .i64 q.k,eIs q.cs,eIs q.ls,.int .i64 q.n])=True:=Rn q
 have v2:dQ.dec (.agg [.int .i64 q.k,eIs q.cs,eIs q.ls,.int .i64 q.n])=q:=LE q
 have l8:letters.length<1000000000:=hl
 have m5:cells.length<1000000000:=hc
 refine .mk ⟨Ah 0 k,CI 0 q,AR 0 _,AR 0 _,trivial⟩ ?_ (c14.a (AF (Sl k) (AG ?_)))
 ·unfold ED
  repeat' split
  all_goals exact⟨trivial,trivial,trivial⟩
 unfold ED
 by_cases h0:BF k=0
 case neg=>
  rw[Wg h0]
  simp only[eZ,seval,W6,c14,AJ,AD,AH,FC,s1,u1,u2,W1 hk,W4 h0]
  exact Wk.refl _
 rw[W7 (by simpa using h0)]
 have hsy:=B1 h0
 by_cases b1:(letters.length:Int)<1
 ·simp only[eZ,seval,W3,W0,c14,AJ,AD,AH,FC,s1,u1,u2,W1 hk,W1 h0,W1 b1]
  rw[Wg zo];exact Wk.refl _
 by_cases b2:(3:Int)<letters.length
 ·simp only[eZ,seval,W3,W0,c14,AJ,AD,AH,FC,s1,u1,u2,W1 hk,W1 h0,W4 b1,W1 b2]
  rw[Wg zo];exact Wk.refl _
 have hm1:IntKind.wrap .i64 ((k.d.syms.length:Int)-1)=(k.d.syms.length:Int)-1:=Aq zo zo
 have z1:(-1<=(k.d.syms.length:Int)-1)=True:=W1 zo
 have z2:((k.d.syms.length:Int)-1<=999)=True:=W1 zo
 have z3:((k.d.syms.length:Int)-1+1).toNat=k.d.syms.length:=zo
 cases hd:difI letters k.d.syms.length with
 |false=>
  have:(if letters.length<1\/3<letters.length\/cells.length<1\/4<cells.length then Fs.tup [.bool false,.int .i64 1]else if false=false then .tup [.bool false,.int .i64 1]else if(cells.any λs=>decide (s< -1)||decide ((k.d.syms.length:Int)<=s))=true then .tup [.bool false,.int .i64 1]
   else if Bk q cells.length letters.length=false then .tup [.bool false,.int .i64 300]else .tup [.bool (El (AZ k) q letters cells),.int .i64 0])= .tup [.bool false,.int .i64 1]:=by
   split
   ·rfl
   ·rw[Wg rfl]
  rw[this]
  simp only[eZ,seval,W3,W6,W0,c14,AJ,AD,AH,FC,JJ,s1,s3,u1,u2,W1 hk,W1 h0,W4 b1,W4 b2,Ad,AY,Aw,Ag,hm1,z1,z2,z3,W1 hl,eq_self,hd,W6]
  exact Wk.refl _
 |true=>
 by_cases b3:(cells.length:Int)<1
 ·simp only[eZ,seval,W3,W0,c14,AJ,AD,AH,FC,JJ,s1,s3,u1,u2,W1 hk,W1 h0,W4 b1,W4 b2,Ad,AY,Aw,Ag,hm1,z1,z2,z3,W1 hl,eq_self,hd,W3,W1 b3]
  rw[Wg zo];exact Wk.refl _
 by_cases b4:(4:Int)<cells.length
 ·simp only[eZ,seval,W3,W0,c14,AJ,AD,AH,FC,JJ,s1,s3,u1,u2,W1 hk,W1 h0,W4 b1,W4 b2,Ad,AY,Aw,Ag,hm1,z1,z2,z3,W1 hl,eq_self,hd,W3,W4 b3,W1 b4]
  rw[Wg zo];exact Wk.refl _
 rw[W7 zo,W7 zd]
 simp only[eZ,seval,W3,W0,c14,AJ,AD,AH,FC,JJ,s1,s3,u1,u2,W1 hk,W1 h0,W4 b1,W4 b2,Ad,AY,Aw,Ag,hm1,z1,z2,z3,W1 hl,eq_self,hd,W3,W4 b3,W4 b4]
 have hle:cells.length<=4:=zo
 refine AL (λi:Nat=>⟨[(2,true,eIs letters),(3,true,eIs cells),(4,true,.ptr 0 0),(5,true,.ptr 1 0),(11,true,.int .i64 k.d.syms.length),(12,true,.int .i64 i)],hset (hset hnil 0 (.box (AJ k))) 1 (.box [.int .i64 q.k,eIs q.cs,eIs q.ls,.int .i64 q.n]),4⟩) (λi=>i<=cells.length/\∀(j:Nat) s,j<i->cells[j]?=some s-> -1<=s/\s<(k.d.syms.length:Int)) (λi=>cells.length-i) 0 rfl ⟨We _,λj s h=>zo⟩ ?_
 rintro i ⟨hi,e9⟩
 by_cases c5:i<cells.length
 ·have hg:=W2 c5
  have hm:=Wn c5
  have e:=AE (k:=i) zo
  generalize cells[i]=c at hg hm
  by_cases c1:c< -1
  ·rw[Wg (Yk.2 ⟨c,hm,by rw[Wv c1];rfl⟩)]
   simp only[eZ,seval,W3,eY,c1,lt_T c5,hg]
   exact Wk.refl _
  by_cases c2:(k.d.syms.length:Int)<=c
  ·rw[Wg (Yk.2 ⟨c,hm,by rw[Wv c2,Bool.or_true]⟩)]
   simp only[eZ,seval,eY,lt_T c5,hg,W4 c1,W1 c2]
   exact Wk.refl _
  simp only[eZ,seval,eY,lt_T c5,hg,W4 c1,W4 c2,e]
  refine .mk (i+1) rfl ⟨c5,λj s hj hs=>?_⟩ zo
  by_cases w:j<i
  ·exact e9 j s w hs
  ·obtain rfl:j=i:=zo
   rw[hg]at hs;cases hs;omega
 obtain rfl:i=cells.length:=zo
 have c8:∀s∈cells,-1<=s/\s<(k.d.syms.length:Int):=λs hs=>by
  obtain⟨j,hj,rfl⟩:=X9.1 hs
  exact e9 j _ hj (W2 hj)
 rw[W7 (by
  rw[Bool.not_eq_true,YG]
  intro s hs
  have:=c8 s hs
  simp only[Wz,W9,not_or]
  omega)]
 have z5:(0<=(cells.length:Int))=True:=W1 zo
 have z6:(0<=(letters.length:Int))=True:=W1 zo
 cases hcd:Bk q cells.length letters.length with
 |false=>
  simp only[eZ,seval,W6,eY,lt_F c5,AJ,AD,AH,P5,s3,v1,v2,W1 hq,Aw,Ag,z5,z6,hcd,W6]
  exact Wk.refl _
 |true=>
  have hkl:=kl_of h0 hq hcd hle c8
  simp only[eZ,seval,W3,eY,lt_F c5,AJ,AD,AH,P5,Va,s3,v1,v2,W1 hq,Aw,Ag,z5,z6,hcd,W3,Nx,u1,u2,Ad,AY,W1 hkl]
  exact Wk.refl _
def s4{α β γ δ:Type}(A:Dc α)(B:Dc β)(C:Dc γ)(D:Dc δ)(c:α->β->γ->δ->Prop)(f:α->β->γ->δ->Fs):List Fs->AC->Prop×Fs:=λa _=>match a with
 |[x,y,z,u]=>(A.ok x/\B.ok y/\C.ok z/\D.ok u/\c (A.dec x) (B.dec y) (C.dec z) (D.dec u),f (A.dec x) (B.dec y) (C.dec z) (D.dec u))
 |_=>(False,.tup [])
def q4{α β γ δ:Type}{A:Dc α}{B:Dc β}{C:Dc γ}{D:Dc δ}{c:α->β->γ->δ->Prop}{f:α->β->γ->δ->Fs}{i4:FuncId}(h:∀x y z u,c x y z u->Pur prog i4 [A.enc x,B.enc y,C.enc z,D.enc u] (f x y z u)):∀args H n,(s4 A B C D c f args H).1->Am prog i4 args H n (s4 A B C D c f args H).2:=by
 intro args H n hh;unfold s4 at hh⊢;split at hh
 ·obtain⟨h1,h2,h3,h4,h5⟩:=hh;refine AP.args ((h _ _ _ _ h5).quiet H n) ?_;rintro g vs ⟨v,r,rfl,k1,w,r',rfl,k2,u,r'',rfl,k3,t,r3,rfl,k4,k5⟩;exact⟨v,_,rfl,A.wk _ h1 _ _ k1,w,_,rfl,B.wk _ h2 _ _ k2,u,_,rfl,C.wk _ h3 _ _ k3,t,_,rfl,D.wk _ h4 _ _ k4,k5⟩
 ·exact hh.elim
end Go.AM
