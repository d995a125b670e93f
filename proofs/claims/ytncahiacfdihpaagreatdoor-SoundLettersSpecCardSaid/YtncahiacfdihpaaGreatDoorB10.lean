/-
  Parts of the proof. Conditions: none.
-/
import Derived.Test.YtncahiacfdihpaaGreatDoorB9
set_option maxRecDepth 20000
set_option linter.all false
namespace Go.AM
open Go.Lib Go.Proofs Go.Proofs.Tryz
section
abbrev errV(n:Int):Fs:=.ifc 39 (.int .i64 n)
abbrev nmO(l:List Bs):Zk:=.map (nmEs l 0) l.length
def CJ(H:AC)(n id:Nat)(pre ns:List Bs):Zr->AC->Nat->Prop:=λo H' n'=>
 if Af (pre++ns)=true then o= .pan (errV 161)/\H'=hset H id .dead/\n'=n else o= .ret (.mp id)/\H'=hset H id (nmO (pre++ns))/\n'=n
def GS(H:AC)(id:Nat)(pre ns:List Bs):Zr->AC->Nat->Prop:=λo H' n'=>
 if Af (pre++ns)=true then o= .pan (errV 161)/\(∃ob,hget H' id=some ob)/\B6 id H H' else(∃v,o= .ret v/\Wk v (.mp id))/\hget H' id=some (nmO (pre++ns))/\B6 id H H'
def On(n:Nat)(l:List Bs):(nmO l).under n:=by
 suffices h:∀(i n c:Nat),(Zk.map (nmEs l i) c).under n from h 0 n l.length
 induction l with
 |nil=>intro i n c;trivial
 |cons x r ih=>intro i n c;exact⟨trivial,trivial,ih (i+1) n c⟩
variable {H:AC} {f:Int} {pre:List Bs} {n id:Nat}
theorem Jn{H':AC}{ob ob1:Zk}(hf:AQ H n)(d6:id<n)(h1:hget H' id=some ob1)(hw:OWk ob1 ob)(hu:ob.under n)(h2:B6 id H H'):FT n H H' (hset H id ob):=by
 refine⟨λi o ho=>?_,λi hi=>?_⟩
 ·rw[AK]at ho;by_cases e:id=i
  ·subst e;rw[Wg rfl]at ho;cases ho;exact⟨d6,⟨_,h1,hw⟩,.inl hu⟩
  ·rw[W7 e]at ho;exact⟨hf.lt ho,⟨o,h2 i o (Ne.symm e) ho,OWk.refl _⟩,.inr ho⟩
 ·rw[AK];split
  ·exact λh=>by cases h
  ·exact hi
theorem Rp(ob:Zk):OWk ob .dead:=⟨λ_ _ _ _=>trivial,λh=>by cases h⟩
theorem CJ.of{i4:FuncId}{args:List Fs}{ns:List Bs}(hc:Bi prog i4)(hp:hget H id=some (nmO pre))(h:AQ H n->id<n->AP prog i4 args H n (GS H id pre ns)):AP prog i4 args H n (CJ H n id pre ns):=by
 refine AP.fresh hc λhf=>?_
 have d6:=hf.lt hp;refine AP.forget (h hf d6) ?_;intro o H' n' q;unfold GS at q;by_cases ht:Af (pre++ns)=true
 ·rw[Wg ht]at q;obtain⟨rfl,⟨ob,h1⟩,h2⟩:=q;exact⟨.pan (errV 161),hset H id .dead,by unfold CJ;rw[Wg ht];exact⟨rfl,rfl,rfl⟩,Jn hf d6 h1 (Rp _) trivial h2,Wk.refl _,trivial⟩
 ·rw[W7 ht]at q;obtain⟨⟨v,rfl,hw⟩,h1,h2⟩:=q;exact⟨.ret (.mp id),hset H id (nmO (pre++ns)),by unfold CJ;rw[W7 ht];exact⟨rfl,rfl,rfl⟩,Jn hf d6 h1 (OWk.refl _) (On n _) h2,hw,d6⟩
structure VIx where
 i:Nat
 H:AC
 n:Nat
structure IIx(H:AC)(n id:Nat)(pre ns:List Bs)(v:VIx):Prop where
 hi:v.i<=ns.length
 hn:n<=v.n
 fr:AQ v.H v.n
 hm:hget v.H id=some (nmO (pre++ns.take v.i))
 hk:B6 id H v.H
 tw:Af (pre++ns.take v.i)=false
theorem Gp{ns:List Bs}{i:Nat}(h:i<ns.length)(j9:ns[i]∈pre++ns.take i):Af (pre++ns)=true:=by
 have e:pre++ns=(pre++ns.take i)++ns[i]::ns.drop (i+1):=by
  rw[X8,<-Wy h,List.take_append_drop]
 rw[e];exact Tc j9
theorem Gq{l:List Bs}{s:Bs}(h:Af l=false)(hs:s∉l):Af (l++[s])=false:=RK.2 ⟨h,hs⟩
theorem p193(x:Zq):Pur prog 193 [IB x] (.str x.nm):=by
 refine .mk ⟨Hf 0 x,trivial⟩ trivial (c193.a (AF AI.tnil (AG ?_)));simp only[eE,eN,seval,c193]
theorem p195(x:Zl):Pur prog 195 [Fg x] (.str x.nm):=by
 refine .mk ⟨Cb 0 x,trivial⟩ trivial (c195.a (AF AI.tnil (AG ?_)));simp only[eE,eN,seval,c195]
theorem p200(x:Zj):Pur prog 200 [B7 x] (.str x.nm):=by
 refine .mk ⟨EA 0 x,trivial⟩ trivial (c200.a (AF AI.tnil (AG ?_)));simp only[eE,eN,seval,c200]
theorem p204(x:Zf):Pur prog 204 [BT x] (.str x.nm):=by
 refine .mk ⟨Ar 0 x,trivial⟩ trivial (c204.a (AF AI.tnil (AG ?_)));simp only[eE,eN,seval,c204]
theorem p198(x:Bs):Pur prog 198 [.str x] (.str x):=by
 refine .mk ⟨trivial,trivial⟩ trivial (c198.a (AF AI.tnil (AG ?_)));simp only[eE,eN,seval,c198]
theorem p197:Pur prog 197 [] (eSs Bq):=by
 refine .mk trivial (BS 0 _) (c197.a (AF AI.tnil (AG ?_)));simp only[eE,eN,seval,c197];exact Wk.sl (.inl rfl)
def Tx1:Tab:=tadd 193 (s1 dSy any1 λx=>.str ((λx:Zq=>x.nm) x)) tnil
theorem Tx1_ok:AI prog Tx1:=AI.tnil.add (q1 λx _=>p193 x)
theorem Rq{l:List Zq}(hl:few l)(r9:pre.length<1000000000)(hf0:f=(pre.length:Int))(hp:hget H id=some (nmO pre))(hd:Af pre=false):
  AP prog 192 [eSys l,.int .i64 f,.fn (.func 193) [] [],.mp id] H n (CJ H n id pre (l.map (λx:Zq=>x.nm))):=by
 subst hf0;refine CJ.of c192.l hp λhf d6=>c192.a (AF Tx1_ok (AG ?_))
 have l8:l.length<1000000000:=hl;simp only[eE,eN,seval,W0,c192];refine AL (λv:VIx=>⟨[(1,true,.int .i64 pre.length),(2,true,.fn (.func 193) [] []),(3,true,.mp id),(13,true,eSys l),(14,true,.int .i64 l.length),(15,true,.int .i64 v.i)],v.H,v.n⟩) (IIx H n id pre (l.map (λx:Zq=>x.nm))) (λv=>l.length-v.i)
  ⟨0,H,n⟩ rfl ⟨We _,W8 _,hf,by rw[XT,X2];exact hp,B6.refl _,by rw[XT,X2];exact hd⟩ ?_
 rintro⟨i,H1,n1⟩ hI;have hi:=hI.hi;have hn:=hI.hn;have c6:=hI.fr;have hm:=hI.hm;have hk:=hI.hk;have t5:=hI.tw;simp only[W0]at hi hn c6 hm hk t5;by_cases c5:i<l.length
 ·have o9:i<(l.map (λx:Zq=>x.nm)).length:=by rw[W0];exact c5
  have hg:=W2 c5;have v7:(l.map (λx:Zq=>x.nm))[i]=(λx:Zq=>x.nm) l[i]:=YY ..;have e:=AE (k:=i) zo;have c7:(l.map (λx:Zq=>x.nm)).take (i+1)=(l.map (λx:Zq=>x.nm)).take i++[(λx:Zq=>x.nm) l[i]]:=by rw[Wl,W2 o9,v7];rfl
  have m4:(pre++(l.map (λx:Zq=>x.nm)).take i).length=pre.length+i:=by rw[Wr,Wx,W0];omega
  have ew:IntKind.wrap .i64 ((pre.length:Int)+(i:Int))=((pre.length+i:Nat):Int):=by rw[Aq zo zo];omega
  have y1:∀k,(n1+k=id)=False:=λk=>W4 zo
  have y2:∀k,(id=n1+k)=False:=λk=>W4 zo
  have j9:=λq=>Gp (pre:=pre) o9 (by rw[v7];exact q)
  generalize hx:l[i]=x at hg v7 c7 j9;have s5:=EC (pre++(l.map (λx:Zq=>x.nm)).take i) ((λx:Zq=>x.nm) x);cases e9:BE (pre++(l.map (λx:Zq=>x.nm)).take i) ((λx:Zq=>x.nm) x)with
  |some k=>
   have htt:Af (pre++l.map (λx:Zq=>x.nm))=true:=j9 (by
    apply Classical.byContradiction;intro q;rw[Bb.2 q]at e9;cases e9)
   rw[e9,Xf]at s5;simp only[eZ,seval,xE,eY,isF,lt_T c5,hg,Tx1,s1,UY,RY,hm,s5,Dt,KT.is,CW,fr1 c6,y1,AN,tadd];unfold GS;rw[Wg htt];refine⟨rfl,⟨nmO (pre++(l.map (λx:Zq=>x.nm)).take i),?_⟩,?_⟩
   ·rw[AA _ _ _ _ zo];exact hm
   ·exact hk.new hf zo
  |none=>
   rw[e9,XX]at s5;have v8:=K3 e9;rw[m4]at v8;simp only[eZ,seval,xE,eY,lt_T c5,hg,Tx1,s1,UY,RY,hm,s5,Dt,KT.is,CW,fr1 c6,y1,e,ew,m4,v8,AN,tadd];refine .mk ⟨i+1,hset (hset H1 (n1+3) (.box (IB x).cells)) id (.map (nmEs (pre++(l.map (λx:Zq=>x.nm)).take i++[(λx:Zq=>x.nm) x]) 0) (pre.length+(i+1))),n1+6⟩ rfl ⟨by simp only[W0];omega,zp,?_,?_,?_,?_⟩ zp
   ·exact(c6.hset (m:=n1+6) zo zo).hset (W8 (n1+6)) (show id<n1+6 by omega)
   ·simp only[];rw[AB,c7,<-X8,nmO,Wr,m4];rfl
   ·exact(hk.new hf zo).set
   ·simp only[];rw[c7,<-X8];exact Gq t5 (Bb.1 e9)
 have i5:i=l.length:=zo
 subst i5;have u9:(l.map (λx:Zq=>x.nm)).take l.length=l.map (λx:Zq=>x.nm):=Xp (by rw[W0];omega);rw[u9]at hm t5;simp only[eZ,seval,lt_F c5];unfold GS;rw[t5,W7 zd];exact⟨⟨_,rfl,Wk.refl _⟩,hm,hk⟩
def Tx2:Tab:=tadd 195 (s1 dRg any1 λx=>.str ((λx:Zl=>x.nm) x)) tnil
theorem Tx2_ok:AI prog Tx2:=AI.tnil.add (q1 λx _=>p195 x)
theorem Rr{l:List Zl}(hl:few l)(r9:pre.length<1000000000)(hf0:f=(pre.length:Int))(hp:hget H id=some (nmO pre))(hd:Af pre=false):
  AP prog 194 [eRgs l,.int .i64 f,.fn (.func 195) [] [],.mp id] H n (CJ H n id pre (l.map (λx:Zl=>x.nm))):=by
 subst hf0;refine CJ.of c194.l hp λhf d6=>c194.a (AF Tx2_ok (AG ?_))
 have l8:l.length<1000000000:=hl;simp only[eE,eN,seval,W0,c194];refine AL (λv:VIx=>⟨[(1,true,.int .i64 pre.length),(2,true,.fn (.func 195) [] []),(3,true,.mp id),(13,true,eRgs l),(14,true,.int .i64 l.length),(15,true,.int .i64 v.i)],v.H,v.n⟩) (IIx H n id pre (l.map (λx:Zl=>x.nm))) (λv=>l.length-v.i)
  ⟨0,H,n⟩ rfl ⟨We _,W8 _,hf,by rw[XT,X2];exact hp,B6.refl _,by rw[XT,X2];exact hd⟩ ?_
 rintro⟨i,H1,n1⟩ hI;have hi:=hI.hi;have hn:=hI.hn;have c6:=hI.fr;have hm:=hI.hm;have hk:=hI.hk;have t5:=hI.tw;simp only[W0]at hi hn c6 hm hk t5;by_cases c5:i<l.length
 ·have o9:i<(l.map (λx:Zl=>x.nm)).length:=by rw[W0];exact c5
  have hg:=W2 c5;have v7:(l.map (λx:Zl=>x.nm))[i]=(λx:Zl=>x.nm) l[i]:=YY ..;have e:=AE (k:=i) zo;have c7:(l.map (λx:Zl=>x.nm)).take (i+1)=(l.map (λx:Zl=>x.nm)).take i++[(λx:Zl=>x.nm) l[i]]:=by rw[Wl,W2 o9,v7];rfl
  have m4:(pre++(l.map (λx:Zl=>x.nm)).take i).length=pre.length+i:=by rw[Wr,Wx,W0];omega
  have ew:IntKind.wrap .i64 ((pre.length:Int)+(i:Int))=((pre.length+i:Nat):Int):=by rw[Aq zo zo];omega
  have y1:∀k,(n1+k=id)=False:=λk=>W4 zo
  have y2:∀k,(id=n1+k)=False:=λk=>W4 zo
  have j9:=λq=>Gp (pre:=pre) o9 (by rw[v7];exact q)
  generalize hx:l[i]=x at hg v7 c7 j9;have s5:=EC (pre++(l.map (λx:Zl=>x.nm)).take i) ((λx:Zl=>x.nm) x);cases e9:BE (pre++(l.map (λx:Zl=>x.nm)).take i) ((λx:Zl=>x.nm) x)with
  |some k=>
   have htt:Af (pre++l.map (λx:Zl=>x.nm))=true:=j9 (by
    apply Classical.byContradiction;intro q;rw[Bb.2 q]at e9;cases e9)
   rw[e9,Xf]at s5;simp only[eZ,seval,xE,eY,isF,lt_T c5,hg,Tx2,s1,Iu,F7,hm,s5,Dt,KT.is,CW,fr1 c6,y1,AN,tadd];unfold GS;rw[Wg htt];refine⟨rfl,⟨nmO (pre++(l.map (λx:Zl=>x.nm)).take i),?_⟩,?_⟩
   ·rw[AA _ _ _ _ zo];exact hm
   ·exact hk.new hf zo
  |none=>
   rw[e9,XX]at s5;have v8:=K3 e9;rw[m4]at v8;simp only[eZ,seval,xE,eY,lt_T c5,hg,Tx2,s1,Iu,F7,hm,s5,Dt,KT.is,CW,fr1 c6,y1,e,ew,m4,v8,AN,tadd];refine .mk ⟨i+1,hset (hset H1 (n1+3) (.box (Fg x).cells)) id (.map (nmEs (pre++(l.map (λx:Zl=>x.nm)).take i++[(λx:Zl=>x.nm) x]) 0) (pre.length+(i+1))),n1+6⟩ rfl ⟨by simp only[W0];omega,zp,?_,?_,?_,?_⟩ zp
   ·exact(c6.hset (m:=n1+6) zo zo).hset (W8 (n1+6)) (show id<n1+6 by omega)
   ·simp only[];rw[AB,c7,<-X8,nmO,Wr,m4];rfl
   ·exact(hk.new hf zo).set
   ·simp only[];rw[c7,<-X8];exact Gq t5 (Bb.1 e9)
 have i5:i=l.length:=zo
 subst i5;have u9:(l.map (λx:Zl=>x.nm)).take l.length=l.map (λx:Zl=>x.nm):=Xp (by rw[W0];omega);rw[u9]at hm t5;simp only[eZ,seval,lt_F c5];unfold GS;rw[t5,W7 zd];exact⟨⟨_,rfl,Wk.refl _⟩,hm,hk⟩
def Tx3:Tab:=tadd 198 (s1 dS any1 λx=>.str ((λx:Bs=>x) x)) tnil
theorem Tx3_ok:AI prog Tx3:=AI.tnil.add (q1 λx _=>p198 x)
theorem Uj{l:List Bs}(hl:few l)(r9:pre.length<1000000000)(hf0:f=(pre.length:Int))(hp:hget H id=some (nmO pre))(hd:Af pre=false):
  AP prog 196 [eSs l,.int .i64 f,.fn (.func 198) [] [],.mp id] H n (CJ H n id pre (l.map (λx:Bs=>x))):=by
 subst hf0;refine CJ.of c196.l hp λhf d6=>c196.a (AF Tx3_ok (AG ?_))
 have l8:l.length<1000000000:=hl;simp only[eE,eN,seval,W0,c196];refine AL (λv:VIx=>⟨[(1,true,.int .i64 pre.length),(2,true,.fn (.func 198) [] []),(3,true,.mp id),(13,true,eSs l),(14,true,.int .i64 l.length),(15,true,.int .i64 v.i)],v.H,v.n⟩) (IIx H n id pre (l.map (λx:Bs=>x))) (λv=>l.length-v.i)
  ⟨0,H,n⟩ rfl ⟨We _,W8 _,hf,by rw[XT,X2];exact hp,B6.refl _,by rw[XT,X2];exact hd⟩ ?_
 rintro⟨i,H1,n1⟩ hI;have hi:=hI.hi;have hn:=hI.hn;have c6:=hI.fr;have hm:=hI.hm;have hk:=hI.hk;have t5:=hI.tw;simp only[W0]at hi hn c6 hm hk t5;by_cases c5:i<l.length
 ·have o9:i<(l.map (λx:Bs=>x)).length:=by rw[W0];exact c5
  have hg:=W2 c5;have v7:(l.map (λx:Bs=>x))[i]=(λx:Bs=>x) l[i]:=YY ..;have e:=AE (k:=i) zo;have c7:(l.map (λx:Bs=>x)).take (i+1)=(l.map (λx:Bs=>x)).take i++[(λx:Bs=>x) l[i]]:=by rw[Wl,W2 o9,v7];rfl
  have m4:(pre++(l.map (λx:Bs=>x)).take i).length=pre.length+i:=by rw[Wr,Wx,W0];omega
  have ew:IntKind.wrap .i64 ((pre.length:Int)+(i:Int))=((pre.length+i:Nat):Int):=by rw[Aq zo zo];omega
  have y1:∀k,(n1+k=id)=False:=λk=>W4 zo
  have y2:∀k,(id=n1+k)=False:=λk=>W4 zo
  have j9:=λq=>Gp (pre:=pre) o9 (by rw[v7];exact q)
  generalize hx:l[i]=x at hg v7 c7 j9;have s5:=EC (pre++(l.map (λx:Bs=>x)).take i) ((λx:Bs=>x) x);cases e9:BE (pre++(l.map (λx:Bs=>x)).take i) ((λx:Bs=>x) x)with
  |some k=>
   have htt:Af (pre++l.map (λx:Bs=>x))=true:=j9 (by
    apply Classical.byContradiction;intro q;rw[Bb.2 q]at e9;cases e9)
   rw[e9,Xf]at s5;simp only[eZ,seval,xE,eY,isF,lt_T c5,hg,Tx3,s1,Gc,EI,hm,s5,Dt,KT.is,CW,tadd];unfold GS;rw[Wg htt];refine⟨rfl,⟨nmO (pre++(l.map (λx:Bs=>x)).take i),?_⟩,?_⟩
   ·exact hm
   ·exact hk
  |none=>
   rw[e9,XX]at s5;have v8:=K3 e9;rw[m4]at v8;simp only[eZ,seval,xE,eY,lt_T c5,hg,Tx3,s1,Gc,EI,hm,s5,Dt,KT.is,CW,e,ew,m4,v8,tadd];refine .mk ⟨i+1,hset H1 id (.map (nmEs (pre++(l.map (λx:Bs=>x)).take i++[(λx:Bs=>x) x]) 0) (pre.length+(i+1))),n1⟩ rfl ⟨by simp only[W0];omega,zp,?_,?_,?_,?_⟩ zp
   ·exact c6.hset (m:=n1) (W8 _) zo
   ·simp only[];rw[AB,c7,<-X8,nmO,Wr,m4];rfl
   ·exact hk.set
   ·simp only[];rw[c7,<-X8];exact Gq t5 (Bb.1 e9)
 have i5:i=l.length:=zo
 subst i5;have u9:(l.map (λx:Bs=>x)).take l.length=l.map (λx:Bs=>x):=Xp (by rw[W0];omega);rw[u9]at hm t5;simp only[eZ,seval,lt_F c5];unfold GS;rw[t5,W7 zd];exact⟨⟨_,rfl,Wk.refl _⟩,hm,hk⟩
def Tx4:Tab:=tadd 200 (s1 dCl any1 λx=>.str ((λx:Zj=>x.nm) x)) tnil
theorem Tx4_ok:AI prog Tx4:=AI.tnil.add (q1 λx _=>p200 x)
theorem Rs{l:List Zj}(hl:few l)(r9:pre.length<1000000000)(hf0:f=(pre.length:Int))(hp:hget H id=some (nmO pre))(hd:Af pre=false):
  AP prog 199 [eCls l,.int .i64 f,.fn (.func 200) [] [],.mp id] H n (CJ H n id pre (l.map (λx:Zj=>x.nm))):=by
 subst hf0;refine CJ.of c199.l hp λhf d6=>c199.a (AF Tx4_ok (AG ?_))
 have l8:l.length<1000000000:=hl;simp only[eE,eN,seval,W0,c199];refine AL (λv:VIx=>⟨[(1,true,.int .i64 pre.length),(2,true,.fn (.func 200) [] []),(3,true,.mp id),(13,true,eCls l),(14,true,.int .i64 l.length),(15,true,.int .i64 v.i)],v.H,v.n⟩) (IIx H n id pre (l.map (λx:Zj=>x.nm))) (λv=>l.length-v.i)
  ⟨0,H,n⟩ rfl ⟨We _,W8 _,hf,by rw[XT,X2];exact hp,B6.refl _,by rw[XT,X2];exact hd⟩ ?_
 rintro⟨i,H1,n1⟩ hI;have hi:=hI.hi;have hn:=hI.hn;have c6:=hI.fr;have hm:=hI.hm;have hk:=hI.hk;have t5:=hI.tw;simp only[W0]at hi hn c6 hm hk t5;by_cases c5:i<l.length
 ·have o9:i<(l.map (λx:Zj=>x.nm)).length:=by rw[W0];exact c5
  have hg:=W2 c5;have v7:(l.map (λx:Zj=>x.nm))[i]=(λx:Zj=>x.nm) l[i]:=YY ..;have e:=AE (k:=i) zo;have c7:(l.map (λx:Zj=>x.nm)).take (i+1)=(l.map (λx:Zj=>x.nm)).take i++[(λx:Zj=>x.nm) l[i]]:=by rw[Wl,W2 o9,v7];rfl
  have m4:(pre++(l.map (λx:Zj=>x.nm)).take i).length=pre.length+i:=by rw[Wr,Wx,W0];omega
  have ew:IntKind.wrap .i64 ((pre.length:Int)+(i:Int))=((pre.length+i:Nat):Int):=by rw[Aq zo zo];omega
  have y1:∀k,(n1+k=id)=False:=λk=>W4 zo
  have y2:∀k,(id=n1+k)=False:=λk=>W4 zo
  have j9:=λq=>Gp (pre:=pre) o9 (by rw[v7];exact q)
  generalize hx:l[i]=x at hg v7 c7 j9;have s5:=EC (pre++(l.map (λx:Zj=>x.nm)).take i) ((λx:Zj=>x.nm) x);cases e9:BE (pre++(l.map (λx:Zj=>x.nm)).take i) ((λx:Zj=>x.nm) x)with
  |some k=>
   have htt:Af (pre++l.map (λx:Zj=>x.nm))=true:=j9 (by
    apply Classical.byContradiction;intro q;rw[Bb.2 q]at e9;cases e9)
   rw[e9,Xf]at s5;simp only[eZ,seval,xE,eY,isF,lt_T c5,hg,Tx4,s1,Hh,FO,hm,s5,Dt,KT.is,CW,fr1 c6,y1,AN,tadd];unfold GS;rw[Wg htt];refine⟨rfl,⟨nmO (pre++(l.map (λx:Zj=>x.nm)).take i),?_⟩,?_⟩
   ·rw[AA _ _ _ _ zo];exact hm
   ·exact hk.new hf zo
  |none=>
   rw[e9,XX]at s5;have v8:=K3 e9;rw[m4]at v8;simp only[eZ,seval,xE,eY,lt_T c5,hg,Tx4,s1,Hh,FO,hm,s5,Dt,KT.is,CW,fr1 c6,y1,e,ew,m4,v8,AN,tadd];refine .mk ⟨i+1,hset (hset H1 (n1+3) (.box (B7 x).cells)) id (.map (nmEs (pre++(l.map (λx:Zj=>x.nm)).take i++[(λx:Zj=>x.nm) x]) 0) (pre.length+(i+1))),n1+6⟩ rfl ⟨by simp only[W0];omega,zp,?_,?_,?_,?_⟩ zp
   ·exact(c6.hset (m:=n1+6) zo zo).hset (W8 (n1+6)) (show id<n1+6 by omega)
   ·simp only[];rw[AB,c7,<-X8,nmO,Wr,m4];rfl
   ·exact(hk.new hf zo).set
   ·simp only[];rw[c7,<-X8];exact Gq t5 (Bb.1 e9)
 have i5:i=l.length:=zo
 subst i5;have u9:(l.map (λx:Zj=>x.nm)).take l.length=l.map (λx:Zj=>x.nm):=Xp (by rw[W0];omega);rw[u9]at hm t5;simp only[eZ,seval,lt_F c5];unfold GS;rw[t5,W7 zd];exact⟨⟨_,rfl,Wk.refl _⟩,hm,hk⟩
def Tx5:Tab:=tadd 204 (s1 dRu any1 λx=>.str ((λx:Zf=>x.nm) x)) tnil
theorem Tx5_ok:AI prog Tx5:=AI.tnil.add (q1 λx _=>p204 x)
theorem Rt{l:List Zf}(hl:few l)(r9:pre.length<1000000000)(hf0:f=(pre.length:Int))(hp:hget H id=some (nmO pre))(hd:Af pre=false):
  AP prog 203 [eRus l,.int .i64 f,.fn (.func 204) [] [],.mp id] H n (CJ H n id pre (l.map (λx:Zf=>x.nm))):=by
 subst hf0;refine CJ.of c203.l hp λhf d6=>c203.a (AF Tx5_ok (AG ?_))
 have l8:l.length<1000000000:=hl;simp only[eE,eN,seval,W0,c203];refine AL (λv:VIx=>⟨[(1,true,.int .i64 pre.length),(2,true,.fn (.func 204) [] []),(3,true,.mp id),(13,true,eRus l),(14,true,.int .i64 l.length),(15,true,.int .i64 v.i)],v.H,v.n⟩) (IIx H n id pre (l.map (λx:Zf=>x.nm))) (λv=>l.length-v.i)
  ⟨0,H,n⟩ rfl ⟨We _,W8 _,hf,by rw[XT,X2];exact hp,B6.refl _,by rw[XT,X2];exact hd⟩ ?_
 rintro⟨i,H1,n1⟩ hI;have hi:=hI.hi;have hn:=hI.hn;have c6:=hI.fr;have hm:=hI.hm;have hk:=hI.hk;have t5:=hI.tw;simp only[W0]at hi hn c6 hm hk t5;by_cases c5:i<l.length
 ·have o9:i<(l.map (λx:Zf=>x.nm)).length:=by rw[W0];exact c5
  have hg:=W2 c5;have v7:(l.map (λx:Zf=>x.nm))[i]=(λx:Zf=>x.nm) l[i]:=YY ..;have e:=AE (k:=i) zo;have c7:(l.map (λx:Zf=>x.nm)).take (i+1)=(l.map (λx:Zf=>x.nm)).take i++[(λx:Zf=>x.nm) l[i]]:=by rw[Wl,W2 o9,v7];rfl
  have m4:(pre++(l.map (λx:Zf=>x.nm)).take i).length=pre.length+i:=by rw[Wr,Wx,W0];omega
  have ew:IntKind.wrap .i64 ((pre.length:Int)+(i:Int))=((pre.length+i:Nat):Int):=by rw[Aq zo zo];omega
  have y1:∀k,(n1+k=id)=False:=λk=>W4 zo
  have y2:∀k,(id=n1+k)=False:=λk=>W4 zo
  have j9:=λq=>Gp (pre:=pre) o9 (by rw[v7];exact q)
  generalize hx:l[i]=x at hg v7 c7 j9;have s5:=EC (pre++(l.map (λx:Zf=>x.nm)).take i) ((λx:Zf=>x.nm) x);cases e9:BE (pre++(l.map (λx:Zf=>x.nm)).take i) ((λx:Zf=>x.nm) x)with
  |some k=>
   have htt:Af (pre++l.map (λx:Zf=>x.nm))=true:=j9 (by
    apply Classical.byContradiction;intro q;rw[Bb.2 q]at e9;cases e9)
   rw[e9,Xf]at s5;simp only[eZ,seval,xE,eY,isF,lt_T c5,hg,Tx5,s1,Bc,A7,hm,s5,Dt,KT.is,CW,fr1 c6,y1,AN,tadd];unfold GS;rw[Wg htt];refine⟨rfl,⟨nmO (pre++(l.map (λx:Zf=>x.nm)).take i),?_⟩,?_⟩
   ·rw[AA _ _ _ _ zo];exact hm
   ·exact hk.new hf zo
  |none=>
   rw[e9,XX]at s5;have v8:=K3 e9;rw[m4]at v8;simp only[eZ,seval,xE,eY,lt_T c5,hg,Tx5,s1,Bc,A7,hm,s5,Dt,KT.is,CW,fr1 c6,y1,e,ew,m4,v8,AN,tadd];refine .mk ⟨i+1,hset (hset H1 (n1+3) (.box (BT x).cells)) id (.map (nmEs (pre++(l.map (λx:Zf=>x.nm)).take i++[(λx:Zf=>x.nm) x]) 0) (pre.length+(i+1))),n1+6⟩ rfl ⟨by simp only[W0];omega,zp,?_,?_,?_,?_⟩ zp
   ·exact(c6.hset (m:=n1+6) zo zo).hset (W8 (n1+6)) (show id<n1+6 by omega)
   ·simp only[];rw[AB,c7,<-X8,nmO,Wr,m4];rfl
   ·exact(hk.new hf zo).set
   ·simp only[];rw[c7,<-X8];exact Gq t5 (Bb.1 e9)
 have i5:i=l.length:=zo
 subst i5;have u9:(l.map (λx:Zf=>x.nm)).take l.length=l.map (λx:Zf=>x.nm):=Xp (by rw[W0];omega);rw[u9]at hm t5;simp only[eZ,seval,lt_F c5];unfold GS;rw[t5,W7 zd];exact⟨⟨_,rfl,Wk.refl _⟩,hm,hk⟩
end
section
def NPost(H:AC)(n:Nat)(r:Option Int):Zr->AC->Nat->Prop:=λo H' n'=>H'=H/\n'=n/\match r with
 |some k=>o= .ret (.int .i64 k)
 |none=>o= .pan (errV 160)
variable {l:List Bs}
theorem Jo{H:AC}{n id:Nat}{s:Bs}(hp:hget H id=some (nmO l)):AP prog 202 [.mp id,.str s] H n (NPost H n (BE l s)):=by
 refine c202.a (AF AI.tnil (AG ?_));have hf:=EC l s;cases e9:BE l s with
 |some k=>
  rw[e9,Xf]at hf;simp only[eZ,seval,W3,xE,eY,c202,hp,hf,Dt,KT.is,CW];exact⟨rfl,rfl,rfl⟩
 |none=>
  rw[e9,XX]at hf;simp only[eZ,seval,W6,xE,eY,isF,c202,hp,hf,Dt,KT.is,CW];exact⟨rfl,rfl,rfl⟩
theorem Tr{a b:Nat}(ha:a<65536)(hb:b<65536):Vc .or .i64 (a:Int) (b:Int)=((a|||b:Nat):Int):=by
 have o7:a|||b<65536:=Nat.or_lt_two_pow (n:=16) ha hb
 have e:∀x:Nat,BitVec.ofInt 64 (x:Int)=BitVec.ofNat 64 x:=λx=>by
  apply BitVec.eq_of_toNat_eq;simp [BitVec.toNat_ofNat]
 show IntKind.wrap .i64 ((BitVec.ofInt 64 (a:Int)|||BitVec.ofInt 64 (b:Int)).toNat:Int)=_;rw[e,e,BitVec.toNat_or,BitVec.toNat_ofNat,BitVec.toNat_ofNat,Nat.mod_eq_of_lt zo,Nat.mod_eq_of_lt zo,Aq zo zo]
theorem Oo{j:Nat}(h:j<16):IN .shl .i64 1 (j:Int)=((1<<<j:Nat):Int):=by
 have h2:2^j<65536:=Nat.pow_lt_pow_right zd (show j<16 from h);show IntKind.wrap .i64 (1*2^(min (j:Int).toNat 64))=_;rw[Int.one_mul,Wf,Nat.min_eq_left zo,Nat.shiftLeft_eq,Nat.one_mul];have e:((2:Int)^j)=((2^j:Nat):Int):=by rw[Int.natCast_pow];rfl
 rw[e];generalize 2^j=p at h2;exact Aq zo zo
theorem MS{j:Nat}(h:j<16):1<<<j<65536:=by
 rw[Nat.shiftLeft_eq,Nat.one_mul];exact Nat.pow_lt_pow_right zd (show j<16 from h)
def EO(l:List Bs)(acc:Nat)(ss:List Bs):Option Int:=(CO l ss).map λk=>((acc|||k.toNat:Nat):Int)
theorem IC(l:List Bs)(acc:Nat):EO l acc []=some (acc:Int):=by simp [EO,CO]
theorem Gr{acc:Nat}{s:Bs}{r:List Bs}:EO l acc (s::r)=match BE l s with
  |none=>none
  |some j=>EO l (acc|||1<<<j.toNat) r:=by
 unfold EO;rw[It,BE];cases l.findIdx? λx=>decide (x=s)with
 |none=>rfl
 |some i=>
  simp only[Xf,Wf];cases CO l r with
  |none=>rfl
  |some n=>
   simp only[Xf,Option.some.injEq];congr 1;show acc|||(Int.ofNat (Nat.lor (1<<<i) n.toNat)).toNat=_
   rw[Nat.or_assoc];rfl
theorem MT(l ss:List Bs):EO l 0 ss=CO l ss:=by
 unfold EO;rw[Og];cases Ae (λs=>l.findIdx? λx=>decide (x=s)) ss with
 |none=>rfl
 |some is=>simp
theorem Ru{H:AC}{n id sid:Nat}{ss:List Bs}(hl:l.length<=16)(t9:wide ss)(hs:hget H sid=some (.box [.mp id]))(hp:hget H id=some (nmO l)):AP prog 206 [eSs ss,.ptr sid 0] H n (NPost H n (CO l ss)):=by
 refine c206.a (AF AI.tnil (AG ?_));have hsl:ss.length<1125899906842624:=t9;rw[<-MT];simp only[eE,eN,seval,W0,c206];refine AL (λv:Nat×Nat=>⟨[(1,true,.ptr sid 0),(3,true,.int .i64 v.2),(6,true,eSs ss),(7,true,.int .i64 ss.length),(8,true,.int .i64 v.1)],H,n⟩) (λv=>v.1<=ss.length/\v.2<65536/\EO l 0 ss=EO l v.2 (ss.drop v.1)) (λv=>ss.length-v.1) (0,0) rfl ⟨We _,zd,rfl⟩ ?_;rintro⟨i,acc⟩ ⟨hi,x0,heq⟩;simp only at hi x0 heq;by_cases c5:i<ss.length
 ·have hg:=W2 c5;have e:=AE (k:=i) zo;rw[Wy c5,Gr]at heq;generalize ss[i]=s at hg heq;simp only[eZ,seval,eY,lt_T c5,hg,hs];refine(Jo hp).mono λo H' n' hq=>?_
  obtain⟨rfl,rfl,hq⟩:=hq;cases e9:BE l s with
  |none=>
   rw[e9]at hq heq;subst hq;simp only at heq;rw[heq];simp only[eE,eN,retK];exact⟨rfl,rfl,rfl⟩
  |some k=>
   rw[e9]at hq heq;subst hq;simp only at heq;obtain⟨h0,h1⟩:=Kx e9;obtain⟨j,rfl⟩:∃j:Nat,k=j:=⟨k.toNat,zo⟩;rw[Wf]at heq;simp only[eE,eN,seval,Wi,retK,Oo (show j<16 by omega),Tr x0 (MS (show j<16 by omega)),e];exact .mk (i+1,acc|||1<<<j) rfl ⟨c5,Nat.or_lt_two_pow (n:=16) x0 (MS zo),heq⟩ zp
 obtain rfl:i=ss.length:=zo
 rw[Xc,IC]at heq;rw[heq];simp only[eZ,seval,lt_F c5];exact⟨rfl,rfl,rfl⟩
end
abbrev Hu:List Fs:=[.str [],.int .i64 0,.int .i64 0,.int .i64 0,.int .i64 0,.sl .nil [],.sl .nil [],.sl .nil [],.sl .nil [],.sl .nil []]
def d_rn{H:AC}{n i0 i1:Nat}:CS prog 191 [.ptr i0 0,.ptr i1 0] .nilifc H n (λH' n'=>H'=H/\n'=n):=by
 refine a191 (AF AI.tnil (AG ?_));simp only[eZ,seval,W3,xE,c191]
def d_rp{H:AC}{n:Nat}{xs:List Fs}{y:Fs}{p:Int}(h0:hget H 1=some (.box xs))(hx:xs.length=10)(h1:hget H 2=some (.box [y])):
  CS prog 191 [.ptr 1 0,.ptr 2 0] (errV p) H n (λH' n'=>hget H' 1=some (.box Hu)/\hget H' 2=some (.box [.int .i64 p])):=by
 refine a191 (AF AI.tnil (AG ?_));obtain⟨a,b,c,d,e,f,g,h,i,j,rfl⟩:∃a b c d e f g h i j,xs=[a,b,c,d,e,f,g,h,i,j]:=by
  match xs,hx with
  |[a,b,c,d,e,f,g,h,i,j],_=>exact⟨a,b,c,d,e,f,g,h,i,j,rfl⟩
 simp only[eZ,seval,xE,c191,h0,h1]
section
def CA(d:Zo):Fs:=match resD d with
 | .error e=>.tup [encD dcl0,.int .i64 e]
 | .ok x=>.tup [encD x,.int .i64 0]
abbrev CK(d:Zo)(vc vr:Fs):List Fs:=[.str d.nm,.int .i64 d.ver,.int .i64 d.sh,.int .i64 d.w,.int .i64 d.h,eIs d.holes,eSys d.syms,eRgs d.regs,vc,vr]
def RR(d:Zo):Zr->AC->Nat->Prop:=λo H' n'=>match resD d with
 | .error e=>∃v,o= .ret v/\Wk v (.tup [encD dcl0,.int .i64 e])
 | .ok x=>∃vc vr,o= .ret (.tup [.agg (CK d vc vr),.int .i64 0])/\LV 6 vc H' (x.clus.map B7)/\LV 12 vr H' (x.ruls.map BT)/\(∀i a b c e j f g h k,vc= .ref i a b c e->vr= .ref j f g h k->i≠j)
def Tnr:Tab:=tadd 197 (λa _=>match a with
 |[]=>(True,eSs Bq)
 |_=>(False,.tup [])) tnil
def Ts:AI prog Tnr:=AI.tnil.add λargs H n h=>by
 cases args with
 |nil=>exact p197.quiet H n
 |cons _ _=>exact h.elim
abbrev rsR:List RC:=[.c 2 10 true,.c 3 1 false]
abbrev envR:List (Nat×Bool×Fs):=[(1,true,.ptr 0 0),(2,true,.ptr 1 0),(3,true,.ptr 2 0)]
abbrev argsR:List Fs:=[.ptr 1 0,.ptr 2 0]
def afst:Zd->Zd
 | .seq a _=>a
 |c=>c
def asnd:Zd->Zd
 | .seq _ b=>b
 |c=>c
def LG:Nat->Zd->Zd
 |0,c=>c
 |k+1,c=>LG k (asnd c)
abbrev QR(d:Zo):Zg->AS->Prop:=TE prog 191 argsR rsR envR (RR d)
variable {xs:List Fs}
theorem ten(h:xs.length=10):∃a b c d e f g h i j,xs=[a,b,c,d,e,f,g,h,i,j]:=by
 match xs,h with
 |[a,b,c,d,e,f,g,h,i,j],_=>exact⟨a,b,c,d,e,f,g,h,i,j,rfl⟩
theorem Cn{d:Zo}{H:AC}{m:Nat}{y:Fs}{p:Int}(h1:hget H 1=some (.box xs))(hx:xs.length=10)(h2:hget H 2=some (.box [y]))(hr:resD d= .error p):QR d (.pan (errV p)) ⟨[],H,m⟩:=by
 refine CS.mono (d_rp h1 hx h2) ?_;rintro H2 n2 ⟨k1,k2⟩;unfold RcOf;simp only[eE,seval,BG,k1,k2];unfold RR;rw[hr];exact⟨_,rfl,Wk.tup (.cons (Wk.agg (.cons (Wk.refl _) (.cons (Wk.refl _) (.cons (Wk.refl _) (.cons (Wk.refl _) (.cons (Wk.refl _) (.cons (Wk.sl (.inr rfl)) (.cons (Wk.sl (.inr rfl)) (.cons (Wk.sl (.inr rfl)) (.cons (Wk.sl (.inr rfl)) (.cons (Wk.sl (.inr rfl)) .nil))))))))))) (.cons (Wk.refl _) .nil))⟩
theorem Oq{d:Zo}{env:List (Nat×Bool×Fs)}{H:AC}{m:Nat}{y:Fs}(h1:hget H 1=some (.box xs))(hx:xs.length=10)(h2:hget H 2=some (.box [y]))(hr:RR d (.ret (.tup [.agg xs,y])) H m):QR d .ret ⟨env,H,m⟩:=by
 refine CS.mono d_rn ?_;rintro H2 n2 ⟨rfl,rfl⟩;obtain⟨a,b,c,d,e,f,g,h,i,j,rfl⟩:=ten hx;unfold RcOf;simp only[eE,seval,BG,h1,h2];exact hr
end
section
structure NM(d:Zo)(vc vr:Fs)(H:AC):Prop where
 h0:hget H 0=some (.box (CK d vc vr))
 h1:hget H 1=some (.box Hu)
 h2:hget H 2=some (.box [.int .i64 0])
 h5:hget H 5=some (nmO (d.syms.map λx:Zq=>x.nm))
 h7:hget H 7=some (.box [.mp 5])
 h12:hget H 12=some (nmO (Bl d))
 h18:hget H 18=some (nmO (d.clus.map λx:Zj=>x.nm))
def notM(i:Nat):Prop:=i≠0/\i≠1/\i≠2/\i≠5/\i≠7/\i≠12/\i≠18
variable {H:AC} {vc vr:Fs} {d:Zo} {i e:Nat}
theorem NM.set{ob:Zk}(h:NM d vc vr H)(hi:notM i):NM d vc vr (hset H i ob):=by
 obtain⟨a,b,c,e,f,g,k⟩:=hi;exact⟨by rw[AA _ _ _ _ a];exact h.h0,by rw[AA _ _ _ _ b];exact h.h1,by rw[AA _ _ _ _ c];exact h.h2,by rw[AA _ _ _ _ e];exact h.h5,by rw[AA _ _ _ _ f];exact h.h7,by rw[AA _ _ _ _ g];exact h.h12,by rw[AA _ _ _ _ k];exact h.h18⟩
theorem NM.put{vc' vr':Fs}(h:NM d vc vr H):NM d vc' vr' (hset H 0 (.box (CK d vc' vr'))):=
 ⟨AB ..,by rw[AA _ _ _ _ zd];exact h.h1,by rw[AA _ _ _ _ zd];exact h.h2,by rw[AA _ _ _ _ zd];exact h.h5,by rw[AA _ _ _ _ zd];exact h.h7,by rw[AA _ _ _ _ zd];exact h.h12,by rw[AA _ _ _ _ zd];exact h.h18⟩
theorem NM.ne{id:Nat}{A:List Fs}(m7:NM d vc vr H)(ho:hget H id=some (.arr e A)):notM id:=by
 refine⟨?_,?_,?_,?_,?_,?_,?_⟩<;>rintro rfl
 ·rw[m7.h0]at ho;cases ho
 ·rw[m7.h1]at ho;cases ho
 ·rw[m7.h2]at ho;cases ho
 ·rw[m7.h5]at ho;cases ho
 ·rw[m7.h7]at ho;cases ho
 ·rw[m7.h12]at ho;cases ho
 ·rw[m7.h18]at ho;cases ho
theorem LH(h:21<=i):notM i:=⟨zo,zo,zo,zo,zo,zo,zo⟩
theorem Ci{α β:Type}(f:α->Option β)(x:α)(r:List α):Ae f (x::r)=(match f x with
  |some y=>(Ae f r).map λs=>y::s
  |none=>none):=by
 simp only[Ae];cases f x with
 |none=>rfl
 |some y=>cases Ae f r<;>rfl
structure VRl where
 i:Nat
 dn:List Zf
 H:AC
structure IRl(d:Zo)(cs:List Zj)(vc vr:Fs)(n:Nat)(v:VRl):Prop where
 hi:v.i<=d.ruls.length
 ln:v.dn.length=v.i
 fr:AQ v.H n
 nm:NM d vc vr v.H
 lc:LV 6 vc v.H (cs.map B7)
 lv:LV 12 vr v.H ((v.dn++d.ruls.drop v.i).map BT)
 eq:Ae (BD d) d.ruls=(Ae (BD d) (d.ruls.drop v.i)).map λr=>v.dn++r
section
variable {a b c d e f g h i j k l v:Fs}
theorem apR3(hv:v.cells=[v]):DQ (.agg [a,b,c,d,e,f,g,h,i,j,k,l]) 3 1 12 v=(True,.agg [a,b,c,v,e,f,g,h,i,j,k,l]):=by
 rw[ES zd];simp [splice,hv]
theorem apR6(hv:v.cells=[v]):DQ (.agg [a,b,c,d,e,f,g,h,i,j,k,l]) 6 1 12 v=(True,.agg [a,b,c,d,e,f,v,h,i,j,k,l]):=by
 rw[ES zd];simp [splice,hv]
theorem apR7(hv:v.cells=[v]):DQ (.agg [a,b,c,d,e,f,g,h,i,j,k,l]) 7 1 12 v=(True,.agg [a,b,c,d,e,f,g,v,i,j,k,l]):=by
 rw[ES zd];simp [splice,hv]
theorem Rv(hv:v.cells=[v]):DQ (.agg [a,b,c,d,e,f,g,h,i,j,k,l]) 11 1 12 v=(True,.agg [a,b,c,d,e,f,g,h,i,j,k,v]):=by
 rw[ES zd];simp [splice,hv]
end
theorem LV.set{v:Fs}{l:List Fs}{id:Nat}{ob:Zk}(h:LV e v H l)(d8:∀a b c x,v≠ .ref id a b c x):LV e v (hset H id ob) l:=by
 rcases h with h|⟨h0,i,cap,rest,rfl,ho,hc⟩
 ·exact .inl h
 ·exact .inr ⟨h0,i,cap,rest,rfl,by rw[AA _ _ _ _ (λq=>d8 _ _ _ _ (by rw[q]))];exact ho,hc⟩
theorem LV.no{l:List Fs}{a b c x:Nat}(h:LV e (.ref i a b c x) H l)(hn:∀e' A,hget H i≠some (.arr e' A)):False:=by
 rcases h with⟨-,t,h,-⟩|⟨-,id,cap,rest,h,ho,-⟩
 ·cases h
 ·cases h;exact hn _ _ ho
theorem Tt(d:Zo)(hd:Zh d)(m8:¬16<d.syms.length)(i7:Af (d.syms.map λx:Zq=>x.nm)=false)(l0:Af (Bl d)=false)(v9:Af (d.clus.map λx:Zj=>x.nm)=false){cs:List Zj}(q8:Ae (Bf d) d.clus=some cs)(x7:Af (d.ruls.map λx:Zf=>x.nm)=false)
  {n:Nat} (hf:AQ H n) (hm:NM d vc vr H) (hvc:LV 6 vc H (cs.map B7)) (hvr:LV 12 vr H (d.ruls.map BT)) (hdj:∀i a b c e j f g h k,vc= .ref i a b c e->vr= .ref j f g h k->i≠j):
  evK prog Tnr (asnd (afst (LG 9 c145))) [.c (asnd (LG 9 c145))] (QR d) ⟨[(1,true,.ptr 0 0),(2,true,.ptr 1 0),(3,true,.ptr 2 0),(5,true,.mp 12),(6,true,.mp 18),(8,true,.fn (.func 206) [] [.ptr 7 0]),(66,true,.int .i64 d.ruls.length),(67,true,.int .i64 0)],H,n⟩:=by
 have hrl:d.ruls.length<1000000000:=hd.ru;have hbase:∀x,Ae (BD d) d.ruls=x->resD d=(match x with|none=>.error 160|some rs=>.ok {d with clus:=cs,ruls:=rs}):=λx hx=>by
  unfold resD;rw[W7 m8,i7,l0,v9,q8];simp only[Ws,X4];rw[x7,hx];rfl
 simp only[eE,LG,asnd,afst,c145];refine AL (λv:VRl=>⟨[(1,true,.ptr 0 0),(2,true,.ptr 1 0),(3,true,.ptr 2 0),(5,true,.mp 12),(6,true,.mp 18),(8,true,.fn (.func 206) [] [.ptr 7 0]),(66,true,.int .i64 d.ruls.length),(67,true,.int .i64 v.i)],v.H,n⟩) (IRl d cs vc vr n) (λv=>d.ruls.length-v.i)
  ⟨0,[],H⟩ rfl ⟨We _,rfl,hf,hm,hvc,hvr,by rw[Z9];cases Ae (BD d) d.ruls<;>rfl⟩ ?_
 rintro⟨i,dn,H1⟩ hI;have hi:=hI.hi;have m9:=hI.ln;have c6:=hI.fr;have m7:=hI.nm;have s7:=hI.lc;have l5:=hI.lv;have heq:=hI.eq;clear hI hf hm hvc hvr;simp only at hi m9 c6 m7 s7 l5 heq;by_cases c5:i<d.ruls.length;case neg=>
  obtain rfl:i=d.ruls.length:=zo
  rw[Xc]at heq l5;rw[X2]at l5;have hr:=hbase _ heq;simp only[Ae,Xf,X2]at hr;simp only[eZ,seval,lt_F c5,m7.h0,CK,m7.h1,m7.h2];refine Oq (xs:=CK d vc vr) (y:=.int .i64 0) ?_ rfl ?_ ?_
  ·simp only[AK];rfl
  ·simp only[AK];rfl
  unfold RR;rw[hr];have j8:∀a b c x,vc≠ .ref 1 a b c x/\vc≠ .ref 2 a b c x/\vr≠ .ref 1 a b c x/\vr≠ .ref 2 a b c x:=by
   intro a b c x;refine⟨?_,?_,?_,?_⟩<;>rintro rfl
   ·exact s7.no (by rw[m7.h1];simp)
   ·exact s7.no (by rw[m7.h2];simp)
   ·exact l5.no (by rw[m7.h1];simp)
   ·exact l5.no (by rw[m7.h2];simp)
  exact⟨vc,vr,rfl,(s7.set λa b c x=>(j8 a b c x).1).set λa b c x=>(j8 a b c x).2.1,(l5.set λa b c x=>(j8 a b c x).2.2.1).set λa b c x=>(j8 a b c x).2.2.2,hdj⟩
 have hrx:=(hd.rus _ (Wn c5));rw[Wy c5]at heq l5;rw[Ci]at heq;generalize d.ruls[i]=r at heq l5 hrx;have l8:((dn++r::d.ruls.drop (i+1)).map BT).length=d.ruls.length:=by simp;omega
 rcases l5 with⟨h0,-⟩|⟨-,id,cap,rest,hvr,ho,hcr⟩
 ·simp at h0
 rw[l8]at hvr hcr;subst hvr;have e:=AE (k:=i) zo;have d6:id<n:=c6.lt ho;have d8:=m7.ne ho;have h0:=m7.h0;have x6:((dn++r::d.ruls.drop (i+1)).map BT++rest)[i]?=some (BT r):=by
  rw[Wh,X8,Xv (by simp;omega)];simp [m9]
 have t6:i<((dn++r::d.ruls.drop (i+1)).map BT++rest).length:=by rw[Wr,l8];omega
 have hse:∀r':Zf,((dn++r::d.ruls.drop (i+1)).map BT++rest).set i (BT r')=((dn++[r'])++d.ruls.drop (i+1)).map BT++rest:=λr'=>by
  rw[Wh,X8,List.set_append_right _ _ (by simp;omega)];simp [m9]
 generalize hA:(dn++r::d.ruls.drop (i+1)).map BT++rest=A at ho x6 t6 hse;have s6:∀x,(i<(A.set i x).length)=True:=λx=>W1 (by rw[YD];exact t6)
 have hgs:∀x,(A.set i x)[i]?=some x:=λx=>List.getElem?_set_self t6
 have t9:∀x y,(A.set i x).set i y=A.set i y:=λx y=>List.set_set ..
 have z0':(id=0)=False:=W4 d8.1;have z5':(id=5)=False:=W4 d8.2.2.2.1;have z7':(id=7)=False:=W4 d8.2.2.2.2.1;have z12':(id=12)=False:=W4 d8.2.2.2.2.2.1;have z18':(id=18)=False:=W4 d8.2.2.2.2.2.2;have h7:=m7.h7;have h5:=m7.h5;have i6:BD d r=none->resD d= .error 160:=λq=>by
  rw[q]at heq;exact hbase _ heq
 have i9:∀ob,NM d vc (.ref id 12 0 d.ruls.length cap) (hset H1 id ob):=λob=>m7.set d8
 have hvn:∀a b c x,vc≠ .ref id a b c x:=λa b c x q=>hdj _ _ _ _ _ _ _ _ _ _ q rfl rfl
 have fin:∀(F a b c:Int),BD d r=some {r with fam:=F,set:=a,oth:=b,clue:=c}->lpN (λv:VRl=>⟨[(1,true,.ptr 0 0),(2,true,.ptr 1 0),(3,true,.ptr 2 0),(5,true,.mp 12),(6,true,.mp 18),(8,true,.fn (.func 206) [] [.ptr 7 0]),(66,true,.int .i64 d.ruls.length),(67,true,.int .i64 v.i)],v.H,n⟩) (IRl d cs vc (.ref id 12 0 d.ruls.length cap) n) (λv=>d.ruls.length-v.i) ⟨i,dn,H1⟩
   ⟨[(1,true,.ptr 0 0),(2,true,.ptr 1 0),(3,true,.ptr 2 0),(5,true,.mp 12),(6,true,.mp 18),(8,true,.fn (.func 206) [] [.ptr 7 0]),(66,true,.int .i64 d.ruls.length),(67,true,.int .i64 ((i+1:Nat):Int))],hset H1 id (.arr 12 (A.set i (.agg [.str r.nm,.str r.on,.int .i64 r.kind,.int .i64 F,eSs r.ns,eSs r.os,.int .i64 a,.int .i64 b,.int .i64 r.op,.int .i64 r.n,.str r.byN,.int .i64 c]))),n⟩:=λF a b c w8=>by
  rw[w8]at heq;have hse2:=hse {r with fam:=F,set:=a,oth:=b,clue:=c};refine .mk ⟨i+1,dn++[{r with fam:=F,set:=a,oth:=b,clue:=c}],hset H1 id (.arr 12 (A.set i (BT {r with fam:=F,set:=a,oth:=b,clue:=c})))⟩ rfl ⟨c5,by simp [m9],c6.hset (W8 _) d6,i9 _,s7.set hvn,.inr ⟨zw,id,cap,rest,?_,?_,?_⟩,?_⟩ zp
  ·simp only[W0,Wr,Ww,Xt,XJ,m9];congr 1;omega
  ·simp only[];rw[AB,hse2]
  ·simp only[W0,Wr,Ww,Xt,XJ,m9];omega
  ·simp only[];rw[heq];cases Ae (BD d) (d.ruls.drop (i+1))<;>simp
 by_cases x9:r.on=[]
 ·have hb:scmp .neq r.on []=false:=by rw[Ao,x9];rfl
  simp only[eZ,eX,seval,Wm,Wf,Wi,atN,atK,Fx,lt_T c5,h0,CK,ho,x6,W1 t6,addr,W1 d6,s6,hgs,t9,BT,BP,apR3,Rv,AN,hb];refine(Ru (by rw[W0];omega) hrx.1 (i9 _).h7 (i9 _).h5).mono λo H' n' hq=>?_
  obtain⟨rfl,rfl,hq⟩:=hq;cases l7:CO (d.syms.map λx:Zq=>x.nm) r.ns with
  |none=>
   rw[l7]at hq;subst hq;simp only[eE,eN,Ea];exact Cn (i9 _).h1 rfl (i9 _).h2 (i6 (by unfold BD;rw[Wg x9,l7]))
  |some a=>
   rw[l7]at hq;subst hq;simp only[eE,eC,eX,seval,Ea];refine(Ru (by rw[W0];omega) hrx.2 (i9 _).h7 (i9 _).h5).mono λo H' n' hq=>?_
   obtain⟨rfl,rfl,hq⟩:=hq;cases t7:CO (d.syms.map λx:Zq=>x.nm) r.os with
   |none=>
    rw[t7]at hq;subst hq;simp only[eE,eN,Ea];exact Cn (i9 _).h1 rfl (i9 _).h2 (i6 (by unfold BD;rw[Wg x9,l7,t7]))
   |some b=>
    rw[t7]at hq;subst hq;by_cases hby:r.byN=[]
    ·have i8:scmp .neq r.byN []=false:=by rw[Ao,hby];rfl
     simp only[eZ,eX,seval,Wm,Ea,i8,Iw,s6,hgs,t9,apR6,apR7,AN,e];exact fin 0 a b (-1) (by unfold BD;rw[Wg x9,l7,t7,Wg hby])
    ·have i8:scmp .neq r.byN []=true:=by rw[Ao,Ax hby];rfl
     simp only[eZ,eX,seval,Wm,Ea,i8,Iw,s6,hgs,t9,apR6,apR7,AN];refine(Jo (i9 _).h18).mono λo H' n' hq=>?_
     obtain⟨rfl,rfl,hq⟩:=hq;cases q9:BE (d.clus.map λx:Zj=>x.nm) r.byN with
     |none=>
      rw[q9]at hq;subst hq;simp only[eE,eN,retK];exact Cn (i9 _).h1 rfl (i9 _).h2 (i6 (by unfold BD;rw[Wg x9,l7,t7,W7 hby,q9]))
     |some c=>
      rw[q9]at hq;subst hq;simp only[eE,eN,seval,Wm,retK,s6,hgs,t9,Rv,AN,e];exact fin 0 a b c (by unfold BD;rw[Wg x9,l7,t7,W7 hby,q9])
 ·have hb:scmp .neq r.on []=true:=by rw[Ao,Ax x9];rfl
  simp only[eZ,seval,Wm,Wf,Wi,lt_T c5,h0,CK,ho,x6,W1 t6,s6,hgs,t9,BT,BP,apR3,Rv,AN,hb];refine(Jo (i9 _).h12).mono λo H' n' hq=>?_
  obtain⟨rfl,rfl,hq⟩:=hq;cases e9:BE (Bl d) r.on with
  |none=>
   rw[e9]at hq;subst hq;simp only[eE,eN,retK];exact Cn (i9 _).h1 rfl (i9 _).h2 (i6 (by unfold BD;rw[W7 x9,e9]))
  |some F=>
   rw[e9]at hq;subst hq;simp only[eE,eN,eX,seval,Wm,atN,atK,Fx,retK,addr,W1 d6,s6,hgs,t9,apR3,AN];refine(Ru (by rw[W0];omega) hrx.1 (i9 _).h7 (i9 _).h5).mono λo H' n' hq=>?_
   obtain⟨rfl,rfl,hq⟩:=hq;cases l7:CO (d.syms.map λx:Zq=>x.nm) r.ns with
   |none=>
    rw[l7]at hq;subst hq;simp only[eE,eN,Ea];exact Cn (i9 _).h1 rfl (i9 _).h2 (i6 (by unfold BD;rw[W7 x9,e9,l7]))
   |some a=>
    rw[l7]at hq;subst hq;simp only[eE,eC,eX,seval,Ea];refine(Ru (by rw[W0];omega) hrx.2 (i9 _).h7 (i9 _).h5).mono λo H' n' hq=>?_
    obtain⟨rfl,rfl,hq⟩:=hq;cases t7:CO (d.syms.map λx:Zq=>x.nm) r.os with
    |none=>
     rw[t7]at hq;subst hq;simp only[eE,eN,Ea];exact Cn (i9 _).h1 rfl (i9 _).h2 (i6 (by unfold BD;rw[W7 x9,e9,l7,t7]))
    |some b=>
     rw[t7]at hq;subst hq;by_cases hby:r.byN=[]
     ·have i8:scmp .neq r.byN []=false:=by rw[Ao,hby];rfl
      simp only[eZ,eX,seval,Wm,Ea,i8,Iw,s6,hgs,t9,apR6,apR7,AN,e];exact fin F a b (-1) (by unfold BD;rw[W7 x9,e9,l7,t7,Wg hby])
     ·have i8:scmp .neq r.byN []=true:=by rw[Ao,Ax hby];rfl
      simp only[eZ,eX,seval,Wm,Ea,i8,Iw,s6,hgs,t9,apR6,apR7,AN];refine(Jo (i9 _).h18).mono λo H' n' hq=>?_
      obtain⟨rfl,rfl,hq⟩:=hq;cases q9:BE (d.clus.map λx:Zj=>x.nm) r.byN with
      |none=>
       rw[q9]at hq;subst hq;simp only[eE,eN,retK];exact Cn (i9 _).h1 rfl (i9 _).h2 (i6 (by unfold BD;rw[W7 x9,e9,l7,t7,W7 hby,q9]))
      |some c=>
       rw[q9]at hq;subst hq;simp only[eE,eN,seval,Wm,retK,s6,hgs,t9,Rv,AN,e];exact fin F a b c (by unfold BD;rw[W7 x9,e9,l7,t7,W7 hby,q9])
end
structure VCl where
 i:Nat
 dn:List Zj
 H:AC
structure ICl(d:Zo)(vc:Fs)(n:Nat)(v:VCl):Prop where
 hi:v.i<=d.clus.length
 ln:v.dn.length=v.i
 fr:AQ v.H n
 nm:NM d vc (eRus d.ruls) v.H
 lv:LV 6 vc v.H ((v.dn++d.clus.drop v.i).map B7)
 eq:Ae (Bf d) d.clus=(Ae (Bf d) (d.clus.drop v.i)).map λr=>v.dn++r
def apS2{a b c d e f v:Fs}(h:v.cells=[v]):DQ (.agg [a,b,c,d,e,f]) 2 1 6 v=(True,.agg [a,b,v,d,e,f]):=by
 rw[ES zd];simp [splice,h]
theorem Tu(d:Zo)(hd:Zh d)(m8:¬16<d.syms.length)(i7:Af (d.syms.map λx:Zq=>x.nm)=false)(l0:Af (Bl d)=false)(v9:Af (d.clus.map λx:Zj=>x.nm)=false)
  {vc:Fs} {H:AC} {n:Nat} {ml:Int} (hml:ml=(d.clus.length:Int)) (hn:21<=n) (hf:AQ H n) (hm:NM d vc (eRus d.ruls) H) (hv:LV 6 vc H (d.clus.map B7)):
  evK prog Tnr (asnd (afst (LG 5 c145))) [.c (asnd (LG 5 c145))] (QR d) ⟨[(1,true,.ptr 0 0),(2,true,.ptr 1 0),(3,true,.ptr 2 0),(4,true,.ptr 7 0),(5,true,.mp 12),(6,true,.mp 18),(37,true,.int .i64 ml),(38,true,.int .i64 0)],H,n⟩:=by
 subst hml;have m5:d.clus.length<1000000000:=hd.cl;simp only[eE,LG,asnd,afst,c145];refine AL (λv:VCl=>⟨[(1,true,.ptr 0 0),(2,true,.ptr 1 0),(3,true,.ptr 2 0),(4,true,.ptr 7 0),(5,true,.mp 12),(6,true,.mp 18),(37,true,.int .i64 d.clus.length),(38,true,.int .i64 v.i)],v.H,n⟩) (ICl d vc n) (λv=>d.clus.length-v.i)
  ⟨0,[],H⟩ rfl ⟨We _,rfl,hf,hm,hv,by rw[Z9];cases Ae (Bf d) d.clus<;>rfl⟩ ?_
 rintro⟨i,dn,H1⟩ hI;have hi:=hI.hi;have m9:=hI.ln;have c6:=hI.fr;have m7:=hI.nm;have l5:=hI.lv;have heq:=hI.eq;simp only at hi m9 c6 m7 l5 heq;by_cases c5:i<d.clus.length
 ·rw[Wy c5]at heq l5;rw[Ci]at heq;generalize d.clus[i]=c at heq l5;have l8:((dn++c::d.clus.drop (i+1)).map B7).length=d.clus.length:=by simp;omega
  rcases l5 with⟨h0,-⟩|⟨-,id,cap,rest,hvc,ho,hcr⟩
  ·simp at h0
  rw[l8]at hvc hcr;subst hvc;have e:=AE (k:=i) zo;have d6:id<n:=c6.lt ho;have h0:=m7.h0;have x6:((dn++c::d.clus.drop (i+1)).map B7++rest)[i]?=some (.agg [.str c.nm,.str c.on,.int .i64 c.fam,.int .i64 c.ty,.int .i64 c.lo,.int .i64 c.hi]):=by
   rw[Wh,X8,Xv (by simp;omega)];simp [m9]
  have t6:(i<((dn++c::d.clus.drop (i+1)).map B7++rest).length)=True:=W1 (by rw[Wr,l8];omega);have hse:∀c':Zj,((dn++c::d.clus.drop (i+1)).map B7++rest).set i (B7 c')=((dn++[c'])++d.clus.drop (i+1)).map B7++rest:=λc'=>by
   rw[Wh,X8,List.set_append_right _ _ (by simp;omega)];simp [m9]
  have d8:=m7.ne ho;generalize hA:(dn++c::d.clus.drop (i+1)).map B7++rest=A at ho x6 t6 hse;simp only[eZ,eX,seval,Wm,Wf,Wi,atN,atK,Fx,lt_T c5,h0,CK,ho,x6,t6,addr,W1 d6];refine(Jo m7.h12).mono λo H' n' hq=>?_
  obtain⟨rfl,rfl,hq⟩:=hq;cases e9:BE (Bl d) c.on with
  |none=>
   rw[e9]at hq;subst hq;have hrc:Bf d c=none:=by unfold Bf;rw[e9];rfl
   rw[hrc]at heq;have hr:resD d= .error 160:=by unfold resD;rw[W7 m8,i7,l0,v9,heq];rfl
   simp only[eE,eN,Ea];exact Cn m7.h1 rfl m7.h2 hr
  |some k=>
   rw[e9]at hq;subst hq;have hrc:Bf d c=some {c with fam:=k}:=by unfold Bf;rw[e9];rfl
   rw[hrc]at heq;have t7:=hse {c with fam:=k};simp only[eZ,eX,seval,Wm,Wf,Wi,Ea,Iw,ho,x6,t6,apS2 (v:=.int .i64 k) rfl,e];refine⟨zo,.mk ⟨i+1,dn++[{c with fam:=k}],hset H' id (.arr 6 (A.set i (B7 {c with fam:=k})))⟩ rfl ⟨c5,by simp [m9],c6.hset (W8 _) d6,m7.set d8,.inr ⟨zw,id,cap,rest,?_,?_,?_⟩,?_⟩ zp⟩
   ·simp only[W0,Wr,Ww,Xt,XJ,m9];congr 1;omega
   ·simp only[];rw[AB,t7]
   ·simp only[W0,Wr,Ww,Xt,XJ,m9];omega
   ·simp only[];rw[heq];cases Ae (Bf d) (d.clus.drop (i+1))<;>simp
 obtain rfl:i=d.clus.length:=zo
 rw[Xc]at heq l5;rw[X2]at l5;have q8:Ae (Bf d) d.clus=some dn:=by rw[heq];simp [Ae]
 have h0:=m7.h0;have y0:∀k,(n+k=0)=False:=λk=>W4 zo
 simp only[eZ,seval,xE,lt_F c5,h0,CK,fr1 c6];refine(Rt (pre:=[]) hd.ru zd rfl (AB ..) rfl).mono λo H' n' hq=>?_
 unfold CJ at hq;rw[X1]at hq;have i9:∀a b,NM d vc (eRus d.ruls) (hset (hset H1 (n+2) a) (n+2) b):=λa b=>(m7.set (LH zo)).set (LH zo)
 cases x7:Af (d.ruls.map λx:Zf=>x.nm)with
 |true=>
  rw[x7,Wg rfl]at hq;obtain⟨rfl,rfl,rfl⟩:=hq;have hr:resD d= .error 161:=by
   unfold resD;rw[W7 m8,i7,l0,v9,q8];simp only[Ws,X4];rw[x7];rfl
  simp only[eE,eN,retK];exact Cn (i9 _ _).h1 rfl (i9 _ _).h2 hr
 |false=>
 rw[x7,W7 zd]at hq;obtain⟨rfl,rfl,rfl⟩:=hq;have hH:=i9 (nmO []) (nmO (d.ruls.map λx:Zf=>x.nm));have s7:LV 6 vc (hset (hset H1 (n+2) (nmO [])) (n+2) (nmO (d.ruls.map λx:Zf=>x.nm))) (dn.map B7):=by
  have x8:∀a b c x,vc≠ .ref (n+2) a b c x:=by
   rintro a b c x rfl;exact l5.no (by rw[c6 _ zo];simp)
  exact(l5.set x8).set x8
 have l9:AQ (hset (hset H1 (n+2) (nmO [])) (n+2) (nmO (d.ruls.map λx:Zf=>x.nm))) (n+4):=(c6.hset (m:=n+4) zo zo).hset (W8 _) zo;generalize hset (hset H1 (n+2) (nmO [])) (n+2) (nmO (d.ruls.map λx:Zf=>x.nm))=H2 at hH s7 l9;have h02:=hH.h0;simp only[eE,eN,seval,retK,h02,CK];refine(WP d.ruls hd.ru).mono λo H' n' hq=>?_
 rcases hq with⟨o6,rfl,hn',t,rfl,c7⟩|⟨o6,rfl,cap,rest,rfl,rfl,hcr⟩
 ·have hrl:d.ruls.length=0:=by have:=congrArg List.length o6;simpa using this
  simp only[eE,seval,retK,h02,CK];rw[Eb];simp only[eE,seval];rw[Eb];simp only[eE,seval,c0];rw[Eb];have w9:∀a b c x,vc≠ .ref 0 a b c x:=by
   rintro a b c x rfl;exact s7.no (by rw[h02];simp)
  have:=Tt d hd m8 i7 l0 v9 q8 x7 (vr:=.sl t []) (l9.hset (id:=0) (m:=n') zo zo) hH.put (s7.set w9) (.inl ⟨o6,t,rfl,c7⟩) (λi a b c e j f g h k _ q=>by cases q);rw[hrl]at this;exact this
 ·have y4:∀k,(n+4+k=0)=False:=λk=>W4 zo
  simp only[eE,seval,retK,h02,CK,y0];rw[Eb];simp only[eE,seval];rw[Eb];simp only[eE,seval,W0];rw[Eb];have w9:∀a b c x,vc≠ .ref 0 a b c x:=by
   rintro a b c x rfl;exact s7.no (by rw[h02];simp)
  have hc6:∀a b c x,vc≠ .ref (n+6) a b c x:=by
   rintro a b c x rfl;exact s7.no (by rw[l9 _ zo];simp)
  refine Tt d hd m8 i7 l0 v9 q8 x7 (vr:=.ref (n+6) 12 0 d.ruls.length cap) (((l9.hset (m:=n+8) zo zo).hset (W8 _) zo)) (hH.set (LH zo)).put ((s7.set hc6).set w9) (.inr ⟨o6,n+6,cap,rest,by rw[W0],?_,hcr⟩) (λi a b c e j f g h k q1 q2=>?_)
  ·rw[AA _ _ _ _ zo];exact AB ..
  ·cases q2;rintro rfl;exact hc6 _ _ _ _ q1
def Or(d:Zo)(hd:Zh d):AP prog 145 [encD d] hnil 0 (RR d):=by
 refine a145 (AF Ts (AG ?_));simp only[eE,eN,seval,Q9,EZ,Kk,AW,encD];refine⟨_,_,rfl,AF Ts (AG ?_)⟩;generalize hE:List.filter (λ(e:Nat×Bool×Fs)=>Nat.blt e.1 4) _=E;have hE':E=envR:=by rw[<-hE];rfl
 subst hE';clear hE;rw[X1];by_cases m8:16<d.syms.length
 ·have hr:resD d= .error 2:=by unfold resD;rw[Wg m8]
  simp only[eZ,seval,W0,c145,W1 (show(16:Int)<(d.syms.length:Int)by omega),AH];refine Oq (xs:=Hu) rfl rfl rfl ?_;unfold RR;rw[hr];exact⟨_,rfl,Wk.tup (.cons (Wk.agg (.cons (Wk.refl _) (.cons (Wk.refl _) (.cons (Wk.refl _) (.cons (Wk.refl _) (.cons (Wk.refl _) (.cons (Wk.sl (.inr rfl)) (.cons (Wk.sl (.inr rfl)) (.cons (Wk.sl (.inr rfl)) (.cons (Wk.sl (.inr rfl)) (.cons (Wk.sl (.inr rfl)) .nil))))))))))) (.cons (Wk.refl _) .nil))⟩
 simp only[eZ,seval,xE,W0,c145,W4 (show ¬(16:Int)<(d.syms.length:Int)by omega),AH];refine(Rq (pre:=[]) hd.sy zd rfl rfl rfl).mono λo H' n' hq=>?_
 unfold CJ at hq;rw[X1]at hq;cases i7:Af (d.syms.map λx:Zq=>x.nm)with
 |true=>
  rw[i7,Wg rfl]at hq;obtain⟨rfl,rfl,rfl⟩:=hq;have hr:resD d= .error 161:=by unfold resD;rw[W7 m8,i7];rfl
  simp only[eE,eN,retK];exact Cn (xs:=Hu) rfl rfl rfl hr
 |false=>
 rw[i7,W7 zd]at hq;obtain⟨rfl,rfl,rfl⟩:=hq;simp only[eZ,eX,seval,xE,retK,Tnr,addr,tadd];refine⟨⟨trivial,BS 0 _⟩,(Uj (pre:=[]) zd zd rfl rfl rfl).mono λo H' n' hq=>?_⟩;unfold CJ at hq;rw[X1,show Af (Bq.map λx:Bs=>x)=false by decide,W7 zd]at hq;obtain⟨rfl,rfl,rfl⟩:=hq;simp only[eE,eX,seval,Ea];refine(Rr (pre:=Bq) hd.rg zd rfl rfl zd).mono λo H' n' hq=>?_
 unfold CJ at hq;cases l0:Af (Bl d)with
 |true=>
  rw[show Bq++d.regs.map (λx:Zl=>x.nm)=Bl d from rfl,l0,Wg rfl]at hq;obtain⟨rfl,rfl,rfl⟩:=hq;have hr:resD d= .error 161:=by unfold resD;rw[W7 m8,i7,l0];rfl
  simp only[eE,eN,Ea];exact Cn (xs:=Hu) rfl rfl rfl hr
 |false=>
 rw[show Bq++d.regs.map (λx:Zl=>x.nm)=Bl d from rfl,l0,W7 zd]at hq;obtain⟨rfl,rfl,rfl⟩:=hq;simp only[eE,eN,eX,seval,xE,Ea];refine(Rs (pre:=[]) hd.cl zd rfl rfl rfl).mono λo H' n' hq=>?_
 unfold CJ at hq;rw[X1]at hq;cases v9:Af (d.clus.map λx:Zj=>x.nm)with
 |true=>
  rw[v9,Wg rfl]at hq;obtain⟨rfl,rfl,rfl⟩:=hq;have hr:resD d= .error 161:=by unfold resD;rw[W7 m8,i7,l0,v9];rfl
  simp only[eE,eN,retK];exact Cn (xs:=Hu) rfl rfl rfl hr
 |false=>
 rw[v9,W7 zd]at hq;obtain⟨rfl,rfl,rfl⟩:=hq;simp only[eE,eN,seval,retK];refine(WO d.clus hd.cl).mono λo H' n' hq=>?_
 rcases hq with⟨h0,rfl,hn,t,rfl,c7⟩|⟨h0,rfl,cap,rest,rfl,rfl,hcr⟩
 ·have m5:d.clus.length=0:=by have:=congrArg List.length h0;simpa using this
  simp only[eE,seval,retK];rw[Eb];simp only[eE,seval,c0];rw[Eb];refine Tu d hd m8 i7 l0 v9 (vc:=.sl t []) (by rw[m5];rfl) hn (λid d6=>?_) (NM.mk (d:=d) (vr:=eRus d.ruls) rfl rfl rfl rfl rfl rfl rfl) (.inl ⟨h0,t,rfl,c7⟩);simp only[AK];repeat rw[W7 zo]
  rfl
 ·simp only[eE,seval,retK];rw[Eb];simp only[eE,seval,W0];rw[Eb];refine Tu d hd m8 i7 l0 v9 (vc:=.ref 23 6 0 d.clus.length cap) rfl zo (λid d6=>?_) (NM.mk (d:=d) (vr:=eRus d.ruls) rfl rfl rfl rfl rfl rfl rfl) (.inr ⟨h0,23,cap,rest,by rw[W0],rfl,hcr⟩);simp only[AK];repeat rw[W7 zo]
  rfl
def RS(d:Zo):Zr->AC->Nat->Prop:=λo H' n'=>match resD d with
 | .error e=>∃v,o= .ret v/\Wk v (.tup [encD dcl0,.int .i64 e])
 | .ok x=>∃vc vr,o= .ret (.tup [.agg (CK d vc vr),.int .i64 0])/\LF 6 vc H' (x.clus.map B7)/\LV 12 vr H' (x.ruls.map BT)
def RT(d:Zo):Zr->AC->Nat->Prop:=λo H' n'=>match resD d with
 | .error e=>∃v,o= .ret v/\Wk v (.tup [encD dcl0,.int .i64 e])
 | .ok x=>∃vc vr,o= .ret (.tup [.agg (CK d vc vr),.int .i64 0])/\LF 6 vc H' (x.clus.map B7)/\LF 12 vr H' (x.ruls.map BT)
def p145(d:Zo)(hd:Zh d):Pur prog 145 [encD d] (CA d):=by
 refine .mk ⟨Ab 0 d,trivial⟩ (by unfold CA;split<;>exact⟨Ab 0 _,trivial,trivial⟩) ?_;refine AP.out (R:=RT d) (AP.seal (R:=RS d) (AP.seal (R:=RR d) (Or d hd) ?_) ?_) ?_
 ·intro o H' n' h;unfold RR at h;unfold RS;split at h
  ·rename_i e he;try rw[he]
   exact .inl h
  ·rename_i x hx;try rw[hx]
   obtain⟨vc,vr,rfl,h1,h2,h3⟩:=h;rcases h1 with h1|⟨h0,id,cap,rest,rfl,ho,hc⟩
   ·exact .inl ⟨vc,vr,rfl,.inl h1,h2⟩
   ·refine .inr ⟨id,_,_,ho,_,vr,rfl,.inr ⟨h0,id,cap,rest,rfl,AB ..,hc⟩,h2.set λa b c x=>?_⟩;rintro rfl;exact h3 _ _ _ _ _ _ _ _ _ _ rfl rfl rfl
 ·intro o H' n' h;unfold RS at h;unfold RT;split at h
  ·rename_i e he;try rw[he]
   exact .inl h
  ·rename_i x hx;try rw[hx]
   obtain⟨vc,vr,rfl,h1,h2⟩:=h;rcases h2 with h2|⟨h0,id,cap,rest,rfl,ho,hc⟩
   ·exact .inl ⟨vc,vr,rfl,h1,.inl h2⟩
   ·refine .inr ⟨id,_,_,ho,vc,_,rfl,?_,.inr ⟨h0,id,cap,rest,rfl,AB ..,hc⟩⟩;rcases h1 with h1|⟨q0,i2,c2,r2,rfl,o2,hc2⟩
    ·exact .inl h1
    ·refine .inr ⟨q0,i2,c2,r2,rfl,?_,hc2⟩;rw[AA _ _ _ _ (by rintro rfl;rw[ho]at o2;cases o2)];exact o2
 ·intro o H' n' h;unfold RT at h;unfold CA;split at h
  ·rename_i e he;try rw[he]
   obtain⟨v,rfl,hw⟩:=h;exact⟨.ret v,⟨v,rfl,hw⟩,λg w e _ q=>q⟩
  ·rename_i x hx;try rw[hx]
   obtain⟨vc,vr,rfl,h1,h2⟩:=h;refine⟨.ret (.tup [encD x,.int .i64 0]),⟨_,rfl,Wk.refl _⟩,λg w e hR q=>?_⟩;obtain⟨e1,e2,e3,e4,e5,e6,e7,e8⟩:=NK hx;cases e with
   |panicked c=>exact q.elim
   |outgrown=>exact q.elim
   |returned y=>
    obtain⟨vs,rfl,y1,r1,q1,q2,q3⟩:=q;refine⟨vs,rfl,y1,r1,q1,?_,q3⟩;obtain⟨us,rfl,p1,p2⟩:=q2;refine⟨us,rfl,?_,p2⟩;obtain⟨a1,b1,f1,g1,a2,b2,f2,g2,a3,b3,f3,g3,a4,b4,f4,g4,a5,b5,f5,g5,a6,b6,f6,g6,a7,b7,f7,g7,a8,b8,f8,g8,a9,b9,f9,g9,a10,b10,f10,g10,g11⟩:=p1;rw[<-e1]at g1;rw[<-e2]at g2;rw[<-e3]at g3;rw[<-e4]at g4;rw[<-e5]at g5;rw[<-e6]at g6;rw[<-e7]at g7;rw[<-e8]at g8;exact⟨a1,b1,f1,g1,a2,b2,f2,g2,a3,b3,f3,g3,a4,b4,f4,g4,a5,b5,f5,g5,a6,b6,f6,g6,a7,b7,f7,g7,a8,b8,f8,g8,a9,b9,f9,Iv h1 hR g9,a10,b10,f10,Iv h2 hR g10,g11⟩
abbrev encF(f:FormD):Fs:=.agg [.bool f.on,.bool f.set,.bool f.oth,.bool f.bnd,.bool f.num,.bool f.rdb,.bool f.knw,.int .i64 f.clue]
def Jp{k:Int}(h:k<0\/14<=k):Cs k={}:=by
 unfold Cs;repeat rw[W7 zo]
def p280(k:Int):Pur prog 280 [.int .i64 k] (encF (Cs k)):=by
 refine .mk ⟨trivial,trivial⟩ ⟨trivial,trivial,trivial,trivial,trivial,trivial,trivial,trivial,trivial⟩ (c280.a (AF AI.tnil (AG ?_)));by_cases hk:k<0\/14<=k
 ·have hb:(decide (k<0)||decide (14<=k))=true:=by simpa using hk
  rw[Jp hk];simp only[eZ,seval,BG,c280,hb];exact Wk.refl _
 ·have hb:(decide (k<0)||decide (14<=k))=false:=by simp;omega
  simp only[eZ,seval,BG,c280,hb];have j7:k=0\/k=1\/k=2\/k=3\/k=4\/k=5\/k=6\/k=7\/k=8\/k=9\/k=10\/k=11\/k=12\/k=13:=zo
  rcases j7 with rfl|rfl|rfl|rfl|rfl|rfl|rfl|rfl|rfl|rfl|rfl|rfl|rfl|rfl<;>exact⟨zd,zd,rfl,rfl,Wk.refl _⟩
def p247(c:Zj):Pur prog 247 [B7 c] (.bool (Di c)):=by
 refine .mk ⟨EA 0 c,trivial⟩ trivial (c247.a (AF AI.tnil (AG ?_)));unfold Di;by_cases h1:c.ty=1
 ·simp only[eZ,seval,c247,h1]
 by_cases h2:c.ty=2
 ·simp only[eZ,seval,c247,h2]
 by_cases h3:c.ty=3
 ·simp only[eZ,seval,c247,h3]
 simp only[eZ,seval,c247,h1,h2,h3]
def p208(b:Bool)(e:Int):Pur prog 208 [.bool b,.int .i64 e] (.int .i64 (if b=true then 0 else e)):=by
 refine .mk ⟨trivial,trivial,trivial⟩ trivial (c208.a (AF AI.tnil (AG ?_)));cases b<;>simp only[eZ,seval,c208]
def Tsh:Tab:=tadd 280 (s1 dI any1 λk=>encF (Cs k)) tnil
def Tv:AI prog Tsh:=AI.tnil.add (q1 λk _=>p280 k)
def Uk(k:Int):(Cs k).rdb=(decide (1<=k)&&decide (k<=11)):=by
 by_cases hk:k<0\/14<=k
 ·rw[Jp hk];symm;simp;omega
 ·have j7:k=0\/k=1\/k=2\/k=3\/k=4\/k=5\/k=6\/k=7\/k=8\/k=9\/k=10\/k=11\/k=12\/k=13:=zo
  rcases j7 with rfl|rfl|rfl|rfl|rfl|rfl|rfl|rfl|rfl|rfl|rfl|rfl|rfl|rfl<;>rfl
def p248(r:Zf):Pur prog 248 [BT r] (.bool (He r)):=by
 refine .mk ⟨Ar 0 r,trivial⟩ trivial (c248.a (AF Tv (AG ?_)));simp only[eE,eN,seval,c248,Tsh,s1,Aw,Ag,encF,tadd];exact Uk r.kind
abbrev ruE1(r:Zf)(on set oth:Bool):Bool:=on !=scmp .neq r.on []||set != !decide (r.set=0)||oth != !decide (r.oth=0)|| !on&& !decide (r.fam=0)|| !set&&decide ((0:Int)<(r.ns.length:Int))|| !oth&&decide ((0:Int)<(r.os.length:Int))
abbrev ruE2(r:Zf)(bnd:Bool):Bool:=bnd !=(decide (1<=r.op)&&decide (r.op<=3))|| !bnd&& !decide (r.op=0)||decide (r.n<0)||decide (65536<r.n)
abbrev ruE3(r:Zf)(bnd num:Bool):Bool:=!(num||bnd&&scmp .eql r.byN [])&& !decide (r.n=0)
def Rw{cl:List Zj}{r:Zf}{on set oth bnd num rdb:Bool}{clue:Int}(hf:Cs r.kind=⟨on,set,oth,bnd,num,rdb,true,clue⟩):
  Eg cl r=if ruE1 r on set oth=true then false else if ruE2 r bnd=true then false else if ruE3 r bnd num=true then false else
   if(if(bnd&&scmp .neq r.byN [])=true then 2 else clue)=0 then decide (r.byN=[])&&decide (r.clue= -1)else cluP cl r (if(bnd&&scmp .neq r.byN [])=true then 2 else clue):=by
 unfold Eg;rw[hf];have e1:∀(l:List Bs),decide ((0:Int)<(l.length:Int))=decide (0<l.length):=λl=>by
  rw[Wt,W9,W9];omega
 simp only[ruE1,ruE2,ruE3,Ao,A3,e1,ne_eq,decide_not,Bool.true_eq_false,X4];rfl
def p246(d:Zo)(r:Zf):Pur prog 246 [encD d,BT r] (.bool (Eg d.clus r)):=by
 refine .mk ⟨Ab 0 d,Ar 0 r,trivial⟩ trivial (c246.a (AF Tv (AG ?_)));cases hf:(Cs r.kind)with
 |mk on set oth bnd num rdb knw clue=>
 cases knw with
 |false=>
  have hR:Eg d.clus r=false:=by unfold Eg;rw[hf];rfl
  rw[hR];simp only[eZ,seval,W6,c246,Tsh,s1,Aw,Ag,hf,encF,tadd]
 |true=>
 rw[Rw hf];cases h1:ruE1 r on set oth with
 |true=>
  rw[Wg rfl];simp only[eZ,seval,W3,W0,c246,Tsh,s1,Aw,Ag,hf,encF,h1,tadd]
 |false=>
 rw[W7 zd];cases h2:ruE2 r bnd with
 |true=>
  rw[Wg rfl];simp only[eZ,seval,W3,W0,c246,Tsh,s1,Aw,Ag,hf,encF,h1,h2,tadd]
 |false=>
 rw[W7 zd];cases h3:ruE3 r bnd num with
 |true=>
  rw[Wg rfl];simp only[eZ,seval,W3,W0,c246,Tsh,s1,Aw,Ag,hf,encF,h1,h2,h3,tadd]
 |false=>
 rw[W7 zd];cases h4:(bnd&&scmp .neq r.byN [])with
 |true=>
  simp only[Xi];rw[W7 zd];by_cases hc:r.clue<0\/(d.clus.length:Int)<=r.clue
  ·have m6:(decide (r.clue<0)||decide ((d.clus.length:Int)<=r.clue))=true:=by simpa using hc
   have hP:cluP d.clus r 2=false:=by unfold cluP;rw[Wg hc]
   rw[hP];simp only[eZ,seval,W3,W0,c246,Tsh,s1,Aw,Ag,hf,encF,h1,h2,h3,h4,m6,tadd]
  ·have m6:(decide (r.clue<0)||decide ((d.clus.length:Int)<=r.clue))=false:=by simp;omega
   obtain⟨j,hj⟩:∃j:Nat,r.clue=(j:Int):=⟨r.clue.toNat,zo⟩;have hjl:j<d.clus.length:=zo
   have hg:=W2 hjl;generalize d.clus[j]=c at hg;have hP:cluP d.clus r 2=(decide (c.ty=2)&&(decide (2=1)||decide (c.fam=r.fam))):=by
    unfold cluP;(rw[W7 hc,hj,Wf,hg])<;>rfl
   rw[hP];rw[hj]at m6;simp only[eZ,seval,W3,eY,c246,Tsh,s1,Aw,Ag,hf,encF,h1,h2,h3,h4,hj,m6,lt_T hjl,hg,tadd]
 |false=>
  simp only[Ws,X4];by_cases h5:clue=0
  ·rw[Wg h5];subst h5;simp only[eZ,seval,W3,W0,c246,Tsh,s1,Aw,Ag,hf,encF,h1,h2,h3,h4,tadd];rw[A3]
  ·rw[W7 h5];by_cases hc:r.clue<0\/(d.clus.length:Int)<=r.clue
   ·have m6:(decide (r.clue<0)||decide ((d.clus.length:Int)<=r.clue))=true:=by simpa using hc
    have hP:cluP d.clus r clue=false:=by unfold cluP;rw[Wg hc]
    rw[hP];simp only[eZ,seval,W3,W0,c246,Tsh,s1,Aw,Ag,hf,encF,h1,h2,h3,h4,Ax h5,m6,tadd]
   ·have m6:(decide (r.clue<0)||decide ((d.clus.length:Int)<=r.clue))=false:=by simp;omega
    obtain⟨j,hj⟩:∃j:Nat,r.clue=(j:Int):=⟨r.clue.toNat,zo⟩;have hjl:j<d.clus.length:=zo
    have hg:=W2 hjl;generalize d.clus[j]=c at hg;have hP:cluP d.clus r clue=(decide (c.ty=clue)&&(decide (clue=1)||decide (c.fam=r.fam))):=by
     unfold cluP;(rw[W7 hc,hj,Wf,hg])<;>rfl
    rw[hP];rw[hj]at m6;simp only[eZ,seval,W3,eY,c246,Tsh,s1,Aw,Ag,hf,encF,h1,h2,h3,h4,Ax h5,hj,m6,lt_T hjl,hg,tadd]
def Trd:Tab:=tadd 248 (s1 dRu any1 λr=>.bool (He r)) tnil
def Trd_ok:AI prog Trd:=AI.tnil.add (q1 λr _=>p248 r)
structure VU where
 i:Nat
 tk:Zu
 H:AC
 n:Nat
structure IU(rs:List Zf)(v:VU):Prop where
 hi:v.i<=rs.length
 fr:AQ v.H v.n
 hn:2<=v.n
 tok:tkG 1 1 v.H v.tk
 es:v.tk.esz=1\/BV (rs.take v.i)=[]
def ID(rs:List Zf):(BV rs).length<=rs.length:=by
 unfold BV;rw[W0];exact Xb (Xu ..) zw
def Gs{rs:List Zf}{i:Nat}(h:i<rs.length):BV (rs.take (i+1))=BV (rs.take i)++(if He rs[i]=true then[]else[(i:Int)]):=by
 rw[Wl,W2 h];show BV (rs.take i++[rs[i]])=_;rw[Of,Wx,Nat.min_eq_left zo]
def p217(d:Zo)(hr:few d.ruls):Pur prog 217 [encD d] (eIs (BV d.ruls)):=by
 refine .mk ⟨Ab 0 d,trivial⟩ (AR 0 _) (c217.a (AF Trd_ok (AG ?_)));have hrl:d.ruls.length<1000000000:=hr;simp only[eE,eN,seval,W0,c217];refine AL (λv:VU=>⟨[(2,true,.sl v.tk ((BV (d.ruls.take v.i)).map eI)),(6,true,eRus d.ruls),(7,true,.int .i64 d.ruls.length),(8,true,.int .i64 v.i)],v.H,v.n⟩) (IU d.ruls) (λv=>d.ruls.length-v.i)
  ⟨0,.nil,hset hnil 0 (.box (AH d)),2⟩ rfl ⟨We _,AQ.nil.hset (m:=2) (We 2) (show 0<2 by decide),W8 _,.inl rfl,.inr rfl⟩ ?_
 rintro⟨i,tk,H,n⟩ ⟨hi,c6,hn,c7,d7⟩;simp only at hi c6 hn c7 d7;by_cases c5:i<d.ruls.length
 ·have hg:=W2 c5;have e:=AE (k:=i) zo;have hu:=Gs c5;have hul:=ID (d.ruls.take i);rw[Wx]at hul;generalize d.ruls[i]=r at hg hu;cases w8:He r with
  |true=>
   rw[w8,Wg rfl,X2]at hu;simp only[eZ,seval,W3,eY,lt_T c5,hg,fr1 c6,Trd,s1,Bc,A7,w8,e,AN,tadd];refine .mk ⟨i+1,tk,hset H (n+3) (.box (BP r)),n+6⟩ ?_ ⟨c5,c6.hset (m:=n+6) zo zo,zp,c7.set (.inr (.inr (c6 _ zo))),by simp only[hu];exact d7⟩ zp;simp only[hu]
  |false=>
   rw[w8,W7 zd]at hu;have gt:tkG 1 1 (hset H (n+3) (.box (BP r))) tk:=c7.set (.inr (.inr (c6 _ zo)));have gf:AQ (hset H (n+3) (.box (BP r))) (n+6):=c6.hset (m:=n+6) zo zo;have q1:A5 (hset H (n+3) (.box (BP r))) 1 tk=True:=W1 gt.app;have q2:((BV (d.ruls.take i)).length<=35184372088831)=True:=W1 zo;have q3:Aj ((BV (d.ruls.take i)).length+1) 8=True:=W1 (AX zo zd);simp only[eZ,seval,W6,eY,lt_T c5,hg,fr1 c6,Trd,s1,Bc,A7,w8,e,AN,q1,q2,q3,tadd];refine .mk ⟨i+1,.own (n+9) 1,hset (AO (hset H (n+3) (.box (BP r))) tk) (n+9) .tok,n+11⟩ ?_ ⟨c5,(AU gt gf).hset (m:=n+11) zo zo,zp,.inr (.inr ⟨n+9,rfl,zo,AB ..⟩),.inl rfl⟩ zp;simp only[hu,Wh];rfl
 obtain rfl:i=d.ruls.length:=zo
 rw[Wj]at d7;simp only[eZ,seval,lt_F c5,Wj];exact Wk.sl (d7.imp id λq=>by rw[q];rfl)
def Tfm:Tab:=tadd 246 (s2 dD dRu any2 λd r=>.bool (Eg d.clus r)) (tadd 247 (s1 dCl any1 λc=>.bool (Di c)) tnil)
def Tfm_ok:AI prog Tfm:=(AI.tnil.add (q1 λc _=>p247 c)).add (q2 λd r _=>p246 d r)
structure VM2 where
 i:Nat
 es:List (Fs×Fs×Nat)
 c:Nat
 H:AC
 n:Nat
structure IM2(d:Zo)(id:Nat)(v:VM2):Prop where
 hi:v.i<=d.ruls.length
 fr:AQ v.H v.n
 hn:id<v.n
 h0:hget v.H 0=some (.box (AH d))
 hm:hget v.H id=some (.map v.es v.c)
 ct:MK (d.ruls.take v.i) v.es
 ok:d.ruls.all (Eg d.clus)=(d.ruls.drop v.i).all (Eg d.clus)
def MK.nil:MK [] []:=⟨trivial,λz=>rfl⟩
def p215(d:Zo)(hd:Zh d):Pur prog 215 [encD d] (.bool (Ba d)):=by
 refine .mk ⟨Ab 0 d,trivial⟩ trivial (c215.a (AF Tfm_ok (AG ?_)));have hsl:d.syms.length<1000000000:=hd.sy;have hrl:d.ruls.length<1000000000:=hd.ru;have m5:d.clus.length<1000000000:=hd.cl;simp only[eE,eN,seval,W0,c215];refine AL (λv:VF=>⟨[(1,true,.ptr 0 0),(11,true,eSys d.syms),(12,true,.int .i64 d.syms.length),(13,true,.int .i64 v.i)],v.H,v.n⟩) (λv=>v.i<=d.syms.length/\AQ v.H v.n/\2<=v.n/\hget v.H 0=some (.box (AH d))/\(d.syms.all λs=>decide (0<=s.v)&&decide (s.v<=99))=((d.syms.drop v.i).all λs=>decide (0<=s.v)&&decide (s.v<=99))) (λv=>d.syms.length-v.i)
  ⟨0,hset hnil 0 (.box (AH d)),2⟩ rfl ⟨We _,AQ.nil.hset (m:=2) (We 2) (show 0<2 by decide),W8 _,rfl,rfl⟩ ?_
 rintro⟨i,H,n⟩ ⟨hi,c6,hn,h0,c8⟩;simp only at hi c6 hn h0 c8;by_cases c5:i<d.syms.length
 ·have hg:=W2 c5;have e:=AE (k:=i) zo;rw[Wy c5,Yw]at c8;generalize d.syms[i]=s at hg c8;by_cases hs:0<=s.v/\s.v<=99
  ·have hb:(decide (s.v<0)||decide (99<s.v))=false:=by simp;omega
   simp only[eZ,seval,eY,lt_T c5,hg,fr1 c6,e,AN,hb];refine .mk ⟨i+1,hset H (n+2) (.box [.str s.nm,.int .i64 s.v]),n+4⟩ rfl ⟨c5,c6.hset (m:=n+4) zo zo,zp,by simp only[];rw[AA _ _ _ _ zo];exact h0,?_⟩ zp;simp only[];rw[c8,BB hs.1,BB hs.2];rfl
  ·have hb:(decide (s.v<0)||decide (99<s.v))=true:=by simp;omega
   have hR:Ba d=false:=by
    unfold Ba;rw[c8,show(decide (0<=s.v)&&decide (s.v<=99))=false by simp;omega];rfl
   rw[hR];simp only[eZ,seval,eY,lt_T c5,hg,fr1 c6,AN,hb]
 obtain rfl:i=d.syms.length:=zo
 rw[Xc]at c8;have y0:(n=0)=False:=W4 zo;simp only[eZ,seval,xE,W0,lt_F c5,h0,fr0 c6,y0];refine AL (λv:VM2=>⟨[(1,true,.ptr 0 0),(5,true,.mp n),(28,true,eRus d.ruls),(29,true,.int .i64 d.ruls.length),(30,true,.int .i64 v.i)],v.H,v.n⟩) (IM2 d n) (λv=>d.ruls.length-v.i)
  ⟨0,[],0,hset H n (.map [] 0),n+2⟩ rfl ⟨We _,c6.hset (m:=n+2) zo zo,zp,by simp only[];rw[AA _ _ _ _ zo];exact h0,AB ..,MK.nil,rfl⟩ ?_
 rintro⟨k,es,c,H1,n1⟩ hI;have hk:=hI.hi;have s8:=hI.fr;have j8:=hI.hn;have k9:=hI.h0;have hm:=hI.hm;have s9:=hI.ct;have d9:=hI.ok;simp only at hk s8 j8 k9 hm s9 d9;by_cases o8:k<d.ruls.length
 ·have hg:=W2 o8;have e:=AE (k:=k) zo;have c7:d.ruls.take (k+1)=d.ruls.take k++[d.ruls[k]]:=by rw[Wl,W2 o8];rfl
  rw[Wy o8,Yw]at d9;have y1:∀q,(n1+q=n)=False:=λq=>W4 zo
  have y2:∀q,(n=n1+q)=False:=λq=>W4 zo
  have y3:∀q,(n1+q=0)=False:=λq=>W4 zo
  have y4:∀q,(0=n1+q)=False:=λq=>W4 zo
  generalize d.ruls[k]=r at hg d9 c7;cases hr:Eg d.clus r with
  |false=>
   have hR:Ba d=false:=by
    unfold Ba;rw[d9,hr];simp
   rw[hR];simp only[eZ,seval,W6,eY,lt_T o8,hg,Tfm,s2,A8,Al,Bc,A7,hr,k9,fr1 s8,y3,AN,tadd]
  |true=>
  rw[hr,XU]at d9;have m5:=Ub (d.ruls.take k) r.clue;rw[Wx]at m5;have ew:=AE (k:=cntZ (d.ruls.take k) r.clue) zo;have hq:=s9.2 r.clue;simp only[eZ,seval,W3,xE,eY,lt_T o8,hg,Tfm,s2,A8,Al,Bc,A7,hr,k9,fr1 s8,y1,y3,AN,hm,s9.1,KT.is,CW,hq,e,ew,tadd];refine .mk ⟨k+1,mset (.int .i64 r.clue) (.int .i64 ((cntZ (d.ruls.take k) r.clue+1:Nat):Int)) c es,(if(BN (Fs.int IntKind.i64 r.clue) es).isSome=true then c else c+1),hset (hset H1 (n1+2) (.box (BP r))) n (.map (mset (.int .i64 r.clue) (.int .i64 ((cntZ (d.ruls.take k) r.clue+1:Nat):Int)) c es) (if(BN (Fs.int IntKind.i64 r.clue) es).isSome=true then c else c+1)),n1+4⟩ rfl
   ⟨o8,(s8.hset (m:=n1+4) zo zo).hset (W8 (n1+4)) (show n<n1+4 by omega),zp,?_,AB ..,by simp only[];rw[c7];exact s9.next,d9⟩ zp
  simp only[];rw[AA _ _ _ _ zo,AA _ _ _ _ zo];exact k9
 obtain rfl:k=d.ruls.length:=zo
 rw[Xc]at d9;rw[Wj]at s9;simp only[eZ,seval,W0,lt_F o8,k9];refine AL (λv:VF=>⟨[(5,true,.mp n),(45,true,eCls d.clus),(46,true,.int .i64 d.clus.length),(47,true,.int .i64 v.i)],v.H,v.n⟩) (λv=>v.i<=d.clus.length/\AQ v.H v.n/\n<v.n/\hget v.H n=some (.map es c)/\∀j (h:j<d.clus.length),j<v.i->D9 d.ruls j=1/\Di d.clus[j]=true) (λv=>d.clus.length-v.i)
  ⟨0,H1,n1⟩ rfl ⟨We _,s8,j8,hm,λj h q=>absurd q (Xl _)⟩ ?_
 rintro⟨j,H2,n2⟩ ⟨hj,t8,hn2,u0,l6⟩;simp only at hj t8 hn2 u0 l6;by_cases hlj:j<d.clus.length
 ·have hg:=W2 hlj;have e:=AE (k:=j) zo;have y1:∀q,(n2+q=n)=False:=λq=>W4 zo
  have y2:∀q,(n=n2+q)=False:=λq=>W4 zo
  have hq:=s9.2 (j:Int);rw[NL]at hq;have i6:¬(D9 d.ruls j=1/\Di d.clus[j]=true)->Ba d=false:=λq=>by
   unfold Ba;rw[c8,d9];cases q1:((List.range d.clus.length).all λi=>decide (D9 d.ruls i=1))with
   |false=>rfl
   |true=>
   cases q2:d.clus.all Di with
   |false=>rfl
   |true=>exact absurd ⟨Xa (Wo.1 q1 j (Xj.2 hlj)),Wo.1 q2 _ (Wn hlj)⟩ q
  have hnext:D9 d.ruls j=1/\Di d.clus[j]=true->∀q (h:q<d.clus.length),q<j+1->D9 d.ruls q=1/\Di d.clus[q]=true:=λz q h hq=>by
   by_cases w:q=j
   ·subst w;exact z
   ·exact l6 q h zo
  generalize hx:d.clus[j]=x at hg i6 hnext;by_cases hmc:D9 d.ruls j=1
  ·have hmb:(((D9 d.ruls j:Nat):Int)=1)=True:=W1 zo;cases hc:Di x with
   |false=>
    rw[i6 (by rw[hc];simp)];simp only[eZ,seval,W3,W6,xE,eY,lt_T hlj,hg,Tfm,s1,Hh,FO,hc,fr1 t8,y1,AN,u0,s9.1,KT.is,CW,hq,hmb,tadd]
   |true=>
    simp only[eZ,seval,W3,xE,eY,lt_T hlj,hg,Tfm,s1,Hh,FO,hc,fr1 t8,y1,AN,u0,s9.1,KT.is,CW,hq,e,hmb,tadd];refine .mk ⟨j+1,hset H2 (n2+3) (.box (B7 x).cells),n2+6⟩ rfl ⟨hlj,t8.hset (m:=n2+6) zo zo,zp,?_,hnext ⟨hmc,hc⟩⟩ zp;simp only[];rw[AA _ _ _ _ zo];exact u0
  ·have hmb:(((D9 d.ruls j:Nat):Int)=1)=False:=W4 zo;rw[i6 (λq=>hmc q.1)];simp only[eZ,seval,W3,W6,xE,eY,lt_T hlj,hg,Tfm,s1,Hh,FO,fr1 t8,y1,AN,u0,s9.1,KT.is,CW,hq,hmb,tadd]
 obtain rfl:j=d.clus.length:=zo
 have hR:Ba d=true:=by
  have z2:d.clus.all Di=true:=Wo.2 λq hq=>by
   obtain⟨m,hm,rfl⟩:=X9.1 hq;exact(l6 m hm hm).2
  unfold Ba;rw[c8,d9,Wo.2 λq hq=>Wv (l6 q (Xj.1 hq) (Xj.1 hq)).1,z2];rfl
 rw[hR];simp only[eZ,seval,lt_F hlj]
section
abbrev clV(q:Nat):Fs:=.fn (.func 278) [] [.ptr q 0]
abbrev eApp(q c:Nat):List (Nat×Bool×Fs):=[(2,true,.ptr c 0),(4,true,.sl .nil []),(6,true,clV q)]
structure AppF(q c L l':Nat)(H0:AC)(n0:Nat)(qs:List Int)(H:AC)(m:Nat):Prop where
 fr:AQ H m
 lc:n0<=c
 cl:c<L
 lm:L<m
 hc:∃lv,hget H c=some (.box [lv])/\LvG eI 1 (L+1) H lv qs
 hL:hget H L=some (.lp ⟨l',.ready,none,13,eApp q c, #[7],Ee,Ef⟩)
 kp:∀id ob,id<n0->hget H0 id=some ob->hget H id=some ob
variable {H:AC} {l:List Int} {q n:Nat}
theorem y_app{c L l':Nat}{H0:AC}{n0:Nat}{qs:List Int}{m:Nat}(F:AppF q c L l' H0 n0 qs H m)(x:Int)(hs:qs.length<1000000000){R:Bool->AC->Nat->Prop}
  (hR:∀H' m',AppF q c L l' H0 n0 (qs++[x]) H' m'->R true H' m'):Bw prog l' [eI x] H m R:=by
 obtain⟨fr,lc,cl,lm,⟨lv,hc,l5⟩,hL,kp⟩:=F;refine UW hL rfl (AF AI.tnil (AG ?_));simp only[eE,eN,seval,Jc,renv,Yj,Ym,XM,Yz];refine⟨_,hL,rfl,AF AI.tnil (AG ?_)⟩;have y1:∀k,(L=m+k)=False:=λk=>W4 zo
 have y2:(L=c)=False:=W4 zo;have y3:(c=L)=False:=W4 zo;simp only[eE,seval,Jb,hc,y2];have g1:∀k,hget (hset H L (.lp ⟨l',.busy,none,13,eApp q c, #[7],Ee,Ef⟩)) (m+k)=none:=λk=>by rw[AA _ _ _ _ zo];exact fr1 fr k
 refine ML (enc:=eI) (lo:=L+1) (qs:=qs) (z0:=0) ?_ rfl zd rfl rfl (AX zo zd) (g1 3) zo zo ?_
 ·rcases l5 with h|⟨d8,id,rest,h1,h2,h3⟩
  ·exact .inl h
  ·exact .inr ⟨d8,id,rest,h1,h2,by rw[AA _ _ _ _ zo];exact h3⟩
 intro id rest hlo d6;have hidm:id<m+5:=by
  rcases d6 with rfl|⟨Z,h⟩
  ·omega
  ·apply Classical.byContradiction;intro z;obtain⟨k,rfl⟩:∃k,id=m+k:=⟨id-m,zo⟩;rw[g1]at h;cases h
 have z1:(id=L)=False:=W4 zo;have z2:(id=c)=False:=W4 zo;have z3:(L=id)=False:=W4 zo;have z4:(c=id)=False:=W4 zo;have hidn:¬id<n0:=zo
 simp only[eE,eN,seval,Ec,z2,y2,hc];refine⟨⟨l',.busy,none,13,eApp q c, #[7],Ee,Ef⟩,by simp only[AK,y3,z1,X4,Xi],hR _ _ ⟨?_,lc,cl,zp,⟨_,by simp only[AK,y2,X4,Xi],.inr ⟨zw,id,rest,rfl,hlo,by simp only[AK,z3,z4,X4,Xi]⟩⟩,by simp only[AK,Xi],?_⟩⟩
 ·intro j hj;have hj':m+5<=j:=hj;simp only[AK];repeat rw[W7 zo]
  exact fr j zo
 ·intro j ob hj h0;simp only[AK];repeat rw[W7 zo]
  exact kp j ob hj h0
theorem Rx(hf:AQ H n)(hq:hget H q=some (.box [eIs l]))(hl:few l):
  AP prog 303 [.sl .nil [],clV q] H n λo H' n'=>∃lv,o= .ret lv/\LvG eI 1 (n+3) H' lv l/\AQ H' n'/\n<=n'/\∀id ob,id<n->hget H id=some ob->hget H' id=some ob:=by
 have l8:l.length<1000000000:=hl;have hqn:=hf.lt hq;refine a303 (AF AI.tnil (AG ?_));simp only[eE,eN,seval,c303,fr0 hf,FE];intro l';generalize hH1:hset (hset H n (.box [.sl .nil []])) (n+2) _=H1;have hq1:hget H1 q=some (.box [eIs l]):=by
  subst hH1;simp only[AK];repeat rw[W7 zo]
  exact hq
 have F0:AppF q n (n+2) l' H n [] H1 (n+3):=by
  subst hH1;refine⟨λj hj=>?_,W8 _,zo,zo,⟨.sl .nil [],?_,.inl ⟨rfl,rfl⟩⟩,AB ..,λj ob hj h0=>?_⟩
  ·simp only[AK];repeat rw[W7 zo]
   exact hf j zo
  ·simp only[AK];rw[W7 zo,Wg trivial]
  ·simp only[AK];repeat rw[W7 zo]
   exact h0
 clear hH1;refine c278.a (AF AI.tnil (AG ?_));simp only[eE,eN,seval,W0,c278,hq1];refine AL (λv:VF=>⟨[(0,true,.fn (.yield l') [] []),(5,true,eIs l),(6,true,.int .i64 l.length),(7,true,.int .i64 v.i)],v.H,v.n⟩) (λv=>v.i<=l.length/\n+3<=v.n/\AppF q n (n+2) l' H n (l.take v.i) v.H v.n) (λv=>l.length-v.i)
  ⟨0,H1,n+3⟩ rfl ⟨We _,W8 _,F0⟩ ?_
 rintro⟨i,H2,m⟩ ⟨hi,hm,F⟩;simp only at hi hm F;by_cases c5:i<l.length
 ·have hg:=W2 c5;have e:=AE (k:=i) zo;have c7:l.take (i+1)=l.take i++[l[i]]:=by rw[Wl,W2 c5];rfl
  generalize l[i]=x at hg c7;simp only[eZ,seval,eY,lt_T c5,hg];refine y_app F x (by rw[Wx];omega) λH' m' F'=>?_
  simp only[eZ,seval,W3,yldK,e];exact .mk ⟨i+1,H',m'⟩ rfl ⟨c5,by have:=F'.lm;simp only[];omega,by simp only[];rw[c7];exact F'⟩ zp
 obtain rfl:i=l.length:=zo
 rw[Wj]at F;obtain⟨fr,lc,cl,lm,⟨lv,hc,l5⟩,hL,kp⟩:=F;have y1:(n+2=n)=False:=W4 zo;simp only[eZ,seval,lt_F c5,FD,hL,hc,y1];refine⟨lv,rfl,?_,fr.hset (W8 m) (show n+2<m by omega),zo,λid ob d6 h0=>by rw[W7 zo];exact kp id ob d6 h0⟩;rcases l5 with h|⟨d8,id,rest,h1,h2,h3⟩
 ·exact .inl h
 ·exact .inr ⟨d8,id,rest,h1,h2,by rw[AA _ _ _ _ zo];exact h3⟩
theorem t_coll(hf:AQ H n)(hq:hget H q=some (.box [eIs l]))(hl:few l):
  AP prog 277 [clV q] H n λo H' n'=>∃lv,o= .ret lv/\LvG eI 1 (n+3) H' lv l/\AQ H' n'/\n<=n'/\∀id ob,id<n->hget H id=some ob->hget H' id=some ob:=by
 refine c277.a (AF AI.tnil (AG ?_));simp only[eE,eN,seval,c277];refine(Rx hf hq hl).mono ?_;rintro o H' n' ⟨lv,rfl,h1,h2,h3,h4⟩;simp only[eE,eN,seval,retK];exact⟨lv,rfl,h1,h2,h3,h4⟩
theorem LI:AP prog 221 [.sl .nil []] H n λo H' n'=>o= .ret (.tup [])/\H'=H/\n'=n:=by
 refine⟨lSort,λg w vs hR hv=>?_⟩;obtain⟨v,r,rfl,k1,k2⟩:=hv;have k2':r=[]:=k2;subst k2';have hv:∃p cap,v= .slice p 0 cap:=by
  rcases k1 with⟨-,rfl,-⟩|⟨-,b,o,cap,⟨sp,rfl,hsp⟩,hc,hst,-⟩
  ·exact⟨_,_,rfl⟩
  ·exact⟨_,_,rfl⟩
 obtain⟨p,cap,rfl⟩:=hv;refine(slices_Sort_int_none p cap w).mono ?_;rintro e w' ⟨rfl,rfl⟩;exact⟨g,.ret (.tup []),H,n,⟨rfl,rfl,rfl⟩,⟨_,rfl,rfl⟩,hR,W8 _,Zc.refl _ _ _ _⟩
def SrA(ob:List Fs->Zk)(H:AC)(l:List Int):Zr->AC->Nat->Prop:=λo H' n'=>
 B5 H H'/\((l=[]/\o= .ret (.sl .nil []))\/l≠[]/\∃id rest,o= .ret (.ref id 1 0 l.length (l.length+rest.length))/\hget H id=none/\hget H' id=some (ob ((l.mergeSort leI++rest).map eI)))
theorem DC(l:List Int):(l.mergeSort leI).length=l.length:=List.length_mergeSort ..
theorem t_srtd(hf:AQ H n)(hq:hget H q=some (.box [eIs l]))(hl:few l):
  AP prog 242 [clV q] H n (QRet H (eIs (l.mergeSort leI))):=by
 have l8:l.length<1000000000:=hl;refine AP.out (AP.seal (R:=SrA (.arr 1) H l) (R':=SrA (.frz 1) H l) (c242.a (AF AI.tnil (AG ?_))) ?_) ?_
 ·simp only[eE,eN,seval,c242];refine(t_coll hf hq hl).mono ?_;rintro o H1 n1 ⟨lv,rfl,l5,hf1,j8,hk⟩;simp only[eE,eN,seval,retK];have hK:B5 H H1:=λid ob h0=>hk id ob (hf.lt h0) h0
  rcases l5 with⟨rfl,rfl⟩|⟨d8,id,rest,rfl,h2,h3⟩
  ·refine LI.mono ?_;rintro o H2 n2 ⟨rfl,rfl,rfl⟩;simp only[eE,eN,seval,retK];exact⟨hK,.inl ⟨rfl,rfl⟩⟩
  ·refine(NN h3 zw l8).mono ?_;rintro o H2 n2 ⟨rfl,rfl,rfl⟩;rw[YT,List.drop_left];simp only[eE,eN,seval,retK];refine⟨λi ob h0=>?_,.inr ⟨d8,id,rest,rfl,hf _ zo,AB ..⟩⟩;rw[AA _ _ _ _ (λe=>by subst e;rw[hf _ zo]at h0;cases h0)];exact hK i ob h0
 ·rintro o H' n' ⟨hK,h⟩;rcases h with h|⟨d8,id,rest,h1,h2,h3⟩
  ·exact .inl ⟨hK,.inl h⟩
  ·refine .inr ⟨id,1,_,h3,λi ob h0=>?_,.inr ⟨d8,id,rest,h1,h2,AB ..⟩⟩;rw[AA _ _ _ _ (λe=>by subst e;rw[h2]at h0;cases h0)];exact hK i ob h0
 ·rintro o H' n' ⟨hK,h⟩;refine⟨.ret (eIs (l.mergeSort leI)),⟨⟨_,rfl,Wk.refl _⟩,hK⟩,λg w e hR he=>?_⟩;have hL:∃lv,o= .ret lv/\LF 1 lv H' ((l.mergeSort leI).map eI):=by
   rcases h with⟨rfl,rfl⟩|⟨hz,id,rest,rfl,h2,h3⟩
   ·exact⟨_,rfl,.inl ⟨zw,_,rfl,.inl rfl⟩⟩
   ·refine⟨_,rfl,?_⟩;have hl2:=DC l;refine .inr ⟨λq=>hz (by rw[List.map_eq_nil_iff]at q;rw[q]at hl2;exact XD.1 hl2.symm),id,l.length+rest.length,rest.map eI,by rw[W0,hl2],by rw[h3,Wh],by simp [hl2]⟩
  obtain⟨lv,rfl,hL⟩:=hL;cases e with
  |returned v=>exact Iv hL hR he
  |panicked c=>exact he.elim
  |outgrown=>exact he.elim
theorem t_vals(hf:AQ H n):AP prog 243 [eIs l] H n λo H' n'=>o= .ret (clV n)/\H'=hset H n (.box [eIs l])/\n'=n+2:=by
 refine c243.a (AF AI.tnil (AG ?_));simp only[eE,eN,seval,c243,fr0 hf]
end
section
abbrev srt(l:List Int):List Int:=l.mergeSort leI
def I2(ls:List (List Int))(j:Nat)(x:List Int):Bool:=((ls.take j).map srt).contains (srt x)
def Ry{ls:List (List Int)}(hn:∀l∈ls,l.Nodup){j:Nat}(hj:j<ls.length)(h:I2 ls j ls[j]=true):Bm ls=true:=by
 unfold I2 at h;rw[X6,Xh]at h;obtain⟨y,hy,e⟩:=h;obtain⟨b,hb,rfl⟩:=X9.1 hy;rw[Wx]at hb;rw[List.getElem_take]at e;refine Ff.2 ⟨j,b,hj,zo,zo,?_⟩;rw[Ir (hn _ (Wn _)) (hn _ (Wn _)),W9];exact e.symm
def Ot{ls:List (List Int)}(hn:∀l∈ls,l.Nodup)(h:∀j (hj:j<ls.length),I2 ls j ls[j]=false):Bm ls=false:=by
 cases q:Bm ls with
 |false=>rfl
 |true=>
  obtain⟨a,b,ha,hb,o7,h2⟩:=Ff.1 q;rw[Ir (hn _ (Wn _)) (hn _ (Wn _)),W9]at h2;have:=h a ha;unfold I2 at this;rw[<-Bool.not_eq_true,X6,Xh]at this;exact absurd ⟨ls[b],X9.2 ⟨b,by rw[Wx];omega,by rw[List.getElem_take]⟩,h2.symm⟩ this
def Rz(o:Option Zk):Prop:=∃x:List Int,few x/\o=some (.box [eIs x])
def MU:Option Zk->List Int
 |some (.box [.sl _ L])=>L.map toI
 |_=>[]
variable {x:List Int}
theorem E9(h:few x):Rz (some (.box [eIs x]))=True:=W1 ⟨x,h,rfl⟩
theorem DR(x:List Int):MU (some (.box [eIs x]))=x:=As x
def sSr:List Fs->AC->Prop×Fs:=λa H=>match a with
 |[.fn (.func f) [] [.ptr q 0]]=>(f=278/\Rz (hget H q),eIs (srt (MU (hget H q))))
 |_=>(False,.tup [])
theorem qSr:∀args H n,(sSr args H).1->Am prog 242 args H n (sSr args H).2:=by
 intro args H n hh;unfold sSr at hh⊢;split at hh
 ·rename_i f q;obtain⟨rfl,x,hx,h0⟩:=hh;simp only[h0,DR];exact Am.of c242.l (AR n _) λhf=>t_srtd hf h0 hx
 ·exact hh.elim
def sR1:List Fs->AC->Prop×Fs:=λa H=>match a with
 |[y,.ptr q 0]=>(dIs.ok y/\wide (dIs.dec y)/\Rz (hget H q),.bool (decide (MU (hget H q)=dIs.dec y)))
 |_=>(False,.tup [])
def Teq:Tab:=tadd 103 (s2 dIs dIs (λ_ b=>wide b) (λa b=>.bool (decide (a=b)))) tnil
theorem Teq_ok:AI prog Teq:=AI.tnil.add (q2 p103)
theorem qR1:∀args H n,(sR1 args H).1->Am prog 245 args H n (sR1 args H).2:=by
 intro args H n hh;unfold sR1 at hh⊢;split at hh
 ·rename_i y q;obtain⟨h1,h2,x,hx,h0⟩:=hh;simp only[h0,DR];refine Am.of c245.l trivial λhf=>c245.a (AF Teq_ok (AG ?_))
  simp only[eE,eN,seval,c245,h0,Teq,s2,Ad,AY,W1 h1,W1 h2,tadd];exact λ_ _ h=>h
 ·exact hh.elim
abbrev clR(q:Nat):Fs:=.fn (.func 245) [] [.ptr q 0]
def Tr1:Tab:=tadd 245 sR1 tnil
theorem Tr1_ok:AI prog Tr1:=AI.tnil.add qR1
def idxL(met:List (List Int))(x:List Int):Int:=match met.findIdx? (λy=>decide (x=y))with
 |some k=>(k:Int)
 |none=>-1
theorem q_ifLi{H:AC}{n q:Nat}{met:List (List Int)}(hm:Bp met)(hx:few x)(h0:hget H q=some (.box [eIs x])):Am prog 279 [eLl met,clR q] H n (.int .i64 (idxL met x)):=by
 refine Am.of c279.l trivial λhf=>c279.a (AF Tr1_ok (AG ?_))
 have hml:met.length<1000000000:=hm.1;simp only[eE,eN,seval,W0,c279];refine AL (λi:Nat=>⟨[(0,true,eLl met),(1,true,clR q),(7,true,.int .i64 met.length),(8,true,.int .i64 i)],H,n⟩) (λi=>i<=met.length/\∀j (h:j<met.length),j<i->¬x=met[j]) (λi=>met.length-i)
  0 rfl ⟨We _,λj _ h=>absurd h (Xl _)⟩ ?_
 rintro i ⟨hi,hb⟩;by_cases c5:i<met.length
 ·have hg:=W2 c5;have e:=AE (k:=i) zo;have hyf:=hm.2 _ (Wn c5);generalize hy:met[i]=y at hg hyf;by_cases hxy:x=y
  ·have hR:idxL met x=i:=by
    unfold idxL;rw[Xq.2 ⟨c5,by simpa [hy]using hxy,λj hj=>by simpa using hb j zo hj⟩]
   rw[hR];simp only[eZ,seval,eY,lt_T c5,hg,Tr1,sR1,h0,E9 hx,DR,Ad,AY,W1 hyf,BB hxy,tadd];exact λ_ _ h=>h
  ·simp only[eZ,seval,eY,lt_T c5,hg,e,Tr1,sR1,h0,E9 hx,DR,Ad,AY,W1 hyf,Ax hxy,tadd];refine .mk (i+1) rfl ⟨c5,λj hj h=>?_⟩ zo;by_cases z:j=i
   ·subst z;rw[hy];exact hxy
   ·exact hb j hj zo
 obtain rfl:i=met.length:=zo
 have hR:idxL met x= -1:=by
  unfold idxL;rw[Yi.2 λy hy=>by
   obtain⟨j,hj,rfl⟩:=X9.1 hy;simpa using hb j hj hj]
 rw[hR];simp only[eZ,seval,lt_F c5];exact λ_ _ h=>h
theorem idx_in(met:List (List Int))(x:List Int):decide (0<=idxL met x)=met.contains x:=by
 rw[Wt,W9,X6];unfold idxL;cases h:met.findIdx? (λy=>decide (x=y))with
 |none=>
  rw[Yi]at h;constructor
  ·intro q;simp at q
  ·intro q;have:=h x q;simp at this
 |some k=>
  obtain⟨h1,h2,-⟩:=Xq.1 h;constructor
  ·intro _;have:=Xa h2;rw[this];exact Wn _
  ·intro _;simp
def sIf(f:List (List Int)->List Int->Fs):List Fs->AC->Prop×Fs:=λa H=>match a with
 |[y,.fn (.func g) [] [.ptr q 0]]=>(dLl.ok y/\Bp (dLl.dec y)/\g=245/\Rz (hget H q),f (dLl.dec y) (MU (hget H q)))
 |_=>(False,.tup [])
theorem q_sIf{f:List (List Int)->List Int->Fs}{i4:FuncId}(h:∀{H:AC} {n q:Nat} {met:List (List Int)} {x:List Int},Bp met->few x->hget H q=some (.box [eIs x])->Am prog i4 [eLl met,clR q] H n (f met x)):∀args H n,(sIf f args H).1->Am prog i4 args H n (sIf f args H).2:=by
 intro args H n hh;unfold sIf at hh⊢;split at hh
 ·rename_i y g q;obtain⟨h1,h2,rfl,x,hx,h0⟩:=hh;simp only[h0,DR];refine AP.args (h (n:=n) h2 hx h0) ?_;rintro g vs ⟨v,r,rfl,k1,k2⟩;exact⟨v,_,rfl,dLl.wk _ h1 _ _ k1,k2⟩
 ·exact hh.elim
abbrev fIf(met:List (List Int))(x:List Int):Fs:=.int .i64 (idxL met x)
abbrev fCf(met:List (List Int))(x:List Int):Fs:=.bool (met.contains x)
def Tr2:Tab:=tadd 279 (sIf fIf) tnil
theorem Tr2_ok:AI prog Tr2:=AI.tnil.add (q_sIf λh1 h2 h3=>q_ifLi h1 h2 h3)
theorem Ou{t:Zu}{l:List (List Int)}(ht:t.esz=1\/l=[]):dLl.ok (.sl t (l.map eIs))=True:=Hi Ds ht
theorem MV{t:Zu}(l:List (List Int)):dLl.dec (.sl t (l.map eIs))=l:=FP Ds
theorem q_cfLi{H:AC}{n q:Nat}{met:List (List Int)}(hm:Bp met)(hx:few x)(h0:hget H q=some (.box [eIs x])):Am prog 244 [eLl met,clR q] H n (fCf met x):=by
 refine Am.of c244.l trivial λhf=>c244.a (AF Tr2_ok (AG ?_))
 simp only[eE,eN,seval,c244,Tr2,sIf,h0,E9 hx,DR,CH,Bd,W1 hm,idx_in,tadd];exact λ_ _ h=>h
def Trg:Tab:=tadd 150 (s2 dGd dLl (λg l=>Ai g.sh g.w g.h g.holes=some g.cells/\few g.holes/\Bp l) λg l=>rgsV g.cells l) (tadd 244 (sIf fCf) (tadd 242 sSr tnil))
theorem Trg_ok:AI prog Trg:=((AI.tnil.add qSr).add (q_sIf λh1 h2 h3=>q_cfLi h1 h2 h3)).add (q2 λg l h=>p150 g l h.1 h.2.1 h.2.2)
structure VRm where
 j:Nat
 tk:Zu
 H:AC
 n:Nat
structure IRm(g:Zs)(r:Zl)(v:VRm):Prop where
 hj:v.j<=r.ls.length
 fr:AQ v.H v.n
 hn:3<=v.n
 h1:hget v.H 1=some (.box (AD g.sh g.w g.h g.holes g.cells))
 tok:tkG 1 2 v.H v.tk
 es:v.tk.esz=1\/(r.ls.take v.j).map srt=[]
 no:∀k (hk:k<r.ls.length),k<v.j->I2 r.ls k r.ls[k]=false
theorem p213(d:Zo)(g:Zs)(hd:Zh d)(hG:Ai g.sh g.w g.h g.holes=some g.cells)(hh:few g.holes):Pur prog 213 [encD d,Bz g] (.int .i64 (C5 g.cells d.regs)):=by
 refine .mk ⟨Ab 0 d,Ap 0 ..,trivial⟩ trivial (c213.a (AF Trg_ok (AG ?_)));have hrl:d.regs.length<1000000000:=hd.rg;simp only[eE,eN,seval,W0,c213];refine AL (λv:VF=>⟨[(3,true,.ptr 1 0),(14,true,eRgs d.regs),(15,true,.int .i64 d.regs.length),(16,true,.int .i64 v.i)],v.H,v.n⟩) (λv=>v.i<=d.regs.length/\AQ v.H v.n/\3<=v.n/\hget v.H 1=some (.box (AD g.sh g.w g.h g.holes g.cells))/\C5 g.cells d.regs=C5 g.cells (d.regs.drop v.i)) (λv=>d.regs.length-v.i)
  ⟨0,hset (hset hnil 0 (.box (AH d))) 1 (.box (AD g.sh g.w g.h g.holes g.cells)),3⟩ rfl ⟨We _,(AQ.nil.hset (m:=3) (We 3) (show 0<3 by decide)).hset (W8 3) (show 1<3 by decide),W8 _,rfl,rfl⟩ ?_
 rintro⟨i,H,n⟩ ⟨hi,c6,hn,h1,heq⟩;simp only at hi c6 hn h1 heq;by_cases c5:i<d.regs.length;case neg=>
  obtain rfl:i=d.regs.length:=zo
  rw[Xc]at heq;rw[heq];simp only[eZ,seval,lt_F c5];rfl
 have hg:=W2 c5;have e:=AE (k:=i) zo;have hrf:MM d.regs[i]:=hd.rgs _ (Wn c5);rw[K0 _ _ _ c5]at heq;generalize d.regs[i]=r at hg hrf heq;have y1:∀q,(n+q=1)=False:=λq=>W4 zo
 have hc:=W1 (⟨hG,hh,hrf⟩:Ai g.sh g.w g.h g.holes=some g.cells/\few g.holes/\Bp r.ls);by_cases hb:(decide (r.ls.length<=64)&&r.ls.all (Da g.cells))=true;case neg=>
  have hv:rgsV g.cells r.ls= .tup [eLl [],.int .i64 130]:=W7 hb;have hE:regE g.cells r=130:=Wg (by simpa using hb);rw[hE,W7 zd]at heq;rw[heq];simp only[eZ,seval,W6,eY,lt_T c5,hg,fr1 c6,h1,y1,Trg,s2,Ez,Cv,CH,Bd,hc,hv,tadd]
 have hv:rgsV g.cells r.ls= .tup [eLl (r.ls.map (BO g.cells)),.int .i64 0]:=Wg hb;obtain⟨hb1,i8⟩:=(W5 _ _).mp hb;have hb1:=Xa hb1;have hnd:∀l∈r.ls,l.Nodup:=λl hl=>(Eh (Wo.1 i8 l hl)).1
 have hregE:regE g.cells r=if Bm r.ls=true then 161 else 0:=by unfold regE;rw[hb,W7 zd]
 simp only[eZ,seval,W3,eY,lt_T c5,hg,fr1 c6,h1,y1,Trg,s2,Ez,Cv,CH,Bd,hc,hv,AN,tadd];refine AL (λv:VRm=>⟨[(3,true,.ptr 1 0),(9,true,.sl v.tk (((r.ls.take v.j).map srt).map eIs)),(14,true,eRgs d.regs),(15,true,.int .i64 d.regs.length),(16,true,.int .i64 i),(31,true,eLl r.ls),(32,true,.int .i64 r.ls.length),(33,true,.int .i64 v.j)],v.H,v.n⟩) (IRm g r) (λv=>r.ls.length-v.j)
  ⟨0,.nil,hset H (n+2) (.box [.str r.nm,eLl r.ls]),n+4⟩ rfl ⟨We _,c6.hset (m:=n+4) zo zo,zp,by simp only[];rw[AA _ _ _ _ zo];exact h1,.inl rfl,.inr rfl,λk _ h=>absurd h (Xl _)⟩ ?_
 rintro⟨j,tk,H1,n1⟩ hI;have hj:=hI.hj;have hf1:=hI.fr;have j8:=hI.hn;have h11:=hI.h1;have c7:=hI.tok;have d7:=hI.es;have e9:=hI.no;simp only at hj hf1 j8 h11 c7 d7 e9;by_cases hlj:j<r.ls.length
 ·have hgj:=W2 hlj;have ej:=AE (k:=j) zo;have hlf:few r.ls[j]:=by
   obtain⟨q1,-,q3⟩:=Eh (Wo.1 i8 _ (Wn hlj));have h1:=Hp q1 q3;have h2:=(Ay hG).2.1;show r.ls[j].length<_;omega
  have hmt:=map_take (f:=srt) hlj;have hhit:=λq=>Ry hnd hlj q
  have hnx:I2 r.ls j r.ls[j]=false->∀k (hk:k<r.ls.length),k<j+1->I2 r.ls k r.ls[k]=false:=λq k hk h=>by
   by_cases z:k=j
   ·subst z;exact q
   ·exact e9 k hk zo
  generalize r.ls[j]=l at hgj hlf hmt hhit hnx;have hmf:Bp ((r.ls.take j).map srt):=⟨show((r.ls.take j).map srt).length<_ by rw[W0,Wx];omega,λx hx=>by
   obtain⟨y,hy,rfl⟩:=Xh.1 hx;show(srt y).length<_;rw[DC];exact hrf.2 _ (YW hy)⟩
  have hsf:few (srt l):=show(srt l).length<_ by rw[DC];exact hlf
  have z1:∀q,(n1+q=1)=False:=λq=>W4 zo
  have hmb:((r.ls.take j).map srt).contains (srt l)=I2 r.ls j l:=rfl;simp only[eZ,seval,eY,lt_T hlj,hgj];refine(t_vals (n:=n1+5) λj hj=>hf1 j zo).mono ?_;rintro o H2 n2 ⟨rfl,rfl,rfl⟩;cases hb3:I2 r.ls j l with
  |true=>
   rw[hregE,hhit hb3,Wg rfl,W7 zd]at heq;rw[heq];simp only[eZ,seval,retK,Trg,sSr,E9 hlf,DR,fr1 hf1,sIf,E9 hsf,Ou d7,MV,W1 hmf,hmb,hb3,AN,tadd]
  |false=>
   have gt:tkG 1 2 (hset (hset H1 (n1+5) (.box [eIs l])) (n1+3) (.box [eIs (srt l)])) tk:=(c7.set (.inr (.inr (fr1 hf1 5)))).set (.inr (.inr (by rw[AA _ _ _ _ zo];exact fr1 hf1 3)));have gf:AQ (hset (hset H1 (n1+5) (.box [eIs l])) (n1+3) (.box [eIs (srt l)])) (n1+12):=(hf1.hset (m:=n1+12) zo zo).hset (m:=n1+12) zo zo;have q1:A5 (hset (hset H1 (n1+5) (.box [eIs l])) (n1+3) (.box [eIs (srt l)])) 1 tk=True:=W1 gt.app;have q2:((r.ls.take j).length<=35184372088831)=True:=W1 (by rw[Wx];omega);have q3:Aj ((r.ls.take j).length+1) 24=True:=W1 (AX (by rw[Wx];omega) zd);simp only[eZ,seval,W0,retK,Trg,sSr,E9 hlf,DR,fr1 hf1,sIf,E9 hsf,Ou d7,MV,W1 hmf,hmb,hb3,AN,q2,q3,q1,ej,tadd];refine .mk ⟨j+1,.own (n1+10) 1,hset (AO (hset (hset H1 (n1+5) (.box [eIs l])) (n1+3) (.box [eIs (srt l)])) tk) (n1+10) .tok,n1+12⟩ ?_ ⟨hlj,(AU gt gf).hset (W8 _) (show n1+10<n1+12 by omega),zp,?_,.inr (.inr ⟨n1+10,rfl,zo,AB ..⟩),.inl rfl,hnx hb3⟩ zp
   ·simp only[hmt,Wh];rfl
   ·simp only[];rw[AA _ _ _ _ zo,AV gt (.inl zo),AA _ _ _ _ zo,AA _ _ _ _ zo];exact h11
 obtain rfl:j=r.ls.length:=zo
 rw[hregE,Ot hnd λj hj=>e9 j hj hj]at heq;simp only[eZ,seval,lt_F hlj,e];exact .mk ⟨i+1,H1,n1⟩ rfl ⟨c5,hf1,j8,h11,heq⟩ zp
end
section
def whn(b:Bool)(e:Int):Int:=if b=true then 0 else e
def Nc(d:Zo):Int:=whn (limD d) 2
def LJ(d:Zo):Int:=match resD d with
 | .error e=>e
 | .ok x=>whn (decide (x=d)) 170
def Nd(d:Zo):Int:=whn (decide (1<=d.ver)&&decide (d.ver<=255)) 170
def Nf(d:Zo):Int:=match Ai d.sh d.w d.h d.holes with
 |some _=>0
 |none=>130
def Ng(d:Zo):Int:=whn (Ba d) 170
def Ov(d:Zo):Int:=whn (decide (BV d.ruls=[])) 171
def EP{d:Zo}{e:Int}(h:resD d= .error e):e≠0:=by
 unfold resD at h
 rintro rfl
 repeat' split at h
 all_goals simp at h
def dB:Dc Bool:=⟨.bool,toB,λv=>match v with| .bool _=>True|_=>False,λv h=>by
 cases v<;>first|exact Wk.refl _|exact h.elim⟩
theorem Ow(b:Bool):dB.ok (.bool b)=True:=rfl
theorem Jq(b:Bool):dB.dec (.bool b)=b:=rfl
def Tst:Tab:=tadd 208 (s2 dB dI any2 λb e=>.int .i64 (whn b e)) (tadd 145 (s1 dD Zh CA) (tadd 104 (s2 dD dD (λ_ b=>Zh b) λa b=>.bool (decide (a=b))) (tadd 215 (s1 dD Zh λd=>.bool (Ba d)) (tadd 217 (s1 dD Zh λd=>eIs (BV d.ruls)) (tadd 213 (s2 dD dGd (λd g=>Zh d/\Ai g.sh g.w g.h g.holes=some g.cells/\few g.holes) λd g=>.int .i64 (C5 g.cells d.regs)) tnil)))))
def IE:AI prog Tst:=(((((AI.tnil.add (q2 λd g h=>p213 d g h.1 h.2.1 h.2.2)).add (q1 λd h=>p217 d h.ru)).add (q1 λd h=>p215 d h)).add (q2 λa b h=>p104 a b h)).add (q1 λd h=>p145 d h)).add (q2 λb e _=>p208 b e)
def Tw{H:AC}{n i:Nat}(hf:AQ H n)(hi:n<=i)(a b:Zk):B5 H (hset (hset H i a) i b):=λid ob h=>by
 have:=hf.lt h;rw[AA _ _ _ _ zo,AA _ _ _ _ zo];exact h
def R5(d:Zo):(decide ((0:Int)<d.syms.length)&&decide ((d.syms.length:Int)<=16)&&decide ((d.regs.length:Int)<=4)&&decide ((d.clus.length:Int)<=4)&&decide ((d.ruls.length:Int)<=16))=limD d:=by
 rw[Wt];simp [limD];omega
def Ul(l:List Int):decide ((l.length:Int)=0)=decide (l=[]):=by
 cases l<;>simp;omega
variable {d:Zo} {H:AC} {n q:Nat}
theorem u1(hd:Zh d)(h0:hget H q=some (.box (AH d))):Am prog 207 [.ptr q 0] H n (.int .i64 (Nc d)):=by
 refine Am.of c207.l trivial λhf=>c207.a (AF IE (AG ?_))
 simp only[eZ,seval,W0,c207,h0,Tst,s2,Ow,Jq,Aw,Ag,R5,tadd];exact⟨rfl,λ_ _ h=>h⟩
theorem u2(hd:Zh d)(h0:hget H q=some (.box (AH d))):Am prog 209 [.ptr q 0] H n (.int .i64 (LJ d)):=by
 refine Am.of c209.l trivial λhf=>c209.a (AF IE (AG ?_))
 have hq:=hf.lt h0;have y1:∀k,(n+k=q)=False:=λk=>W4 zo
 unfold LJ;cases hr:resD d with
 |error e=>
  have hv:CA d= .tup [encD dcl0,.int .i64 e]:=by unfold CA;rw[hr]
  have he:(e=0)=False:=W4 (EP hr);simp only[eZ,seval,W6,eY,c209,h0,Tst,s1,A8,Al,W1 hd,hv,fr1 hf,he,tadd];exact Tw hf zo _ _
 |ok x=>
  have hv:CA d= .tup [encD x,.int .i64 0]:=by unfold CA;rw[hr]
  simp only[eZ,seval,W3,eY,c209,h0,Tst,s1,s2,A8,Al,W1 hd,hv,fr1 hf,y1,Ow,Jq,Aw,Ag,tadd];exact Tw hf zo _ _
theorem u3(h0:hget H q=some (.box (AH d))):Am prog 210 [.ptr q 0] H n (.int .i64 (Nd d)):=by
 refine Am.of c210.l trivial λhf=>c210.a (AF IE (AG ?_))
 simp only[eZ,seval,c210,h0,Tst,s2,Ow,Jq,Aw,Ag,tadd];exact⟨rfl,λ_ _ h=>h⟩
theorem u6(hd:Zh d)(h0:hget H q=some (.box (AH d))):Am prog 214 [.ptr q 0] H n (.int .i64 (Ng d)):=by
 refine Am.of c214.l trivial λhf=>c214.a (AF IE (AG ?_))
 simp only[eE,eN,seval,c214,h0,Tst,s1,s2,Ow,Jq,Aw,Ag,A8,Al,W1 hd,tadd];exact⟨rfl,λ_ _ h=>h⟩
theorem u7(hd:Zh d)(h0:hget H q=some (.box (AH d))):Am prog 216 [.ptr q 0] H n (.int .i64 (Ov d)):=by
 refine Am.of c216.l trivial λhf=>c216.a (AF IE (AG ?_))
 simp only[eE,eN,seval,W0,c216,h0,Tst,s1,s2,Ow,Jq,Aw,Ag,A8,Al,W1 hd,Ul,tadd];exact⟨rfl,λ_ _ h=>h⟩
theorem u5{g:Zs}{q':Nat}(hd:Zh d)(hG:Ai g.sh g.w g.h g.holes=some g.cells)(hh:few g.holes)(h0:hget H q=some (.box (AH d)))(h1:hget H q'=some (.box (AD g.sh g.w g.h g.holes g.cells))):Am prog 212 [.ptr q 0,.ptr q' 0] H n (.int .i64 (C5 g.cells d.regs)):=by
 refine Am.of c212.l trivial λhf=>c212.a (AF IE (AG ?_))
 simp only[eE,eN,seval,c212,h0,h1,Tst,s2,Ez,Cv,A8,Al,W1 hd,hG,W1 hh,tadd];exact λ_ _ h=>h
abbrev gr0:List Fs:=[.int .i64 0,.int .i64 0,.int .i64 0,.sl .nil [],.sl .nil []]
def Tmc:Tab:=tadd 147 (λa H=>match a with
 |[.int .i64 sh,.int .i64 w,.int .i64 h,x]=>(dIs.ok x/\few (dIs.dec x),BJ sh w h (dIs.dec x))
 |_=>(False,.tup [])) tnil
theorem Tmc_ok:AI prog Tmc:=AI.tnil.add Ue
theorem u4{q':Nat}(d8:q≠q')(hh:few d.holes)(h0:hget H q=some (.box (AH d)))(h1:hget H q'=some (.box gr0)):
  AP prog 211 [.ptr q 0,.ptr q' 0] H n λo H' n'=>o= .ret (.int .i64 (Nf d))/\n'=n/\∃cs,H'=hset H q' (.box cs)/\∀cells,Ai d.sh d.w d.h d.holes=some cells->cs=AD d.sh d.w d.h d.holes cells:=by
 refine c211.a (AF Tmc_ok (AG ?_));unfold Nf;cases hc:Ai d.sh d.w d.h d.holes with
 |none=>
  have hv:BJ d.sh d.w d.h d.holes= .tup [encG 0 0 0 [] [],.int .i64 130]:=by unfold BJ;rw[hc]
  simp only[eE,eN,seval,eY,c211,h0,h1,Tmc,Ad,AY,W1 hh,hv,tadd];exact⟨_,rfl⟩
 |some cells=>
  have hv:BJ d.sh d.w d.h d.holes= .tup [encG d.sh d.w d.h d.holes cells,.int .i64 0]:=by unfold BJ;rw[hc]
  simp only[eE,eN,seval,eY,c211,h0,h1,Tmc,Ad,AY,W1 hh,hv,tadd];exact⟨_,rfl,λc h=>by cases h;rfl⟩
end
theorem Ox(d:Zo):chkD d=if Nc d≠0 then Nc d else if LJ d≠0 then LJ d else if Nd d≠0 then Nd d else match Ai d.sh d.w d.h d.holes with
  |none=>130
  |some cells=>if C5 cells d.regs≠0 then C5 cells d.regs else if Ng d≠0 then Ng d else Ov d:=by
 unfold chkD Nc LJ Nd Ng Ov;cases limD d with
 |false=>rfl
 |true=>
 cases hr:resD d with
 |error e=>simp [whn,EP hr]
 |ok x=>
 by_cases hx:x=d
 ·by_cases hv:d.ver<1\/255<d.ver
  ·have:(decide (1<=d.ver)&&decide (d.ver<=255))=false:=by simp;omega
   simp [whn,hx,hv,this]
  ·have:(decide (1<=d.ver)&&decide (d.ver<=255))=true:=by simp;omega
   cases hc:Ai d.sh d.w d.h d.holes with
   |none=>simp [whn,hx,hv,this]
   |some cells=>
    cases Ba d<;>by_cases hu:BV d.ruls=[]<;>simp [whn,hx,hv,this,hu]
 ·simp [whn,hx]
abbrev stA:List Fs:=[.fn (.func 207) [] [.ptr 0 0],.fn (.func 209) [] [.ptr 0 0],.fn (.func 210) [] [.ptr 0 0],.fn (.func 211) [] [.ptr 0 0,.ptr 2 0],.fn (.func 212) [] [.ptr 0 0,.ptr 2 0],.fn (.func 214) [] [.ptr 0 0],.fn (.func 216) [] [.ptr 0 0]]
structure IChk(d:Zo)(v:VF):Prop where
 hi:v.i<=7
 h0:hget v.H 0=some (.box (AH d))
 z1:0<v.i->Nc d=0
 z2:1<v.i->LJ d=0
 z3:2<v.i->Nd d=0
 g0:v.i<=3->hget v.H 2=some (.box gr0)
 z4:3<v.i->∃cells,Ai d.sh d.w d.h d.holes=some cells/\hget v.H 2=some (.box (AD d.sh d.w d.h d.holes cells))/\(4<v.i->C5 cells d.regs=0)
 z6:5<v.i->Ng d=0
 z7:6<v.i->Ov d=0
def p146(d:Zo)(hd:Zh d):Pur prog 146 [encD d] (.int .i64 (chkD d)):=by
 refine .mk ⟨Ab 0 d,trivial⟩ trivial (c146.a (AF AI.tnil (AG ?_)));simp only[eE,eN,seval,c146];have h7:((7:Nat):Int)=7:=rfl;refine AL (λv:VF=>⟨[(14,true,.sl (.exact 1) stA),(15,true,.int .i64 7),(16,true,.int .i64 v.i)],v.H,v.n⟩) (IChk d) (λv=>7-v.i)
  ⟨0,hset (hset hnil 0 (.box (AH d))) 2 (.box gr0),3⟩ rfl ⟨We _,rfl,λh=>absurd h (Xl _),λh=>absurd h (Xl _),λh=>absurd h (Xl _),λ_=>rfl,λh=>absurd h (Xl _),λh=>absurd h (Xl _),λh=>absurd h (Xl _)⟩ ?_
 rintro⟨i,H,n⟩ hI;obtain⟨hi,h0,z1,z2,z3,g0,z4,z6,z7⟩:=hI;simp only at hi h0 z1 z2 z3 g0 z4 z6 z7;have hS:=Ox d;by_cases c5:i<7;case neg=>
  obtain⟨cells,hc,-,hr⟩:=z4 zo;have hlF:((i:Int)<7)=False:=W4 zo;simp only[z1 zo,z2 zo,z3 zo,hc,hr zo,z6 zo,z7 zo,ne_eq,Yg,X4]at hS;rw[hS];simp only[eZ,seval,hlF]
 have hlT:((i:Int)<7)=True:=W1 zo;have hlN:((i:Int)<((7:Nat):Int))=True:=hlT;have e:=AE (k:=i) zo;have h8:i=0\/i=1\/i=2\/i=3\/i=4\/i=5\/i=6:=zo
 rcases h8 with h8|h8|h8|h8|h8|h8|h8
 ·have hg:stA[i]?=some (.fn (.func 207) [] [.ptr 0 0]):=by rw[h8];rfl
  have hl7:i<stA.length:=c5;simp only[eZ,seval,Wm,Wf,Wi,hlT,hlN,hg];refine(u1 hd h0).mono ?_;rintro o H' n' ⟨rfl,rfl,rfl⟩;by_cases hz:Nc d=0
  ·rw[hz];simp only[eZ,seval,W3,retK,e];exact .mk ⟨i+1,H',n'⟩ rfl ⟨c5,h0,λ_=>hz,λh=>absurd h zp,λh=>absurd h zp,λ_=>g0 zo,λh=>absurd h zp,λh=>absurd h zp,λh=>absurd h zp⟩ zp
  ·rw[Wg hz]at hS;rw[hS];simp only[eZ,seval,W6,retK,W4 hz]
 ·have hg:stA[i]?=some (.fn (.func 209) [] [.ptr 0 0]):=by rw[h8];rfl
  have hl7:i<stA.length:=c5;simp only[eZ,seval,Wm,Wf,Wi,hlT,hlN,hg];refine(u2 hd h0).mono ?_;rintro o H' n' ⟨rfl,rfl,rfl⟩;simp only[z1 zo,ne_eq,Yg,X4]at hS;by_cases hz:LJ d=0
  ·rw[hz];simp only[eZ,seval,W3,retK,e];exact .mk ⟨i+1,H',n'⟩ rfl ⟨c5,h0,λ_=>z1 zo,λ_=>hz,λh=>absurd h zp,λ_=>g0 zo,λh=>absurd h zp,λh=>absurd h zp,λh=>absurd h zp⟩ zp
  ·rw[Wg hz]at hS;rw[hS];simp only[eZ,seval,W6,retK,W4 hz]
 ·have hg:stA[i]?=some (.fn (.func 210) [] [.ptr 0 0]):=by rw[h8];rfl
  have hl7:i<stA.length:=c5;simp only[eZ,seval,Wm,Wf,Wi,hlT,hlN,hg];refine(u3 h0).mono ?_;rintro o H' n' ⟨rfl,rfl,rfl⟩;simp only[z1 zo,z2 zo,ne_eq,Yg,X4]at hS;by_cases hz:Nd d=0
  ·rw[hz];simp only[eZ,seval,W3,retK,e];exact .mk ⟨i+1,H',n'⟩ rfl ⟨c5,h0,λ_=>z1 zo,λ_=>z2 zo,λ_=>hz,λ_=>g0 zo,λh=>absurd h zp,λh=>absurd h zp,λh=>absurd h zp⟩ zp
  ·rw[Wg hz]at hS;rw[hS];simp only[eZ,seval,W6,retK,W4 hz]
 ·have hg:stA[i]?=some (.fn (.func 211) [] [.ptr 0 0,.ptr 2 0]):=by rw[h8];rfl
  have hl7:i<stA.length:=c5;simp only[eZ,seval,Wm,Wf,Wi,hlT,hlN,hg];refine(u4 zd hd.ho h0 (g0 zo)).mono ?_;rintro o H' n' ⟨rfl,rfl,cs,rfl,q8⟩;have o6:hget (hset H 2 (.box cs)) 0=some (.box (AH d)):=by rw[AA _ _ _ _ zd];exact h0
  simp only[z1 zo,z2 zo,z3 zo,ne_eq,Yg,X4]at hS;cases hc:Ai d.sh d.w d.h d.holes with
  |none=>
   have hs4:Nf d=130:=by unfold Nf;rw[hc]
   rw[hc]at hS;rw[hS,hs4];simp only[eZ,seval,W6,retK]
  |some cells=>
   have hs4:Nf d=0:=by unfold Nf;rw[hc]
   rw[hs4];simp only[eZ,seval,W3,retK,e];refine .mk ⟨i+1,hset H 2 (.box cs),n'⟩ rfl ⟨c5,o6,λ_=>z1 zo,λ_=>z2 zo,λ_=>z3 zo,λh=>absurd h zp,λ_=>⟨cells,hc,by simp only[];rw[AB,q8 cells hc],λh=>absurd h zp⟩,λh=>absurd h zp,λh=>absurd h zp⟩ zp
 ·have hg:stA[i]?=some (.fn (.func 212) [] [.ptr 0 0,.ptr 2 0]):=by rw[h8];rfl
  have hl7:i<stA.length:=c5;obtain⟨cells,hc,hg2,hr⟩:=z4 zo;simp only[eZ,seval,Wm,Wf,Wi,hlT,hlN,hg];refine(u5 (g:=⟨d.sh,d.w,d.h,d.holes,cells⟩) hd hc hd.ho h0 hg2).mono ?_;rintro o H' n' ⟨rfl,rfl,rfl⟩;simp only[z1 zo,z2 zo,z3 zo,hc,ne_eq,Yg,X4]at hS;by_cases hz:C5 cells d.regs=0
  ·rw[hz];simp only[eZ,seval,W3,retK,e];exact .mk ⟨i+1,H',n'⟩ rfl ⟨c5,h0,λ_=>z1 zo,λ_=>z2 zo,λ_=>z3 zo,λh=>absurd h zp,λ_=>⟨cells,hc,hg2,λ_=>hz⟩,λh=>absurd h zp,λh=>absurd h zp⟩ zp
  ·rw[Wg hz]at hS;rw[hS];simp only[eZ,seval,W6,retK,W4 hz]
 ·have hg:stA[i]?=some (.fn (.func 214) [] [.ptr 0 0]):=by rw[h8];rfl
  have hl7:i<stA.length:=c5;obtain⟨cells,hc,hg2,hr⟩:=z4 zo;simp only[eZ,seval,Wm,Wf,Wi,hlT,hlN,hg];refine(u6 hd h0).mono ?_;rintro o H' n' ⟨rfl,rfl,rfl⟩;simp only[z1 zo,z2 zo,z3 zo,hc,hr zo,ne_eq,Yg,X4]at hS;by_cases hz:Ng d=0
  ·rw[hz];simp only[eZ,seval,W3,retK,e];exact .mk ⟨i+1,H',n'⟩ rfl ⟨c5,h0,λ_=>z1 zo,λ_=>z2 zo,λ_=>z3 zo,λh=>absurd h zp,λ_=>⟨cells,hc,hg2,λ_=>hr zo⟩,λ_=>hz,λh=>absurd h zp⟩ zp
  ·rw[Wg hz]at hS;rw[hS];simp only[eZ,seval,W6,retK,W4 hz]
 ·have hg:stA[i]?=some (.fn (.func 216) [] [.ptr 0 0]):=by rw[h8];rfl
  have hl7:i<stA.length:=c5;obtain⟨cells,hc,hg2,hr⟩:=z4 zo;simp only[eZ,seval,Wm,Wf,Wi,hlT,hlN,hg];refine(u7 hd h0).mono ?_;rintro o H' n' ⟨rfl,rfl,rfl⟩;simp only[z1 zo,z2 zo,z3 zo,hc,hr zo,z6 zo,ne_eq,Yg,X4]at hS;by_cases hz:Ov d=0
  ·rw[hz];simp only[eZ,seval,W3,retK,e];exact .mk ⟨i+1,H',n'⟩ rfl ⟨c5,h0,λ_=>z1 zo,λ_=>z2 zo,λ_=>z3 zo,λh=>absurd h zp,λ_=>⟨cells,hc,hg2,λ_=>hr zo⟩,λ_=>z6 zo,λ_=>hz⟩ zp
  ·rw[hS];simp only[eZ,seval,W6,retK,W4 hz]
structure Zm where
 d:Zo
 g:Zs
 nb:List (List Int)
 ls:List (List (List Int))
 deriving DecidableEq
def At(x:Zo)(cells:List Int):Zs:=⟨x.sh,x.w,x.h,x.holes,cells⟩
def Um(x:Zo)(cells:List Int):Zm:=
 ⟨x,At x cells,nbsS x.sh (AT x.sh x.w cells),((List.range 8).map λf=>famS x.sh x.w x.h (AT x.sh x.w cells) f)++x.regs.map λr=>r.ls.map (BO cells)⟩
def DS(d:Zo):Except Int Zm:=match resD d with
 | .error e=>.error e
 | .ok x=>if chkD x≠0 then .error (chkD x)else match Ai x.sh x.w x.h x.holes with
  |none=>.error 130
  |some cells=>.ok (Um x cells)
def Gt(k:Zm):Bool:=match DS k.d with
 | .ok x=>decide (k=x)
 | .error _=>false
def BF(k:Zm):Int:=if Gt k then 0 else 180
def MW{k:Zm}(h:Gt k=true):DS k.d= .ok k:=by grind [Gt]
def MX{x:Zo}(h:chkD x=0):∃cells,Ai x.sh x.w x.h x.holes=some cells:=by
 unfold chkD at h;split at h
 ·cases h
 ·split at h
  ·rename_i e he;have:=EP he;exact absurd h this
  ·grind
def I3{d:Zo}{k:Zm}(h:DS d= .ok k):∃x cells,resD d= .ok x/\chkD x=0/\Ai x.sh x.w x.h x.holes=some cells/\k=Um x cells:=by grind [DS]
def p130W(a b:List Int)(ha:wide a):Pur prog 130 [eIs a,eIs b] (.bool (decide (a=b))):=by
 refine .mk ⟨AR 0 _,AR 0 _,trivial⟩ trivial (c130.a (AF AI.tnil (AG ?_)));have l6:a.length<1125899906842624:=ha;by_cases hl:a.length=b.length;case neg=>
  have hR:decide (a=b)=false:=Wp λq=>hl (by rw[q])
  have hq:((a.length:Int)=(b.length:Int))=False:=W4 zo;rw[hR];simp only[eZ,seval,W6,W0,c130,hq]
 have hq:((a.length:Int)=(b.length:Int))=True:=W1 zo;simp only[eZ,seval,W3,W0,c130,hq];refine AL (λi:Nat=>⟨[(0,true,eIs a),(1,true,eIs b),(5,true,.int .i64 i)],hnil,0⟩) (λi=>i<=a.length/\a.take i=b.take i) (λi=>a.length-i) 0 rfl ⟨We _,rfl⟩ ?_;rintro i ⟨hi,c7⟩;by_cases c5:i<a.length
 ·have hltb:i<b.length:=zo
  have hg:=W2 c5;have hgb:=W2 hltb;have e:=AE (k:=i) zo;have ta:a.take (i+1)=a.take i++[a[i]]:=by rw[Wl,hg];rfl
  have tb:b.take (i+1)=b.take i++[b[i]]:=by rw[Wl,hgb];rfl
  generalize a[i]=x at hg ta;generalize b[i]=y at hgb tb;by_cases hxy:x=y
  ·simp only[eZ,seval,W3,eY,lt_T c5,lt_T hltb,hg,hgb,e,hxy];exact .mk (i+1) rfl ⟨c5,by rw[ta,tb,c7,hxy]⟩ zo
  ·have hR:decide (a=b)=false:=Wp λq=>hxy (by rw[q]at hg;rw[hg]at hgb;exact Option.some.inj hgb)
   rw[hR];simp only[eZ,seval,W6,eY,lt_T c5,lt_T hltb,hg,hgb,Ax hxy]
 obtain rfl:i=a.length:=zo
 have hR:decide (a=b)=true:=Wv (by rw[Wj,hl,Wj]at c7;exact c7);rw[hR];simp only[eZ,seval,W0,lt_F c5]
def p130(a b:List Int)(ha:few a):Pur prog 130 [eIs a,eIs b] (.bool (decide (a=b))):=p130W a b (Cg ha)
def p168(r:Zf):Pur prog 168 [BT r] (.bool (He r)):=by
 refine .mk ⟨Ar 0 r,trivial⟩ trivial (c168.a (AF AI.tnil (AG ?_)));simp only[eZ,seval,c168];rfl
def Tr7:Tab:=tadd 168 (s1 dRu any1 λr=>.bool (He r)) tnil
def Tr7_ok:AI prog Tr7:=AI.tnil.add (q1 λr _=>p168 r)
structure IUr(d:Zo)(v:VU):Prop where
 hi:v.i<=d.ruls.length
 fr:AQ v.H v.n
 hn:2<=v.n
 h0:hget v.H 0=some (.box (AH d))
 tok:tkG 1 1 v.H v.tk
 es:v.tk.esz=1\/BV (d.ruls.take v.i)=[]
def p123(d:Zo)(hr:few d.ruls):Pur prog 123 [encD d] (eIs (BV d.ruls)):=by
 refine .mk ⟨Ab 0 d,trivial⟩ (AR 0 _) (c123.a (AF Tr7_ok (AG ?_)));have hrl:d.ruls.length<1000000000:=hr;simp only[eE,eN,seval,c123];refine AL (λv:VU=>⟨[(1,true,.ptr 0 0),(3,true,.sl v.tk ((BV (d.ruls.take v.i)).map eI)),(4,true,.int .i64 v.i)],v.H,v.n⟩) (IUr d) (λv=>d.ruls.length-v.i)
  ⟨0,.nil,hset hnil 0 (.box (AH d)),2⟩ rfl ⟨We _,AQ.nil.hset (m:=2) (We 2) (show 0<2 by decide),W8 _,rfl,.inl rfl,.inr rfl⟩ ?_
 rintro⟨i,tk,H,n⟩ ⟨hi,c6,hn,h0,c7,d7⟩;simp only at hi c6 hn h0 c7 d7;by_cases c5:i<d.ruls.length
 ·have hg:=W2 c5;have e:=AE (k:=i) zo;have hu:=Gs c5;have hul:=ID (d.ruls.take i);rw[Wx]at hul;generalize d.ruls[i]=r at hg hu;cases w8:He r with
  |true=>
   rw[w8,Wg rfl,X2]at hu;simp only[eZ,seval,W3,eY,lt_T c5,hg,Tr7,s1,Bc,A7,w8,e,h0,tadd];refine .mk ⟨i+1,tk,H,n⟩ ?_ ⟨c5,c6,hn,h0,c7,by simp only[hu];exact d7⟩ zp;simp only[hu]
  |false=>
   rw[w8,W7 zd]at hu;have q1:A5 H 1 tk=True:=W1 c7.app;have q2:((BV (d.ruls.take i)).length<=35184372088831)=True:=W1 zo;have q3:Aj ((BV (d.ruls.take i)).length+1) 8=True:=W1 (AX zo zd);simp only[eZ,seval,W6,eY,lt_T c5,hg,fr1 c6,Tr7,s1,Bc,A7,w8,e,h0,q1,q2,q3,tadd];refine .mk ⟨i+1,.own (n+3) 1,hset (AO H tk) (n+3) .tok,n+5⟩ ?_ ⟨c5,(AU c7 c6).hset (m:=n+5) zo zo,zp,?_,.inr (.inr ⟨n+3,rfl,zo,AB ..⟩),.inl rfl⟩ zp
   ·simp only[hu,Wh];rfl
   ·simp only[];rw[AA _ _ _ _ zo,AV c7 (.inr ⟨_,h0⟩)];exact h0
 obtain rfl:i=d.ruls.length:=zo
 rw[Wj]at d7;simp only[eZ,seval,W0,lt_F c5,Wj,h0];exact Wk.sl (d7.imp id λq=>by rw[q];rfl)
end Go.AM
