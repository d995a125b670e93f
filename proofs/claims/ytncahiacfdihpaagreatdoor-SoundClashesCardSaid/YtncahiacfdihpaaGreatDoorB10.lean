/-
  Parts of the proof. Conditions: none.
-/
import Derived.Test.YtncahiacfdihpaaGreatDoorB9
set_option maxRecDepth 20000
set_option linter.all false
namespace Go.AM
open Go.Lib Go.Proofs Go.Proofs.Tryz
section
abbrev errV(n:Int):Fs:=.ifc 39 (.int .i64 n)
abbrev nmO(l:List Bs):zz:=.map (nmEs l 0) l.length
def CH(H:AC)(n id:Nat)(pre ns:List Bs):j8->AC->Nat->Prop:=λo H' n'=>
 if Af (pre++ns)=true then o= .pan (errV 161)/\H'=hset H id .dead/\n'=n else o= .ret (.mp id)/\H'=hset H id (nmO (pre++ns))/\n'=n
def GU(H:AC)(id:Nat)(pre ns:List Bs):j8->AC->Nat->Prop:=λo H' n'=>
 if Af (pre++ns)=true then o= .pan (errV 161)/\(∃ob,hget H' id=some ob)/\B6 id H H' else(∃v,o= .ret v/\Wk v (.mp id))/\hget H' id=some (nmO (pre++ns))/\B6 id H H'
def O0(n:Nat)(l:List Bs):(nmO l).under n:=by
 suffices h:∀(i n c:Nat),(zz.map (nmEs l i) c).under n from h 0 n l.length
 induction l with
 |nil=>intro i n c;trivial
 |cons x r ih=>intro i n c;exact⟨trivial,trivial,ih (i+1) n c⟩
variable {H:AC} {f:Int} {pre:List Bs} {n id:Nat}
theorem Jt{H':AC}{ob ob1:zz}(hf:AQ H n)(d7:id<n)(h1:hget H' id=some ob1)(hw:OWk ob1 ob)(hu:ob.under n)(h2:B6 id H H'):FW n H H' (hset H id ob):=by
 refine⟨λi o ho=>?_,λi hi=>?_⟩
 ·rw[AK]at ho;by_cases e:id=i
  ·subst e;rw[X0 rfl]at ho;cases ho;exact⟨d7,⟨_,h1,hw⟩,.inl hu⟩
  ·rw[W6 e]at ho;exact⟨hf.lt ho,⟨o,h2 i o (Ne.symm e) ho,OWk.refl _⟩,.inr ho⟩
 ·rw[AK];split
  ·exact λh=>by cases h
  ·exact hi
theorem SC(ob:zz):OWk ob .dead:=⟨λ_ _ _ _=>trivial,λh=>by cases h⟩
theorem CH.of{i6:FuncId}{args:List Fs}{ns:List Bs}(hc:Bk prog i6)(hp:hget H id=some (nmO pre))(h:AQ H n->id<n->AO prog i6 args H n (GU H id pre ns)):AO prog i6 args H n (CH H n id pre ns):=by
 refine AO.fresh hc λhf=>?_
 have d7:=hf.lt hp;refine AO.forget (h hf d7) ?_;intro o H' n' q;unfold GU at q;by_cases ht:Af (pre++ns)=true
 ·rw[X0 ht]at q;obtain⟨rfl,⟨ob,h1⟩,h2⟩:=q;exact⟨.pan (errV 161),hset H id .dead,by unfold CH;rw[X0 ht];exact⟨rfl,rfl,rfl⟩,Jt hf d7 h1 (SC _) trivial h2,Wk.refl _,trivial⟩
 ·rw[W6 ht]at q;obtain⟨⟨v,rfl,hw⟩,h1,h2⟩:=q;exact⟨.ret (.mp id),hset H id (nmO (pre++ns)),by unfold CH;rw[W6 ht];exact⟨rfl,rfl,rfl⟩,Jt hf d7 h1 (OWk.refl _) (O0 n _) h2,hw,d7⟩
structure VIx where
 i:Nat
 H:AC
 n:Nat
structure IIx(H:AC)(n id:Nat)(pre ns:List Bs)(v:VIx):Prop where
 hi:v.i<=ns.length
 hn:n<=v.n
 fr:AQ v.H v.n
 hm:hget v.H id=some (nmO (pre++ns.take v.i))
 hk:B6 id H v.H
 tw:Af (pre++ns.take v.i)=false
theorem Gr{ns:List Bs}{i:Nat}(h:i<ns.length)(l8:ns[i]∈pre++ns.take i):Af (pre++ns)=true:=by
 have e:pre++ns=(pre++ns.take i)++ns[i]::ns.drop (i+1):=by
  rw[Xt,<-Xj h,List.take_append_drop]
 rw[e];exact Tu l8
theorem Gs{l:List Bs}{s:Bs}(h:Af l=false)(hs:s∉l):Af (l++[s])=false:=Rd.2 ⟨h,hs⟩
theorem p193(x:j7):Pur prog 193 [IE x] (.str x.nm):=by
 refine .mk ⟨Hh 0 x,trivial⟩ trivial (c193.a (AF AI.tnil (AG ?_)));simp only[eE,eN,seval,c193]
theorem p195(x:zj):Pur prog 195 [Fj x] (.str x.nm):=by
 refine .mk ⟨Cd 0 x,trivial⟩ trivial (c195.a (AF AI.tnil (AG ?_)));simp only[eE,eN,seval,c195]
theorem p200(x:qw):Pur prog 200 [B7 x] (.str x.nm):=by
 refine .mk ⟨EC 0 x,trivial⟩ trivial (c200.a (AF AI.tnil (AG ?_)));simp only[eE,eN,seval,c200]
theorem p204(x:qz):Pur prog 204 [BV x] (.str x.nm):=by
 refine .mk ⟨Ar 0 x,trivial⟩ trivial (c204.a (AF AI.tnil (AG ?_)));simp only[eE,eN,seval,c204]
theorem p198(x:Bs):Pur prog 198 [.str x] (.str x):=by
 refine .mk ⟨trivial,trivial⟩ trivial (c198.a (AF AI.tnil (AG ?_)));simp only[eE,eN,seval,c198]
theorem p197:Pur prog 197 [] (eSs Bt):=by
 refine .mk trivial (BT 0 _) (c197.a (AF AI.tnil (AG ?_)));simp only[eE,eN,seval,c197];exact Wk.sl (.inl rfl)
def Tx1:Tab:=tadd 193 (s1 dSy any1 λx=>.str ((λx:j7=>x.nm) x)) tnil
theorem Tx1_ok:AI prog Tx1:=AI.tnil.add (q1 λx _=>p193 x)
theorem SD{l:List j7}(hl:few l)(s8:pre.length<1000000000)(hf0:f=(pre.length:Int))(hp:hget H id=some (nmO pre))(hd:Af pre=false):
  AO prog 192 [eSys l,.int .i64 f,.fn (.func 193) [] [],.mp id] H n (CH H n id pre (l.map (λx:j7=>x.nm))):=by
 subst hf0;refine CH.of c192.l hp λhf d7=>c192.a (AF Tx1_ok (AG ?_))
 have m9:l.length<1000000000:=hl;simp only[eE,eN,seval,W0,c192];refine AL (λv:VIx=>⟨[(1,true,.int .i64 pre.length),(2,true,.fn (.func 193) [] []),(3,true,.mp id),(13,true,eSys l),(14,true,.int .i64 l.length),(15,true,.int .i64 v.i)],v.H,v.n⟩) (IIx H n id pre (l.map (λx:j7=>x.nm))) (λv=>l.length-v.i)
  ⟨0,H,n⟩ rfl ⟨Wz _,W9 _,hf,by rw[Y5,Xn];exact hp,B6.refl _,by rw[Y5,Xn];exact hd⟩ ?_
 rintro⟨i,H1,n1⟩ hI;have hi:=hI.hi;have hn:=hI.hn;have c7:=hI.fr;have hm:=hI.hm;have hk:=hI.hk;have v8:=hI.tw;simp only[W0]at hi hn c7 hm hk v8;by_cases c5:i<l.length
 ·have s9:i<(l.map (λx:j7=>x.nm)).length:=by rw[W0];exact c5
  have hg:=W2 c5;have w9:(l.map (λx:j7=>x.nm))[i]=(λx:j7=>x.nm) l[i]:=Zj ..;have e:=AE (k:=i) zo;have c8:(l.map (λx:j7=>x.nm)).take (i+1)=(l.map (λx:j7=>x.nm)).take i++[(λx:j7=>x.nm) l[i]]:=by rw[X7,W2 s9,w9];rfl
  have m8:(pre++(l.map (λx:j7=>x.nm)).take i).length=pre.length+i:=by rw[Xb,Xg,W0];omega
  have ew:IntKind.wrap .i64 ((pre.length:Int)+(i:Int))=((pre.length+i:Nat):Int):=by rw[An zo zo];omega
  have y1:∀k,(n1+k=id)=False:=λk=>W4 zo
  have y2:∀k,(id=n1+k)=False:=λk=>W4 zo
  have l8:=λq=>Gr (pre:=pre) s9 (by rw[w9];exact q)
  generalize hx:l[i]=x at hg w9 c8 l8;have t7:=EE (pre++(l.map (λx:j7=>x.nm)).take i) ((λx:j7=>x.nm) x);cases i5:BF (pre++(l.map (λx:j7=>x.nm)).take i) ((λx:j7=>x.nm) x)with
  |some k=>
   have htt:Af (pre++l.map (λx:j7=>x.nm))=true:=l8 (by
    apply Classical.byContradiction;intro q;rw[Be.2 q]at i5;cases i5)
   rw[i5,Xz]at t7;simp only[eZ,seval,xE,eY,isF,lt_T c5,hg,Tx1,s1,Uq,Ro,hm,t7,Dw,KT.is,CY,fr1 c7,y1,AN,tadd];unfold GU;rw[X0 htt];refine⟨rfl,⟨nmO (pre++(l.map (λx:j7=>x.nm)).take i),?_⟩,?_⟩
   ·rw[AA _ _ _ _ zo];exact hm
   ·exact hk.new hf zo
  |none=>
   rw[i5,Yg]at t7;have x8:=K7 i5;rw[m8]at x8;simp only[eZ,seval,xE,eY,lt_T c5,hg,Tx1,s1,Uq,Ro,hm,t7,Dw,KT.is,CY,fr1 c7,y1,e,ew,m8,x8,AN,tadd];refine .mk ⟨i+1,hset (hset H1 (n1+3) (.box (IE x).cells)) id (.map (nmEs (pre++(l.map (λx:j7=>x.nm)).take i++[(λx:j7=>x.nm) x]) 0) (pre.length+(i+1))),n1+6⟩ rfl ⟨by simp only[W0];omega,zp,?_,?_,?_,?_⟩ zp
   ·exact(c7.hset (m:=n1+6) zo zo).hset (W9 (n1+6)) (show id<n1+6 by omega)
   ·simp only[];rw[AB,c8,<-Xt,nmO,Xb,m8];rfl
   ·exact(hk.new hf zo).set
   ·simp only[];rw[c8,<-Xt];exact Gs v8 (Be.1 i5)
 have i7:i=l.length:=zo
 subst i7;have x7:(l.map (λx:j7=>x.nm)).take l.length=l.map (λx:j7=>x.nm):=XE (by rw[W0];omega);rw[x7]at hm v8;simp only[eZ,seval,lt_F c5];unfold GU;rw[v8,W6 zd];exact⟨⟨_,rfl,Wk.refl _⟩,hm,hk⟩
def Tx2:Tab:=tadd 195 (s1 dRg any1 λx=>.str ((λx:zj=>x.nm) x)) tnil
theorem Tx2_ok:AI prog Tx2:=AI.tnil.add (q1 λx _=>p195 x)
theorem SE{l:List zj}(hl:few l)(s8:pre.length<1000000000)(hf0:f=(pre.length:Int))(hp:hget H id=some (nmO pre))(hd:Af pre=false):
  AO prog 194 [eRgs l,.int .i64 f,.fn (.func 195) [] [],.mp id] H n (CH H n id pre (l.map (λx:zj=>x.nm))):=by
 subst hf0;refine CH.of c194.l hp λhf d7=>c194.a (AF Tx2_ok (AG ?_))
 have m9:l.length<1000000000:=hl;simp only[eE,eN,seval,W0,c194];refine AL (λv:VIx=>⟨[(1,true,.int .i64 pre.length),(2,true,.fn (.func 195) [] []),(3,true,.mp id),(13,true,eRgs l),(14,true,.int .i64 l.length),(15,true,.int .i64 v.i)],v.H,v.n⟩) (IIx H n id pre (l.map (λx:zj=>x.nm))) (λv=>l.length-v.i)
  ⟨0,H,n⟩ rfl ⟨Wz _,W9 _,hf,by rw[Y5,Xn];exact hp,B6.refl _,by rw[Y5,Xn];exact hd⟩ ?_
 rintro⟨i,H1,n1⟩ hI;have hi:=hI.hi;have hn:=hI.hn;have c7:=hI.fr;have hm:=hI.hm;have hk:=hI.hk;have v8:=hI.tw;simp only[W0]at hi hn c7 hm hk v8;by_cases c5:i<l.length
 ·have s9:i<(l.map (λx:zj=>x.nm)).length:=by rw[W0];exact c5
  have hg:=W2 c5;have w9:(l.map (λx:zj=>x.nm))[i]=(λx:zj=>x.nm) l[i]:=Zj ..;have e:=AE (k:=i) zo;have c8:(l.map (λx:zj=>x.nm)).take (i+1)=(l.map (λx:zj=>x.nm)).take i++[(λx:zj=>x.nm) l[i]]:=by rw[X7,W2 s9,w9];rfl
  have m8:(pre++(l.map (λx:zj=>x.nm)).take i).length=pre.length+i:=by rw[Xb,Xg,W0];omega
  have ew:IntKind.wrap .i64 ((pre.length:Int)+(i:Int))=((pre.length+i:Nat):Int):=by rw[An zo zo];omega
  have y1:∀k,(n1+k=id)=False:=λk=>W4 zo
  have y2:∀k,(id=n1+k)=False:=λk=>W4 zo
  have l8:=λq=>Gr (pre:=pre) s9 (by rw[w9];exact q)
  generalize hx:l[i]=x at hg w9 c8 l8;have t7:=EE (pre++(l.map (λx:zj=>x.nm)).take i) ((λx:zj=>x.nm) x);cases i5:BF (pre++(l.map (λx:zj=>x.nm)).take i) ((λx:zj=>x.nm) x)with
  |some k=>
   have htt:Af (pre++l.map (λx:zj=>x.nm))=true:=l8 (by
    apply Classical.byContradiction;intro q;rw[Be.2 q]at i5;cases i5)
   rw[i5,Xz]at t7;simp only[eZ,seval,xE,eY,isF,lt_T c5,hg,Tx2,s1,Iz,F9,hm,t7,Dw,KT.is,CY,fr1 c7,y1,AN,tadd];unfold GU;rw[X0 htt];refine⟨rfl,⟨nmO (pre++(l.map (λx:zj=>x.nm)).take i),?_⟩,?_⟩
   ·rw[AA _ _ _ _ zo];exact hm
   ·exact hk.new hf zo
  |none=>
   rw[i5,Yg]at t7;have x8:=K7 i5;rw[m8]at x8;simp only[eZ,seval,xE,eY,lt_T c5,hg,Tx2,s1,Iz,F9,hm,t7,Dw,KT.is,CY,fr1 c7,y1,e,ew,m8,x8,AN,tadd];refine .mk ⟨i+1,hset (hset H1 (n1+3) (.box (Fj x).cells)) id (.map (nmEs (pre++(l.map (λx:zj=>x.nm)).take i++[(λx:zj=>x.nm) x]) 0) (pre.length+(i+1))),n1+6⟩ rfl ⟨by simp only[W0];omega,zp,?_,?_,?_,?_⟩ zp
   ·exact(c7.hset (m:=n1+6) zo zo).hset (W9 (n1+6)) (show id<n1+6 by omega)
   ·simp only[];rw[AB,c8,<-Xt,nmO,Xb,m8];rfl
   ·exact(hk.new hf zo).set
   ·simp only[];rw[c8,<-Xt];exact Gs v8 (Be.1 i5)
 have i7:i=l.length:=zo
 subst i7;have x7:(l.map (λx:zj=>x.nm)).take l.length=l.map (λx:zj=>x.nm):=XE (by rw[W0];omega);rw[x7]at hm v8;simp only[eZ,seval,lt_F c5];unfold GU;rw[v8,W6 zd];exact⟨⟨_,rfl,Wk.refl _⟩,hm,hk⟩
def Tx3:Tab:=tadd 198 (s1 dS any1 λx=>.str ((λx:Bs=>x) x)) tnil
theorem Tx3_ok:AI prog Tx3:=AI.tnil.add (q1 λx _=>p198 x)
theorem U1{l:List Bs}(hl:few l)(s8:pre.length<1000000000)(hf0:f=(pre.length:Int))(hp:hget H id=some (nmO pre))(hd:Af pre=false):
  AO prog 196 [eSs l,.int .i64 f,.fn (.func 198) [] [],.mp id] H n (CH H n id pre (l.map (λx:Bs=>x))):=by
 subst hf0;refine CH.of c196.l hp λhf d7=>c196.a (AF Tx3_ok (AG ?_))
 have m9:l.length<1000000000:=hl;simp only[eE,eN,seval,W0,c196];refine AL (λv:VIx=>⟨[(1,true,.int .i64 pre.length),(2,true,.fn (.func 198) [] []),(3,true,.mp id),(13,true,eSs l),(14,true,.int .i64 l.length),(15,true,.int .i64 v.i)],v.H,v.n⟩) (IIx H n id pre (l.map (λx:Bs=>x))) (λv=>l.length-v.i)
  ⟨0,H,n⟩ rfl ⟨Wz _,W9 _,hf,by rw[Y5,Xn];exact hp,B6.refl _,by rw[Y5,Xn];exact hd⟩ ?_
 rintro⟨i,H1,n1⟩ hI;have hi:=hI.hi;have hn:=hI.hn;have c7:=hI.fr;have hm:=hI.hm;have hk:=hI.hk;have v8:=hI.tw;simp only[W0]at hi hn c7 hm hk v8;by_cases c5:i<l.length
 ·have s9:i<(l.map (λx:Bs=>x)).length:=by rw[W0];exact c5
  have hg:=W2 c5;have w9:(l.map (λx:Bs=>x))[i]=(λx:Bs=>x) l[i]:=Zj ..;have e:=AE (k:=i) zo;have c8:(l.map (λx:Bs=>x)).take (i+1)=(l.map (λx:Bs=>x)).take i++[(λx:Bs=>x) l[i]]:=by rw[X7,W2 s9,w9];rfl
  have m8:(pre++(l.map (λx:Bs=>x)).take i).length=pre.length+i:=by rw[Xb,Xg,W0];omega
  have ew:IntKind.wrap .i64 ((pre.length:Int)+(i:Int))=((pre.length+i:Nat):Int):=by rw[An zo zo];omega
  have y1:∀k,(n1+k=id)=False:=λk=>W4 zo
  have y2:∀k,(id=n1+k)=False:=λk=>W4 zo
  have l8:=λq=>Gr (pre:=pre) s9 (by rw[w9];exact q)
  generalize hx:l[i]=x at hg w9 c8 l8;have t7:=EE (pre++(l.map (λx:Bs=>x)).take i) ((λx:Bs=>x) x);cases i5:BF (pre++(l.map (λx:Bs=>x)).take i) ((λx:Bs=>x) x)with
  |some k=>
   have htt:Af (pre++l.map (λx:Bs=>x))=true:=l8 (by
    apply Classical.byContradiction;intro q;rw[Be.2 q]at i5;cases i5)
   rw[i5,Xz]at t7;simp only[eZ,seval,xE,eY,isF,lt_T c5,hg,Tx3,s1,Ge,EK,hm,t7,Dw,KT.is,CY,tadd];unfold GU;rw[X0 htt];refine⟨rfl,⟨nmO (pre++(l.map (λx:Bs=>x)).take i),?_⟩,?_⟩
   ·exact hm
   ·exact hk
  |none=>
   rw[i5,Yg]at t7;have x8:=K7 i5;rw[m8]at x8;simp only[eZ,seval,xE,eY,lt_T c5,hg,Tx3,s1,Ge,EK,hm,t7,Dw,KT.is,CY,e,ew,m8,x8,tadd];refine .mk ⟨i+1,hset H1 id (.map (nmEs (pre++(l.map (λx:Bs=>x)).take i++[(λx:Bs=>x) x]) 0) (pre.length+(i+1))),n1⟩ rfl ⟨by simp only[W0];omega,zp,?_,?_,?_,?_⟩ zp
   ·exact c7.hset (m:=n1) (W9 _) zo
   ·simp only[];rw[AB,c8,<-Xt,nmO,Xb,m8];rfl
   ·exact hk.set
   ·simp only[];rw[c8,<-Xt];exact Gs v8 (Be.1 i5)
 have i7:i=l.length:=zo
 subst i7;have x7:(l.map (λx:Bs=>x)).take l.length=l.map (λx:Bs=>x):=XE (by rw[W0];omega);rw[x7]at hm v8;simp only[eZ,seval,lt_F c5];unfold GU;rw[v8,W6 zd];exact⟨⟨_,rfl,Wk.refl _⟩,hm,hk⟩
def Tx4:Tab:=tadd 200 (s1 dCl any1 λx=>.str ((λx:qw=>x.nm) x)) tnil
theorem Tx4_ok:AI prog Tx4:=AI.tnil.add (q1 λx _=>p200 x)
theorem SF{l:List qw}(hl:few l)(s8:pre.length<1000000000)(hf0:f=(pre.length:Int))(hp:hget H id=some (nmO pre))(hd:Af pre=false):
  AO prog 199 [eCls l,.int .i64 f,.fn (.func 200) [] [],.mp id] H n (CH H n id pre (l.map (λx:qw=>x.nm))):=by
 subst hf0;refine CH.of c199.l hp λhf d7=>c199.a (AF Tx4_ok (AG ?_))
 have m9:l.length<1000000000:=hl;simp only[eE,eN,seval,W0,c199];refine AL (λv:VIx=>⟨[(1,true,.int .i64 pre.length),(2,true,.fn (.func 200) [] []),(3,true,.mp id),(13,true,eCls l),(14,true,.int .i64 l.length),(15,true,.int .i64 v.i)],v.H,v.n⟩) (IIx H n id pre (l.map (λx:qw=>x.nm))) (λv=>l.length-v.i)
  ⟨0,H,n⟩ rfl ⟨Wz _,W9 _,hf,by rw[Y5,Xn];exact hp,B6.refl _,by rw[Y5,Xn];exact hd⟩ ?_
 rintro⟨i,H1,n1⟩ hI;have hi:=hI.hi;have hn:=hI.hn;have c7:=hI.fr;have hm:=hI.hm;have hk:=hI.hk;have v8:=hI.tw;simp only[W0]at hi hn c7 hm hk v8;by_cases c5:i<l.length
 ·have s9:i<(l.map (λx:qw=>x.nm)).length:=by rw[W0];exact c5
  have hg:=W2 c5;have w9:(l.map (λx:qw=>x.nm))[i]=(λx:qw=>x.nm) l[i]:=Zj ..;have e:=AE (k:=i) zo;have c8:(l.map (λx:qw=>x.nm)).take (i+1)=(l.map (λx:qw=>x.nm)).take i++[(λx:qw=>x.nm) l[i]]:=by rw[X7,W2 s9,w9];rfl
  have m8:(pre++(l.map (λx:qw=>x.nm)).take i).length=pre.length+i:=by rw[Xb,Xg,W0];omega
  have ew:IntKind.wrap .i64 ((pre.length:Int)+(i:Int))=((pre.length+i:Nat):Int):=by rw[An zo zo];omega
  have y1:∀k,(n1+k=id)=False:=λk=>W4 zo
  have y2:∀k,(id=n1+k)=False:=λk=>W4 zo
  have l8:=λq=>Gr (pre:=pre) s9 (by rw[w9];exact q)
  generalize hx:l[i]=x at hg w9 c8 l8;have t7:=EE (pre++(l.map (λx:qw=>x.nm)).take i) ((λx:qw=>x.nm) x);cases i5:BF (pre++(l.map (λx:qw=>x.nm)).take i) ((λx:qw=>x.nm) x)with
  |some k=>
   have htt:Af (pre++l.map (λx:qw=>x.nm))=true:=l8 (by
    apply Classical.byContradiction;intro q;rw[Be.2 q]at i5;cases i5)
   rw[i5,Xz]at t7;simp only[eZ,seval,xE,eY,isF,lt_T c5,hg,Tx4,s1,Hj,FQ,hm,t7,Dw,KT.is,CY,fr1 c7,y1,AN,tadd];unfold GU;rw[X0 htt];refine⟨rfl,⟨nmO (pre++(l.map (λx:qw=>x.nm)).take i),?_⟩,?_⟩
   ·rw[AA _ _ _ _ zo];exact hm
   ·exact hk.new hf zo
  |none=>
   rw[i5,Yg]at t7;have x8:=K7 i5;rw[m8]at x8;simp only[eZ,seval,xE,eY,lt_T c5,hg,Tx4,s1,Hj,FQ,hm,t7,Dw,KT.is,CY,fr1 c7,y1,e,ew,m8,x8,AN,tadd];refine .mk ⟨i+1,hset (hset H1 (n1+3) (.box (B7 x).cells)) id (.map (nmEs (pre++(l.map (λx:qw=>x.nm)).take i++[(λx:qw=>x.nm) x]) 0) (pre.length+(i+1))),n1+6⟩ rfl ⟨by simp only[W0];omega,zp,?_,?_,?_,?_⟩ zp
   ·exact(c7.hset (m:=n1+6) zo zo).hset (W9 (n1+6)) (show id<n1+6 by omega)
   ·simp only[];rw[AB,c8,<-Xt,nmO,Xb,m8];rfl
   ·exact(hk.new hf zo).set
   ·simp only[];rw[c8,<-Xt];exact Gs v8 (Be.1 i5)
 have i7:i=l.length:=zo
 subst i7;have x7:(l.map (λx:qw=>x.nm)).take l.length=l.map (λx:qw=>x.nm):=XE (by rw[W0];omega);rw[x7]at hm v8;simp only[eZ,seval,lt_F c5];unfold GU;rw[v8,W6 zd];exact⟨⟨_,rfl,Wk.refl _⟩,hm,hk⟩
def Tx5:Tab:=tadd 204 (s1 dRu any1 λx=>.str ((λx:qz=>x.nm) x)) tnil
theorem Tx5_ok:AI prog Tx5:=AI.tnil.add (q1 λx _=>p204 x)
theorem SG{l:List qz}(hl:few l)(s8:pre.length<1000000000)(hf0:f=(pre.length:Int))(hp:hget H id=some (nmO pre))(hd:Af pre=false):
  AO prog 203 [eRus l,.int .i64 f,.fn (.func 204) [] [],.mp id] H n (CH H n id pre (l.map (λx:qz=>x.nm))):=by
 subst hf0;refine CH.of c203.l hp λhf d7=>c203.a (AF Tx5_ok (AG ?_))
 have m9:l.length<1000000000:=hl;simp only[eE,eN,seval,W0,c203];refine AL (λv:VIx=>⟨[(1,true,.int .i64 pre.length),(2,true,.fn (.func 204) [] []),(3,true,.mp id),(13,true,eRus l),(14,true,.int .i64 l.length),(15,true,.int .i64 v.i)],v.H,v.n⟩) (IIx H n id pre (l.map (λx:qz=>x.nm))) (λv=>l.length-v.i)
  ⟨0,H,n⟩ rfl ⟨Wz _,W9 _,hf,by rw[Y5,Xn];exact hp,B6.refl _,by rw[Y5,Xn];exact hd⟩ ?_
 rintro⟨i,H1,n1⟩ hI;have hi:=hI.hi;have hn:=hI.hn;have c7:=hI.fr;have hm:=hI.hm;have hk:=hI.hk;have v8:=hI.tw;simp only[W0]at hi hn c7 hm hk v8;by_cases c5:i<l.length
 ·have s9:i<(l.map (λx:qz=>x.nm)).length:=by rw[W0];exact c5
  have hg:=W2 c5;have w9:(l.map (λx:qz=>x.nm))[i]=(λx:qz=>x.nm) l[i]:=Zj ..;have e:=AE (k:=i) zo;have c8:(l.map (λx:qz=>x.nm)).take (i+1)=(l.map (λx:qz=>x.nm)).take i++[(λx:qz=>x.nm) l[i]]:=by rw[X7,W2 s9,w9];rfl
  have m8:(pre++(l.map (λx:qz=>x.nm)).take i).length=pre.length+i:=by rw[Xb,Xg,W0];omega
  have ew:IntKind.wrap .i64 ((pre.length:Int)+(i:Int))=((pre.length+i:Nat):Int):=by rw[An zo zo];omega
  have y1:∀k,(n1+k=id)=False:=λk=>W4 zo
  have y2:∀k,(id=n1+k)=False:=λk=>W4 zo
  have l8:=λq=>Gr (pre:=pre) s9 (by rw[w9];exact q)
  generalize hx:l[i]=x at hg w9 c8 l8;have t7:=EE (pre++(l.map (λx:qz=>x.nm)).take i) ((λx:qz=>x.nm) x);cases i5:BF (pre++(l.map (λx:qz=>x.nm)).take i) ((λx:qz=>x.nm) x)with
  |some k=>
   have htt:Af (pre++l.map (λx:qz=>x.nm))=true:=l8 (by
    apply Classical.byContradiction;intro q;rw[Be.2 q]at i5;cases i5)
   rw[i5,Xz]at t7;simp only[eZ,seval,xE,eY,isF,lt_T c5,hg,Tx5,s1,Bf,A6,hm,t7,Dw,KT.is,CY,fr1 c7,y1,AN,tadd];unfold GU;rw[X0 htt];refine⟨rfl,⟨nmO (pre++(l.map (λx:qz=>x.nm)).take i),?_⟩,?_⟩
   ·rw[AA _ _ _ _ zo];exact hm
   ·exact hk.new hf zo
  |none=>
   rw[i5,Yg]at t7;have x8:=K7 i5;rw[m8]at x8;simp only[eZ,seval,xE,eY,lt_T c5,hg,Tx5,s1,Bf,A6,hm,t7,Dw,KT.is,CY,fr1 c7,y1,e,ew,m8,x8,AN,tadd];refine .mk ⟨i+1,hset (hset H1 (n1+3) (.box (BV x).cells)) id (.map (nmEs (pre++(l.map (λx:qz=>x.nm)).take i++[(λx:qz=>x.nm) x]) 0) (pre.length+(i+1))),n1+6⟩ rfl ⟨by simp only[W0];omega,zp,?_,?_,?_,?_⟩ zp
   ·exact(c7.hset (m:=n1+6) zo zo).hset (W9 (n1+6)) (show id<n1+6 by omega)
   ·simp only[];rw[AB,c8,<-Xt,nmO,Xb,m8];rfl
   ·exact(hk.new hf zo).set
   ·simp only[];rw[c8,<-Xt];exact Gs v8 (Be.1 i5)
 have i7:i=l.length:=zo
 subst i7;have x7:(l.map (λx:qz=>x.nm)).take l.length=l.map (λx:qz=>x.nm):=XE (by rw[W0];omega);rw[x7]at hm v8;simp only[eZ,seval,lt_F c5];unfold GU;rw[v8,W6 zd];exact⟨⟨_,rfl,Wk.refl _⟩,hm,hk⟩
end
section
def NPost(H:AC)(n:Nat)(r:Option Int):j8->AC->Nat->Prop:=λo H' n'=>H'=H/\n'=n/\match r with
 |some k=>o= .ret (.int .i64 k)
 |none=>o= .pan (errV 160)
variable {l:List Bs}
theorem Ju{H:AC}{n id:Nat}{s:Bs}(hp:hget H id=some (nmO l)):AO prog 202 [.mp id,.str s] H n (NPost H n (BF l s)):=by
 refine c202.a (AF AI.tnil (AG ?_));have hf:=EE l s;cases i5:BF l s with
 |some k=>
  rw[i5,Xz]at hf;simp only[eZ,seval,W3,xE,eY,c202,hp,hf,Dw,KT.is,CY];exact⟨rfl,rfl,rfl⟩
 |none=>
  rw[i5,Yg]at hf;simp only[eZ,seval,W7,xE,eY,isF,c202,hp,hf,Dw,KT.is,CY];exact⟨rfl,rfl,rfl⟩
theorem UD{a b:Nat}(ha:a<65536)(hb:b<65536):Vx .or .i64 (a:Int) (b:Int)=((a|||b:Nat):Int):=by
 have o6:a|||b<65536:=Nat.or_lt_two_pow (n:=16) ha hb
 have e:∀x:Nat,BitVec.ofInt 64 (x:Int)=BitVec.ofNat 64 x:=λx=>by
  apply BitVec.eq_of_toNat_eq;simp [BitVec.toNat_ofNat]
 show IntKind.wrap .i64 ((BitVec.ofInt 64 (a:Int)|||BitVec.ofInt 64 (b:Int)).toNat:Int)=_;rw[e,e,BitVec.toNat_or,BitVec.toNat_ofNat,BitVec.toNat_ofNat,Nat.mod_eq_of_lt zo,Nat.mod_eq_of_lt zo,An zo zo]
theorem O1{j:Nat}(h:j<16):IT .shl .i64 1 (j:Int)=((1<<<j:Nat):Int):=by
 have h2:2^j<65536:=Nat.pow_lt_pow_right zd (show j<16 from h);show IntKind.wrap .i64 (1*2^(min (j:Int).toNat 64))=_;rw[Int.one_mul,X1,Nat.min_eq_left zo,Nat.shiftLeft_eq,Nat.one_mul];have e:((2:Int)^j)=((2^j:Nat):Int):=by rw[Int.natCast_pow];rfl
 rw[e];generalize 2^j=p at h2;exact An zo zo
theorem MW{j:Nat}(h:j<16):1<<<j<65536:=by
 rw[Nat.shiftLeft_eq,Nat.one_mul];exact Nat.pow_lt_pow_right zd (show j<16 from h)
def EQ(l:List Bs)(acc:Nat)(ss:List Bs):Option Int:=(CP l ss).map λk=>((acc|||k.toNat:Nat):Int)
theorem IF(l:List Bs)(acc:Nat):EQ l acc []=some (acc:Int):=by simp [EQ,CP]
theorem Gt{acc:Nat}{s:Bs}{r:List Bs}:EQ l acc (s::r)=match BF l s with
  |none=>none
  |some j=>EQ l (acc|||1<<<j.toNat) r:=by
 unfold EQ;rw[Iy,BF];cases l.findIdx? λx=>decide (x=s)with
 |none=>rfl
 |some i=>
  simp only[Xz,X1];cases CP l r with
  |none=>rfl
  |some n=>
   simp only[Xz,Option.some.injEq];congr 1;show acc|||(Int.ofNat (Nat.lor (1<<<i) n.toNat)).toNat=_
   rw[Nat.or_assoc];rfl
theorem MX(l ss:List Bs):EQ l 0 ss=CP l ss:=by
 unfold EQ;rw[Oq];cases Ae (λs=>l.findIdx? λx=>decide (x=s)) ss with
 |none=>rfl
 |some is=>simp
theorem SH{H:AC}{n id sid:Nat}{ss:List Bs}(hl:l.length<=16)(x0:wide ss)(hs:hget H sid=some (.box [.mp id]))(hp:hget H id=some (nmO l)):AO prog 206 [eSs ss,.ptr sid 0] H n (NPost H n (CP l ss)):=by
 refine c206.a (AF AI.tnil (AG ?_));have hsl:ss.length<1125899906842624:=x0;rw[<-MX];simp only[eE,eN,seval,W0,c206];refine AL (λv:Nat×Nat=>⟨[(1,true,.ptr sid 0),(3,true,.int .i64 v.2),(6,true,eSs ss),(7,true,.int .i64 ss.length),(8,true,.int .i64 v.1)],H,n⟩) (λv=>v.1<=ss.length/\v.2<65536/\EQ l 0 ss=EQ l v.2 (ss.drop v.1)) (λv=>ss.length-v.1) (0,0) rfl ⟨Wz _,zd,rfl⟩ ?_;rintro⟨i,acc⟩ ⟨hi,ae,heq⟩;simp only at hi ae heq;by_cases c5:i<ss.length
 ·have hg:=W2 c5;have e:=AE (k:=i) zo;rw[Xj c5,Gt]at heq;generalize ss[i]=s at hg heq;simp only[eZ,seval,eY,lt_T c5,hg,hs];refine(Ju hp).mono λo H' n' hq=>?_
  obtain⟨rfl,rfl,hq⟩:=hq;cases i5:BF l s with
  |none=>
   rw[i5]at hq heq;subst hq;simp only at heq;rw[heq];simp only[eE,eN,retK];exact⟨rfl,rfl,rfl⟩
  |some k=>
   rw[i5]at hq heq;subst hq;simp only at heq;obtain⟨h0,h1⟩:=K3 i5;obtain⟨j,rfl⟩:∃j:Nat,k=j:=⟨k.toNat,zo⟩;rw[X1]at heq;simp only[eE,eN,seval,X3,retK,O1 (show j<16 by omega),UD ae (MW (show j<16 by omega)),e];exact .mk (i+1,acc|||1<<<j) rfl ⟨c5,Nat.or_lt_two_pow (n:=16) ae (MW zo),heq⟩ zp
 obtain rfl:i=ss.length:=zo
 rw[Xv,IF]at heq;rw[heq];simp only[eZ,seval,lt_F c5];exact⟨rfl,rfl,rfl⟩
end
abbrev Hw:List Fs:=[.str [],.int .i64 0,.int .i64 0,.int .i64 0,.int .i64 0,.sl .nil [],.sl .nil [],.sl .nil [],.sl .nil [],.sl .nil []]
def d_rn{H:AC}{n i0 i1:Nat}:CU prog 191 [.ptr i0 0,.ptr i1 0] .nilifc H n (λH' n'=>H'=H/\n'=n):=by
 refine a191 (AF AI.tnil (AG ?_));simp only[eZ,seval,W3,xE,c191]
def d_rp{H:AC}{n:Nat}{xs:List Fs}{y:Fs}{p:Int}(h0:hget H 1=some (.box xs))(hx:xs.length=10)(h1:hget H 2=some (.box [y])):
  CU prog 191 [.ptr 1 0,.ptr 2 0] (errV p) H n (λH' n'=>hget H' 1=some (.box Hw)/\hget H' 2=some (.box [.int .i64 p])):=by
 refine a191 (AF AI.tnil (AG ?_));obtain⟨a,b,c,d,e,f,g,h,i,j,rfl⟩:∃a b c d e f g h i j,xs=[a,b,c,d,e,f,g,h,i,j]:=by
  match xs,hx with
  |[a,b,c,d,e,f,g,h,i,j],_=>exact⟨a,b,c,d,e,f,g,h,i,j,rfl⟩
 simp only[eZ,seval,xE,c191,h0,h1]
section
def CA(d:zk):Fs:=match resD d with
 | .error e=>.tup [encD dcl0,.int .i64 e]
 | .ok x=>.tup [encD x,.int .i64 0]
abbrev CI(d:zk)(vc vr:Fs):List Fs:=[.str d.nm,.int .i64 d.ver,.int .i64 d.sh,.int .i64 d.w,.int .i64 d.h,eIs d.holes,eSys d.syms,eRgs d.regs,vc,vr]
def RR(d:zk):j8->AC->Nat->Prop:=λo H' n'=>match resD d with
 | .error e=>∃v,o= .ret v/\Wk v (.tup [encD dcl0,.int .i64 e])
 | .ok x=>∃vc vr,o= .ret (.tup [.agg (CI d vc vr),.int .i64 0])/\LV 6 vc H' (x.clus.map B7)/\LV 12 vr H' (x.ruls.map BV)/\(∀i a b c e j f g h k,vc= .ref i a b c e->vr= .ref j f g h k->i≠j)
def Tnr:Tab:=tadd 197 (λa _=>match a with
 |[]=>(True,eSs Bt)
 |_=>(False,.tup [])) tnil
def UE:AI prog Tnr:=AI.tnil.add λargs H n h=>by
 cases args with
 |nil=>exact p197.quiet H n
 |cons _ _=>exact h.elim
abbrev rsR:List RC:=[.c 2 10 true,.c 3 1 false]
abbrev envR:List (Nat×Bool×Fs):=[(1,true,.ptr 0 0),(2,true,.ptr 1 0),(3,true,.ptr 2 0)]
abbrev argsR:List Fs:=[.ptr 1 0,.ptr 2 0]
def afst:q9->q9
 | .seq a _=>a
 |c=>c
def asnd:q9->q9
 | .seq _ b=>b
 |c=>c
def LJ:Nat->q9->q9
 |0,c=>c
 |k+1,c=>LJ k (asnd c)
abbrev QR(d:zk):qj->AS->Prop:=TW prog 191 argsR rsR envR (RR d)
variable {xs:List Fs}
theorem ten(h:xs.length=10):∃a b c d e f g h i j,xs=[a,b,c,d,e,f,g,h,i,j]:=by
 match xs,h with
 |[a,b,c,d,e,f,g,h,i,j],_=>exact⟨a,b,c,d,e,f,g,h,i,j,rfl⟩
theorem Cp{d:zk}{H:AC}{m:Nat}{y:Fs}{p:Int}(h1:hget H 1=some (.box xs))(hx:xs.length=10)(h2:hget H 2=some (.box [y]))(hr:resD d= .error p):QR d (.pan (errV p)) ⟨[],H,m⟩:=by
 refine CU.mono (d_rp h1 hx h2) ?_;rintro H2 n2 ⟨k1,k2⟩;unfold RcOf;simp only[eE,seval,BH,k1,k2];unfold RR;rw[hr];exact⟨_,rfl,Wk.tup (.cons (Wk.agg (.cons (Wk.refl _) (.cons (Wk.refl _) (.cons (Wk.refl _) (.cons (Wk.refl _) (.cons (Wk.refl _) (.cons (Wk.sl (.inr rfl)) (.cons (Wk.sl (.inr rfl)) (.cons (Wk.sl (.inr rfl)) (.cons (Wk.sl (.inr rfl)) (.cons (Wk.sl (.inr rfl)) .nil))))))))))) (.cons (Wk.refl _) .nil))⟩
theorem O2{d:zk}{env:List (Nat×Bool×Fs)}{H:AC}{m:Nat}{y:Fs}(h1:hget H 1=some (.box xs))(hx:xs.length=10)(h2:hget H 2=some (.box [y]))(hr:RR d (.ret (.tup [.agg xs,y])) H m):QR d .ret ⟨env,H,m⟩:=by
 refine CU.mono d_rn ?_;rintro H2 n2 ⟨rfl,rfl⟩;obtain⟨a,b,c,d,e,f,g,h,i,j,rfl⟩:=ten hx;unfold RcOf;simp only[eE,seval,BH,h1,h2];exact hr
end
section
structure NM(d:zk)(vc vr:Fs)(H:AC):Prop where
 h0:hget H 0=some (.box (CI d vc vr))
 h1:hget H 1=some (.box Hw)
 h2:hget H 2=some (.box [.int .i64 0])
 h5:hget H 5=some (nmO (d.syms.map λx:j7=>x.nm))
 h7:hget H 7=some (.box [.mp 5])
 h12:hget H 12=some (nmO (Bn d))
 h18:hget H 18=some (nmO (d.clus.map λx:qw=>x.nm))
def notM(i:Nat):Prop:=i≠0/\i≠1/\i≠2/\i≠5/\i≠7/\i≠12/\i≠18
variable {H:AC} {vc vr:Fs} {d:zk} {i e:Nat}
theorem NM.set{ob:zz}(h:NM d vc vr H)(hi:notM i):NM d vc vr (hset H i ob):=by
 obtain⟨a,b,c,e,f,g,k⟩:=hi;exact⟨by rw[AA _ _ _ _ a];exact h.h0,by rw[AA _ _ _ _ b];exact h.h1,by rw[AA _ _ _ _ c];exact h.h2,by rw[AA _ _ _ _ e];exact h.h5,by rw[AA _ _ _ _ f];exact h.h7,by rw[AA _ _ _ _ g];exact h.h12,by rw[AA _ _ _ _ k];exact h.h18⟩
theorem NM.put{vc' vr':Fs}(h:NM d vc vr H):NM d vc' vr' (hset H 0 (.box (CI d vc' vr'))):=
 ⟨AB ..,by rw[AA _ _ _ _ zd];exact h.h1,by rw[AA _ _ _ _ zd];exact h.h2,by rw[AA _ _ _ _ zd];exact h.h5,by rw[AA _ _ _ _ zd];exact h.h7,by rw[AA _ _ _ _ zd];exact h.h12,by rw[AA _ _ _ _ zd];exact h.h18⟩
theorem NM.ne{id:Nat}{A:List Fs}(o8:NM d vc vr H)(ho:hget H id=some (.arr e A)):notM id:=by
 refine⟨?_,?_,?_,?_,?_,?_,?_⟩<;>rintro rfl
 ·rw[o8.h0]at ho;cases ho
 ·rw[o8.h1]at ho;cases ho
 ·rw[o8.h2]at ho;cases ho
 ·rw[o8.h5]at ho;cases ho
 ·rw[o8.h7]at ho;cases ho
 ·rw[o8.h12]at ho;cases ho
 ·rw[o8.h18]at ho;cases ho
theorem LK(h:21<=i):notM i:=⟨zo,zo,zo,zo,zo,zo,zo⟩
theorem Cj{α β:Type}(f:α->Option β)(x:α)(r:List α):Ae f (x::r)=(match f x with
  |some y=>(Ae f r).map λs=>y::s
  |none=>none):=by
 simp only[Ae];cases f x with
 |none=>rfl
 |some y=>cases Ae f r<;>rfl
structure VRl where
 i:Nat
 dn:List qz
 H:AC
structure IRl(d:zk)(cs:List qw)(vc vr:Fs)(n:Nat)(v:VRl):Prop where
 hi:v.i<=d.ruls.length
 ln:v.dn.length=v.i
 fr:AQ v.H n
 nm:NM d vc vr v.H
 lc:LV 6 vc v.H (cs.map B7)
 lv:LV 12 vr v.H ((v.dn++d.ruls.drop v.i).map BV)
 eq:Ae (BD d) d.ruls=(Ae (BD d) (d.ruls.drop v.i)).map λr=>v.dn++r
section
variable {a b c d e f g h i j k l v:Fs}
theorem apR3(hv:v.cells=[v]):DS (.agg [a,b,c,d,e,f,g,h,i,j,k,l]) 3 1 12 v=(True,.agg [a,b,c,v,e,f,g,h,i,j,k,l]):=by
 rw[EV zd];simp [splice,hv]
theorem apR6(hv:v.cells=[v]):DS (.agg [a,b,c,d,e,f,g,h,i,j,k,l]) 6 1 12 v=(True,.agg [a,b,c,d,e,f,v,h,i,j,k,l]):=by
 rw[EV zd];simp [splice,hv]
theorem apR7(hv:v.cells=[v]):DS (.agg [a,b,c,d,e,f,g,h,i,j,k,l]) 7 1 12 v=(True,.agg [a,b,c,d,e,f,g,v,i,j,k,l]):=by
 rw[EV zd];simp [splice,hv]
theorem SI(hv:v.cells=[v]):DS (.agg [a,b,c,d,e,f,g,h,i,j,k,l]) 11 1 12 v=(True,.agg [a,b,c,d,e,f,g,h,i,j,k,v]):=by
 rw[EV zd];simp [splice,hv]
end
theorem LV.set{v:Fs}{l:List Fs}{id:Nat}{ob:zz}(h:LV e v H l)(d9:∀a b c x,v≠ .ref id a b c x):LV e v (hset H id ob) l:=by
 rcases h with h|⟨h0,i,cap,rest,rfl,ho,hc⟩
 ·exact .inl h
 ·exact .inr ⟨h0,i,cap,rest,rfl,by rw[AA _ _ _ _ (λq=>d9 _ _ _ _ (by rw[q]))];exact ho,hc⟩
theorem LV.no{l:List Fs}{a b c x:Nat}(h:LV e (.ref i a b c x) H l)(hn:∀e' A,hget H i≠some (.arr e' A)):False:=by
 rcases h with⟨-,t,h,-⟩|⟨-,id,cap,rest,h,ho,-⟩
 ·cases h
 ·cases h;exact hn _ _ ho
theorem UF(d:zk)(hd:qk d)(r9:¬16<d.syms.length)(i9:Af (d.syms.map λx:j7=>x.nm)=false)(m4:Af (Bn d)=false)(x9:Af (d.clus.map λx:qw=>x.nm)=false){cs:List qw}(t5:Ae (Bh d) d.clus=some cs)(ai:Af (d.ruls.map λx:qz=>x.nm)=false)
  {n:Nat} (hf:AQ H n) (hm:NM d vc vr H) (hvc:LV 6 vc H (cs.map B7)) (hvr:LV 12 vr H (d.ruls.map BV)) (hdj:∀i a b c e j f g h k,vc= .ref i a b c e->vr= .ref j f g h k->i≠j):
  evK prog Tnr (asnd (afst (LJ 9 c145))) [.c (asnd (LJ 9 c145))] (QR d) ⟨[(1,true,.ptr 0 0),(2,true,.ptr 1 0),(3,true,.ptr 2 0),(5,true,.mp 12),(6,true,.mp 18),(8,true,.fn (.func 206) [] [.ptr 7 0]),(66,true,.int .i64 d.ruls.length),(67,true,.int .i64 0)],H,n⟩:=by
 have hrl:d.ruls.length<1000000000:=hd.ru;have hbase:∀x,Ae (BD d) d.ruls=x->resD d=(match x with|none=>.error 160|some rs=>.ok {d with clus:=cs,ruls:=rs}):=λx hx=>by
  unfold resD;rw[W6 r9,i9,m4,x9,t5];simp only[Xd,Xo];rw[ai,hx];rfl
 simp only[eE,LJ,asnd,afst,c145];refine AL (λv:VRl=>⟨[(1,true,.ptr 0 0),(2,true,.ptr 1 0),(3,true,.ptr 2 0),(5,true,.mp 12),(6,true,.mp 18),(8,true,.fn (.func 206) [] [.ptr 7 0]),(66,true,.int .i64 d.ruls.length),(67,true,.int .i64 v.i)],v.H,n⟩) (IRl d cs vc vr n) (λv=>d.ruls.length-v.i)
  ⟨0,[],H⟩ rfl ⟨Wz _,rfl,hf,hm,hvc,hvr,by rw[Zw];cases Ae (BD d) d.ruls<;>rfl⟩ ?_
 rintro⟨i,dn,H1⟩ hI;have hi:=hI.hi;have s5:=hI.ln;have c7:=hI.fr;have o8:=hI.nm;have t9:=hI.lc;have m5:=hI.lv;have heq:=hI.eq;clear hI hf hm hvc hvr;simp only at hi s5 c7 o8 t9 m5 heq;by_cases c5:i<d.ruls.length;case neg=>
  obtain rfl:i=d.ruls.length:=zo
  rw[Xv]at heq m5;rw[Xn]at m5;have hr:=hbase _ heq;simp only[Ae,Xz,Xn]at hr;simp only[eZ,seval,lt_F c5,o8.h0,CI,o8.h1,o8.h2];refine O2 (xs:=CI d vc vr) (y:=.int .i64 0) ?_ rfl ?_ ?_
  ·simp only[AK];rfl
  ·simp only[AK];rfl
  unfold RR;rw[hr];have l5:∀a b c x,vc≠ .ref 1 a b c x/\vc≠ .ref 2 a b c x/\vr≠ .ref 1 a b c x/\vr≠ .ref 2 a b c x:=by
   intro a b c x;refine⟨?_,?_,?_,?_⟩<;>rintro rfl
   ·exact t9.no (by rw[o8.h1];simp)
   ·exact t9.no (by rw[o8.h2];simp)
   ·exact m5.no (by rw[o8.h1];simp)
   ·exact m5.no (by rw[o8.h2];simp)
  exact⟨vc,vr,rfl,(t9.set λa b c x=>(l5 a b c x).1).set λa b c x=>(l5 a b c x).2.1,(m5.set λa b c x=>(l5 a b c x).2.2.1).set λa b c x=>(l5 a b c x).2.2.2,hdj⟩
 have hrx:=(hd.rus _ (X5 c5));rw[Xj c5]at heq m5;rw[Cj]at heq;generalize d.ruls[i]=r at heq m5 hrx;have m9:((dn++r::d.ruls.drop (i+1)).map BV).length=d.ruls.length:=by simp;omega
 rcases m5 with⟨h0,-⟩|⟨-,id,cap,rest,hvr,ho,hcr⟩
 ·simp at h0
 rw[m9]at hvr hcr;subst hvr;have e:=AE (k:=i) zo;have d7:id<n:=c7.lt ho;have d9:=o8.ne ho;have h0:=o8.h0;have ah:((dn++r::d.ruls.drop (i+1)).map BV++rest)[i]?=some (BV r):=by
  rw[X2,Xt,XV (by simp;omega)];simp [s5]
 have u0:i<((dn++r::d.ruls.drop (i+1)).map BV++rest).length:=by rw[Xb,m9];omega
 have hse:∀r':qz,((dn++r::d.ruls.drop (i+1)).map BV++rest).set i (BV r')=((dn++[r'])++d.ruls.drop (i+1)).map BV++rest:=λr'=>by
  rw[X2,Xt,List.set_append_right _ _ (by simp;omega)];simp [s5]
 generalize hA:(dn++r::d.ruls.drop (i+1)).map BV++rest=A at ho ah u0 hse;have t8:∀x,(i<(A.set i x).length)=True:=λx=>W1 (by rw[YS];exact u0)
 have hgs:∀x,(A.set i x)[i]?=some x:=λx=>List.getElem?_set_self u0
 have x0:∀x y,(A.set i x).set i y=A.set i y:=λx y=>List.set_set ..
 have z0':(id=0)=False:=W4 d9.1;have z5':(id=5)=False:=W4 d9.2.2.2.1;have z7':(id=7)=False:=W4 d9.2.2.2.2.1;have z12':(id=12)=False:=W4 d9.2.2.2.2.2.1;have z18':(id=18)=False:=W4 d9.2.2.2.2.2.2;have h7:=o8.h7;have h5:=o8.h5;have i8:BD d r=none->resD d= .error 160:=λq=>by
  rw[q]at heq;exact hbase _ heq
 have l6:∀ob,NM d vc (.ref id 12 0 d.ruls.length cap) (hset H1 id ob):=λob=>o8.set d9
 have hvn:∀a b c x,vc≠ .ref id a b c x:=λa b c x q=>hdj _ _ _ _ _ _ _ _ _ _ q rfl rfl
 have fin:∀(F a b c:Int),BD d r=some {r with fam:=F,set:=a,oth:=b,clue:=c}->lpN (λv:VRl=>⟨[(1,true,.ptr 0 0),(2,true,.ptr 1 0),(3,true,.ptr 2 0),(5,true,.mp 12),(6,true,.mp 18),(8,true,.fn (.func 206) [] [.ptr 7 0]),(66,true,.int .i64 d.ruls.length),(67,true,.int .i64 v.i)],v.H,n⟩) (IRl d cs vc (.ref id 12 0 d.ruls.length cap) n) (λv=>d.ruls.length-v.i) ⟨i,dn,H1⟩
   ⟨[(1,true,.ptr 0 0),(2,true,.ptr 1 0),(3,true,.ptr 2 0),(5,true,.mp 12),(6,true,.mp 18),(8,true,.fn (.func 206) [] [.ptr 7 0]),(66,true,.int .i64 d.ruls.length),(67,true,.int .i64 ((i+1:Nat):Int))],hset H1 id (.arr 12 (A.set i (.agg [.str r.nm,.str r.on,.int .i64 r.kind,.int .i64 F,eSs r.ns,eSs r.os,.int .i64 a,.int .i64 b,.int .i64 r.op,.int .i64 r.n,.str r.byN,.int .i64 c]))),n⟩:=λF a b c y9=>by
  rw[y9]at heq;have hse2:=hse {r with fam:=F,set:=a,oth:=b,clue:=c};refine .mk ⟨i+1,dn++[{r with fam:=F,set:=a,oth:=b,clue:=c}],hset H1 id (.arr 12 (A.set i (BV {r with fam:=F,set:=a,oth:=b,clue:=c})))⟩ rfl ⟨c5,by simp [s5],c7.hset (W9 _) d7,l6 _,t9.set hvn,.inr ⟨zw,id,cap,rest,?_,?_,?_⟩,?_⟩ zp
  ·simp only[W0,Xb,Xe,XX,Y6,s5];congr 1;omega
  ·simp only[];rw[AB,hse2]
  ·simp only[W0,Xb,Xe,XX,Y6,s5];omega
  ·simp only[];rw[heq];cases Ae (BD d) (d.ruls.drop (i+1))<;>simp
 by_cases ao:r.on=[]
 ·have hb:scmp .neq r.on []=false:=by rw[Ap,ao];rfl
  simp only[eZ,eX,seval,X6,X1,X3,atN,atK,Fz,lt_T c5,h0,CI,ho,ah,W1 u0,addr,W1 d7,t8,hgs,x0,BV,BQ,apR3,SI,AN,hb];refine(SH (by rw[W0];omega) hrx.1 (l6 _).h7 (l6 _).h5).mono λo H' n' hq=>?_
  obtain⟨rfl,rfl,hq⟩:=hq;cases m6:CP (d.syms.map λx:j7=>x.nm) r.ns with
  |none=>
   rw[m6]at hq;subst hq;simp only[eE,eN,Ec];exact Cp (l6 _).h1 rfl (l6 _).h2 (i8 (by unfold BD;rw[X0 ao,m6]))
  |some a=>
   rw[m6]at hq;subst hq;simp only[eE,eC,eX,seval,Ec];refine(SH (by rw[W0];omega) hrx.2 (l6 _).h7 (l6 _).h5).mono λo H' n' hq=>?_
   obtain⟨rfl,rfl,hq⟩:=hq;cases v9:CP (d.syms.map λx:j7=>x.nm) r.os with
   |none=>
    rw[v9]at hq;subst hq;simp only[eE,eN,Ec];exact Cp (l6 _).h1 rfl (l6 _).h2 (i8 (by unfold BD;rw[X0 ao,m6,v9]))
   |some b=>
    rw[v9]at hq;subst hq;by_cases hby:r.byN=[]
    ·have k9:scmp .neq r.byN []=false:=by rw[Ap,hby];rfl
     simp only[eZ,eX,seval,X6,Ec,k9,I1,t8,hgs,x0,apR6,apR7,AN,e];exact fin 0 a b (-1) (by unfold BD;rw[X0 ao,m6,v9,X0 hby])
    ·have k9:scmp .neq r.byN []=true:=by rw[Ap,Aw hby];rfl
     simp only[eZ,eX,seval,X6,Ec,k9,I1,t8,hgs,x0,apR6,apR7,AN];refine(Ju (l6 _).h18).mono λo H' n' hq=>?_
     obtain⟨rfl,rfl,hq⟩:=hq;cases t6:BF (d.clus.map λx:qw=>x.nm) r.byN with
     |none=>
      rw[t6]at hq;subst hq;simp only[eE,eN,retK];exact Cp (l6 _).h1 rfl (l6 _).h2 (i8 (by unfold BD;rw[X0 ao,m6,v9,W6 hby,t6]))
     |some c=>
      rw[t6]at hq;subst hq;simp only[eE,eN,seval,X6,retK,t8,hgs,x0,SI,AN,e];exact fin 0 a b c (by unfold BD;rw[X0 ao,m6,v9,W6 hby,t6])
 ·have hb:scmp .neq r.on []=true:=by rw[Ap,Aw ao];rfl
  simp only[eZ,seval,X6,X1,X3,lt_T c5,h0,CI,ho,ah,W1 u0,t8,hgs,x0,BV,BQ,apR3,SI,AN,hb];refine(Ju (l6 _).h12).mono λo H' n' hq=>?_
  obtain⟨rfl,rfl,hq⟩:=hq;cases i5:BF (Bn d) r.on with
  |none=>
   rw[i5]at hq;subst hq;simp only[eE,eN,retK];exact Cp (l6 _).h1 rfl (l6 _).h2 (i8 (by unfold BD;rw[W6 ao,i5]))
  |some F=>
   rw[i5]at hq;subst hq;simp only[eE,eN,eX,seval,X6,atN,atK,Fz,retK,addr,W1 d7,t8,hgs,x0,apR3,AN];refine(SH (by rw[W0];omega) hrx.1 (l6 _).h7 (l6 _).h5).mono λo H' n' hq=>?_
   obtain⟨rfl,rfl,hq⟩:=hq;cases m6:CP (d.syms.map λx:j7=>x.nm) r.ns with
   |none=>
    rw[m6]at hq;subst hq;simp only[eE,eN,Ec];exact Cp (l6 _).h1 rfl (l6 _).h2 (i8 (by unfold BD;rw[W6 ao,i5,m6]))
   |some a=>
    rw[m6]at hq;subst hq;simp only[eE,eC,eX,seval,Ec];refine(SH (by rw[W0];omega) hrx.2 (l6 _).h7 (l6 _).h5).mono λo H' n' hq=>?_
    obtain⟨rfl,rfl,hq⟩:=hq;cases v9:CP (d.syms.map λx:j7=>x.nm) r.os with
    |none=>
     rw[v9]at hq;subst hq;simp only[eE,eN,Ec];exact Cp (l6 _).h1 rfl (l6 _).h2 (i8 (by unfold BD;rw[W6 ao,i5,m6,v9]))
    |some b=>
     rw[v9]at hq;subst hq;by_cases hby:r.byN=[]
     ·have k9:scmp .neq r.byN []=false:=by rw[Ap,hby];rfl
      simp only[eZ,eX,seval,X6,Ec,k9,I1,t8,hgs,x0,apR6,apR7,AN,e];exact fin F a b (-1) (by unfold BD;rw[W6 ao,i5,m6,v9,X0 hby])
     ·have k9:scmp .neq r.byN []=true:=by rw[Ap,Aw hby];rfl
      simp only[eZ,eX,seval,X6,Ec,k9,I1,t8,hgs,x0,apR6,apR7,AN];refine(Ju (l6 _).h18).mono λo H' n' hq=>?_
      obtain⟨rfl,rfl,hq⟩:=hq;cases t6:BF (d.clus.map λx:qw=>x.nm) r.byN with
      |none=>
       rw[t6]at hq;subst hq;simp only[eE,eN,retK];exact Cp (l6 _).h1 rfl (l6 _).h2 (i8 (by unfold BD;rw[W6 ao,i5,m6,v9,W6 hby,t6]))
      |some c=>
       rw[t6]at hq;subst hq;simp only[eE,eN,seval,X6,retK,t8,hgs,x0,SI,AN,e];exact fin F a b c (by unfold BD;rw[W6 ao,i5,m6,v9,W6 hby,t6])
end
structure VCl where
 i:Nat
 dn:List qw
 H:AC
structure ICl(d:zk)(vc:Fs)(n:Nat)(v:VCl):Prop where
 hi:v.i<=d.clus.length
 ln:v.dn.length=v.i
 fr:AQ v.H n
 nm:NM d vc (eRus d.ruls) v.H
 lv:LV 6 vc v.H ((v.dn++d.clus.drop v.i).map B7)
 eq:Ae (Bh d) d.clus=(Ae (Bh d) (d.clus.drop v.i)).map λr=>v.dn++r
def apS2{a b c d e f v:Fs}(h:v.cells=[v]):DS (.agg [a,b,c,d,e,f]) 2 1 6 v=(True,.agg [a,b,v,d,e,f]):=by
 rw[EV zd];simp [splice,h]
theorem UG(d:zk)(hd:qk d)(r9:¬16<d.syms.length)(i9:Af (d.syms.map λx:j7=>x.nm)=false)(m4:Af (Bn d)=false)(x9:Af (d.clus.map λx:qw=>x.nm)=false)
  {vc:Fs} {H:AC} {n:Nat} {ml:Int} (hml:ml=(d.clus.length:Int)) (hn:21<=n) (hf:AQ H n) (hm:NM d vc (eRus d.ruls) H) (hv:LV 6 vc H (d.clus.map B7)):
  evK prog Tnr (asnd (afst (LJ 5 c145))) [.c (asnd (LJ 5 c145))] (QR d) ⟨[(1,true,.ptr 0 0),(2,true,.ptr 1 0),(3,true,.ptr 2 0),(4,true,.ptr 7 0),(5,true,.mp 12),(6,true,.mp 18),(37,true,.int .i64 ml),(38,true,.int .i64 0)],H,n⟩:=by
 subst hml;have m7:d.clus.length<1000000000:=hd.cl;simp only[eE,LJ,asnd,afst,c145];refine AL (λv:VCl=>⟨[(1,true,.ptr 0 0),(2,true,.ptr 1 0),(3,true,.ptr 2 0),(4,true,.ptr 7 0),(5,true,.mp 12),(6,true,.mp 18),(37,true,.int .i64 d.clus.length),(38,true,.int .i64 v.i)],v.H,n⟩) (ICl d vc n) (λv=>d.clus.length-v.i)
  ⟨0,[],H⟩ rfl ⟨Wz _,rfl,hf,hm,hv,by rw[Zw];cases Ae (Bh d) d.clus<;>rfl⟩ ?_
 rintro⟨i,dn,H1⟩ hI;have hi:=hI.hi;have s5:=hI.ln;have c7:=hI.fr;have o8:=hI.nm;have m5:=hI.lv;have heq:=hI.eq;simp only at hi s5 c7 o8 m5 heq;by_cases c5:i<d.clus.length
 ·rw[Xj c5]at heq m5;rw[Cj]at heq;generalize d.clus[i]=c at heq m5;have m9:((dn++c::d.clus.drop (i+1)).map B7).length=d.clus.length:=by simp;omega
  rcases m5 with⟨h0,-⟩|⟨-,id,cap,rest,hvc,ho,hcr⟩
  ·simp at h0
  rw[m9]at hvc hcr;subst hvc;have e:=AE (k:=i) zo;have d7:id<n:=c7.lt ho;have h0:=o8.h0;have ah:((dn++c::d.clus.drop (i+1)).map B7++rest)[i]?=some (.agg [.str c.nm,.str c.on,.int .i64 c.fam,.int .i64 c.ty,.int .i64 c.lo,.int .i64 c.hi]):=by
   rw[X2,Xt,XV (by simp;omega)];simp [s5]
  have u0:(i<((dn++c::d.clus.drop (i+1)).map B7++rest).length)=True:=W1 (by rw[Xb,m9];omega);have hse:∀c':qw,((dn++c::d.clus.drop (i+1)).map B7++rest).set i (B7 c')=((dn++[c'])++d.clus.drop (i+1)).map B7++rest:=λc'=>by
   rw[X2,Xt,List.set_append_right _ _ (by simp;omega)];simp [s5]
  have d9:=o8.ne ho;generalize hA:(dn++c::d.clus.drop (i+1)).map B7++rest=A at ho ah u0 hse;simp only[eZ,eX,seval,X6,X1,X3,atN,atK,Fz,lt_T c5,h0,CI,ho,ah,u0,addr,W1 d7];refine(Ju o8.h12).mono λo H' n' hq=>?_
  obtain⟨rfl,rfl,hq⟩:=hq;cases i5:BF (Bn d) c.on with
  |none=>
   rw[i5]at hq;subst hq;have hrc:Bh d c=none:=by unfold Bh;rw[i5];rfl
   rw[hrc]at heq;have hr:resD d= .error 160:=by unfold resD;rw[W6 r9,i9,m4,x9,heq];rfl
   simp only[eE,eN,Ec];exact Cp o8.h1 rfl o8.h2 hr
  |some k=>
   rw[i5]at hq;subst hq;have hrc:Bh d c=some {c with fam:=k}:=by unfold Bh;rw[i5];rfl
   rw[hrc]at heq;have v9:=hse {c with fam:=k};simp only[eZ,eX,seval,X6,X1,X3,Ec,I1,ho,ah,u0,apS2 (v:=.int .i64 k) rfl,e];refine⟨zo,.mk ⟨i+1,dn++[{c with fam:=k}],hset H' id (.arr 6 (A.set i (B7 {c with fam:=k})))⟩ rfl ⟨c5,by simp [s5],c7.hset (W9 _) d7,o8.set d9,.inr ⟨zw,id,cap,rest,?_,?_,?_⟩,?_⟩ zp⟩
   ·simp only[W0,Xb,Xe,XX,Y6,s5];congr 1;omega
   ·simp only[];rw[AB,v9]
   ·simp only[W0,Xb,Xe,XX,Y6,s5];omega
   ·simp only[];rw[heq];cases Ae (Bh d) (d.clus.drop (i+1))<;>simp
 obtain rfl:i=d.clus.length:=zo
 rw[Xv]at heq m5;rw[Xn]at m5;have t5:Ae (Bh d) d.clus=some dn:=by rw[heq];simp [Ae]
 have h0:=o8.h0;have y0:∀k,(n+k=0)=False:=λk=>W4 zo
 simp only[eZ,seval,xE,lt_F c5,h0,CI,fr1 c7];refine(SG (pre:=[]) hd.ru zd rfl (AB ..) rfl).mono λo H' n' hq=>?_
 unfold CH at hq;rw[Xl]at hq;have l6:∀a b,NM d vc (eRus d.ruls) (hset (hset H1 (n+2) a) (n+2) b):=λa b=>(o8.set (LK zo)).set (LK zo)
 cases ai:Af (d.ruls.map λx:qz=>x.nm)with
 |true=>
  rw[ai,X0 rfl]at hq;obtain⟨rfl,rfl,rfl⟩:=hq;have hr:resD d= .error 161:=by
   unfold resD;rw[W6 r9,i9,m4,x9,t5];simp only[Xd,Xo];rw[ai];rfl
  simp only[eE,eN,retK];exact Cp (l6 _ _).h1 rfl (l6 _ _).h2 hr
 |false=>
 rw[ai,W6 zd]at hq;obtain⟨rfl,rfl,rfl⟩:=hq;have hH:=l6 (nmO []) (nmO (d.ruls.map λx:qz=>x.nm));have t9:LV 6 vc (hset (hset H1 (n+2) (nmO [])) (n+2) (nmO (d.ruls.map λx:qz=>x.nm))) (dn.map B7):=by
  have aj:∀a b c x,vc≠ .ref (n+2) a b c x:=by
   rintro a b c x rfl;exact m5.no (by rw[c7 _ zo];simp)
  exact(m5.set aj).set aj
 have o7:AQ (hset (hset H1 (n+2) (nmO [])) (n+2) (nmO (d.ruls.map λx:qz=>x.nm))) (n+4):=(c7.hset (m:=n+4) zo zo).hset (W9 _) zo;generalize hset (hset H1 (n+2) (nmO [])) (n+2) (nmO (d.ruls.map λx:qz=>x.nm))=H2 at hH t9 o7;have h02:=hH.h0;simp only[eE,eN,seval,retK,h02,CI];refine(Wj d.ruls hd.ru).mono λo H' n' hq=>?_
 rcases hq with⟨s6,rfl,hn',t,rfl,c8⟩|⟨s6,rfl,cap,rest,rfl,rfl,hcr⟩
 ·have hrl:d.ruls.length=0:=by have:=congrArg List.length s6;simpa using this
  simp only[eE,seval,retK,h02,CI];rw[Ed];simp only[eE,seval];rw[Ed];simp only[eE,seval,c0];rw[Ed];have z9:∀a b c x,vc≠ .ref 0 a b c x:=by
   rintro a b c x rfl;exact t9.no (by rw[h02];simp)
  have:=UF d hd r9 i9 m4 x9 t5 ai (vr:=.sl t []) (o7.hset (id:=0) (m:=n') zo zo) hH.put (t9.set z9) (.inl ⟨s6,t,rfl,c8⟩) (λi a b c e j f g h k _ q=>by cases q);rw[hrl]at this;exact this
 ·have y4:∀k,(n+4+k=0)=False:=λk=>W4 zo
  simp only[eE,seval,retK,h02,CI,y0];rw[Ed];simp only[eE,seval];rw[Ed];simp only[eE,seval,W0];rw[Ed];have z9:∀a b c x,vc≠ .ref 0 a b c x:=by
   rintro a b c x rfl;exact t9.no (by rw[h02];simp)
  have hc6:∀a b c x,vc≠ .ref (n+6) a b c x:=by
   rintro a b c x rfl;exact t9.no (by rw[o7 _ zo];simp)
  refine UF d hd r9 i9 m4 x9 t5 ai (vr:=.ref (n+6) 12 0 d.ruls.length cap) (((o7.hset (m:=n+8) zo zo).hset (W9 _) zo)) (hH.set (LK zo)).put ((t9.set hc6).set z9) (.inr ⟨s6,n+6,cap,rest,by rw[W0],?_,hcr⟩) (λi a b c e j f g h k q1 q2=>?_)
  ·rw[AA _ _ _ _ zo];exact AB ..
  ·cases q2;rintro rfl;exact hc6 _ _ _ _ q1
def O3(d:zk)(hd:qk d):AO prog 145 [encD d] hnil 0 (RR d):=by
 refine a145 (AF UE (AG ?_));simp only[eE,eN,seval,RQ,Eb,Ko,AX,encD];refine⟨_,_,rfl,AF UE (AG ?_)⟩;generalize hE:List.filter (λ(e:Nat×Bool×Fs)=>Nat.blt e.1 4) _=E;have hE':E=envR:=by rw[<-hE];rfl
 subst hE';clear hE;rw[Xl];by_cases r9:16<d.syms.length
 ·have hr:resD d= .error 2:=by unfold resD;rw[X0 r9]
  simp only[eZ,seval,W0,c145,W1 (show(16:Int)<(d.syms.length:Int)by omega),AH];refine O2 (xs:=Hw) rfl rfl rfl ?_;unfold RR;rw[hr];exact⟨_,rfl,Wk.tup (.cons (Wk.agg (.cons (Wk.refl _) (.cons (Wk.refl _) (.cons (Wk.refl _) (.cons (Wk.refl _) (.cons (Wk.refl _) (.cons (Wk.sl (.inr rfl)) (.cons (Wk.sl (.inr rfl)) (.cons (Wk.sl (.inr rfl)) (.cons (Wk.sl (.inr rfl)) (.cons (Wk.sl (.inr rfl)) .nil))))))))))) (.cons (Wk.refl _) .nil))⟩
 simp only[eZ,seval,xE,W0,c145,W4 (show ¬(16:Int)<(d.syms.length:Int)by omega),AH];refine(SD (pre:=[]) hd.sy zd rfl rfl rfl).mono λo H' n' hq=>?_
 unfold CH at hq;rw[Xl]at hq;cases i9:Af (d.syms.map λx:j7=>x.nm)with
 |true=>
  rw[i9,X0 rfl]at hq;obtain⟨rfl,rfl,rfl⟩:=hq;have hr:resD d= .error 161:=by unfold resD;rw[W6 r9,i9];rfl
  simp only[eE,eN,retK];exact Cp (xs:=Hw) rfl rfl rfl hr
 |false=>
 rw[i9,W6 zd]at hq;obtain⟨rfl,rfl,rfl⟩:=hq;simp only[eZ,eX,seval,xE,retK,Tnr,addr,tadd];refine⟨⟨trivial,BT 0 _⟩,(U1 (pre:=[]) zd zd rfl rfl rfl).mono λo H' n' hq=>?_⟩;unfold CH at hq;rw[Xl,show Af (Bt.map λx:Bs=>x)=false by decide,W6 zd]at hq;obtain⟨rfl,rfl,rfl⟩:=hq;simp only[eE,eX,seval,Ec];refine(SE (pre:=Bt) hd.rg zd rfl rfl zd).mono λo H' n' hq=>?_
 unfold CH at hq;cases m4:Af (Bn d)with
 |true=>
  rw[show Bt++d.regs.map (λx:zj=>x.nm)=Bn d from rfl,m4,X0 rfl]at hq;obtain⟨rfl,rfl,rfl⟩:=hq;have hr:resD d= .error 161:=by unfold resD;rw[W6 r9,i9,m4];rfl
  simp only[eE,eN,Ec];exact Cp (xs:=Hw) rfl rfl rfl hr
 |false=>
 rw[show Bt++d.regs.map (λx:zj=>x.nm)=Bn d from rfl,m4,W6 zd]at hq;obtain⟨rfl,rfl,rfl⟩:=hq;simp only[eE,eN,eX,seval,xE,Ec];refine(SF (pre:=[]) hd.cl zd rfl rfl rfl).mono λo H' n' hq=>?_
 unfold CH at hq;rw[Xl]at hq;cases x9:Af (d.clus.map λx:qw=>x.nm)with
 |true=>
  rw[x9,X0 rfl]at hq;obtain⟨rfl,rfl,rfl⟩:=hq;have hr:resD d= .error 161:=by unfold resD;rw[W6 r9,i9,m4,x9];rfl
  simp only[eE,eN,retK];exact Cp (xs:=Hw) rfl rfl rfl hr
 |false=>
 rw[x9,W6 zd]at hq;obtain⟨rfl,rfl,rfl⟩:=hq;simp only[eE,eN,seval,retK];refine(Wi d.clus hd.cl).mono λo H' n' hq=>?_
 rcases hq with⟨h0,rfl,hn,t,rfl,c8⟩|⟨h0,rfl,cap,rest,rfl,rfl,hcr⟩
 ·have m7:d.clus.length=0:=by have:=congrArg List.length h0;simpa using this
  simp only[eE,seval,retK];rw[Ed];simp only[eE,seval,c0];rw[Ed];refine UG d hd r9 i9 m4 x9 (vc:=.sl t []) (by rw[m7];rfl) hn (λid d7=>?_) (NM.mk (d:=d) (vr:=eRus d.ruls) rfl rfl rfl rfl rfl rfl rfl) (.inl ⟨h0,t,rfl,c8⟩);simp only[AK];repeat rw[W6 zo]
  rfl
 ·simp only[eE,seval,retK];rw[Ed];simp only[eE,seval,W0];rw[Ed];refine UG d hd r9 i9 m4 x9 (vc:=.ref 23 6 0 d.clus.length cap) rfl zo (λid d7=>?_) (NM.mk (d:=d) (vr:=eRus d.ruls) rfl rfl rfl rfl rfl rfl rfl) (.inr ⟨h0,23,cap,rest,by rw[W0],rfl,hcr⟩);simp only[AK];repeat rw[W6 zo]
  rfl
def RS(d:zk):j8->AC->Nat->Prop:=λo H' n'=>match resD d with
 | .error e=>∃v,o= .ret v/\Wk v (.tup [encD dcl0,.int .i64 e])
 | .ok x=>∃vc vr,o= .ret (.tup [.agg (CI d vc vr),.int .i64 0])/\LF 6 vc H' (x.clus.map B7)/\LV 12 vr H' (x.ruls.map BV)
def RT(d:zk):j8->AC->Nat->Prop:=λo H' n'=>match resD d with
 | .error e=>∃v,o= .ret v/\Wk v (.tup [encD dcl0,.int .i64 e])
 | .ok x=>∃vc vr,o= .ret (.tup [.agg (CI d vc vr),.int .i64 0])/\LF 6 vc H' (x.clus.map B7)/\LF 12 vr H' (x.ruls.map BV)
def p145(d:zk)(hd:qk d):Pur prog 145 [encD d] (CA d):=by
 refine .mk ⟨Ab 0 d,trivial⟩ (by unfold CA;split<;>exact⟨Ab 0 _,trivial,trivial⟩) ?_;refine AO.out (R:=RT d) (AO.seal (R:=RS d) (AO.seal (R:=RR d) (O3 d hd) ?_) ?_) ?_
 ·intro o H' n' h;unfold RR at h;unfold RS;split at h
  ·rename_i e he;try rw[he]
   exact .inl h
  ·rename_i x hx;try rw[hx]
   obtain⟨vc,vr,rfl,h1,h2,h3⟩:=h;rcases h1 with h1|⟨h0,id,cap,rest,rfl,ho,hc⟩
   ·exact .inl ⟨vc,vr,rfl,.inl h1,h2⟩
   ·refine .inr ⟨id,_,_,ho,_,vr,rfl,.inr ⟨h0,id,cap,rest,rfl,AB ..,hc⟩,h2.set λa b c x=>?_⟩;rintro rfl;exact h3 _ _ _ _ _ _ _ _ _ _ rfl rfl rfl
 ·intro o H' n' h;unfold RS at h;unfold RT;split at h
  ·rename_i e he;try rw[he]
   exact .inl h
  ·rename_i x hx;try rw[hx]
   obtain⟨vc,vr,rfl,h1,h2⟩:=h;rcases h2 with h2|⟨h0,id,cap,rest,rfl,ho,hc⟩
   ·exact .inl ⟨vc,vr,rfl,h1,.inl h2⟩
   ·refine .inr ⟨id,_,_,ho,vc,_,rfl,?_,.inr ⟨h0,id,cap,rest,rfl,AB ..,hc⟩⟩;rcases h1 with h1|⟨q0,i2,c2,r2,rfl,o2,hc2⟩
    ·exact .inl h1
    ·refine .inr ⟨q0,i2,c2,r2,rfl,?_,hc2⟩;rw[AA _ _ _ _ (by rintro rfl;rw[ho]at o2;cases o2)];exact o2
 ·intro o H' n' h;unfold RT at h;unfold CA;split at h
  ·rename_i e he;try rw[he]
   obtain⟨v,rfl,hw⟩:=h;exact⟨.ret v,⟨v,rfl,hw⟩,λg w e _ q=>q⟩
  ·rename_i x hx;try rw[hx]
   obtain⟨vc,vr,rfl,h1,h2⟩:=h;refine⟨.ret (.tup [encD x,.int .i64 0]),⟨_,rfl,Wk.refl _⟩,λg w e hR q=>?_⟩;obtain⟨e1,e2,e3,e4,e5,e6,e7,e8⟩:=NR hx;cases e with
   |panicked c=>exact q.elim
   |outgrown=>exact q.elim
   |returned y=>
    obtain⟨vs,rfl,y1,r1,q1,q2,q3⟩:=q;refine⟨vs,rfl,y1,r1,q1,?_,q3⟩;obtain⟨us,rfl,p1,p2⟩:=q2;refine⟨us,rfl,?_,p2⟩;obtain⟨a1,b1,f1,g1,a2,b2,f2,g2,a3,b3,f3,g3,a4,b4,f4,g4,a5,b5,f5,g5,a6,b6,f6,g6,a7,b7,f7,g7,a8,b8,f8,g8,a9,b9,f9,g9,a10,b10,f10,g10,g11⟩:=p1;rw[<-e1]at g1;rw[<-e2]at g2;rw[<-e3]at g3;rw[<-e4]at g4;rw[<-e5]at g5;rw[<-e6]at g6;rw[<-e7]at g7;rw[<-e8]at g8;exact⟨a1,b1,f1,g1,a2,b2,f2,g2,a3,b3,f3,g3,a4,b4,f4,g4,a5,b5,f5,g5,a6,b6,f6,g6,a7,b7,f7,g7,a8,b8,f8,g8,a9,b9,f9,I0 h1 hR g9,a10,b10,f10,I0 h2 hR g10,g11⟩
abbrev encF(f:FormD):Fs:=.agg [.bool f.on,.bool f.set,.bool f.oth,.bool f.bnd,.bool f.num,.bool f.rdb,.bool f.knw,.int .i64 f.clue]
def Jv{k:Int}(h:k<0\/14<=k):Cu k={}:=by
 unfold Cu;repeat rw[W6 zo]
def p280(k:Int):Pur prog 280 [.int .i64 k] (encF (Cu k)):=by
 refine .mk ⟨trivial,trivial⟩ ⟨trivial,trivial,trivial,trivial,trivial,trivial,trivial,trivial,trivial⟩ (c280.a (AF AI.tnil (AG ?_)));by_cases hk:k<0\/14<=k
 ·have hb:(decide (k<0)||decide (14<=k))=true:=by simpa using hk
  rw[Jv hk];simp only[eZ,seval,BH,c280,hb];exact Wk.refl _
 ·have hb:(decide (k<0)||decide (14<=k))=false:=by simp;omega
  simp only[eZ,seval,BH,c280,hb];have l7:k=0\/k=1\/k=2\/k=3\/k=4\/k=5\/k=6\/k=7\/k=8\/k=9\/k=10\/k=11\/k=12\/k=13:=zo
  rcases l7 with rfl|rfl|rfl|rfl|rfl|rfl|rfl|rfl|rfl|rfl|rfl|rfl|rfl|rfl<;>exact⟨zd,zd,rfl,rfl,Wk.refl _⟩
def p247(c:qw):Pur prog 247 [B7 c] (.bool (Dl c)):=by
 refine .mk ⟨EC 0 c,trivial⟩ trivial (c247.a (AF AI.tnil (AG ?_)));unfold Dl;by_cases h1:c.ty=1
 ·simp only[eZ,seval,c247,h1]
 by_cases h2:c.ty=2
 ·simp only[eZ,seval,c247,h2]
 by_cases h3:c.ty=3
 ·simp only[eZ,seval,c247,h3]
 simp only[eZ,seval,c247,h1,h2,h3]
def p208(b:Bool)(e:Int):Pur prog 208 [.bool b,.int .i64 e] (.int .i64 (if b=true then 0 else e)):=by
 refine .mk ⟨trivial,trivial,trivial⟩ trivial (c208.a (AF AI.tnil (AG ?_)));cases b<;>simp only[eZ,seval,c208]
def Tsh:Tab:=tadd 280 (s1 dI any1 λk=>encF (Cu k)) tnil
def UH:AI prog Tsh:=AI.tnil.add (q1 λk _=>p280 k)
def U2(k:Int):(Cu k).rdb=(decide (1<=k)&&decide (k<=11)):=by
 by_cases hk:k<0\/14<=k
 ·rw[Jv hk];symm;simp;omega
 ·have l7:k=0\/k=1\/k=2\/k=3\/k=4\/k=5\/k=6\/k=7\/k=8\/k=9\/k=10\/k=11\/k=12\/k=13:=zo
  rcases l7 with rfl|rfl|rfl|rfl|rfl|rfl|rfl|rfl|rfl|rfl|rfl|rfl|rfl|rfl<;>rfl
def p248(r:qz):Pur prog 248 [BV r] (.bool (Hg r)):=by
 refine .mk ⟨Ar 0 r,trivial⟩ trivial (c248.a (AF UH (AG ?_)));simp only[eE,eN,seval,c248,Tsh,s1,A0,Ah,encF,tadd];exact U2 r.kind
abbrev ruE1(r:qz)(on set oth:Bool):Bool:=on !=scmp .neq r.on []||set != !decide (r.set=0)||oth != !decide (r.oth=0)|| !on&& !decide (r.fam=0)|| !set&&decide ((0:Int)<(r.ns.length:Int))|| !oth&&decide ((0:Int)<(r.os.length:Int))
abbrev ruE2(r:qz)(bnd:Bool):Bool:=bnd !=(decide (1<=r.op)&&decide (r.op<=3))|| !bnd&& !decide (r.op=0)||decide (r.n<0)||decide (65536<r.n)
abbrev ruE3(r:qz)(bnd num:Bool):Bool:=!(num||bnd&&scmp .eql r.byN [])&& !decide (r.n=0)
def SJ{cl:List qw}{r:qz}{on set oth bnd num rdb:Bool}{clue:Int}(hf:Cu r.kind=⟨on,set,oth,bnd,num,rdb,true,clue⟩):
  Eh cl r=if ruE1 r on set oth=true then false else if ruE2 r bnd=true then false else if ruE3 r bnd num=true then false else
   if(if(bnd&&scmp .neq r.byN [])=true then 2 else clue)=0 then decide (r.byN=[])&&decide (r.clue= -1)else cluP cl r (if(bnd&&scmp .neq r.byN [])=true then 2 else clue):=by
 unfold Eh;rw[hf];have e1:∀(l:List Bs),decide ((0:Int)<(l.length:Int))=decide (0<l.length):=λl=>by
  rw[Xc,W8,W8];omega
 simp only[ruE1,ruE2,ruE3,Ap,A3,e1,ne_eq,decide_not,Bool.true_eq_false,Xo];rfl
def p246(d:zk)(r:qz):Pur prog 246 [encD d,BV r] (.bool (Eh d.clus r)):=by
 refine .mk ⟨Ab 0 d,Ar 0 r,trivial⟩ trivial (c246.a (AF UH (AG ?_)));cases hf:(Cu r.kind)with
 |mk on set oth bnd num rdb knw clue=>
 cases knw with
 |false=>
  have hR:Eh d.clus r=false:=by unfold Eh;rw[hf];rfl
  rw[hR];simp only[eZ,seval,W7,c246,Tsh,s1,A0,Ah,hf,encF,tadd]
 |true=>
 rw[SJ hf];cases h1:ruE1 r on set oth with
 |true=>
  rw[X0 rfl];simp only[eZ,seval,W3,W0,c246,Tsh,s1,A0,Ah,hf,encF,h1,tadd]
 |false=>
 rw[W6 zd];cases h2:ruE2 r bnd with
 |true=>
  rw[X0 rfl];simp only[eZ,seval,W3,W0,c246,Tsh,s1,A0,Ah,hf,encF,h1,h2,tadd]
 |false=>
 rw[W6 zd];cases h3:ruE3 r bnd num with
 |true=>
  rw[X0 rfl];simp only[eZ,seval,W3,W0,c246,Tsh,s1,A0,Ah,hf,encF,h1,h2,h3,tadd]
 |false=>
 rw[W6 zd];cases h4:(bnd&&scmp .neq r.byN [])with
 |true=>
  simp only[XG];rw[W6 zd];by_cases hc:r.clue<0\/(d.clus.length:Int)<=r.clue
  ·have o9:(decide (r.clue<0)||decide ((d.clus.length:Int)<=r.clue))=true:=by simpa using hc
   have hP:cluP d.clus r 2=false:=by unfold cluP;rw[X0 hc]
   rw[hP];simp only[eZ,seval,W3,W0,c246,Tsh,s1,A0,Ah,hf,encF,h1,h2,h3,h4,o9,tadd]
  ·have o9:(decide (r.clue<0)||decide ((d.clus.length:Int)<=r.clue))=false:=by simp;omega
   obtain⟨j,hj⟩:∃j:Nat,r.clue=(j:Int):=⟨r.clue.toNat,zo⟩;have am:j<d.clus.length:=zo
   have hg:=W2 am;generalize d.clus[j]=c at hg;have hP:cluP d.clus r 2=(decide (c.ty=2)&&(decide (2=1)||decide (c.fam=r.fam))):=by
    unfold cluP;(rw[W6 hc,hj,X1,hg])<;>rfl
   rw[hP];rw[hj]at o9;simp only[eZ,seval,W3,eY,c246,Tsh,s1,A0,Ah,hf,encF,h1,h2,h3,h4,hj,o9,lt_T am,hg,tadd]
 |false=>
  simp only[Xd,Xo];by_cases h5:clue=0
  ·rw[X0 h5];subst h5;simp only[eZ,seval,W3,W0,c246,Tsh,s1,A0,Ah,hf,encF,h1,h2,h3,h4,tadd];rw[A3]
  ·rw[W6 h5];by_cases hc:r.clue<0\/(d.clus.length:Int)<=r.clue
   ·have o9:(decide (r.clue<0)||decide ((d.clus.length:Int)<=r.clue))=true:=by simpa using hc
    have hP:cluP d.clus r clue=false:=by unfold cluP;rw[X0 hc]
    rw[hP];simp only[eZ,seval,W3,W0,c246,Tsh,s1,A0,Ah,hf,encF,h1,h2,h3,h4,Aw h5,o9,tadd]
   ·have o9:(decide (r.clue<0)||decide ((d.clus.length:Int)<=r.clue))=false:=by simp;omega
    obtain⟨j,hj⟩:∃j:Nat,r.clue=(j:Int):=⟨r.clue.toNat,zo⟩;have am:j<d.clus.length:=zo
    have hg:=W2 am;generalize d.clus[j]=c at hg;have hP:cluP d.clus r clue=(decide (c.ty=clue)&&(decide (clue=1)||decide (c.fam=r.fam))):=by
     unfold cluP;(rw[W6 hc,hj,X1,hg])<;>rfl
    rw[hP];rw[hj]at o9;simp only[eZ,seval,W3,eY,c246,Tsh,s1,A0,Ah,hf,encF,h1,h2,h3,h4,Aw h5,hj,o9,lt_T am,hg,tadd]
def Trd:Tab:=tadd 248 (s1 dRu any1 λr=>.bool (Hg r)) tnil
def Trd_ok:AI prog Trd:=AI.tnil.add (q1 λr _=>p248 r)
structure VU where
 i:Nat
 tk:jz
 H:AC
 n:Nat
structure IU(rs:List qz)(v:VU):Prop where
 hi:v.i<=rs.length
 fr:AQ v.H v.n
 hn:2<=v.n
 tok:tkG 1 1 v.H v.tk
 es:v.tk.esz=1\/BX (rs.take v.i)=[]
def IG(rs:List qz):(BX rs).length<=rs.length:=by
 unfold BX;rw[W0];exact XJ (XU ..) zw
def Gu{rs:List qz}{i:Nat}(h:i<rs.length):BX (rs.take (i+1))=BX (rs.take i)++(if Hg rs[i]=true then[]else[(i:Int)]):=by
 rw[X7,W2 h];show BX (rs.take i++[rs[i]])=_;rw[Oo,Xg,Nat.min_eq_left zo]
def p217(d:zk)(hr:few d.ruls):Pur prog 217 [encD d] (eIs (BX d.ruls)):=by
 refine .mk ⟨Ab 0 d,trivial⟩ (AR 0 _) (c217.a (AF Trd_ok (AG ?_)));have hrl:d.ruls.length<1000000000:=hr;simp only[eE,eN,seval,W0,c217];refine AL (λv:VU=>⟨[(2,true,.sl v.tk ((BX (d.ruls.take v.i)).map eI)),(6,true,eRus d.ruls),(7,true,.int .i64 d.ruls.length),(8,true,.int .i64 v.i)],v.H,v.n⟩) (IU d.ruls) (λv=>d.ruls.length-v.i)
  ⟨0,.nil,hset hnil 0 (.box (AH d)),2⟩ rfl ⟨Wz _,AQ.nil.hset (m:=2) (Wz 2) (show 0<2 by decide),W9 _,.inl rfl,.inr rfl⟩ ?_
 rintro⟨i,tk,H,n⟩ ⟨hi,c7,hn,c8,d8⟩;simp only at hi c7 hn c8 d8;by_cases c5:i<d.ruls.length
 ·have hg:=W2 c5;have e:=AE (k:=i) zo;have hu:=Gu c5;have hul:=IG (d.ruls.take i);rw[Xg]at hul;generalize d.ruls[i]=r at hg hu;cases y9:Hg r with
  |true=>
   rw[y9,X0 rfl,Xn]at hu;simp only[eZ,seval,W3,eY,lt_T c5,hg,fr1 c7,Trd,s1,Bf,A6,y9,e,AN,tadd];refine .mk ⟨i+1,tk,hset H (n+3) (.box (BQ r)),n+6⟩ ?_ ⟨c5,c7.hset (m:=n+6) zo zo,zp,c8.set (.inr (.inr (c7 _ zo))),by simp only[hu];exact d8⟩ zp;simp only[hu]
  |false=>
   rw[y9,W6 zd]at hu;have gt:tkG 1 1 (hset H (n+3) (.box (BQ r))) tk:=c8.set (.inr (.inr (c7 _ zo)));have gf:AQ (hset H (n+3) (.box (BQ r))) (n+6):=c7.hset (m:=n+6) zo zo;have q1:A8 (hset H (n+3) (.box (BQ r))) 1 tk=True:=W1 gt.app;have q2:((BX (d.ruls.take i)).length<=35184372088831)=True:=W1 zo;have q3:Aj ((BX (d.ruls.take i)).length+1) 8=True:=W1 (AZ zo zd);simp only[eZ,seval,W7,eY,lt_T c5,hg,fr1 c7,Trd,s1,Bf,A6,y9,e,AN,q1,q2,q3,tadd];refine .mk ⟨i+1,.own (n+9) 1,hset (AP (hset H (n+3) (.box (BQ r))) tk) (n+9) .tok,n+11⟩ ?_ ⟨c5,(AU gt gf).hset (m:=n+11) zo zo,zp,.inr (.inr ⟨n+9,rfl,zo,AB ..⟩),.inl rfl⟩ zp;simp only[hu,X2];rfl
 obtain rfl:i=d.ruls.length:=zo
 rw[X4]at d8;simp only[eZ,seval,lt_F c5,X4];exact Wk.sl (d8.imp id λq=>by rw[q];rfl)
def Tfm:Tab:=tadd 246 (s2 dD dRu any2 λd r=>.bool (Eh d.clus r)) (tadd 247 (s1 dCl any1 λc=>.bool (Dl c)) tnil)
def Tfm_ok:AI prog Tfm:=(AI.tnil.add (q1 λc _=>p247 c)).add (q2 λd r _=>p246 d r)
structure VM2 where
 i:Nat
 es:List (Fs×Fs×Nat)
 c:Nat
 H:AC
 n:Nat
structure IM2(d:zk)(id:Nat)(v:VM2):Prop where
 hi:v.i<=d.ruls.length
 fr:AQ v.H v.n
 hn:id<v.n
 h0:hget v.H 0=some (.box (AH d))
 hm:hget v.H id=some (.map v.es v.c)
 ct:MO (d.ruls.take v.i) v.es
 ok:d.ruls.all (Eh d.clus)=(d.ruls.drop v.i).all (Eh d.clus)
def MO.nil:MO [] []:=⟨trivial,λz=>rfl⟩
def p215(d:zk)(hd:qk d):Pur prog 215 [encD d] (.bool (Bd d)):=by
 refine .mk ⟨Ab 0 d,trivial⟩ trivial (c215.a (AF Tfm_ok (AG ?_)));have hsl:d.syms.length<1000000000:=hd.sy;have hrl:d.ruls.length<1000000000:=hd.ru;have m7:d.clus.length<1000000000:=hd.cl;simp only[eE,eN,seval,W0,c215];refine AL (λv:VF=>⟨[(1,true,.ptr 0 0),(11,true,eSys d.syms),(12,true,.int .i64 d.syms.length),(13,true,.int .i64 v.i)],v.H,v.n⟩) (λv=>v.i<=d.syms.length/\AQ v.H v.n/\2<=v.n/\hget v.H 0=some (.box (AH d))/\(d.syms.all λs=>decide (0<=s.v)&&decide (s.v<=99))=((d.syms.drop v.i).all λs=>decide (0<=s.v)&&decide (s.v<=99))) (λv=>d.syms.length-v.i)
  ⟨0,hset hnil 0 (.box (AH d)),2⟩ rfl ⟨Wz _,AQ.nil.hset (m:=2) (Wz 2) (show 0<2 by decide),W9 _,rfl,rfl⟩ ?_
 rintro⟨i,H,n⟩ ⟨hi,c7,hn,h0,d6⟩;simp only at hi c7 hn h0 d6;by_cases c5:i<d.syms.length
 ·have hg:=W2 c5;have e:=AE (k:=i) zo;rw[Xj c5,YA]at d6;generalize d.syms[i]=s at hg d6;by_cases hs:0<=s.v/\s.v<=99
  ·have hb:(decide (s.v<0)||decide (99<s.v))=false:=by simp;omega
   simp only[eZ,seval,eY,lt_T c5,hg,fr1 c7,e,AN,hb];refine .mk ⟨i+1,hset H (n+2) (.box [.str s.nm,.int .i64 s.v]),n+4⟩ rfl ⟨c5,c7.hset (m:=n+4) zo zo,zp,by simp only[];rw[AA _ _ _ _ zo];exact h0,?_⟩ zp;simp only[];rw[d6,BA hs.1,BA hs.2];rfl
  ·have hb:(decide (s.v<0)||decide (99<s.v))=true:=by simp;omega
   have hR:Bd d=false:=by
    unfold Bd;rw[d6,show(decide (0<=s.v)&&decide (s.v<=99))=false by simp;omega];rfl
   rw[hR];simp only[eZ,seval,eY,lt_T c5,hg,fr1 c7,AN,hb]
 obtain rfl:i=d.syms.length:=zo
 rw[Xv]at d6;have y0:(n=0)=False:=W4 zo;simp only[eZ,seval,xE,W0,lt_F c5,h0,fr0 c7,y0];refine AL (λv:VM2=>⟨[(1,true,.ptr 0 0),(5,true,.mp n),(28,true,eRus d.ruls),(29,true,.int .i64 d.ruls.length),(30,true,.int .i64 v.i)],v.H,v.n⟩) (IM2 d n) (λv=>d.ruls.length-v.i)
  ⟨0,[],0,hset H n (.map [] 0),n+2⟩ rfl ⟨Wz _,c7.hset (m:=n+2) zo zo,zp,by simp only[];rw[AA _ _ _ _ zo];exact h0,AB ..,MO.nil,rfl⟩ ?_
 rintro⟨k,es,c,H1,n1⟩ hI;have hk:=hI.hi;have u9:=hI.fr;have l5:=hI.hn;have l9:=hI.h0;have hm:=hI.hm;have v7:=hI.ct;have i4:=hI.ok;simp only at hk u9 l5 l9 hm v7 i4;by_cases s7:k<d.ruls.length
 ·have hg:=W2 s7;have e:=AE (k:=k) zo;have c8:d.ruls.take (k+1)=d.ruls.take k++[d.ruls[k]]:=by rw[X7,W2 s7];rfl
  rw[Xj s7,YA]at i4;have y1:∀q,(n1+q=n)=False:=λq=>W4 zo
  have y2:∀q,(n=n1+q)=False:=λq=>W4 zo
  have y3:∀q,(n1+q=0)=False:=λq=>W4 zo
  have y4:∀q,(0=n1+q)=False:=λq=>W4 zo
  generalize d.ruls[k]=r at hg i4 c8;cases hr:Eh d.clus r with
  |false=>
   have hR:Bd d=false:=by
    unfold Bd;rw[i4,hr];simp
   rw[hR];simp only[eZ,seval,W7,eY,lt_T s7,hg,Tfm,s2,A7,Al,Bf,A6,hr,l9,fr1 u9,y3,AN,tadd]
  |true=>
  rw[hr,Yc]at i4;have m7:=Ut (d.ruls.take k) r.clue;rw[Xg]at m7;have ew:=AE (k:=cntZ (d.ruls.take k) r.clue) zo;have hq:=v7.2 r.clue;simp only[eZ,seval,W3,xE,eY,lt_T s7,hg,Tfm,s2,A7,Al,Bf,A6,hr,l9,fr1 u9,y1,y3,AN,hm,v7.1,KT.is,CY,hq,e,ew,tadd];refine .mk ⟨k+1,mset (.int .i64 r.clue) (.int .i64 ((cntZ (d.ruls.take k) r.clue+1:Nat):Int)) c es,(if(BO (Fs.int IntKind.i64 r.clue) es).isSome=true then c else c+1),hset (hset H1 (n1+2) (.box (BQ r))) n (.map (mset (.int .i64 r.clue) (.int .i64 ((cntZ (d.ruls.take k) r.clue+1:Nat):Int)) c es) (if(BO (Fs.int IntKind.i64 r.clue) es).isSome=true then c else c+1)),n1+4⟩ rfl
   ⟨s7,(u9.hset (m:=n1+4) zo zo).hset (W9 (n1+4)) (show n<n1+4 by omega),zp,?_,AB ..,by simp only[];rw[c8];exact v7.next,i4⟩ zp
  simp only[];rw[AA _ _ _ _ zo,AA _ _ _ _ zo];exact l9
 obtain rfl:k=d.ruls.length:=zo
 rw[Xv]at i4;rw[X4]at v7;simp only[eZ,seval,W0,lt_F s7,l9];refine AL (λv:VF=>⟨[(5,true,.mp n),(45,true,eCls d.clus),(46,true,.int .i64 d.clus.length),(47,true,.int .i64 v.i)],v.H,v.n⟩) (λv=>v.i<=d.clus.length/\AQ v.H v.n/\n<v.n/\hget v.H n=some (.map es c)/\∀j (h:j<d.clus.length),j<v.i->EB d.ruls j=1/\Dl d.clus[j]=true) (λv=>d.clus.length-v.i)
  ⟨0,H1,n1⟩ rfl ⟨Wz _,u9,l5,hm,λj h q=>absurd q (XK _)⟩ ?_
 rintro⟨j,H2,n2⟩ ⟨hj,w8,hn2,x6,hal⟩;simp only at hj w8 hn2 x6 hal;by_cases hlj:j<d.clus.length
 ·have hg:=W2 hlj;have e:=AE (k:=j) zo;have y1:∀q,(n2+q=n)=False:=λq=>W4 zo
  have y2:∀q,(n=n2+q)=False:=λq=>W4 zo
  have hq:=v7.2 (j:Int);rw[NS]at hq;have i8:¬(EB d.ruls j=1/\Dl d.clus[j]=true)->Bd d=false:=λq=>by
   unfold Bd;rw[d6,i4];cases q1:((List.range d.clus.length).all λi=>decide (EB d.ruls i=1))with
   |false=>rfl
   |true=>
   cases q2:d.clus.all Dl with
   |false=>rfl
   |true=>exact absurd ⟨Xu (X8.1 q1 j (XH.2 hlj)),X8.1 q2 _ (X5 hlj)⟩ q
  have hnext:EB d.ruls j=1/\Dl d.clus[j]=true->∀q (h:q<d.clus.length),q<j+1->EB d.ruls q=1/\Dl d.clus[q]=true:=λz q h hq=>by
   by_cases w:q=j
   ·subst w;exact z
   ·exact hal q h zo
  generalize hx:d.clus[j]=x at hg i8 hnext;by_cases hmc:EB d.ruls j=1
  ·have hmb:(((EB d.ruls j:Nat):Int)=1)=True:=W1 zo;cases hc:Dl x with
   |false=>
    rw[i8 (by rw[hc];simp)];simp only[eZ,seval,W3,W7,xE,eY,lt_T hlj,hg,Tfm,s1,Hj,FQ,hc,fr1 w8,y1,AN,x6,v7.1,KT.is,CY,hq,hmb,tadd]
   |true=>
    simp only[eZ,seval,W3,xE,eY,lt_T hlj,hg,Tfm,s1,Hj,FQ,hc,fr1 w8,y1,AN,x6,v7.1,KT.is,CY,hq,e,hmb,tadd];refine .mk ⟨j+1,hset H2 (n2+3) (.box (B7 x).cells),n2+6⟩ rfl ⟨hlj,w8.hset (m:=n2+6) zo zo,zp,?_,hnext ⟨hmc,hc⟩⟩ zp;simp only[];rw[AA _ _ _ _ zo];exact x6
  ·have hmb:(((EB d.ruls j:Nat):Int)=1)=False:=W4 zo;rw[i8 (λq=>hmc q.1)];simp only[eZ,seval,W3,W7,xE,eY,lt_T hlj,hg,Tfm,s1,Hj,FQ,fr1 w8,y1,AN,x6,v7.1,KT.is,CY,hq,hmb,tadd]
 obtain rfl:j=d.clus.length:=zo
 have hR:Bd d=true:=by
  have z2:d.clus.all Dl=true:=X8.2 λq hq=>by
   obtain⟨m,hm,rfl⟩:=Xq.1 hq;exact(hal m hm hm).2
  unfold Bd;rw[d6,i4,X8.2 λq hq=>Xf (hal q (XH.1 hq) (XH.1 hq)).1,z2];rfl
 rw[hR];simp only[eZ,seval,lt_F hlj]
section
abbrev clV(q:Nat):Fs:=.fn (.func 278) [] [.ptr q 0]
abbrev eApp(q c:Nat):List (Nat×Bool×Fs):=[(2,true,.ptr c 0),(4,true,.sl .nil []),(6,true,clV q)]
structure AppF(q c L l':Nat)(H0:AC)(n0:Nat)(qs:List Int)(H:AC)(m:Nat):Prop where
 fr:AQ H m
 lc:n0<=c
 cl:c<L
 lm:L<m
 hc:∃lv,hget H c=some (.box [lv])/\LvG eI 1 (L+1) H lv qs
 hL:hget H L=some (.lp ⟨l',.ready,none,13,eApp q c, #[7],Ef,Eg⟩)
 kp:∀id ob,id<n0->hget H0 id=some ob->hget H id=some ob
variable {H:AC} {l:List Int} {q n:Nat}
theorem y_app{c L l':Nat}{H0:AC}{n0:Nat}{qs:List Int}{m:Nat}(F:AppF q c L l' H0 n0 qs H m)(x:Int)(hs:qs.length<1000000000){R:Bool->AC->Nat->Prop}
  (hR:∀H' m',AppF q c L l' H0 n0 (qs++[x]) H' m'->R true H' m'):Bx prog l' [eI x] H m R:=by
 obtain⟨fr,lc,cl,lm,⟨lv,hc,m5⟩,hL,kp⟩:=F;refine Uo hL rfl (AF AI.tnil (AG ?_));simp only[eE,eN,seval,Jk,renv,YH,YK,Y8,YV];refine⟨_,hL,rfl,AF AI.tnil (AG ?_)⟩;have y1:∀k,(L=m+k)=False:=λk=>W4 zo
 have y2:(L=c)=False:=W4 zo;have y3:(c=L)=False:=W4 zo;simp only[eE,seval,Jj,hc,y2];have g1:∀k,hget (hset H L (.lp ⟨l',.busy,none,13,eApp q c, #[7],Ef,Eg⟩)) (m+k)=none:=λk=>by rw[AA _ _ _ _ zo];exact fr1 fr k
 refine MP (enc:=eI) (lo:=L+1) (qs:=qs) (z0:=0) ?_ rfl zd rfl rfl (AZ zo zd) (g1 3) zo zo ?_
 ·rcases m5 with h|⟨d9,id,rest,h1,h2,h3⟩
  ·exact .inl h
  ·exact .inr ⟨d9,id,rest,h1,h2,by rw[AA _ _ _ _ zo];exact h3⟩
 intro id rest hlo d7;have hidm:id<m+5:=by
  rcases d7 with rfl|⟨Z,h⟩
  ·omega
  ·apply Classical.byContradiction;intro z;obtain⟨k,rfl⟩:∃k,id=m+k:=⟨id-m,zo⟩;rw[g1]at h;cases h
 have z1:(id=L)=False:=W4 zo;have z2:(id=c)=False:=W4 zo;have z3:(L=id)=False:=W4 zo;have z4:(c=id)=False:=W4 zo;have hidn:¬id<n0:=zo
 simp only[eE,eN,seval,EI,z2,y2,hc];refine⟨⟨l',.busy,none,13,eApp q c, #[7],Ef,Eg⟩,by simp only[AK,y3,z1,Xo,XG],hR _ _ ⟨?_,lc,cl,zp,⟨_,by simp only[AK,y2,Xo,XG],.inr ⟨zw,id,rest,rfl,hlo,by simp only[AK,z3,z4,Xo,XG]⟩⟩,by simp only[AK,XG],?_⟩⟩
 ·intro j hj;have hj':m+5<=j:=hj;simp only[AK];repeat rw[W6 zo]
  exact fr j zo
 ·intro j ob hj h0;simp only[AK];repeat rw[W6 zo]
  exact kp j ob hj h0
theorem SK(hf:AQ H n)(hq:hget H q=some (.box [eIs l]))(hl:few l):
  AO prog 303 [.sl .nil [],clV q] H n λo H' n'=>∃lv,o= .ret lv/\LvG eI 1 (n+3) H' lv l/\AQ H' n'/\n<=n'/\∀id ob,id<n->hget H id=some ob->hget H' id=some ob:=by
 have m9:l.length<1000000000:=hl;have hqn:=hf.lt hq;refine a303 (AF AI.tnil (AG ?_));simp only[eE,eN,seval,c303,fr0 hf,FG];intro l';generalize hH1:hset (hset H n (.box [.sl .nil []])) (n+2) _=H1;have hq1:hget H1 q=some (.box [eIs l]):=by
  subst hH1;simp only[AK];repeat rw[W6 zo]
  exact hq
 have F0:AppF q n (n+2) l' H n [] H1 (n+3):=by
  subst hH1;refine⟨λj hj=>?_,W9 _,zo,zo,⟨.sl .nil [],?_,.inl ⟨rfl,rfl⟩⟩,AB ..,λj ob hj h0=>?_⟩
  ·simp only[AK];repeat rw[W6 zo]
   exact hf j zo
  ·simp only[AK];rw[W6 zo,X0 trivial]
  ·simp only[AK];repeat rw[W6 zo]
   exact h0
 clear hH1;refine c278.a (AF AI.tnil (AG ?_));simp only[eE,eN,seval,W0,c278,hq1];refine AL (λv:VF=>⟨[(0,true,.fn (.yield l') [] []),(5,true,eIs l),(6,true,.int .i64 l.length),(7,true,.int .i64 v.i)],v.H,v.n⟩) (λv=>v.i<=l.length/\n+3<=v.n/\AppF q n (n+2) l' H n (l.take v.i) v.H v.n) (λv=>l.length-v.i)
  ⟨0,H1,n+3⟩ rfl ⟨Wz _,W9 _,F0⟩ ?_
 rintro⟨i,H2,m⟩ ⟨hi,hm,F⟩;simp only at hi hm F;by_cases c5:i<l.length
 ·have hg:=W2 c5;have e:=AE (k:=i) zo;have c8:l.take (i+1)=l.take i++[l[i]]:=by rw[X7,W2 c5];rfl
  generalize l[i]=x at hg c8;simp only[eZ,seval,eY,lt_T c5,hg];refine y_app F x (by rw[Xg];omega) λH' m' F'=>?_
  simp only[eZ,seval,W3,yldK,e];exact .mk ⟨i+1,H',m'⟩ rfl ⟨c5,by have:=F'.lm;simp only[];omega,by simp only[];rw[c8];exact F'⟩ zp
 obtain rfl:i=l.length:=zo
 rw[X4]at F;obtain⟨fr,lc,cl,lm,⟨lv,hc,m5⟩,hL,kp⟩:=F;have y1:(n+2=n)=False:=W4 zo;simp only[eZ,seval,lt_F c5,FF,hL,hc,y1];refine⟨lv,rfl,?_,fr.hset (W9 m) (show n+2<m by omega),zo,λid ob d7 h0=>by rw[W6 zo];exact kp id ob d7 h0⟩;rcases m5 with h|⟨d9,id,rest,h1,h2,h3⟩
 ·exact .inl h
 ·exact .inr ⟨d9,id,rest,h1,h2,by rw[AA _ _ _ _ zo];exact h3⟩
theorem t_coll(hf:AQ H n)(hq:hget H q=some (.box [eIs l]))(hl:few l):
  AO prog 277 [clV q] H n λo H' n'=>∃lv,o= .ret lv/\LvG eI 1 (n+3) H' lv l/\AQ H' n'/\n<=n'/\∀id ob,id<n->hget H id=some ob->hget H' id=some ob:=by
 refine c277.a (AF AI.tnil (AG ?_));simp only[eE,eN,seval,c277];refine(SK hf hq hl).mono ?_;rintro o H' n' ⟨lv,rfl,h1,h2,h3,h4⟩;simp only[eE,eN,seval,retK];exact⟨lv,rfl,h1,h2,h3,h4⟩
theorem LL:AO prog 221 [.sl .nil []] H n λo H' n'=>o= .ret (.tup [])/\H'=H/\n'=n:=by
 refine⟨lSort,λg w vs hR hv=>?_⟩;obtain⟨v,r,rfl,k1,k2⟩:=hv;have k2':r=[]:=k2;subst k2';have hv:∃p cap,v= .slice p 0 cap:=by
  rcases k1 with⟨-,rfl,-⟩|⟨-,b,o,cap,⟨sp,rfl,hsp⟩,hc,hst,-⟩
  ·exact⟨_,_,rfl⟩
  ·exact⟨_,_,rfl⟩
 obtain⟨p,cap,rfl⟩:=hv;refine(slices_Sort_int_none p cap w).mono ?_;rintro e w' ⟨rfl,rfl⟩;exact⟨g,.ret (.tup []),H,n,⟨rfl,rfl,rfl⟩,⟨_,rfl,rfl⟩,hR,W9 _,q8.refl _ _ _ _⟩
def SrA(ob:List Fs->zz)(H:AC)(l:List Int):j8->AC->Nat->Prop:=λo H' n'=>
 B5 H H'/\((l=[]/\o= .ret (.sl .nil []))\/l≠[]/\∃id rest,o= .ret (.ref id 1 0 l.length (l.length+rest.length))/\hget H id=none/\hget H' id=some (ob ((l.mergeSort leI++rest).map eI)))
theorem DE(l:List Int):(l.mergeSort leI).length=l.length:=List.length_mergeSort ..
theorem t_srtd(hf:AQ H n)(hq:hget H q=some (.box [eIs l]))(hl:few l):
  AO prog 242 [clV q] H n (QRet H (eIs (l.mergeSort leI))):=by
 have m9:l.length<1000000000:=hl;refine AO.out (AO.seal (R:=SrA (.arr 1) H l) (R':=SrA (.frz 1) H l) (c242.a (AF AI.tnil (AG ?_))) ?_) ?_
 ·simp only[eE,eN,seval,c242];refine(t_coll hf hq hl).mono ?_;rintro o H1 n1 ⟨lv,rfl,m5,hf1,l5,hk⟩;simp only[eE,eN,seval,retK];have hK:B5 H H1:=λid ob h0=>hk id ob (hf.lt h0) h0
  rcases m5 with⟨rfl,rfl⟩|⟨d9,id,rest,rfl,h2,h3⟩
  ·refine LL.mono ?_;rintro o H2 n2 ⟨rfl,rfl,rfl⟩;simp only[eE,eN,seval,retK];exact⟨hK,.inl ⟨rfl,rfl⟩⟩
  ·refine(NT h3 zw m9).mono ?_;rintro o H2 n2 ⟨rfl,rfl,rfl⟩;rw[Ze,List.drop_left];simp only[eE,eN,seval,retK];refine⟨λi ob h0=>?_,.inr ⟨d9,id,rest,rfl,hf _ zo,AB ..⟩⟩;rw[AA _ _ _ _ (λe=>by subst e;rw[hf _ zo]at h0;cases h0)];exact hK i ob h0
 ·rintro o H' n' ⟨hK,h⟩;rcases h with h|⟨d9,id,rest,h1,h2,h3⟩
  ·exact .inl ⟨hK,.inl h⟩
  ·refine .inr ⟨id,1,_,h3,λi ob h0=>?_,.inr ⟨d9,id,rest,h1,h2,AB ..⟩⟩;rw[AA _ _ _ _ (λe=>by subst e;rw[h2]at h0;cases h0)];exact hK i ob h0
 ·rintro o H' n' ⟨hK,h⟩;refine⟨.ret (eIs (l.mergeSort leI)),⟨⟨_,rfl,Wk.refl _⟩,hK⟩,λg w e hR he=>?_⟩;have hL:∃lv,o= .ret lv/\LF 1 lv H' ((l.mergeSort leI).map eI):=by
   rcases h with⟨rfl,rfl⟩|⟨hz,id,rest,rfl,h2,h3⟩
   ·exact⟨_,rfl,.inl ⟨zw,_,rfl,.inl rfl⟩⟩
   ·refine⟨_,rfl,?_⟩;have hl2:=DE l;refine .inr ⟨λq=>hz (by rw[List.map_eq_nil_iff]at q;rw[q]at hl2;exact XZ.1 hl2.symm),id,l.length+rest.length,rest.map eI,by rw[W0,hl2],by rw[h3,X2],by simp [hl2]⟩
  obtain⟨lv,rfl,hL⟩:=hL;cases e with
  |returned v=>exact I0 hL hR he
  |panicked c=>exact he.elim
  |outgrown=>exact he.elim
theorem t_vals(hf:AQ H n):AO prog 243 [eIs l] H n λo H' n'=>o= .ret (clV n)/\H'=hset H n (.box [eIs l])/\n'=n+2:=by
 refine c243.a (AF AI.tnil (AG ?_));simp only[eE,eN,seval,c243,fr0 hf]
end
section
abbrev srt(l:List Int):List Int:=l.mergeSort leI
def I8(ls:List (List Int))(j:Nat)(x:List Int):Bool:=((ls.take j).map srt).contains (srt x)
def SL{ls:List (List Int)}(hn:∀l∈ls,l.Nodup){j:Nat}(hj:j<ls.length)(h:I8 ls j ls[j]=true):Bo ls=true:=by
 unfold I8 at h;rw[Xs,XB]at h;obtain⟨y,hy,e⟩:=h;obtain⟨b,hb,rfl⟩:=Xq.1 hy;rw[Xg]at hb;rw[List.getElem_take]at e;refine Fi.2 ⟨j,b,hj,zo,zo,?_⟩;rw[Iw (hn _ (X5 _)) (hn _ (X5 _)),W8];exact e.symm
def O4{ls:List (List Int)}(hn:∀l∈ls,l.Nodup)(h:∀j (hj:j<ls.length),I8 ls j ls[j]=false):Bo ls=false:=by
 cases q:Bo ls with
 |false=>rfl
 |true=>
  obtain⟨a,b,ha,hb,o6,h2⟩:=Fi.1 q;rw[Iw (hn _ (X5 _)) (hn _ (X5 _)),W8]at h2;have:=h a ha;unfold I8 at this;rw[<-Zk,Xs,XB]at this;exact absurd ⟨ls[b],Xq.2 ⟨b,by rw[Xg];omega,by rw[List.getElem_take]⟩,h2.symm⟩ this
def SM(o:Option zz):Prop:=∃x:List Int,few x/\o=some (.box [eIs x])
def MY:Option zz->List Int
 |some (.box [.sl _ L])=>L.map toI
 |_=>[]
variable {x:List Int}
theorem FB(h:few x):SM (some (.box [eIs x]))=True:=W1 ⟨x,h,rfl⟩
theorem DT(x:List Int):MY (some (.box [eIs x]))=x:=As x
def sSr:List Fs->AC->Prop×Fs:=λa H=>match a with
 |[.fn (.func f) [] [.ptr q 0]]=>(f=278/\SM (hget H q),eIs (srt (MY (hget H q))))
 |_=>(False,.tup [])
theorem qSr:∀args H n,(sSr args H).1->Am prog 242 args H n (sSr args H).2:=by
 intro args H n hh;unfold sSr at hh⊢;split at hh
 ·rename_i f q;obtain⟨rfl,x,hx,h0⟩:=hh;simp only[h0,DT];exact Am.of c242.l (AR n _) λhf=>t_srtd hf h0 hx
 ·exact hh.elim
def sR1:List Fs->AC->Prop×Fs:=λa H=>match a with
 |[y,.ptr q 0]=>(dIs.ok y/\wide (dIs.dec y)/\SM (hget H q),.bool (decide (MY (hget H q)=dIs.dec y)))
 |_=>(False,.tup [])
def Teq:Tab:=tadd 103 (s2 dIs dIs (λ_ b=>wide b) (λa b=>.bool (decide (a=b)))) tnil
theorem Teq_ok:AI prog Teq:=AI.tnil.add (q2 p103)
theorem qR1:∀args H n,(sR1 args H).1->Am prog 245 args H n (sR1 args H).2:=by
 intro args H n hh;unfold sR1 at hh⊢;split at hh
 ·rename_i y q;obtain⟨h1,h2,x,hx,h0⟩:=hh;simp only[h0,DT];refine Am.of c245.l trivial λhf=>c245.a (AF Teq_ok (AG ?_))
  simp only[eE,eN,seval,c245,h0,Teq,s2,Ad,AY,W1 h1,W1 h2,tadd];exact λ_ _ h=>h
 ·exact hh.elim
abbrev clR(q:Nat):Fs:=.fn (.func 245) [] [.ptr q 0]
def Tr1:Tab:=tadd 245 sR1 tnil
theorem Tr1_ok:AI prog Tr1:=AI.tnil.add qR1
def idxL(met:List (List Int))(x:List Int):Int:=match met.findIdx? (λy=>decide (x=y))with
 |some k=>(k:Int)
 |none=>-1
theorem q_ifLi{H:AC}{n q:Nat}{met:List (List Int)}(hm:Br met)(hx:few x)(h0:hget H q=some (.box [eIs x])):Am prog 279 [eLl met,clR q] H n (.int .i64 (idxL met x)):=by
 refine Am.of c279.l trivial λhf=>c279.a (AF Tr1_ok (AG ?_))
 have hml:met.length<1000000000:=hm.1;simp only[eE,eN,seval,W0,c279];refine AL (λi:Nat=>⟨[(0,true,eLl met),(1,true,clR q),(7,true,.int .i64 met.length),(8,true,.int .i64 i)],H,n⟩) (λi=>i<=met.length/\∀j (h:j<met.length),j<i->¬x=met[j]) (λi=>met.length-i)
  0 rfl ⟨Wz _,λj _ h=>absurd h (XK _)⟩ ?_
 rintro i ⟨hi,hb⟩;by_cases c5:i<met.length
 ·have hg:=W2 c5;have e:=AE (k:=i) zo;have hyf:=hm.2 _ (X5 c5);generalize hy:met[i]=y at hg hyf;by_cases hxy:x=y
  ·have hR:idxL met x=i:=by
    unfold idxL;rw[XP.2 ⟨c5,by simpa [hy]using hxy,λj hj=>by simpa using hb j zo hj⟩]
   rw[hR];simp only[eZ,seval,eY,lt_T c5,hg,Tr1,sR1,h0,FB hx,DT,Ad,AY,W1 hyf,BA hxy,tadd];exact λ_ _ h=>h
  ·simp only[eZ,seval,eY,lt_T c5,hg,e,Tr1,sR1,h0,FB hx,DT,Ad,AY,W1 hyf,Aw hxy,tadd];refine .mk (i+1) rfl ⟨c5,λj hj h=>?_⟩ zo;by_cases z:j=i
   ·subst z;rw[hy];exact hxy
   ·exact hb j hj zo
 obtain rfl:i=met.length:=zo
 have hR:idxL met x= -1:=by
  unfold idxL;rw[YG.2 λy hy=>by
   obtain⟨j,hj,rfl⟩:=Xq.1 hy;simpa using hb j hj hj]
 rw[hR];simp only[eZ,seval,lt_F c5];exact λ_ _ h=>h
theorem idx_in(met:List (List Int))(x:List Int):decide (0<=idxL met x)=met.contains x:=by
 rw[Xc,W8,Xs];unfold idxL;cases h:met.findIdx? (λy=>decide (x=y))with
 |none=>
  rw[YG]at h;constructor
  ·intro q;simp at q
  ·intro q;have:=h x q;simp at this
 |some k=>
  obtain⟨h1,h2,-⟩:=XP.1 h;constructor
  ·intro _;have:=Xu h2;rw[this];exact X5 _
  ·intro _;simp
def sIf(f:List (List Int)->List Int->Fs):List Fs->AC->Prop×Fs:=λa H=>match a with
 |[y,.fn (.func g) [] [.ptr q 0]]=>(dLl.ok y/\Br (dLl.dec y)/\g=245/\SM (hget H q),f (dLl.dec y) (MY (hget H q)))
 |_=>(False,.tup [])
theorem q_sIf{f:List (List Int)->List Int->Fs}{i6:FuncId}(h:∀{H:AC} {n q:Nat} {met:List (List Int)} {x:List Int},Br met->few x->hget H q=some (.box [eIs x])->Am prog i6 [eLl met,clR q] H n (f met x)):∀args H n,(sIf f args H).1->Am prog i6 args H n (sIf f args H).2:=by
 intro args H n hh;unfold sIf at hh⊢;split at hh
 ·rename_i y g q;obtain⟨h1,h2,rfl,x,hx,h0⟩:=hh;simp only[h0,DT];refine AO.args (h (n:=n) h2 hx h0) ?_;rintro g vs ⟨v,r,rfl,k1,k2⟩;exact⟨v,_,rfl,dLl.wk _ h1 _ _ k1,k2⟩
 ·exact hh.elim
abbrev fIf(met:List (List Int))(x:List Int):Fs:=.int .i64 (idxL met x)
abbrev fCf(met:List (List Int))(x:List Int):Fs:=.bool (met.contains x)
def Tr2:Tab:=tadd 279 (sIf fIf) tnil
theorem Tr2_ok:AI prog Tr2:=AI.tnil.add (q_sIf λh1 h2 h3=>q_ifLi h1 h2 h3)
theorem O5{t:jz}{l:List (List Int)}(ht:t.esz=1\/l=[]):dLl.ok (.sl t (l.map eIs))=True:=Hl Dv ht
theorem MZ{t:jz}(l:List (List Int)):dLl.dec (.sl t (l.map eIs))=l:=FT Dv
theorem q_cfLi{H:AC}{n q:Nat}{met:List (List Int)}(hm:Br met)(hx:few x)(h0:hget H q=some (.box [eIs x])):Am prog 244 [eLl met,clR q] H n (fCf met x):=by
 refine Am.of c244.l trivial λhf=>c244.a (AF Tr2_ok (AG ?_))
 simp only[eE,eN,seval,c244,Tr2,sIf,h0,FB hx,DT,CQ,Bm,W1 hm,idx_in,tadd];exact λ_ _ h=>h
def Trg:Tab:=tadd 150 (s2 dGd dLl (λg l=>Ai g.sh g.w g.h g.holes=some g.cells/\few g.holes/\Br l) λg l=>rgsV g.cells l) (tadd 244 (sIf fCf) (tadd 242 sSr tnil))
theorem Trg_ok:AI prog Trg:=((AI.tnil.add qSr).add (q_sIf λh1 h2 h3=>q_cfLi h1 h2 h3)).add (q2 λg l h=>p150 g l h.1 h.2.1 h.2.2)
structure VRm where
 j:Nat
 tk:jz
 H:AC
 n:Nat
structure IRm(g:j9)(r:zj)(v:VRm):Prop where
 hj:v.j<=r.ls.length
 fr:AQ v.H v.n
 hn:3<=v.n
 h1:hget v.H 1=some (.box (AD g.sh g.w g.h g.holes g.cells))
 tok:tkG 1 2 v.H v.tk
 es:v.tk.esz=1\/(r.ls.take v.j).map srt=[]
 no:∀k (hk:k<r.ls.length),k<v.j->I8 r.ls k r.ls[k]=false
theorem p213(d:zk)(g:j9)(hd:qk d)(hG:Ai g.sh g.w g.h g.holes=some g.cells)(hh:few g.holes):Pur prog 213 [encD d,B0 g] (.int .i64 (C7 g.cells d.regs)):=by
 refine .mk ⟨Ab 0 d,Aq 0 ..,trivial⟩ trivial (c213.a (AF Trg_ok (AG ?_)));have hrl:d.regs.length<1000000000:=hd.rg;simp only[eE,eN,seval,W0,c213];refine AL (λv:VF=>⟨[(3,true,.ptr 1 0),(14,true,eRgs d.regs),(15,true,.int .i64 d.regs.length),(16,true,.int .i64 v.i)],v.H,v.n⟩) (λv=>v.i<=d.regs.length/\AQ v.H v.n/\3<=v.n/\hget v.H 1=some (.box (AD g.sh g.w g.h g.holes g.cells))/\C7 g.cells d.regs=C7 g.cells (d.regs.drop v.i)) (λv=>d.regs.length-v.i)
  ⟨0,hset (hset hnil 0 (.box (AH d))) 1 (.box (AD g.sh g.w g.h g.holes g.cells)),3⟩ rfl ⟨Wz _,(AQ.nil.hset (m:=3) (Wz 3) (show 0<3 by decide)).hset (W9 3) (show 1<3 by decide),W9 _,rfl,rfl⟩ ?_
 rintro⟨i,H,n⟩ ⟨hi,c7,hn,h1,heq⟩;simp only at hi c7 hn h1 heq;by_cases c5:i<d.regs.length;case neg=>
  obtain rfl:i=d.regs.length:=zo
  rw[Xv]at heq;rw[heq];simp only[eZ,seval,lt_F c5];rfl
 have hg:=W2 c5;have e:=AE (k:=i) zo;have hrf:MQ d.regs[i]:=hd.rgs _ (X5 c5);rw[K5 _ _ _ c5]at heq;generalize d.regs[i]=r at hg hrf heq;have y1:∀q,(n+q=1)=False:=λq=>W4 zo
 have hc:=W1 (⟨hG,hh,hrf⟩:Ai g.sh g.w g.h g.holes=some g.cells/\few g.holes/\Br r.ls);by_cases hb:(decide (r.ls.length<=64)&&r.ls.all (De g.cells))=true;case neg=>
  have hv:rgsV g.cells r.ls= .tup [eLl [],.int .i64 130]:=W6 hb;have hE:regE g.cells r=130:=X0 (by simpa using hb);rw[hE,W6 zd]at heq;rw[heq];simp only[eZ,seval,W7,eY,lt_T c5,hg,fr1 c7,h1,y1,Trg,s2,E5,Cx,CQ,Bm,hc,hv,tadd]
 have hv:rgsV g.cells r.ls= .tup [eLl (r.ls.map (BP g.cells)),.int .i64 0]:=X0 hb;obtain⟨hb1,k9⟩:=(W5 _ _).mp hb;have hb1:=Xu hb1;have hnd:∀l∈r.ls,l.Nodup:=λl hl=>(Ei (X8.1 k9 l hl)).1
 have hregE:regE g.cells r=if Bo r.ls=true then 161 else 0:=by unfold regE;rw[hb,W6 zd]
 simp only[eZ,seval,W3,eY,lt_T c5,hg,fr1 c7,h1,y1,Trg,s2,E5,Cx,CQ,Bm,hc,hv,AN,tadd];refine AL (λv:VRm=>⟨[(3,true,.ptr 1 0),(9,true,.sl v.tk (((r.ls.take v.j).map srt).map eIs)),(14,true,eRgs d.regs),(15,true,.int .i64 d.regs.length),(16,true,.int .i64 i),(31,true,eLl r.ls),(32,true,.int .i64 r.ls.length),(33,true,.int .i64 v.j)],v.H,v.n⟩) (IRm g r) (λv=>r.ls.length-v.j)
  ⟨0,.nil,hset H (n+2) (.box [.str r.nm,eLl r.ls]),n+4⟩ rfl ⟨Wz _,c7.hset (m:=n+4) zo zo,zp,by simp only[];rw[AA _ _ _ _ zo];exact h1,.inl rfl,.inr rfl,λk _ h=>absurd h (XK _)⟩ ?_
 rintro⟨j,tk,H1,n1⟩ hI;have hj:=hI.hj;have hf1:=hI.fr;have l5:=hI.hn;have h11:=hI.h1;have c8:=hI.tok;have d8:=hI.es;have i5:=hI.no;simp only at hj hf1 l5 h11 c8 d8 i5;by_cases hlj:j<r.ls.length
 ·have hgj:=W2 hlj;have ej:=AE (k:=j) zo;have hlf:few r.ls[j]:=by
   obtain⟨q1,-,q3⟩:=Ei (X8.1 k9 _ (X5 hlj));have h1:=Hr q1 q3;have h2:=(Ax hG).2.1;show r.ls[j].length<_;omega
  have hmt:=map_take (f:=srt) hlj;have hhit:=λq=>SL hnd hlj q
  have hnx:I8 r.ls j r.ls[j]=false->∀k (hk:k<r.ls.length),k<j+1->I8 r.ls k r.ls[k]=false:=λq k hk h=>by
   by_cases z:k=j
   ·subst z;exact q
   ·exact i5 k hk zo
  generalize r.ls[j]=l at hgj hlf hmt hhit hnx;have hmf:Br ((r.ls.take j).map srt):=⟨show((r.ls.take j).map srt).length<_ by rw[W0,Xg];omega,λx hx=>by
   obtain⟨y,hy,rfl⟩:=XB.1 hx;show(srt y).length<_;rw[DE];exact hrf.2 _ (Zh hy)⟩
  have hsf:few (srt l):=show(srt l).length<_ by rw[DE];exact hlf
  have z1:∀q,(n1+q=1)=False:=λq=>W4 zo
  have hmb:((r.ls.take j).map srt).contains (srt l)=I8 r.ls j l:=rfl;simp only[eZ,seval,eY,lt_T hlj,hgj];refine(t_vals (n:=n1+5) λj hj=>hf1 j zo).mono ?_;rintro o H2 n2 ⟨rfl,rfl,rfl⟩;cases hb3:I8 r.ls j l with
  |true=>
   rw[hregE,hhit hb3,X0 rfl,W6 zd]at heq;rw[heq];simp only[eZ,seval,retK,Trg,sSr,FB hlf,DT,fr1 hf1,sIf,FB hsf,O5 d8,MZ,W1 hmf,hmb,hb3,AN,tadd]
  |false=>
   have gt:tkG 1 2 (hset (hset H1 (n1+5) (.box [eIs l])) (n1+3) (.box [eIs (srt l)])) tk:=(c8.set (.inr (.inr (fr1 hf1 5)))).set (.inr (.inr (by rw[AA _ _ _ _ zo];exact fr1 hf1 3)));have gf:AQ (hset (hset H1 (n1+5) (.box [eIs l])) (n1+3) (.box [eIs (srt l)])) (n1+12):=(hf1.hset (m:=n1+12) zo zo).hset (m:=n1+12) zo zo;have q1:A8 (hset (hset H1 (n1+5) (.box [eIs l])) (n1+3) (.box [eIs (srt l)])) 1 tk=True:=W1 gt.app;have q2:((r.ls.take j).length<=35184372088831)=True:=W1 (by rw[Xg];omega);have q3:Aj ((r.ls.take j).length+1) 24=True:=W1 (AZ (by rw[Xg];omega) zd);simp only[eZ,seval,W0,retK,Trg,sSr,FB hlf,DT,fr1 hf1,sIf,FB hsf,O5 d8,MZ,W1 hmf,hmb,hb3,AN,q2,q3,q1,ej,tadd];refine .mk ⟨j+1,.own (n1+10) 1,hset (AP (hset (hset H1 (n1+5) (.box [eIs l])) (n1+3) (.box [eIs (srt l)])) tk) (n1+10) .tok,n1+12⟩ ?_ ⟨hlj,(AU gt gf).hset (W9 _) (show n1+10<n1+12 by omega),zp,?_,.inr (.inr ⟨n1+10,rfl,zo,AB ..⟩),.inl rfl,hnx hb3⟩ zp
   ·simp only[hmt,X2];rfl
   ·simp only[];rw[AA _ _ _ _ zo,AW gt (.inl zo),AA _ _ _ _ zo,AA _ _ _ _ zo];exact h11
 obtain rfl:j=r.ls.length:=zo
 rw[hregE,O4 hnd λj hj=>i5 j hj hj]at heq;simp only[eZ,seval,lt_F hlj,e];exact .mk ⟨i+1,H1,n1⟩ rfl ⟨c5,hf1,l5,h11,heq⟩ zp
end
section
def whn(b:Bool)(e:Int):Int:=if b=true then 0 else e
def Nm(d:zk):Int:=whn (limD d) 2
def LM(d:zk):Int:=match resD d with
 | .error e=>e
 | .ok x=>whn (decide (x=d)) 170
def Nn(d:zk):Int:=whn (decide (1<=d.ver)&&decide (d.ver<=255)) 170
def No(d:zk):Int:=match Ai d.sh d.w d.h d.holes with
 |some _=>0
 |none=>130
def Np(d:zk):Int:=whn (Bd d) 170
def O6(d:zk):Int:=whn (decide (BX d.ruls=[])) 171
def ER{d:zk}{e:Int}(h:resD d= .error e):e≠0:=by
 unfold resD at h
 rintro rfl
 repeat' split at h
 all_goals simp at h
def dB:Dc Bool:=⟨.bool,toB,λv=>match v with| .bool _=>True|_=>False,λv h=>by
 cases v<;>first|exact Wk.refl _|exact h.elim⟩
theorem O7(b:Bool):dB.ok (.bool b)=True:=rfl
theorem Jw(b:Bool):dB.dec (.bool b)=b:=rfl
def Tst:Tab:=tadd 208 (s2 dB dI any2 λb e=>.int .i64 (whn b e)) (tadd 145 (s1 dD qk CA) (tadd 104 (s2 dD dD (λ_ b=>qk b) λa b=>.bool (decide (a=b))) (tadd 215 (s1 dD qk λd=>.bool (Bd d)) (tadd 217 (s1 dD qk λd=>eIs (BX d.ruls)) (tadd 213 (s2 dD dGd (λd g=>qk d/\Ai g.sh g.w g.h g.holes=some g.cells/\few g.holes) λd g=>.int .i64 (C7 g.cells d.regs)) tnil)))))
def IH:AI prog Tst:=(((((AI.tnil.add (q2 λd g h=>p213 d g h.1 h.2.1 h.2.2)).add (q1 λd h=>p217 d h.ru)).add (q1 λd h=>p215 d h)).add (q2 λa b h=>p104 a b h)).add (q1 λd h=>p145 d h)).add (q2 λb e _=>p208 b e)
def UI{H:AC}{n i:Nat}(hf:AQ H n)(hi:n<=i)(a b:zz):B5 H (hset (hset H i a) i b):=λid ob h=>by
 have:=hf.lt h;rw[AA _ _ _ _ zo,AA _ _ _ _ zo];exact h
def SN(d:zk):(decide ((0:Int)<d.syms.length)&&decide ((d.syms.length:Int)<=16)&&decide ((d.regs.length:Int)<=4)&&decide ((d.clus.length:Int)<=4)&&decide ((d.ruls.length:Int)<=16))=limD d:=by
 rw[Xc];simp [limD];omega
def U3(l:List Int):decide ((l.length:Int)=0)=decide (l=[]):=by
 cases l<;>simp;omega
variable {d:zk} {H:AC} {n q:Nat}
theorem u1(hd:qk d)(h0:hget H q=some (.box (AH d))):Am prog 207 [.ptr q 0] H n (.int .i64 (Nm d)):=by
 refine Am.of c207.l trivial λhf=>c207.a (AF IH (AG ?_))
 simp only[eZ,seval,W0,c207,h0,Tst,s2,O7,Jw,A0,Ah,SN,tadd];exact⟨rfl,λ_ _ h=>h⟩
theorem u2(hd:qk d)(h0:hget H q=some (.box (AH d))):Am prog 209 [.ptr q 0] H n (.int .i64 (LM d)):=by
 refine Am.of c209.l trivial λhf=>c209.a (AF IH (AG ?_))
 have hq:=hf.lt h0;have y1:∀k,(n+k=q)=False:=λk=>W4 zo
 unfold LM;cases hr:resD d with
 |error e=>
  have hv:CA d= .tup [encD dcl0,.int .i64 e]:=by unfold CA;rw[hr]
  have he:(e=0)=False:=W4 (ER hr);simp only[eZ,seval,W7,eY,c209,h0,Tst,s1,A7,Al,W1 hd,hv,fr1 hf,he,tadd];exact UI hf zo _ _
 |ok x=>
  have hv:CA d= .tup [encD x,.int .i64 0]:=by unfold CA;rw[hr]
  simp only[eZ,seval,W3,eY,c209,h0,Tst,s1,s2,A7,Al,W1 hd,hv,fr1 hf,y1,O7,Jw,A0,Ah,tadd];exact UI hf zo _ _
theorem u3(h0:hget H q=some (.box (AH d))):Am prog 210 [.ptr q 0] H n (.int .i64 (Nn d)):=by
 refine Am.of c210.l trivial λhf=>c210.a (AF IH (AG ?_))
 simp only[eZ,seval,c210,h0,Tst,s2,O7,Jw,A0,Ah,tadd];exact⟨rfl,λ_ _ h=>h⟩
theorem u6(hd:qk d)(h0:hget H q=some (.box (AH d))):Am prog 214 [.ptr q 0] H n (.int .i64 (Np d)):=by
 refine Am.of c214.l trivial λhf=>c214.a (AF IH (AG ?_))
 simp only[eE,eN,seval,c214,h0,Tst,s1,s2,O7,Jw,A0,Ah,A7,Al,W1 hd,tadd];exact⟨rfl,λ_ _ h=>h⟩
theorem u7(hd:qk d)(h0:hget H q=some (.box (AH d))):Am prog 216 [.ptr q 0] H n (.int .i64 (O6 d)):=by
 refine Am.of c216.l trivial λhf=>c216.a (AF IH (AG ?_))
 simp only[eE,eN,seval,W0,c216,h0,Tst,s1,s2,O7,Jw,A0,Ah,A7,Al,W1 hd,U3,tadd];exact⟨rfl,λ_ _ h=>h⟩
theorem u5{g:j9}{q':Nat}(hd:qk d)(hG:Ai g.sh g.w g.h g.holes=some g.cells)(hh:few g.holes)(h0:hget H q=some (.box (AH d)))(h1:hget H q'=some (.box (AD g.sh g.w g.h g.holes g.cells))):Am prog 212 [.ptr q 0,.ptr q' 0] H n (.int .i64 (C7 g.cells d.regs)):=by
 refine Am.of c212.l trivial λhf=>c212.a (AF IH (AG ?_))
 simp only[eE,eN,seval,c212,h0,h1,Tst,s2,E5,Cx,A7,Al,W1 hd,hG,W1 hh,tadd];exact λ_ _ h=>h
abbrev gr0:List Fs:=[.int .i64 0,.int .i64 0,.int .i64 0,.sl .nil [],.sl .nil []]
def Tmc:Tab:=tadd 147 (λa H=>match a with
 |[.int .i64 sh,.int .i64 w,.int .i64 h,x]=>(dIs.ok x/\few (dIs.dec x),BK sh w h (dIs.dec x))
 |_=>(False,.tup [])) tnil
theorem Tmc_ok:AI prog Tmc:=AI.tnil.add Uw
theorem u4{q':Nat}(d9:q≠q')(hh:few d.holes)(h0:hget H q=some (.box (AH d)))(h1:hget H q'=some (.box gr0)):
  AO prog 211 [.ptr q 0,.ptr q' 0] H n λo H' n'=>o= .ret (.int .i64 (No d))/\n'=n/\∃cs,H'=hset H q' (.box cs)/\∀cells,Ai d.sh d.w d.h d.holes=some cells->cs=AD d.sh d.w d.h d.holes cells:=by
 refine c211.a (AF Tmc_ok (AG ?_));unfold No;cases hc:Ai d.sh d.w d.h d.holes with
 |none=>
  have hv:BK d.sh d.w d.h d.holes= .tup [encG 0 0 0 [] [],.int .i64 130]:=by unfold BK;rw[hc]
  simp only[eE,eN,seval,eY,c211,h0,h1,Tmc,Ad,AY,W1 hh,hv,tadd];exact⟨_,rfl⟩
 |some cells=>
  have hv:BK d.sh d.w d.h d.holes= .tup [encG d.sh d.w d.h d.holes cells,.int .i64 0]:=by unfold BK;rw[hc]
  simp only[eE,eN,seval,eY,c211,h0,h1,Tmc,Ad,AY,W1 hh,hv,tadd];exact⟨_,rfl,λc h=>by cases h;rfl⟩
end
theorem O8(d:zk):chkD d=if Nm d≠0 then Nm d else if LM d≠0 then LM d else if Nn d≠0 then Nn d else match Ai d.sh d.w d.h d.holes with
  |none=>130
  |some cells=>if C7 cells d.regs≠0 then C7 cells d.regs else if Np d≠0 then Np d else O6 d:=by
 unfold chkD Nm LM Nn Np O6;cases limD d with
 |false=>rfl
 |true=>
 cases hr:resD d with
 |error e=>simp [whn,ER hr]
 |ok x=>
 by_cases hx:x=d
 ·by_cases hv:d.ver<1\/255<d.ver
  ·have:(decide (1<=d.ver)&&decide (d.ver<=255))=false:=by simp;omega
   simp [whn,hx,hv,this]
  ·have:(decide (1<=d.ver)&&decide (d.ver<=255))=true:=by simp;omega
   cases hc:Ai d.sh d.w d.h d.holes with
   |none=>simp [whn,hx,hv,this]
   |some cells=>
    cases Bd d<;>by_cases hu:BX d.ruls=[]<;>simp [whn,hx,hv,this,hu]
 ·simp [whn,hx]
abbrev stA:List Fs:=[.fn (.func 207) [] [.ptr 0 0],.fn (.func 209) [] [.ptr 0 0],.fn (.func 210) [] [.ptr 0 0],.fn (.func 211) [] [.ptr 0 0,.ptr 2 0],.fn (.func 212) [] [.ptr 0 0,.ptr 2 0],.fn (.func 214) [] [.ptr 0 0],.fn (.func 216) [] [.ptr 0 0]]
structure IChk(d:zk)(v:VF):Prop where
 hi:v.i<=7
 h0:hget v.H 0=some (.box (AH d))
 z1:0<v.i->Nm d=0
 z2:1<v.i->LM d=0
 z3:2<v.i->Nn d=0
 g0:v.i<=3->hget v.H 2=some (.box gr0)
 z4:3<v.i->∃cells,Ai d.sh d.w d.h d.holes=some cells/\hget v.H 2=some (.box (AD d.sh d.w d.h d.holes cells))/\(4<v.i->C7 cells d.regs=0)
 z6:5<v.i->Np d=0
 z7:6<v.i->O6 d=0
def p146(d:zk)(hd:qk d):Pur prog 146 [encD d] (.int .i64 (chkD d)):=by
 refine .mk ⟨Ab 0 d,trivial⟩ trivial (c146.a (AF AI.tnil (AG ?_)));simp only[eE,eN,seval,c146];have h7:((7:Nat):Int)=7:=rfl;refine AL (λv:VF=>⟨[(14,true,.sl (.exact 1) stA),(15,true,.int .i64 7),(16,true,.int .i64 v.i)],v.H,v.n⟩) (IChk d) (λv=>7-v.i)
  ⟨0,hset (hset hnil 0 (.box (AH d))) 2 (.box gr0),3⟩ rfl ⟨Wz _,rfl,λh=>absurd h (XK _),λh=>absurd h (XK _),λh=>absurd h (XK _),λ_=>rfl,λh=>absurd h (XK _),λh=>absurd h (XK _),λh=>absurd h (XK _)⟩ ?_
 rintro⟨i,H,n⟩ hI;obtain⟨hi,h0,z1,z2,z3,g0,z4,z6,z7⟩:=hI;simp only at hi h0 z1 z2 z3 g0 z4 z6 z7;have hS:=O8 d;by_cases c5:i<7;case neg=>
  obtain⟨cells,hc,-,hr⟩:=z4 zo;have hlF:((i:Int)<7)=False:=W4 zo;simp only[z1 zo,z2 zo,z3 zo,hc,hr zo,z6 zo,z7 zo,ne_eq,YE,Xo]at hS;rw[hS];simp only[eZ,seval,hlF]
 have hlT:((i:Int)<7)=True:=W1 zo;have hlN:((i:Int)<((7:Nat):Int))=True:=hlT;have e:=AE (k:=i) zo;have h8:i=0\/i=1\/i=2\/i=3\/i=4\/i=5\/i=6:=zo
 rcases h8 with h8|h8|h8|h8|h8|h8|h8
 ·have hg:stA[i]?=some (.fn (.func 207) [] [.ptr 0 0]):=by rw[h8];rfl
  have hl7:i<stA.length:=c5;simp only[eZ,seval,X6,X1,X3,hlT,hlN,hg];refine(u1 hd h0).mono ?_;rintro o H' n' ⟨rfl,rfl,rfl⟩;by_cases hz:Nm d=0
  ·rw[hz];simp only[eZ,seval,W3,retK,e];exact .mk ⟨i+1,H',n'⟩ rfl ⟨c5,h0,λ_=>hz,λh=>absurd h zp,λh=>absurd h zp,λ_=>g0 zo,λh=>absurd h zp,λh=>absurd h zp,λh=>absurd h zp⟩ zp
  ·rw[X0 hz]at hS;rw[hS];simp only[eZ,seval,W7,retK,W4 hz]
 ·have hg:stA[i]?=some (.fn (.func 209) [] [.ptr 0 0]):=by rw[h8];rfl
  have hl7:i<stA.length:=c5;simp only[eZ,seval,X6,X1,X3,hlT,hlN,hg];refine(u2 hd h0).mono ?_;rintro o H' n' ⟨rfl,rfl,rfl⟩;simp only[z1 zo,ne_eq,YE,Xo]at hS;by_cases hz:LM d=0
  ·rw[hz];simp only[eZ,seval,W3,retK,e];exact .mk ⟨i+1,H',n'⟩ rfl ⟨c5,h0,λ_=>z1 zo,λ_=>hz,λh=>absurd h zp,λ_=>g0 zo,λh=>absurd h zp,λh=>absurd h zp,λh=>absurd h zp⟩ zp
  ·rw[X0 hz]at hS;rw[hS];simp only[eZ,seval,W7,retK,W4 hz]
 ·have hg:stA[i]?=some (.fn (.func 210) [] [.ptr 0 0]):=by rw[h8];rfl
  have hl7:i<stA.length:=c5;simp only[eZ,seval,X6,X1,X3,hlT,hlN,hg];refine(u3 h0).mono ?_;rintro o H' n' ⟨rfl,rfl,rfl⟩;simp only[z1 zo,z2 zo,ne_eq,YE,Xo]at hS;by_cases hz:Nn d=0
  ·rw[hz];simp only[eZ,seval,W3,retK,e];exact .mk ⟨i+1,H',n'⟩ rfl ⟨c5,h0,λ_=>z1 zo,λ_=>z2 zo,λ_=>hz,λ_=>g0 zo,λh=>absurd h zp,λh=>absurd h zp,λh=>absurd h zp⟩ zp
  ·rw[X0 hz]at hS;rw[hS];simp only[eZ,seval,W7,retK,W4 hz]
 ·have hg:stA[i]?=some (.fn (.func 211) [] [.ptr 0 0,.ptr 2 0]):=by rw[h8];rfl
  have hl7:i<stA.length:=c5;simp only[eZ,seval,X6,X1,X3,hlT,hlN,hg];refine(u4 zd hd.ho h0 (g0 zo)).mono ?_;rintro o H' n' ⟨rfl,rfl,cs,rfl,t5⟩;have s6:hget (hset H 2 (.box cs)) 0=some (.box (AH d)):=by rw[AA _ _ _ _ zd];exact h0
  simp only[z1 zo,z2 zo,z3 zo,ne_eq,YE,Xo]at hS;cases hc:Ai d.sh d.w d.h d.holes with
  |none=>
   have hs4:No d=130:=by unfold No;rw[hc]
   rw[hc]at hS;rw[hS,hs4];simp only[eZ,seval,W7,retK]
  |some cells=>
   have hs4:No d=0:=by unfold No;rw[hc]
   rw[hs4];simp only[eZ,seval,W3,retK,e];refine .mk ⟨i+1,hset H 2 (.box cs),n'⟩ rfl ⟨c5,s6,λ_=>z1 zo,λ_=>z2 zo,λ_=>z3 zo,λh=>absurd h zp,λ_=>⟨cells,hc,by simp only[];rw[AB,t5 cells hc],λh=>absurd h zp⟩,λh=>absurd h zp,λh=>absurd h zp⟩ zp
 ·have hg:stA[i]?=some (.fn (.func 212) [] [.ptr 0 0,.ptr 2 0]):=by rw[h8];rfl
  have hl7:i<stA.length:=c5;obtain⟨cells,hc,hg2,hr⟩:=z4 zo;simp only[eZ,seval,X6,X1,X3,hlT,hlN,hg];refine(u5 (g:=⟨d.sh,d.w,d.h,d.holes,cells⟩) hd hc hd.ho h0 hg2).mono ?_;rintro o H' n' ⟨rfl,rfl,rfl⟩;simp only[z1 zo,z2 zo,z3 zo,hc,ne_eq,YE,Xo]at hS;by_cases hz:C7 cells d.regs=0
  ·rw[hz];simp only[eZ,seval,W3,retK,e];exact .mk ⟨i+1,H',n'⟩ rfl ⟨c5,h0,λ_=>z1 zo,λ_=>z2 zo,λ_=>z3 zo,λh=>absurd h zp,λ_=>⟨cells,hc,hg2,λ_=>hz⟩,λh=>absurd h zp,λh=>absurd h zp⟩ zp
  ·rw[X0 hz]at hS;rw[hS];simp only[eZ,seval,W7,retK,W4 hz]
 ·have hg:stA[i]?=some (.fn (.func 214) [] [.ptr 0 0]):=by rw[h8];rfl
  have hl7:i<stA.length:=c5;obtain⟨cells,hc,hg2,hr⟩:=z4 zo;simp only[eZ,seval,X6,X1,X3,hlT,hlN,hg];refine(u6 hd h0).mono ?_;rintro o H' n' ⟨rfl,rfl,rfl⟩;simp only[z1 zo,z2 zo,z3 zo,hc,hr zo,ne_eq,YE,Xo]at hS;by_cases hz:Np d=0
  ·rw[hz];simp only[eZ,seval,W3,retK,e];exact .mk ⟨i+1,H',n'⟩ rfl ⟨c5,h0,λ_=>z1 zo,λ_=>z2 zo,λ_=>z3 zo,λh=>absurd h zp,λ_=>⟨cells,hc,hg2,λ_=>hr zo⟩,λ_=>hz,λh=>absurd h zp⟩ zp
  ·rw[X0 hz]at hS;rw[hS];simp only[eZ,seval,W7,retK,W4 hz]
 ·have hg:stA[i]?=some (.fn (.func 216) [] [.ptr 0 0]):=by rw[h8];rfl
  have hl7:i<stA.length:=c5;obtain⟨cells,hc,hg2,hr⟩:=z4 zo;simp only[eZ,seval,X6,X1,X3,hlT,hlN,hg];refine(u7 hd h0).mono ?_;rintro o H' n' ⟨rfl,rfl,rfl⟩;simp only[z1 zo,z2 zo,z3 zo,hc,hr zo,z6 zo,ne_eq,YE,Xo]at hS;by_cases hz:O6 d=0
  ·rw[hz];simp only[eZ,seval,W3,retK,e];exact .mk ⟨i+1,H',n'⟩ rfl ⟨c5,h0,λ_=>z1 zo,λ_=>z2 zo,λ_=>z3 zo,λh=>absurd h zp,λ_=>⟨cells,hc,hg2,λ_=>hr zo⟩,λ_=>z6 zo,λ_=>hz⟩ zp
  ·rw[hS];simp only[eZ,seval,W7,retK,W4 hz]
structure z8 where
 d:zk
 g:j9
 nb:List (List Int)
 ls:List (List (List Int))
 deriving DecidableEq
def At(x:zk)(cells:List Int):j9:=⟨x.sh,x.w,x.h,x.holes,cells⟩
def U4(x:zk)(cells:List Int):z8:=
 ⟨x,At x cells,nbsS x.sh (AT x.sh x.w cells),((List.range 8).map λf=>famS x.sh x.w x.h (AT x.sh x.w cells) f)++x.regs.map λr=>r.ls.map (BP cells)⟩
def DU(d:zk):Except Int z8:=match resD d with
 | .error e=>.error e
 | .ok x=>if chkD x≠0 then .error (chkD x)else match Ai x.sh x.w x.h x.holes with
  |none=>.error 130
  |some cells=>.ok (U4 x cells)
def Gv(k:z8):Bool:=match DU k.d with
 | .ok x=>decide (k=x)
 | .error _=>false
def BG(k:z8):Int:=if Gv k then 0 else 180
def Ma{k:z8}(h:Gv k=true):DU k.d= .ok k:=by grind [Gv]
def Mb{x:zk}(h:chkD x=0):∃cells,Ai x.sh x.w x.h x.holes=some cells:=by
 unfold chkD at h;split at h
 ·cases h
 ·split at h
  ·rename_i e he;have:=ER he;exact absurd h this
  ·grind
def I9{d:zk}{k:z8}(h:DU d= .ok k):∃x cells,resD d= .ok x/\chkD x=0/\Ai x.sh x.w x.h x.holes=some cells/\k=U4 x cells:=by grind [DU]
def p130W(a b:List Int)(ha:wide a):Pur prog 130 [eIs a,eIs b] (.bool (decide (a=b))):=by
 refine .mk ⟨AR 0 _,AR 0 _,trivial⟩ trivial (c130.a (AF AI.tnil (AG ?_)));have hal:a.length<1125899906842624:=ha;by_cases hl:a.length=b.length;case neg=>
  have hR:decide (a=b)=false:=X9 λq=>hl (by rw[q])
  have hq:((a.length:Int)=(b.length:Int))=False:=W4 zo;rw[hR];simp only[eZ,seval,W7,W0,c130,hq]
 have hq:((a.length:Int)=(b.length:Int))=True:=W1 zo;simp only[eZ,seval,W3,W0,c130,hq];refine AL (λi:Nat=>⟨[(0,true,eIs a),(1,true,eIs b),(5,true,.int .i64 i)],hnil,0⟩) (λi=>i<=a.length/\a.take i=b.take i) (λi=>a.length-i) 0 rfl ⟨Wz _,rfl⟩ ?_;rintro i ⟨hi,c8⟩;by_cases c5:i<a.length
 ·have hltb:i<b.length:=zo
  have hg:=W2 c5;have hgb:=W2 hltb;have e:=AE (k:=i) zo;have ta:a.take (i+1)=a.take i++[a[i]]:=by rw[X7,hg];rfl
  have tb:b.take (i+1)=b.take i++[b[i]]:=by rw[X7,hgb];rfl
  generalize a[i]=x at hg ta;generalize b[i]=y at hgb tb;by_cases hxy:x=y
  ·simp only[eZ,seval,W3,eY,lt_T c5,lt_T hltb,hg,hgb,e,hxy];exact .mk (i+1) rfl ⟨c5,by rw[ta,tb,c8,hxy]⟩ zo
  ·have hR:decide (a=b)=false:=X9 λq=>hxy (by rw[q]at hg;rw[hg]at hgb;exact Option.some.inj hgb)
   rw[hR];simp only[eZ,seval,W7,eY,lt_T c5,lt_T hltb,hg,hgb,Aw hxy]
 obtain rfl:i=a.length:=zo
 have hR:decide (a=b)=true:=Xf (by rw[X4,hl,X4]at c8;exact c8);rw[hR];simp only[eZ,seval,W0,lt_F c5]
def p130(a b:List Int)(ha:few a):Pur prog 130 [eIs a,eIs b] (.bool (decide (a=b))):=p130W a b (Ci ha)
def p168(r:qz):Pur prog 168 [BV r] (.bool (Hg r)):=by
 refine .mk ⟨Ar 0 r,trivial⟩ trivial (c168.a (AF AI.tnil (AG ?_)));simp only[eZ,seval,c168];rfl
def Tr7:Tab:=tadd 168 (s1 dRu any1 λr=>.bool (Hg r)) tnil
def Tr7_ok:AI prog Tr7:=AI.tnil.add (q1 λr _=>p168 r)
structure IUr(d:zk)(v:VU):Prop where
 hi:v.i<=d.ruls.length
 fr:AQ v.H v.n
 hn:2<=v.n
 h0:hget v.H 0=some (.box (AH d))
 tok:tkG 1 1 v.H v.tk
 es:v.tk.esz=1\/BX (d.ruls.take v.i)=[]
def p123(d:zk)(hr:few d.ruls):Pur prog 123 [encD d] (eIs (BX d.ruls)):=by
 refine .mk ⟨Ab 0 d,trivial⟩ (AR 0 _) (c123.a (AF Tr7_ok (AG ?_)));have hrl:d.ruls.length<1000000000:=hr;simp only[eE,eN,seval,c123];refine AL (λv:VU=>⟨[(1,true,.ptr 0 0),(3,true,.sl v.tk ((BX (d.ruls.take v.i)).map eI)),(4,true,.int .i64 v.i)],v.H,v.n⟩) (IUr d) (λv=>d.ruls.length-v.i)
  ⟨0,.nil,hset hnil 0 (.box (AH d)),2⟩ rfl ⟨Wz _,AQ.nil.hset (m:=2) (Wz 2) (show 0<2 by decide),W9 _,rfl,.inl rfl,.inr rfl⟩ ?_
 rintro⟨i,tk,H,n⟩ ⟨hi,c7,hn,h0,c8,d8⟩;simp only at hi c7 hn h0 c8 d8;by_cases c5:i<d.ruls.length
 ·have hg:=W2 c5;have e:=AE (k:=i) zo;have hu:=Gu c5;have hul:=IG (d.ruls.take i);rw[Xg]at hul;generalize d.ruls[i]=r at hg hu;cases y9:Hg r with
  |true=>
   rw[y9,X0 rfl,Xn]at hu;simp only[eZ,seval,W3,eY,lt_T c5,hg,Tr7,s1,Bf,A6,y9,e,h0,tadd];refine .mk ⟨i+1,tk,H,n⟩ ?_ ⟨c5,c7,hn,h0,c8,by simp only[hu];exact d8⟩ zp;simp only[hu]
  |false=>
   rw[y9,W6 zd]at hu;have q1:A8 H 1 tk=True:=W1 c8.app;have q2:((BX (d.ruls.take i)).length<=35184372088831)=True:=W1 zo;have q3:Aj ((BX (d.ruls.take i)).length+1) 8=True:=W1 (AZ zo zd);simp only[eZ,seval,W7,eY,lt_T c5,hg,fr1 c7,Tr7,s1,Bf,A6,y9,e,h0,q1,q2,q3,tadd];refine .mk ⟨i+1,.own (n+3) 1,hset (AP H tk) (n+3) .tok,n+5⟩ ?_ ⟨c5,(AU c8 c7).hset (m:=n+5) zo zo,zp,?_,.inr (.inr ⟨n+3,rfl,zo,AB ..⟩),.inl rfl⟩ zp
   ·simp only[hu,X2];rfl
   ·simp only[];rw[AA _ _ _ _ zo,AW c8 (.inr ⟨_,h0⟩)];exact h0
 obtain rfl:i=d.ruls.length:=zo
 rw[X4]at d8;simp only[eZ,seval,W0,lt_F c5,X4,h0];exact Wk.sl (d8.imp id λq=>by rw[q];rfl)
end Go.AM
