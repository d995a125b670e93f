/-
  Parts of the proof. Conditions: none.
-/
import Derived.Test.YtncahiacfdihpaaGreatDoorB9
set_option maxRecDepth 20000
set_option linter.all false
namespace Go.AM
open Go.Lib Go.Proofs Go.Proofs.Tryz
section
abbrev errV(n:Int):Fs:=.ifc 39 (.int .i64 n)
abbrev nmO(l:List Bs):zx:=.map (nmEs l 0) l.length
def CQ(H:AC)(n id:Nat)(pre ns:List Bs):jq->AC->Nat->Prop:=λo H' n'=>
 if Ah (pre++ns)=true then o= .pan (errV 161)/\H'=hset H id .dead/\n'=n else o= .ret (.mp id)/\H'=hset H id (nmO (pre++ns))/\n'=n
def Gl(H:AC)(id:Nat)(pre ns:List Bs):jq->AC->Nat->Prop:=λo H' n'=>
 if Ah (pre++ns)=true then o= .pan (errV 161)/\(∃ob,hget H' id=some ob)/\CF id H H' else(∃v,o= .ret v/\Wk v (.mp id))/\hget H' id=some (nmO (pre++ns))/\CF id H H'
def Ph(n:Nat)(l:List Bs):(nmO l).under n:=by
 suffices h:∀(i n c:Nat),(zx.map (nmEs l i) c).under n from h 0 n l.length
 induction l with
 |nil=>intro i n c;trivial
 |cons x r ih=>intro i n c;exact⟨trivial,trivial,ih (i+1) n c⟩
variable {H:AC} {f:Int} {pre:List Bs} {n id:Nat}
theorem KF{H':AC}{ob ob1:zx}(hf:AR H n)(d6:id<n)(h1:hget H' id=some ob1)(hw:OWk ob1 ob)(hu:ob.under n)(h2:CF id H H'):Fj n H H' (hset H id ob):=by
 refine⟨λi o ho=>?_,λi hi=>?_⟩
 ·rw[AK]at ho;by_cases e:id=i
  ·subst e;rw[Xp rfl]at ho;cases ho;exact⟨d6,⟨_,h1,hw⟩,.inl hu⟩
  ·rw[X6 e]at ho;exact⟨hf.lt ho,⟨o,h2 i o (Ne.symm e) ho,OWk.refl _⟩,.inr ho⟩
 ·rw[AK];split
  ·exact λh=>by cases h
  ·exact hi
theorem Sl(ob:zx):OWk ob .dead:=⟨λ_ _ _ _=>trivial,λh=>by cases h⟩
theorem CQ.of{i4:FuncId}{args:List Fs}{ns:List Bs}(hc:Bo prog i4)(hp:hget H id=some (nmO pre))(h:AR H n->id<n->AP prog i4 args H n (Gl H id pre ns)):AP prog i4 args H n (CQ H n id pre ns):=by
 refine AP.fresh hc λhf=>?_
 have d6:=hf.lt hp;refine AP.forget (h hf d6) ?_;intro o H' n' q;unfold Gl at q;by_cases ht:Ah (pre++ns)=true
 ·rw[Xp ht]at q;obtain⟨rfl,⟨ob,h1⟩,h2⟩:=q;exact⟨.pan (errV 161),hset H id .dead,by unfold CQ;rw[Xp ht];exact⟨rfl,rfl,rfl⟩,KF hf d6 h1 (Sl _) trivial h2,Wk.refl _,trivial⟩
 ·rw[X6 ht]at q;obtain⟨⟨v,rfl,hw⟩,h1,h2⟩:=q;exact⟨.ret (.mp id),hset H id (nmO (pre++ns)),by unfold CQ;rw[X6 ht];exact⟨rfl,rfl,rfl⟩,KF hf d6 h1 (OWk.refl _) (Ph n _) h2,hw,d6⟩
structure VIx where
 i:Nat
 H:AC
 n:Nat
structure IIx(H:AC)(n id:Nat)(pre ns:List Bs)(v:VIx):Prop where
 hi:v.i<=ns.length
 hn:n<=v.n
 fr:AR v.H v.n
 hm:hget v.H id=some (nmO (pre++ns.take v.i))
 hk:CF id H v.H
 tw:Ah (pre++ns.take v.i)=false
theorem G5{ns:List Bs}{i:Nat}(h:i<ns.length)(l6:ns[i]∈pre++ns.take i):Ah (pre++ns)=true:=by
 have e:pre++ns=(pre++ns.take i)++ns[i]::ns.drop (i+1):=by
  rw[Yg,<-Y2 h,List.take_append_drop]
 rw[e];exact UW l6
theorem G6{l:List Bs}{s:Bs}(h:Ah l=false)(hs:s∉l):Ah (l++[s])=false:=SG.2 ⟨h,hs⟩
theorem p193(x:j9):Pur prog 193 [IY x] (.str x.nm):=by
 refine .mk ⟨Hz 0 x,trivial⟩ trivial (c193.a (AF AJ.tnil (AG ?_)));simp only[eE,eN,seval,c193]
theorem p195(x:zk):Pur prog 195 [Fy x] (.str x.nm):=by
 refine .mk ⟨Cj 0 x,trivial⟩ trivial (c195.a (AF AJ.tnil (AG ?_)));simp only[eE,eN,seval,c195]
theorem p200(x:zz):Pur prog 200 [CG x] (.str x.nm):=by
 refine .mk ⟨EH 0 x,trivial⟩ trivial (c200.a (AF AJ.tnil (AG ?_)));simp only[eE,eN,seval,c200]
theorem p204(x:qj):Pur prog 204 [BW x] (.str x.nm):=by
 refine .mk ⟨At 0 x,trivial⟩ trivial (c204.a (AF AJ.tnil (AG ?_)));simp only[eE,eN,seval,c204]
theorem p198(x:Bs):Pur prog 198 [.str x] (.str x):=by
 refine .mk ⟨trivial,trivial⟩ trivial (c198.a (AF AJ.tnil (AG ?_)));simp only[eE,eN,seval,c198]
theorem p197:Pur prog 197 [] (eSs By):=by
 refine .mk trivial (BV 0 _) (c197.a (AF AJ.tnil (AG ?_)));simp only[eE,eN,seval,c197];exact Wk.sl (.inl rfl)
def Tx1:Tab:=tadd 193 (s1 dSy any1 λx=>.str ((λx:j9=>x.nm) x)) tnil
theorem Tx1_ok:AJ prog Tx1:=AJ.tnil.add (q1 λx _=>p193 x)
theorem Sm{l:List j9}(hl:few l)(s5:pre.length<1000000000)(hf0:f=(pre.length:Int))(hp:hget H id=some (nmO pre))(hd:Ah pre=false):
  AP prog 192 [eSys l,.int .i64 f,.fn (.func 193) [] [],.mp id] H n (CQ H n id pre (l.map (λx:j9=>x.nm))):=by
 subst hf0;refine CQ.of c192.l hp λhf d6=>c192.a (AF Tx1_ok (AG ?_))
 have m7:l.length<1000000000:=hl;simp only[eE,eN,seval,X0,c192];refine AL (λv:VIx=>⟨[(1,true,.int .i64 pre.length),(2,true,.fn (.func 193) [] []),(3,true,.mp id),(13,true,eSys l),(14,true,.int .i64 l.length),(15,true,.int .i64 v.i)],v.H,v.n⟩) (IIx H n id pre (l.map (λx:j9=>x.nm))) (λv=>l.length-v.i)
  ⟨0,H,n⟩ rfl ⟨Xn _,X9 _,hf,by rw[Z7,Yb];exact hp,CF.refl _,by rw[Z7,Yb];exact hd⟩ ?_
 rintro⟨i,H1,n1⟩ hI;have hi:=hI.hi;have hn:=hI.hn;have c7:=hI.fr;have hm:=hI.hm;have hk:=hI.hk;have v7:=hI.tw;simp only[X0]at hi hn c7 hm hk v7;by_cases c5:i<l.length
 ·have s9:i<(l.map (λx:j9=>x.nm)).length:=by rw[X0];exact c5
  have hg:=X2 c5;have x5:(l.map (λx:j9=>x.nm))[i]=(λx:j9=>x.nm) l[i]:=aw ..;have e:=AE (k:=i) zo;have c8:(l.map (λx:j9=>x.nm)).take (i+1)=(l.map (λx:j9=>x.nm)).take i++[(λx:j9=>x.nm) l[i]]:=by rw[Xx,X2 s9,x5];rfl
  have m8:(pre++(l.map (λx:j9=>x.nm)).take i).length=pre.length+i:=by rw[Xz,Ya,X0];omega
  have ew:IntKind.wrap .i64 ((pre.length:Int)+(i:Int))=((pre.length+i:Nat):Int):=by rw[Aq zo zo];omega
  have y1:∀k,(n1+k=id)=False:=λk=>X7 zo
  have y2:∀k,(id=n1+k)=False:=λk=>X7 zo
  have l6:=λq=>G5 (pre:=pre) s9 (by rw[x5];exact q)
  generalize hx:l[i]=x at hg x5 c8 l6;have t8:=EJ (pre++(l.map (λx:j9=>x.nm)).take i) ((λx:j9=>x.nm) x);cases e9:BH (pre++(l.map (λx:j9=>x.nm)).take i) ((λx:j9=>x.nm) x)with
  |some k=>
   have htt:Ah (pre++l.map (λx:j9=>x.nm))=true:=l6 (by
    apply Classical.byContradiction;intro q;rw[Bh.2 q]at e9;cases e9)
   rw[e9,Yn]at t8;simp only[eZ,seval,xE,eY,isF,lt_T c5,hg,Tx1,s1,VS,SR,hm,t8,Dz,KT.is,Cb,fr1 c7,y1,AN,tadd];unfold Gl;rw[Xp htt];refine⟨rfl,⟨nmO (pre++(l.map (λx:j9=>x.nm)).take i),?_⟩,?_⟩
   ·rw[AA _ _ _ _ zo];exact hm
   ·exact hk.new hf zo
  |none=>
   rw[e9,Z6]at t8;have x6:=La e9;rw[m8]at x6;simp only[eZ,seval,xE,eY,lt_T c5,hg,Tx1,s1,VS,SR,hm,t8,Dz,KT.is,Cb,fr1 c7,y1,e,ew,m8,x6,AN,tadd];refine .mk ⟨i+1,hset (hset H1 (n1+3) (.box (IY x).cells)) id (.map (nmEs (pre++(l.map (λx:j9=>x.nm)).take i++[(λx:j9=>x.nm) x]) 0) (pre.length+(i+1))),n1+6⟩ rfl ⟨by simp only[X0];omega,zp,?_,?_,?_,?_⟩ zp
   ·exact(c7.hset (m:=n1+6) zo zo).hset (X9 (n1+6)) (show id<n1+6 by omega)
   ·simp only[];rw[AB,c8,<-Yg,nmO,Xz,m8];rfl
   ·exact(hk.new hf zo).set
   ·simp only[];rw[c8,<-Yg];exact G6 v7 (Bh.1 e9)
 have i6:i=l.length:=zo
 subst i6;have x0:(l.map (λx:j9=>x.nm)).take l.length=l.map (λx:j9=>x.nm):=Yr (by rw[X0];omega);rw[x0]at hm v7;simp only[eZ,seval,lt_F c5];unfold Gl;rw[v7,X6 zd];exact⟨⟨_,rfl,Wk.refl _⟩,hm,hk⟩
def Tx2:Tab:=tadd 195 (s1 dRg any1 λx=>.str ((λx:zk=>x.nm) x)) tnil
theorem Tx2_ok:AJ prog Tx2:=AJ.tnil.add (q1 λx _=>p195 x)
theorem Sn{l:List zk}(hl:few l)(s5:pre.length<1000000000)(hf0:f=(pre.length:Int))(hp:hget H id=some (nmO pre))(hd:Ah pre=false):
  AP prog 194 [eRgs l,.int .i64 f,.fn (.func 195) [] [],.mp id] H n (CQ H n id pre (l.map (λx:zk=>x.nm))):=by
 subst hf0;refine CQ.of c194.l hp λhf d6=>c194.a (AF Tx2_ok (AG ?_))
 have m7:l.length<1000000000:=hl;simp only[eE,eN,seval,X0,c194];refine AL (λv:VIx=>⟨[(1,true,.int .i64 pre.length),(2,true,.fn (.func 195) [] []),(3,true,.mp id),(13,true,eRgs l),(14,true,.int .i64 l.length),(15,true,.int .i64 v.i)],v.H,v.n⟩) (IIx H n id pre (l.map (λx:zk=>x.nm))) (λv=>l.length-v.i)
  ⟨0,H,n⟩ rfl ⟨Xn _,X9 _,hf,by rw[Z7,Yb];exact hp,CF.refl _,by rw[Z7,Yb];exact hd⟩ ?_
 rintro⟨i,H1,n1⟩ hI;have hi:=hI.hi;have hn:=hI.hn;have c7:=hI.fr;have hm:=hI.hm;have hk:=hI.hk;have v7:=hI.tw;simp only[X0]at hi hn c7 hm hk v7;by_cases c5:i<l.length
 ·have s9:i<(l.map (λx:zk=>x.nm)).length:=by rw[X0];exact c5
  have hg:=X2 c5;have x5:(l.map (λx:zk=>x.nm))[i]=(λx:zk=>x.nm) l[i]:=aw ..;have e:=AE (k:=i) zo;have c8:(l.map (λx:zk=>x.nm)).take (i+1)=(l.map (λx:zk=>x.nm)).take i++[(λx:zk=>x.nm) l[i]]:=by rw[Xx,X2 s9,x5];rfl
  have m8:(pre++(l.map (λx:zk=>x.nm)).take i).length=pre.length+i:=by rw[Xz,Ya,X0];omega
  have ew:IntKind.wrap .i64 ((pre.length:Int)+(i:Int))=((pre.length+i:Nat):Int):=by rw[Aq zo zo];omega
  have y1:∀k,(n1+k=id)=False:=λk=>X7 zo
  have y2:∀k,(id=n1+k)=False:=λk=>X7 zo
  have l6:=λq=>G5 (pre:=pre) s9 (by rw[x5];exact q)
  generalize hx:l[i]=x at hg x5 c8 l6;have t8:=EJ (pre++(l.map (λx:zk=>x.nm)).take i) ((λx:zk=>x.nm) x);cases e9:BH (pre++(l.map (λx:zk=>x.nm)).take i) ((λx:zk=>x.nm) x)with
  |some k=>
   have htt:Ah (pre++l.map (λx:zk=>x.nm))=true:=l6 (by
    apply Classical.byContradiction;intro q;rw[Bh.2 q]at e9;cases e9)
   rw[e9,Yn]at t8;simp only[eZ,seval,xE,eY,isF,lt_T c5,hg,Tx2,s1,JF,GO,hm,t8,Dz,KT.is,Cb,fr1 c7,y1,AN,tadd];unfold Gl;rw[Xp htt];refine⟨rfl,⟨nmO (pre++(l.map (λx:zk=>x.nm)).take i),?_⟩,?_⟩
   ·rw[AA _ _ _ _ zo];exact hm
   ·exact hk.new hf zo
  |none=>
   rw[e9,Z6]at t8;have x6:=La e9;rw[m8]at x6;simp only[eZ,seval,xE,eY,lt_T c5,hg,Tx2,s1,JF,GO,hm,t8,Dz,KT.is,Cb,fr1 c7,y1,e,ew,m8,x6,AN,tadd];refine .mk ⟨i+1,hset (hset H1 (n1+3) (.box (Fy x).cells)) id (.map (nmEs (pre++(l.map (λx:zk=>x.nm)).take i++[(λx:zk=>x.nm) x]) 0) (pre.length+(i+1))),n1+6⟩ rfl ⟨by simp only[X0];omega,zp,?_,?_,?_,?_⟩ zp
   ·exact(c7.hset (m:=n1+6) zo zo).hset (X9 (n1+6)) (show id<n1+6 by omega)
   ·simp only[];rw[AB,c8,<-Yg,nmO,Xz,m8];rfl
   ·exact(hk.new hf zo).set
   ·simp only[];rw[c8,<-Yg];exact G6 v7 (Bh.1 e9)
 have i6:i=l.length:=zo
 subst i6;have x0:(l.map (λx:zk=>x.nm)).take l.length=l.map (λx:zk=>x.nm):=Yr (by rw[X0];omega);rw[x0]at hm v7;simp only[eZ,seval,lt_F c5];unfold Gl;rw[v7,X6 zd];exact⟨⟨_,rfl,Wk.refl _⟩,hm,hk⟩
def Tx3:Tab:=tadd 198 (s1 dS any1 λx=>.str ((λx:Bs=>x) x)) tnil
theorem Tx3_ok:AJ prog Tx3:=AJ.tnil.add (q1 λx _=>p198 x)
theorem Vc{l:List Bs}(hl:few l)(s5:pre.length<1000000000)(hf0:f=(pre.length:Int))(hp:hget H id=some (nmO pre))(hd:Ah pre=false):
  AP prog 196 [eSs l,.int .i64 f,.fn (.func 198) [] [],.mp id] H n (CQ H n id pre (l.map (λx:Bs=>x))):=by
 subst hf0;refine CQ.of c196.l hp λhf d6=>c196.a (AF Tx3_ok (AG ?_))
 have m7:l.length<1000000000:=hl;simp only[eE,eN,seval,X0,c196];refine AL (λv:VIx=>⟨[(1,true,.int .i64 pre.length),(2,true,.fn (.func 198) [] []),(3,true,.mp id),(13,true,eSs l),(14,true,.int .i64 l.length),(15,true,.int .i64 v.i)],v.H,v.n⟩) (IIx H n id pre (l.map (λx:Bs=>x))) (λv=>l.length-v.i)
  ⟨0,H,n⟩ rfl ⟨Xn _,X9 _,hf,by rw[Z7,Yb];exact hp,CF.refl _,by rw[Z7,Yb];exact hd⟩ ?_
 rintro⟨i,H1,n1⟩ hI;have hi:=hI.hi;have hn:=hI.hn;have c7:=hI.fr;have hm:=hI.hm;have hk:=hI.hk;have v7:=hI.tw;simp only[X0]at hi hn c7 hm hk v7;by_cases c5:i<l.length
 ·have s9:i<(l.map (λx:Bs=>x)).length:=by rw[X0];exact c5
  have hg:=X2 c5;have x5:(l.map (λx:Bs=>x))[i]=(λx:Bs=>x) l[i]:=aw ..;have e:=AE (k:=i) zo;have c8:(l.map (λx:Bs=>x)).take (i+1)=(l.map (λx:Bs=>x)).take i++[(λx:Bs=>x) l[i]]:=by rw[Xx,X2 s9,x5];rfl
  have m8:(pre++(l.map (λx:Bs=>x)).take i).length=pre.length+i:=by rw[Xz,Ya,X0];omega
  have ew:IntKind.wrap .i64 ((pre.length:Int)+(i:Int))=((pre.length+i:Nat):Int):=by rw[Aq zo zo];omega
  have y1:∀k,(n1+k=id)=False:=λk=>X7 zo
  have y2:∀k,(id=n1+k)=False:=λk=>X7 zo
  have l6:=λq=>G5 (pre:=pre) s9 (by rw[x5];exact q)
  generalize hx:l[i]=x at hg x5 c8 l6;have t8:=EJ (pre++(l.map (λx:Bs=>x)).take i) ((λx:Bs=>x) x);cases e9:BH (pre++(l.map (λx:Bs=>x)).take i) ((λx:Bs=>x) x)with
  |some k=>
   have htt:Ah (pre++l.map (λx:Bs=>x))=true:=l6 (by
    apply Classical.byContradiction;intro q;rw[Bh.2 q]at e9;cases e9)
   rw[e9,Yn]at t8;simp only[eZ,seval,xE,eY,isF,lt_T c5,hg,Tx3,s1,Gu,EP,hm,t8,Dz,KT.is,Cb,tadd];unfold Gl;rw[Xp htt];refine⟨rfl,⟨nmO (pre++(l.map (λx:Bs=>x)).take i),?_⟩,?_⟩
   ·exact hm
   ·exact hk
  |none=>
   rw[e9,Z6]at t8;have x6:=La e9;rw[m8]at x6;simp only[eZ,seval,xE,eY,lt_T c5,hg,Tx3,s1,Gu,EP,hm,t8,Dz,KT.is,Cb,e,ew,m8,x6,tadd];refine .mk ⟨i+1,hset H1 id (.map (nmEs (pre++(l.map (λx:Bs=>x)).take i++[(λx:Bs=>x) x]) 0) (pre.length+(i+1))),n1⟩ rfl ⟨by simp only[X0];omega,zp,?_,?_,?_,?_⟩ zp
   ·exact c7.hset (m:=n1) (X9 _) zo
   ·simp only[];rw[AB,c8,<-Yg,nmO,Xz,m8];rfl
   ·exact hk.set
   ·simp only[];rw[c8,<-Yg];exact G6 v7 (Bh.1 e9)
 have i6:i=l.length:=zo
 subst i6;have x0:(l.map (λx:Bs=>x)).take l.length=l.map (λx:Bs=>x):=Yr (by rw[X0];omega);rw[x0]at hm v7;simp only[eZ,seval,lt_F c5];unfold Gl;rw[v7,X6 zd];exact⟨⟨_,rfl,Wk.refl _⟩,hm,hk⟩
def Tx4:Tab:=tadd 200 (s1 dCl any1 λx=>.str ((λx:zz=>x.nm) x)) tnil
theorem Tx4_ok:AJ prog Tx4:=AJ.tnil.add (q1 λx _=>p200 x)
theorem So{l:List zz}(hl:few l)(s5:pre.length<1000000000)(hf0:f=(pre.length:Int))(hp:hget H id=some (nmO pre))(hd:Ah pre=false):
  AP prog 199 [eCls l,.int .i64 f,.fn (.func 200) [] [],.mp id] H n (CQ H n id pre (l.map (λx:zz=>x.nm))):=by
 subst hf0;refine CQ.of c199.l hp λhf d6=>c199.a (AF Tx4_ok (AG ?_))
 have m7:l.length<1000000000:=hl;simp only[eE,eN,seval,X0,c199];refine AL (λv:VIx=>⟨[(1,true,.int .i64 pre.length),(2,true,.fn (.func 200) [] []),(3,true,.mp id),(13,true,eCls l),(14,true,.int .i64 l.length),(15,true,.int .i64 v.i)],v.H,v.n⟩) (IIx H n id pre (l.map (λx:zz=>x.nm))) (λv=>l.length-v.i)
  ⟨0,H,n⟩ rfl ⟨Xn _,X9 _,hf,by rw[Z7,Yb];exact hp,CF.refl _,by rw[Z7,Yb];exact hd⟩ ?_
 rintro⟨i,H1,n1⟩ hI;have hi:=hI.hi;have hn:=hI.hn;have c7:=hI.fr;have hm:=hI.hm;have hk:=hI.hk;have v7:=hI.tw;simp only[X0]at hi hn c7 hm hk v7;by_cases c5:i<l.length
 ·have s9:i<(l.map (λx:zz=>x.nm)).length:=by rw[X0];exact c5
  have hg:=X2 c5;have x5:(l.map (λx:zz=>x.nm))[i]=(λx:zz=>x.nm) l[i]:=aw ..;have e:=AE (k:=i) zo;have c8:(l.map (λx:zz=>x.nm)).take (i+1)=(l.map (λx:zz=>x.nm)).take i++[(λx:zz=>x.nm) l[i]]:=by rw[Xx,X2 s9,x5];rfl
  have m8:(pre++(l.map (λx:zz=>x.nm)).take i).length=pre.length+i:=by rw[Xz,Ya,X0];omega
  have ew:IntKind.wrap .i64 ((pre.length:Int)+(i:Int))=((pre.length+i:Nat):Int):=by rw[Aq zo zo];omega
  have y1:∀k,(n1+k=id)=False:=λk=>X7 zo
  have y2:∀k,(id=n1+k)=False:=λk=>X7 zo
  have l6:=λq=>G5 (pre:=pre) s9 (by rw[x5];exact q)
  generalize hx:l[i]=x at hg x5 c8 l6;have t8:=EJ (pre++(l.map (λx:zz=>x.nm)).take i) ((λx:zz=>x.nm) x);cases e9:BH (pre++(l.map (λx:zz=>x.nm)).take i) ((λx:zz=>x.nm) x)with
  |some k=>
   have htt:Ah (pre++l.map (λx:zz=>x.nm))=true:=l6 (by
    apply Classical.byContradiction;intro q;rw[Bh.2 q]at e9;cases e9)
   rw[e9,Yn]at t8;simp only[eZ,seval,xE,eY,isF,lt_T c5,hg,Tx4,s1,H8,Fd,hm,t8,Dz,KT.is,Cb,fr1 c7,y1,AN,tadd];unfold Gl;rw[Xp htt];refine⟨rfl,⟨nmO (pre++(l.map (λx:zz=>x.nm)).take i),?_⟩,?_⟩
   ·rw[AA _ _ _ _ zo];exact hm
   ·exact hk.new hf zo
  |none=>
   rw[e9,Z6]at t8;have x6:=La e9;rw[m8]at x6;simp only[eZ,seval,xE,eY,lt_T c5,hg,Tx4,s1,H8,Fd,hm,t8,Dz,KT.is,Cb,fr1 c7,y1,e,ew,m8,x6,AN,tadd];refine .mk ⟨i+1,hset (hset H1 (n1+3) (.box (CG x).cells)) id (.map (nmEs (pre++(l.map (λx:zz=>x.nm)).take i++[(λx:zz=>x.nm) x]) 0) (pre.length+(i+1))),n1+6⟩ rfl ⟨by simp only[X0];omega,zp,?_,?_,?_,?_⟩ zp
   ·exact(c7.hset (m:=n1+6) zo zo).hset (X9 (n1+6)) (show id<n1+6 by omega)
   ·simp only[];rw[AB,c8,<-Yg,nmO,Xz,m8];rfl
   ·exact(hk.new hf zo).set
   ·simp only[];rw[c8,<-Yg];exact G6 v7 (Bh.1 e9)
 have i6:i=l.length:=zo
 subst i6;have x0:(l.map (λx:zz=>x.nm)).take l.length=l.map (λx:zz=>x.nm):=Yr (by rw[X0];omega);rw[x0]at hm v7;simp only[eZ,seval,lt_F c5];unfold Gl;rw[v7,X6 zd];exact⟨⟨_,rfl,Wk.refl _⟩,hm,hk⟩
def Tx5:Tab:=tadd 204 (s1 dRu any1 λx=>.str ((λx:qj=>x.nm) x)) tnil
theorem Tx5_ok:AJ prog Tx5:=AJ.tnil.add (q1 λx _=>p204 x)
theorem Sp{l:List qj}(hl:few l)(s5:pre.length<1000000000)(hf0:f=(pre.length:Int))(hp:hget H id=some (nmO pre))(hd:Ah pre=false):
  AP prog 203 [eRus l,.int .i64 f,.fn (.func 204) [] [],.mp id] H n (CQ H n id pre (l.map (λx:qj=>x.nm))):=by
 subst hf0;refine CQ.of c203.l hp λhf d6=>c203.a (AF Tx5_ok (AG ?_))
 have m7:l.length<1000000000:=hl;simp only[eE,eN,seval,X0,c203];refine AL (λv:VIx=>⟨[(1,true,.int .i64 pre.length),(2,true,.fn (.func 204) [] []),(3,true,.mp id),(13,true,eRus l),(14,true,.int .i64 l.length),(15,true,.int .i64 v.i)],v.H,v.n⟩) (IIx H n id pre (l.map (λx:qj=>x.nm))) (λv=>l.length-v.i)
  ⟨0,H,n⟩ rfl ⟨Xn _,X9 _,hf,by rw[Z7,Yb];exact hp,CF.refl _,by rw[Z7,Yb];exact hd⟩ ?_
 rintro⟨i,H1,n1⟩ hI;have hi:=hI.hi;have hn:=hI.hn;have c7:=hI.fr;have hm:=hI.hm;have hk:=hI.hk;have v7:=hI.tw;simp only[X0]at hi hn c7 hm hk v7;by_cases c5:i<l.length
 ·have s9:i<(l.map (λx:qj=>x.nm)).length:=by rw[X0];exact c5
  have hg:=X2 c5;have x5:(l.map (λx:qj=>x.nm))[i]=(λx:qj=>x.nm) l[i]:=aw ..;have e:=AE (k:=i) zo;have c8:(l.map (λx:qj=>x.nm)).take (i+1)=(l.map (λx:qj=>x.nm)).take i++[(λx:qj=>x.nm) l[i]]:=by rw[Xx,X2 s9,x5];rfl
  have m8:(pre++(l.map (λx:qj=>x.nm)).take i).length=pre.length+i:=by rw[Xz,Ya,X0];omega
  have ew:IntKind.wrap .i64 ((pre.length:Int)+(i:Int))=((pre.length+i:Nat):Int):=by rw[Aq zo zo];omega
  have y1:∀k,(n1+k=id)=False:=λk=>X7 zo
  have y2:∀k,(id=n1+k)=False:=λk=>X7 zo
  have l6:=λq=>G5 (pre:=pre) s9 (by rw[x5];exact q)
  generalize hx:l[i]=x at hg x5 c8 l6;have t8:=EJ (pre++(l.map (λx:qj=>x.nm)).take i) ((λx:qj=>x.nm) x);cases e9:BH (pre++(l.map (λx:qj=>x.nm)).take i) ((λx:qj=>x.nm) x)with
  |some k=>
   have htt:Ah (pre++l.map (λx:qj=>x.nm))=true:=l6 (by
    apply Classical.byContradiction;intro q;rw[Bh.2 q]at e9;cases e9)
   rw[e9,Yn]at t8;simp only[eZ,seval,xE,eY,isF,lt_T c5,hg,Tx5,s1,Bi,BB,hm,t8,Dz,KT.is,Cb,fr1 c7,y1,AN,tadd];unfold Gl;rw[Xp htt];refine⟨rfl,⟨nmO (pre++(l.map (λx:qj=>x.nm)).take i),?_⟩,?_⟩
   ·rw[AA _ _ _ _ zo];exact hm
   ·exact hk.new hf zo
  |none=>
   rw[e9,Z6]at t8;have x6:=La e9;rw[m8]at x6;simp only[eZ,seval,xE,eY,lt_T c5,hg,Tx5,s1,Bi,BB,hm,t8,Dz,KT.is,Cb,fr1 c7,y1,e,ew,m8,x6,AN,tadd];refine .mk ⟨i+1,hset (hset H1 (n1+3) (.box (BW x).cells)) id (.map (nmEs (pre++(l.map (λx:qj=>x.nm)).take i++[(λx:qj=>x.nm) x]) 0) (pre.length+(i+1))),n1+6⟩ rfl ⟨by simp only[X0];omega,zp,?_,?_,?_,?_⟩ zp
   ·exact(c7.hset (m:=n1+6) zo zo).hset (X9 (n1+6)) (show id<n1+6 by omega)
   ·simp only[];rw[AB,c8,<-Yg,nmO,Xz,m8];rfl
   ·exact(hk.new hf zo).set
   ·simp only[];rw[c8,<-Yg];exact G6 v7 (Bh.1 e9)
 have i6:i=l.length:=zo
 subst i6;have x0:(l.map (λx:qj=>x.nm)).take l.length=l.map (λx:qj=>x.nm):=Yr (by rw[X0];omega);rw[x0]at hm v7;simp only[eZ,seval,lt_F c5];unfold Gl;rw[v7,X6 zd];exact⟨⟨_,rfl,Wk.refl _⟩,hm,hk⟩
end
section
def NPost(H:AC)(n:Nat)(r:Option Int):jq->AC->Nat->Prop:=λo H' n'=>H'=H/\n'=n/\match r with
 |some k=>o= .ret (.int .i64 k)
 |none=>o= .pan (errV 160)
variable {l:List Bs}
theorem KG{H:AC}{n id:Nat}{s:Bs}(hp:hget H id=some (nmO l)):AP prog 202 [.mp id,.str s] H n (NPost H n (BH l s)):=by
 refine c202.a (AF AJ.tnil (AG ?_));have hf:=EJ l s;cases e9:BH l s with
 |some k=>
  rw[e9,Yn]at hf;simp only[eZ,seval,X3,xE,eY,c202,hp,hf,Dz,KT.is,Cb];exact⟨rfl,rfl,rfl⟩
 |none=>
  rw[e9,Z6]at hf;simp only[eZ,seval,X5,xE,eY,isF,c202,hp,hf,Dz,KT.is,Cb];exact⟨rfl,rfl,rfl⟩
theorem Ui{a b:Nat}(ha:a<65536)(hb:b<65536):Wg .or .i64 (a:Int) (b:Int)=((a|||b:Nat):Int):=by
 have s7:a|||b<65536:=Nat.or_lt_two_pow (n:=16) ha hb
 have e:∀x:Nat,BitVec.ofInt 64 (x:Int)=BitVec.ofNat 64 x:=λx=>by
  apply BitVec.eq_of_toNat_eq;simp [BitVec.toNat_ofNat]
 show IntKind.wrap .i64 ((BitVec.ofInt 64 (a:Int)|||BitVec.ofInt 64 (b:Int)).toNat:Int)=_;rw[e,e,BitVec.toNat_or,BitVec.toNat_ofNat,BitVec.toNat_ofNat,Nat.mod_eq_of_lt zo,Nat.mod_eq_of_lt zo,Aq zo zo]
theorem Pi{j:Nat}(h:j<16):Im .shl .i64 1 (j:Int)=((1<<<j:Nat):Int):=by
 have h2:2^j<65536:=Nat.pow_lt_pow_right zd (show j<16 from h);show IntKind.wrap .i64 (1*2^(min (j:Int).toNat 64))=_;rw[Int.one_mul,Xo,Nat.min_eq_left zo,Nat.shiftLeft_eq,Nat.one_mul];have e:((2:Int)^j)=((2^j:Nat):Int):=by rw[Int.natCast_pow];rfl
 rw[e];generalize 2^j=p at h2;exact Aq zo zo
theorem Mv{j:Nat}(h:j<16):1<<<j<65536:=by
 rw[Nat.shiftLeft_eq,Nat.one_mul];exact Nat.pow_lt_pow_right zd (show j<16 from h)
def EY(l:List Bs)(acc:Nat)(ss:List Bs):Option Int:=(CW l ss).map λk=>((acc|||k.toNat:Nat):Int)
theorem IZ(l:List Bs)(acc:Nat):EY l acc []=some (acc:Int):=by simp [EY,CW]
theorem G7{acc:Nat}{s:Bs}{r:List Bs}:EY l acc (s::r)=match BH l s with
  |none=>none
  |some j=>EY l (acc|||1<<<j.toNat) r:=by
 unfold EY;rw[JE,BH];cases l.findIdx? λx=>decide (x=s)with
 |none=>rfl
 |some i=>
  simp only[Yn,Xo];cases CW l r with
  |none=>rfl
  |some n=>
   simp only[Yn,Option.some.injEq];congr 1;show acc|||(Int.ofNat (Nat.lor (1<<<i) n.toNat)).toNat=_
   rw[Nat.or_assoc];rfl
theorem Mw(l ss:List Bs):EY l 0 ss=CW l ss:=by
 unfold EY;rw[PW];cases Ag (λs=>l.findIdx? λx=>decide (x=s)) ss with
 |none=>rfl
 |some is=>simp
theorem Sq{H:AC}{n id sid:Nat}{ss:List Bs}(hl:l.length<=16)(w8:wide ss)(hs:hget H sid=some (.box [.mp id]))(hp:hget H id=some (nmO l)):AP prog 206 [eSs ss,.ptr sid 0] H n (NPost H n (CW l ss)):=by
 refine c206.a (AF AJ.tnil (AG ?_));have hsl:ss.length<1125899906842624:=w8;rw[<-Mw];simp only[eE,eN,seval,X0,c206];refine AL (λv:Nat×Nat=>⟨[(1,true,.ptr sid 0),(3,true,.int .i64 v.2),(6,true,eSs ss),(7,true,.int .i64 ss.length),(8,true,.int .i64 v.1)],H,n⟩) (λv=>v.1<=ss.length/\v.2<65536/\EY l 0 ss=EY l v.2 (ss.drop v.1)) (λv=>ss.length-v.1) (0,0) rfl ⟨Xn _,zd,rfl⟩ ?_;rintro⟨i,acc⟩ ⟨hi,y9,heq⟩;simp only at hi y9 heq;by_cases c5:i<ss.length
 ·have hg:=X2 c5;have e:=AE (k:=i) zo;rw[Y2 c5,G7]at heq;generalize ss[i]=s at hg heq;simp only[eZ,seval,eY,lt_T c5,hg,hs];refine(KG hp).mono λo H' n' hq=>?_
  obtain⟨rfl,rfl,hq⟩:=hq;cases e9:BH l s with
  |none=>
   rw[e9]at hq heq;subst hq;simp only at heq;rw[heq];simp only[eE,eN,retK];exact⟨rfl,rfl,rfl⟩
  |some k=>
   rw[e9]at hq heq;subst hq;simp only at heq;obtain⟨h0,h1⟩:=LW e9;obtain⟨j,rfl⟩:∃j:Nat,k=j:=⟨k.toNat,zo⟩;rw[Xo]at heq;simp only[eE,eN,seval,Xq,retK,Pi (show j<16 by omega),Ui y9 (Mv (show j<16 by omega)),e];exact .mk (i+1,acc|||1<<<j) rfl ⟨c5,Nat.or_lt_two_pow (n:=16) y9 (Mv zo),heq⟩ zp
 obtain rfl:i=ss.length:=zo
 rw[Yj,IZ]at heq;rw[heq];simp only[eZ,seval,lt_F c5];exact⟨rfl,rfl,rfl⟩
end
abbrev IL:List Fs:=[.str [],.int .i64 0,.int .i64 0,.int .i64 0,.int .i64 0,.sl .nil [],.sl .nil [],.sl .nil [],.sl .nil [],.sl .nil []]
def d_rn{H:AC}{n i0 i1:Nat}:CY prog 191 [.ptr i0 0,.ptr i1 0] .nilifc H n (λH' n'=>H'=H/\n'=n):=by
 refine a191 (AF AJ.tnil (AG ?_));simp only[eZ,seval,X3,xE,c191]
def d_rp{H:AC}{n:Nat}{xs:List Fs}{y:Fs}{p:Int}(h0:hget H 1=some (.box xs))(hx:xs.length=10)(h1:hget H 2=some (.box [y])):
  CY prog 191 [.ptr 1 0,.ptr 2 0] (errV p) H n (λH' n'=>hget H' 1=some (.box IL)/\hget H' 2=some (.box [.int .i64 p])):=by
 refine a191 (AF AJ.tnil (AG ?_));obtain⟨a,b,c,d,e,f,g,h,i,j,rfl⟩:∃a b c d e f g h i j,xs=[a,b,c,d,e,f,g,h,i,j]:=by
  match xs,hx with
  |[a,b,c,d,e,f,g,h,i,j],_=>exact⟨a,b,c,d,e,f,g,h,i,j,rfl⟩
 simp only[eZ,seval,xE,c191,h0,h1]
section
def CK(d:j7):Fs:=match resD d with
 | .error e=>.tup [encD dcl0,.int .i64 e]
 | .ok x=>.tup [encD x,.int .i64 0]
abbrev CR(d:j7)(vc vr:Fs):List Fs:=[.str d.nm,.int .i64 d.ver,.int .i64 d.sh,.int .i64 d.w,.int .i64 d.h,eIs d.holes,eSys d.syms,eRgs d.regs,vc,vr]
def RR(d:j7):jq->AC->Nat->Prop:=λo H' n'=>match resD d with
 | .error e=>∃v,o= .ret v/\Wk v (.tup [encD dcl0,.int .i64 e])
 | .ok x=>∃vc vr,o= .ret (.tup [.agg (CR d vc vr),.int .i64 0])/\LV 6 vc H' (x.clus.map CG)/\LV 12 vr H' (x.ruls.map BW)/\(∀i a b c e j f g h k,vc= .ref i a b c e->vr= .ref j f g h k->i≠j)
def Tnr:Tab:=tadd 197 (λa _=>match a with
 |[]=>(True,eSs By)
 |_=>(False,.tup [])) tnil
def Uj:AJ prog Tnr:=AJ.tnil.add λargs H n h=>by
 cases args with
 |nil=>exact p197.quiet H n
 |cons _ _=>exact h.elim
abbrev rsR:List RC:=[.c 2 10 true,.c 3 1 false]
abbrev envR:List (Nat×Bool×Fs):=[(1,true,.ptr 0 0),(2,true,.ptr 1 0),(3,true,.ptr 2 0)]
abbrev argsR:List Fs:=[.ptr 1 0,.ptr 2 0]
def afst:qq->qq
 | .seq a _=>a
 |c=>c
def asnd:qq->qq
 | .seq _ b=>b
 |c=>c
def Ll:Nat->qq->qq
 |0,c=>c
 |k+1,c=>Ll k (asnd c)
abbrev QR(d:j7):qk->AS->Prop:=UA prog 191 argsR rsR envR (RR d)
variable {xs:List Fs}
theorem ten(h:xs.length=10):∃a b c d e f g h i j,xs=[a,b,c,d,e,f,g,h,i,j]:=by
 match xs,h with
 |[a,b,c,d,e,f,g,h,i,j],_=>exact⟨a,b,c,d,e,f,g,h,i,j,rfl⟩
theorem Cv{d:j7}{H:AC}{m:Nat}{y:Fs}{p:Int}(h1:hget H 1=some (.box xs))(hx:xs.length=10)(h2:hget H 2=some (.box [y]))(hr:resD d= .error p):QR d (.pan (errV p)) ⟨[],H,m⟩:=by
 refine CY.mono (d_rp h1 hx h2) ?_;rintro H2 n2 ⟨k1,k2⟩;unfold RcOf;simp only[eE,seval,BK,k1,k2];unfold RR;rw[hr];exact⟨_,rfl,Wk.tup (.cons (Wk.agg (.cons (Wk.refl _) (.cons (Wk.refl _) (.cons (Wk.refl _) (.cons (Wk.refl _) (.cons (Wk.refl _) (.cons (Wk.sl (.inr rfl)) (.cons (Wk.sl (.inr rfl)) (.cons (Wk.sl (.inr rfl)) (.cons (Wk.sl (.inr rfl)) (.cons (Wk.sl (.inr rfl)) .nil))))))))))) (.cons (Wk.refl _) .nil))⟩
theorem Pj{d:j7}{env:List (Nat×Bool×Fs)}{H:AC}{m:Nat}{y:Fs}(h1:hget H 1=some (.box xs))(hx:xs.length=10)(h2:hget H 2=some (.box [y]))(hr:RR d (.ret (.tup [.agg xs,y])) H m):QR d .ret ⟨env,H,m⟩:=by
 refine CY.mono d_rn ?_;rintro H2 n2 ⟨rfl,rfl⟩;obtain⟨a,b,c,d,e,f,g,h,i,j,rfl⟩:=ten hx;unfold RcOf;simp only[eE,seval,BK,h1,h2];exact hr
end
section
structure NM(d:j7)(vc vr:Fs)(H:AC):Prop where
 h0:hget H 0=some (.box (CR d vc vr))
 h1:hget H 1=some (.box IL)
 h2:hget H 2=some (.box [.int .i64 0])
 h5:hget H 5=some (nmO (d.syms.map λx:j9=>x.nm))
 h7:hget H 7=some (.box [.mp 5])
 h12:hget H 12=some (nmO (Br d))
 h18:hget H 18=some (nmO (d.clus.map λx:zz=>x.nm))
def notM(i:Nat):Prop:=i≠0/\i≠1/\i≠2/\i≠5/\i≠7/\i≠12/\i≠18
variable {H:AC} {vc vr:Fs} {d:j7} {i e:Nat}
theorem NM.set{ob:zx}(h:NM d vc vr H)(hi:notM i):NM d vc vr (hset H i ob):=by
 obtain⟨a,b,c,e,f,g,k⟩:=hi;exact⟨by rw[AA _ _ _ _ a];exact h.h0,by rw[AA _ _ _ _ b];exact h.h1,by rw[AA _ _ _ _ c];exact h.h2,by rw[AA _ _ _ _ e];exact h.h5,by rw[AA _ _ _ _ f];exact h.h7,by rw[AA _ _ _ _ g];exact h.h12,by rw[AA _ _ _ _ k];exact h.h18⟩
theorem NM.put{vc' vr':Fs}(h:NM d vc vr H):NM d vc' vr' (hset H 0 (.box (CR d vc' vr'))):=
 ⟨AB ..,by rw[AA _ _ _ _ zd];exact h.h1,by rw[AA _ _ _ _ zd];exact h.h2,by rw[AA _ _ _ _ zd];exact h.h5,by rw[AA _ _ _ _ zd];exact h.h7,by rw[AA _ _ _ _ zd];exact h.h12,by rw[AA _ _ _ _ zd];exact h.h18⟩
theorem NM.ne{id:Nat}{A:List Fs}(s6:NM d vc vr H)(ho:hget H id=some (.arr e A)):notM id:=by
 refine⟨?_,?_,?_,?_,?_,?_,?_⟩<;>rintro rfl
 ·rw[s6.h0]at ho;cases ho
 ·rw[s6.h1]at ho;cases ho
 ·rw[s6.h2]at ho;cases ho
 ·rw[s6.h5]at ho;cases ho
 ·rw[s6.h7]at ho;cases ho
 ·rw[s6.h12]at ho;cases ho
 ·rw[s6.h18]at ho;cases ho
theorem Ln(h:21<=i):notM i:=⟨zo,zo,zo,zo,zo,zo,zo⟩
theorem Cq{α β:Type}(f:α->Option β)(x:α)(r:List α):Ag f (x::r)=(match f x with
  |some y=>(Ag f r).map λs=>y::s
  |none=>none):=by
 simp only[Ag];cases f x with
 |none=>rfl
 |some y=>cases Ag f r<;>rfl
structure VRl where
 i:Nat
 dn:List qj
 H:AC
structure IRl(d:j7)(cs:List zz)(vc vr:Fs)(n:Nat)(v:VRl):Prop where
 hi:v.i<=d.ruls.length
 ln:v.dn.length=v.i
 fr:AR v.H n
 nm:NM d vc vr v.H
 lc:LV 6 vc v.H (cs.map CG)
 lv:LV 12 vr v.H ((v.dn++d.ruls.drop v.i).map BW)
 eq:Ag (BG d) d.ruls=(Ag (BG d) (d.ruls.drop v.i)).map λr=>v.dn++r
section
variable {a b c d e f g h i j k l v:Fs}
theorem apR3(hv:v.cells=[v]):DX (.agg [a,b,c,d,e,f,g,h,i,j,k,l]) 3 1 12 v=(True,.agg [a,b,c,v,e,f,g,h,i,j,k,l]):=by
 rw[Ec zd];simp [splice,hv]
theorem apR6(hv:v.cells=[v]):DX (.agg [a,b,c,d,e,f,g,h,i,j,k,l]) 6 1 12 v=(True,.agg [a,b,c,d,e,f,v,h,i,j,k,l]):=by
 rw[Ec zd];simp [splice,hv]
theorem apR7(hv:v.cells=[v]):DX (.agg [a,b,c,d,e,f,g,h,i,j,k,l]) 7 1 12 v=(True,.agg [a,b,c,d,e,f,g,v,i,j,k,l]):=by
 rw[Ec zd];simp [splice,hv]
theorem Sr(hv:v.cells=[v]):DX (.agg [a,b,c,d,e,f,g,h,i,j,k,l]) 11 1 12 v=(True,.agg [a,b,c,d,e,f,g,h,i,j,k,v]):=by
 rw[Ec zd];simp [splice,hv]
end
theorem LV.set{v:Fs}{l:List Fs}{id:Nat}{ob:zx}(h:LV e v H l)(d8:∀a b c x,v≠ .ref id a b c x):LV e v (hset H id ob) l:=by
 rcases h with h|⟨h0,i,cap,rest,rfl,ho,hc⟩
 ·exact .inl h
 ·exact .inr ⟨h0,i,cap,rest,rfl,by rw[AA _ _ _ _ (λq=>d8 _ _ _ _ (by rw[q]))];exact ho,hc⟩
theorem LV.no{l:List Fs}{a b c x:Nat}(h:LV e (.ref i a b c x) H l)(hn:∀e' A,hget H i≠some (.arr e' A)):False:=by
 rcases h with⟨-,t,h,-⟩|⟨-,id,cap,rest,h,ho,-⟩
 ·cases h
 ·cases h;exact hn _ _ ho
theorem Uk(d:j7)(hd:qv d)(o9:¬16<d.syms.length)(i7:Ah (d.syms.map λx:j9=>x.nm)=false)(l8:Ah (Br d)=false)(x7:Ah (d.clus.map λx:zz=>x.nm)=false){cs:List zz}(t5:Ag (Bm d) d.clus=some cs)(am:Ah (d.ruls.map λx:qj=>x.nm)=false)
  {n:Nat} (hf:AR H n) (hm:NM d vc vr H) (hvc:LV 6 vc H (cs.map CG)) (hvr:LV 12 vr H (d.ruls.map BW)) (hdj:∀i a b c e j f g h k,vc= .ref i a b c e->vr= .ref j f g h k->i≠j):
  evK prog Tnr (asnd (afst (Ll 9 c145))) [.c (asnd (Ll 9 c145))] (QR d) ⟨[(1,true,.ptr 0 0),(2,true,.ptr 1 0),(3,true,.ptr 2 0),(5,true,.mp 12),(6,true,.mp 18),(8,true,.fn (.func 206) [] [.ptr 7 0]),(66,true,.int .i64 d.ruls.length),(67,true,.int .i64 0)],H,n⟩:=by
 have hrl:d.ruls.length<1000000000:=hd.ru;have hbase:∀x,Ag (BG d) d.ruls=x->resD d=(match x with|none=>.error 160|some rs=>.ok {d with clus:=cs,ruls:=rs}):=λx hx=>by
  unfold resD;rw[X6 o9,i7,l8,x7,t5];simp only[Y1,Yd];rw[am,hx];rfl
 simp only[eE,Ll,asnd,afst,c145];refine AL (λv:VRl=>⟨[(1,true,.ptr 0 0),(2,true,.ptr 1 0),(3,true,.ptr 2 0),(5,true,.mp 12),(6,true,.mp 18),(8,true,.fn (.func 206) [] [.ptr 7 0]),(66,true,.int .i64 d.ruls.length),(67,true,.int .i64 v.i)],v.H,n⟩) (IRl d cs vc vr n) (λv=>d.ruls.length-v.i)
  ⟨0,[],H⟩ rfl ⟨Xn _,rfl,hf,hm,hvc,hvr,by rw[aK];cases Ag (BG d) d.ruls<;>rfl⟩ ?_
 rintro⟨i,dn,H1⟩ hI;have hi:=hI.hi;have r9:=hI.ln;have c7:=hI.fr;have s6:=hI.nm;have u0:=hI.lc;have l9:=hI.lv;have heq:=hI.eq;clear hI hf hm hvc hvr;simp only at hi r9 c7 s6 u0 l9 heq;by_cases c5:i<d.ruls.length;case neg=>
  obtain rfl:i=d.ruls.length:=zo
  rw[Yj]at heq l9;rw[Yb]at l9;have hr:=hbase _ heq;simp only[Ag,Yn,Yb]at hr;simp only[eZ,seval,lt_F c5,s6.h0,CR,s6.h1,s6.h2];refine Pj (xs:=CR d vc vr) (y:=.int .i64 0) ?_ rfl ?_ ?_
  ·simp only[AK];rfl
  ·simp only[AK];rfl
  unfold RR;rw[hr];have l5:∀a b c x,vc≠ .ref 1 a b c x/\vc≠ .ref 2 a b c x/\vr≠ .ref 1 a b c x/\vr≠ .ref 2 a b c x:=by
   intro a b c x;refine⟨?_,?_,?_,?_⟩<;>rintro rfl
   ·exact u0.no (by rw[s6.h1];simp)
   ·exact u0.no (by rw[s6.h2];simp)
   ·exact l9.no (by rw[s6.h1];simp)
   ·exact l9.no (by rw[s6.h2];simp)
  exact⟨vc,vr,rfl,(u0.set λa b c x=>(l5 a b c x).1).set λa b c x=>(l5 a b c x).2.1,(l9.set λa b c x=>(l5 a b c x).2.2.1).set λa b c x=>(l5 a b c x).2.2.2,hdj⟩
 have hrx:=(hd.rus _ (Xt c5));rw[Y2 c5]at heq l9;rw[Cq]at heq;generalize d.ruls[i]=r at heq l9 hrx;have m7:((dn++r::d.ruls.drop (i+1)).map BW).length=d.ruls.length:=by simp;omega
 rcases l9 with⟨h0,-⟩|⟨-,id,cap,rest,hvr,ho,hcr⟩
 ·simp at h0
 rw[m7]at hvr hcr;subst hvr;have e:=AE (k:=i) zo;have d6:id<n:=c7.lt ho;have d8:=s6.ne ho;have h0:=s6.h0;have z9:((dn++r::d.ruls.drop (i+1)).map BW++rest)[i]?=some (BW r):=by
  rw[Xr,Yg,YF (by simp;omega)];simp [r9]
 have t9:i<((dn++r::d.ruls.drop (i+1)).map BW++rest).length:=by rw[Xz,m7];omega
 have hse:∀r':qj,((dn++r::d.ruls.drop (i+1)).map BW++rest).set i (BW r')=((dn++[r'])++d.ruls.drop (i+1)).map BW++rest:=λr'=>by
  rw[Xr,Yg,List.set_append_right _ _ (by simp;omega)];simp [r9]
 generalize hA:(dn++r::d.ruls.drop (i+1)).map BW++rest=A at ho z9 t9 hse;have o8:∀x,(i<(A.set i x).length)=True:=λx=>X1 (by rw[Z2];exact t9)
 have hgs:∀x,(A.set i x)[i]?=some x:=λx=>List.getElem?_set_self t9
 have w8:∀x y,(A.set i x).set i y=A.set i y:=λx y=>List.set_set ..
 have z0':(id=0)=False:=X7 d8.1;have z5':(id=5)=False:=X7 d8.2.2.2.1;have z7':(id=7)=False:=X7 d8.2.2.2.2.1;have z12':(id=12)=False:=X7 d8.2.2.2.2.2.1;have z18':(id=18)=False:=X7 d8.2.2.2.2.2.2;have h7:=s6.h7;have h5:=s6.h5;have i5:BG d r=none->resD d= .error 160:=λq=>by
  rw[q]at heq;exact hbase _ heq
 have i9:∀ob,NM d vc (.ref id 12 0 d.ruls.length cap) (hset H1 id ob):=λob=>s6.set d8
 have hvn:∀a b c x,vc≠ .ref id a b c x:=λa b c x q=>hdj _ _ _ _ _ _ _ _ _ _ q rfl rfl
 have fin:∀(F a b c:Int),BG d r=some {r with fam:=F,set:=a,oth:=b,clue:=c}->lpN (λv:VRl=>⟨[(1,true,.ptr 0 0),(2,true,.ptr 1 0),(3,true,.ptr 2 0),(5,true,.mp 12),(6,true,.mp 18),(8,true,.fn (.func 206) [] [.ptr 7 0]),(66,true,.int .i64 d.ruls.length),(67,true,.int .i64 v.i)],v.H,n⟩) (IRl d cs vc (.ref id 12 0 d.ruls.length cap) n) (λv=>d.ruls.length-v.i) ⟨i,dn,H1⟩
   ⟨[(1,true,.ptr 0 0),(2,true,.ptr 1 0),(3,true,.ptr 2 0),(5,true,.mp 12),(6,true,.mp 18),(8,true,.fn (.func 206) [] [.ptr 7 0]),(66,true,.int .i64 d.ruls.length),(67,true,.int .i64 ((i+1:Nat):Int))],hset H1 id (.arr 12 (A.set i (.agg [.str r.nm,.str r.on,.int .i64 r.kind,.int .i64 F,eSs r.ns,eSs r.os,.int .i64 a,.int .i64 b,.int .i64 r.op,.int .i64 r.n,.str r.byN,.int .i64 c]))),n⟩:=λF a b c x8=>by
  rw[x8]at heq;have hse2:=hse {r with fam:=F,set:=a,oth:=b,clue:=c};refine .mk ⟨i+1,dn++[{r with fam:=F,set:=a,oth:=b,clue:=c}],hset H1 id (.arr 12 (A.set i (BW {r with fam:=F,set:=a,oth:=b,clue:=c})))⟩ rfl ⟨c5,by simp [r9],c7.hset (X9 _) d6,i9 _,u0.set hvn,.inr ⟨zw,id,cap,rest,?_,?_,?_⟩,?_⟩ zp
  ·simp only[X0,Xz,Y4,YE,YU,r9];congr 1;omega
  ·simp only[];rw[AB,hse2]
  ·simp only[X0,Xz,Y4,YE,YU,r9];omega
  ·simp only[];rw[heq];cases Ag (BG d) (d.ruls.drop (i+1))<;>simp
 by_cases bb:r.on=[]
 ·have hb:scmp .neq r.on []=false:=by rw[Ap,bb];rfl
  simp only[eZ,eX,seval,Xs,Xo,Xq,atN,atK,GH,lt_T c5,h0,CR,ho,z9,X1 t9,addr,X1 d6,o8,hgs,w8,BW,BS,apR3,Sr,AN,hb];refine(Sq (by rw[X0];omega) hrx.1 (i9 _).h7 (i9 _).h5).mono λo H' n' hq=>?_
  obtain⟨rfl,rfl,hq⟩:=hq;cases m4:CW (d.syms.map λx:j9=>x.nm) r.ns with
  |none=>
   rw[m4]at hq;subst hq;simp only[eE,eN,Ej];exact Cv (i9 _).h1 rfl (i9 _).h2 (i5 (by unfold BG;rw[Xp bb,m4]))
  |some a=>
   rw[m4]at hq;subst hq;simp only[eE,eC,eX,seval,Ej];refine(Sq (by rw[X0];omega) hrx.2 (i9 _).h7 (i9 _).h5).mono λo H' n' hq=>?_
   obtain⟨rfl,rfl,hq⟩:=hq;cases v8:CW (d.syms.map λx:j9=>x.nm) r.os with
   |none=>
    rw[v8]at hq;subst hq;simp only[eE,eN,Ej];exact Cv (i9 _).h1 rfl (i9 _).h2 (i5 (by unfold BG;rw[Xp bb,m4,v8]))
   |some b=>
    rw[v8]at hq;subst hq;by_cases hby:r.byN=[]
    ·have i8:scmp .neq r.byN []=false:=by rw[Ap,hby];rfl
     simp only[eZ,eX,seval,Xs,Ej,i8,JH,o8,hgs,w8,apR6,apR7,AN,e];exact fin 0 a b (-1) (by unfold BG;rw[Xp bb,m4,v8,Xp hby])
    ·have i8:scmp .neq r.byN []=true:=by rw[Ap,Ay hby];rfl
     simp only[eZ,eX,seval,Xs,Ej,i8,JH,o8,hgs,w8,apR6,apR7,AN];refine(KG (i9 _).h18).mono λo H' n' hq=>?_
     obtain⟨rfl,rfl,hq⟩:=hq;cases t7:BH (d.clus.map λx:zz=>x.nm) r.byN with
     |none=>
      rw[t7]at hq;subst hq;simp only[eE,eN,retK];exact Cv (i9 _).h1 rfl (i9 _).h2 (i5 (by unfold BG;rw[Xp bb,m4,v8,X6 hby,t7]))
     |some c=>
      rw[t7]at hq;subst hq;simp only[eE,eN,seval,Xs,retK,o8,hgs,w8,Sr,AN,e];exact fin 0 a b c (by unfold BG;rw[Xp bb,m4,v8,X6 hby,t7])
 ·have hb:scmp .neq r.on []=true:=by rw[Ap,Ay bb];rfl
  simp only[eZ,seval,Xs,Xo,Xq,lt_T c5,h0,CR,ho,z9,X1 t9,o8,hgs,w8,BW,BS,apR3,Sr,AN,hb];refine(KG (i9 _).h12).mono λo H' n' hq=>?_
  obtain⟨rfl,rfl,hq⟩:=hq;cases e9:BH (Br d) r.on with
  |none=>
   rw[e9]at hq;subst hq;simp only[eE,eN,retK];exact Cv (i9 _).h1 rfl (i9 _).h2 (i5 (by unfold BG;rw[X6 bb,e9]))
  |some F=>
   rw[e9]at hq;subst hq;simp only[eE,eN,eX,seval,Xs,atN,atK,GH,retK,addr,X1 d6,o8,hgs,w8,apR3,AN];refine(Sq (by rw[X0];omega) hrx.1 (i9 _).h7 (i9 _).h5).mono λo H' n' hq=>?_
   obtain⟨rfl,rfl,hq⟩:=hq;cases m4:CW (d.syms.map λx:j9=>x.nm) r.ns with
   |none=>
    rw[m4]at hq;subst hq;simp only[eE,eN,Ej];exact Cv (i9 _).h1 rfl (i9 _).h2 (i5 (by unfold BG;rw[X6 bb,e9,m4]))
   |some a=>
    rw[m4]at hq;subst hq;simp only[eE,eC,eX,seval,Ej];refine(Sq (by rw[X0];omega) hrx.2 (i9 _).h7 (i9 _).h5).mono λo H' n' hq=>?_
    obtain⟨rfl,rfl,hq⟩:=hq;cases v8:CW (d.syms.map λx:j9=>x.nm) r.os with
    |none=>
     rw[v8]at hq;subst hq;simp only[eE,eN,Ej];exact Cv (i9 _).h1 rfl (i9 _).h2 (i5 (by unfold BG;rw[X6 bb,e9,m4,v8]))
    |some b=>
     rw[v8]at hq;subst hq;by_cases hby:r.byN=[]
     ·have i8:scmp .neq r.byN []=false:=by rw[Ap,hby];rfl
      simp only[eZ,eX,seval,Xs,Ej,i8,JH,o8,hgs,w8,apR6,apR7,AN,e];exact fin F a b (-1) (by unfold BG;rw[X6 bb,e9,m4,v8,Xp hby])
     ·have i8:scmp .neq r.byN []=true:=by rw[Ap,Ay hby];rfl
      simp only[eZ,eX,seval,Xs,Ej,i8,JH,o8,hgs,w8,apR6,apR7,AN];refine(KG (i9 _).h18).mono λo H' n' hq=>?_
      obtain⟨rfl,rfl,hq⟩:=hq;cases t7:BH (d.clus.map λx:zz=>x.nm) r.byN with
      |none=>
       rw[t7]at hq;subst hq;simp only[eE,eN,retK];exact Cv (i9 _).h1 rfl (i9 _).h2 (i5 (by unfold BG;rw[X6 bb,e9,m4,v8,X6 hby,t7]))
      |some c=>
       rw[t7]at hq;subst hq;simp only[eE,eN,seval,Xs,retK,o8,hgs,w8,Sr,AN,e];exact fin F a b c (by unfold BG;rw[X6 bb,e9,m4,v8,X6 hby,t7])
end
structure VCl where
 i:Nat
 dn:List zz
 H:AC
structure ICl(d:j7)(vc:Fs)(n:Nat)(v:VCl):Prop where
 hi:v.i<=d.clus.length
 ln:v.dn.length=v.i
 fr:AR v.H n
 nm:NM d vc (eRus d.ruls) v.H
 lv:LV 6 vc v.H ((v.dn++d.clus.drop v.i).map CG)
 eq:Ag (Bm d) d.clus=(Ag (Bm d) (d.clus.drop v.i)).map λr=>v.dn++r
def apS2{a b c d e f v:Fs}(h:v.cells=[v]):DX (.agg [a,b,c,d,e,f]) 2 1 6 v=(True,.agg [a,b,v,d,e,f]):=by
 rw[Ec zd];simp [splice,h]
theorem Ul(d:j7)(hd:qv d)(o9:¬16<d.syms.length)(i7:Ah (d.syms.map λx:j9=>x.nm)=false)(l8:Ah (Br d)=false)(x7:Ah (d.clus.map λx:zz=>x.nm)=false)
  {vc:Fs} {H:AC} {n:Nat} {ml:Int} (hml:ml=(d.clus.length:Int)) (hn:21<=n) (hf:AR H n) (hm:NM d vc (eRus d.ruls) H) (hv:LV 6 vc H (d.clus.map CG)):
  evK prog Tnr (asnd (afst (Ll 5 c145))) [.c (asnd (Ll 5 c145))] (QR d) ⟨[(1,true,.ptr 0 0),(2,true,.ptr 1 0),(3,true,.ptr 2 0),(4,true,.ptr 7 0),(5,true,.mp 12),(6,true,.mp 18),(37,true,.int .i64 ml),(38,true,.int .i64 0)],H,n⟩:=by
 subst hml;have o6:d.clus.length<1000000000:=hd.cl;simp only[eE,Ll,asnd,afst,c145];refine AL (λv:VCl=>⟨[(1,true,.ptr 0 0),(2,true,.ptr 1 0),(3,true,.ptr 2 0),(4,true,.ptr 7 0),(5,true,.mp 12),(6,true,.mp 18),(37,true,.int .i64 d.clus.length),(38,true,.int .i64 v.i)],v.H,n⟩) (ICl d vc n) (λv=>d.clus.length-v.i)
  ⟨0,[],H⟩ rfl ⟨Xn _,rfl,hf,hm,hv,by rw[aK];cases Ag (Bm d) d.clus<;>rfl⟩ ?_
 rintro⟨i,dn,H1⟩ hI;have hi:=hI.hi;have r9:=hI.ln;have c7:=hI.fr;have s6:=hI.nm;have l9:=hI.lv;have heq:=hI.eq;simp only at hi r9 c7 s6 l9 heq;by_cases c5:i<d.clus.length
 ·rw[Y2 c5]at heq l9;rw[Cq]at heq;generalize d.clus[i]=c at heq l9;have m7:((dn++c::d.clus.drop (i+1)).map CG).length=d.clus.length:=by simp;omega
  rcases l9 with⟨h0,-⟩|⟨-,id,cap,rest,hvc,ho,hcr⟩
  ·simp at h0
  rw[m7]at hvc hcr;subst hvc;have e:=AE (k:=i) zo;have d6:id<n:=c7.lt ho;have h0:=s6.h0;have z9:((dn++c::d.clus.drop (i+1)).map CG++rest)[i]?=some (.agg [.str c.nm,.str c.on,.int .i64 c.fam,.int .i64 c.ty,.int .i64 c.lo,.int .i64 c.hi]):=by
   rw[Xr,Yg,YF (by simp;omega)];simp [r9]
  have t9:(i<((dn++c::d.clus.drop (i+1)).map CG++rest).length)=True:=X1 (by rw[Xz,m7];omega);have hse:∀c':zz,((dn++c::d.clus.drop (i+1)).map CG++rest).set i (CG c')=((dn++[c'])++d.clus.drop (i+1)).map CG++rest:=λc'=>by
   rw[Xr,Yg,List.set_append_right _ _ (by simp;omega)];simp [r9]
  have d8:=s6.ne ho;generalize hA:(dn++c::d.clus.drop (i+1)).map CG++rest=A at ho z9 t9 hse;simp only[eZ,eX,seval,Xs,Xo,Xq,atN,atK,GH,lt_T c5,h0,CR,ho,z9,t9,addr,X1 d6];refine(KG s6.h12).mono λo H' n' hq=>?_
  obtain⟨rfl,rfl,hq⟩:=hq;cases e9:BH (Br d) c.on with
  |none=>
   rw[e9]at hq;subst hq;have hrc:Bm d c=none:=by unfold Bm;rw[e9];rfl
   rw[hrc]at heq;have hr:resD d= .error 160:=by unfold resD;rw[X6 o9,i7,l8,x7,heq];rfl
   simp only[eE,eN,Ej];exact Cv s6.h1 rfl s6.h2 hr
  |some k=>
   rw[e9]at hq;subst hq;have hrc:Bm d c=some {c with fam:=k}:=by unfold Bm;rw[e9];rfl
   rw[hrc]at heq;have v8:=hse {c with fam:=k};simp only[eZ,eX,seval,Xs,Xo,Xq,Ej,JH,ho,z9,t9,apS2 (v:=.int .i64 k) rfl,e];refine⟨zo,.mk ⟨i+1,dn++[{c with fam:=k}],hset H' id (.arr 6 (A.set i (CG {c with fam:=k})))⟩ rfl ⟨c5,by simp [r9],c7.hset (X9 _) d6,s6.set d8,.inr ⟨zw,id,cap,rest,?_,?_,?_⟩,?_⟩ zp⟩
   ·simp only[X0,Xz,Y4,YE,YU,r9];congr 1;omega
   ·simp only[];rw[AB,v8]
   ·simp only[X0,Xz,Y4,YE,YU,r9];omega
   ·simp only[];rw[heq];cases Ag (Bm d) (d.clus.drop (i+1))<;>simp
 obtain rfl:i=d.clus.length:=zo
 rw[Yj]at heq l9;rw[Yb]at l9;have t5:Ag (Bm d) d.clus=some dn:=by rw[heq];simp [Ag]
 have h0:=s6.h0;have y0:∀k,(n+k=0)=False:=λk=>X7 zo
 simp only[eZ,seval,xE,lt_F c5,h0,CR,fr1 c7];refine(Sp (pre:=[]) hd.ru zd rfl (AB ..) rfl).mono λo H' n' hq=>?_
 unfold CQ at hq;rw[Y5]at hq;have i9:∀a b,NM d vc (eRus d.ruls) (hset (hset H1 (n+2) a) (n+2) b):=λa b=>(s6.set (Ln zo)).set (Ln zo)
 cases am:Ah (d.ruls.map λx:qj=>x.nm)with
 |true=>
  rw[am,Xp rfl]at hq;obtain⟨rfl,rfl,rfl⟩:=hq;have hr:resD d= .error 161:=by
   unfold resD;rw[X6 o9,i7,l8,x7,t5];simp only[Y1,Yd];rw[am];rfl
  simp only[eE,eN,retK];exact Cv (i9 _ _).h1 rfl (i9 _ _).h2 hr
 |false=>
 rw[am,X6 zd]at hq;obtain⟨rfl,rfl,rfl⟩:=hq;have hH:=i9 (nmO []) (nmO (d.ruls.map λx:qj=>x.nm));have u0:LV 6 vc (hset (hset H1 (n+2) (nmO [])) (n+2) (nmO (d.ruls.map λx:qj=>x.nm))) (dn.map CG):=by
  have ba:∀a b c x,vc≠ .ref (n+2) a b c x:=by
   rintro a b c x rfl;exact l9.no (by rw[c7 _ zo];simp)
  exact(l9.set ba).set ba
 have m6:AR (hset (hset H1 (n+2) (nmO [])) (n+2) (nmO (d.ruls.map λx:qj=>x.nm))) (n+4):=(c7.hset (m:=n+4) zo zo).hset (X9 _) zo;generalize hset (hset H1 (n+2) (nmO [])) (n+2) (nmO (d.ruls.map λx:qj=>x.nm))=H2 at hH u0 m6;have h02:=hH.h0;simp only[eE,eN,seval,retK,h02,CR];refine(XW d.ruls hd.ru).mono λo H' n' hq=>?_
 rcases hq with⟨o7,rfl,hn',t,rfl,c8⟩|⟨o7,rfl,cap,rest,rfl,rfl,hcr⟩
 ·have hrl:d.ruls.length=0:=by have:=congrArg List.length o7;simpa using this
  simp only[eE,seval,retK,h02,CR];rw[Ek];simp only[eE,seval];rw[Ek];simp only[eE,seval,c0];rw[Ek];have x9:∀a b c x,vc≠ .ref 0 a b c x:=by
   rintro a b c x rfl;exact u0.no (by rw[h02];simp)
  have:=Uk d hd o9 i7 l8 x7 t5 am (vr:=.sl t []) (m6.hset (id:=0) (m:=n') zo zo) hH.put (u0.set x9) (.inl ⟨o7,t,rfl,c8⟩) (λi a b c e j f g h k _ q=>by cases q);rw[hrl]at this;exact this
 ·have y4:∀k,(n+4+k=0)=False:=λk=>X7 zo
  simp only[eE,seval,retK,h02,CR,y0];rw[Ek];simp only[eE,seval];rw[Ek];simp only[eE,seval,X0];rw[Ek];have x9:∀a b c x,vc≠ .ref 0 a b c x:=by
   rintro a b c x rfl;exact u0.no (by rw[h02];simp)
  have hc6:∀a b c x,vc≠ .ref (n+6) a b c x:=by
   rintro a b c x rfl;exact u0.no (by rw[m6 _ zo];simp)
  refine Uk d hd o9 i7 l8 x7 t5 am (vr:=.ref (n+6) 12 0 d.ruls.length cap) (((m6.hset (m:=n+8) zo zo).hset (X9 _) zo)) (hH.set (Ln zo)).put ((u0.set hc6).set x9) (.inr ⟨o7,n+6,cap,rest,by rw[X0],?_,hcr⟩) (λi a b c e j f g h k q1 q2=>?_)
  ·rw[AA _ _ _ _ zo];exact AB ..
  ·cases q2;rintro rfl;exact hc6 _ _ _ _ q1
def Pk(d:j7)(hd:qv d):AP prog 145 [encD d] hnil 0 (RR d):=by
 refine a145 (AF Uj (AG ?_));simp only[eE,eN,seval,R7,Ei,LK,AZ,encD];refine⟨_,_,rfl,AF Uj (AG ?_)⟩;generalize hE:List.filter (λ(e:Nat×Bool×Fs)=>Nat.blt e.1 4) _=E;have hE':E=envR:=by rw[<-hE];rfl
 subst hE';clear hE;rw[Y5];by_cases o9:16<d.syms.length
 ·have hr:resD d= .error 2:=by unfold resD;rw[Xp o9]
  simp only[eZ,seval,X0,c145,X1 (show(16:Int)<(d.syms.length:Int)by omega),AI];refine Pj (xs:=IL) rfl rfl rfl ?_;unfold RR;rw[hr];exact⟨_,rfl,Wk.tup (.cons (Wk.agg (.cons (Wk.refl _) (.cons (Wk.refl _) (.cons (Wk.refl _) (.cons (Wk.refl _) (.cons (Wk.refl _) (.cons (Wk.sl (.inr rfl)) (.cons (Wk.sl (.inr rfl)) (.cons (Wk.sl (.inr rfl)) (.cons (Wk.sl (.inr rfl)) (.cons (Wk.sl (.inr rfl)) .nil))))))))))) (.cons (Wk.refl _) .nil))⟩
 simp only[eZ,seval,xE,X0,c145,X7 (show ¬(16:Int)<(d.syms.length:Int)by omega),AI];refine(Sm (pre:=[]) hd.sy zd rfl rfl rfl).mono λo H' n' hq=>?_
 unfold CQ at hq;rw[Y5]at hq;cases i7:Ah (d.syms.map λx:j9=>x.nm)with
 |true=>
  rw[i7,Xp rfl]at hq;obtain⟨rfl,rfl,rfl⟩:=hq;have hr:resD d= .error 161:=by unfold resD;rw[X6 o9,i7];rfl
  simp only[eE,eN,retK];exact Cv (xs:=IL) rfl rfl rfl hr
 |false=>
 rw[i7,X6 zd]at hq;obtain⟨rfl,rfl,rfl⟩:=hq;simp only[eZ,eX,seval,xE,retK,Tnr,addr,tadd];refine⟨⟨trivial,BV 0 _⟩,(Vc (pre:=[]) zd zd rfl rfl rfl).mono λo H' n' hq=>?_⟩;unfold CQ at hq;rw[Y5,show Ah (By.map λx:Bs=>x)=false by decide,X6 zd]at hq;obtain⟨rfl,rfl,rfl⟩:=hq;simp only[eE,eX,seval,Ej];refine(Sn (pre:=By) hd.rg zd rfl rfl zd).mono λo H' n' hq=>?_
 unfold CQ at hq;cases l8:Ah (Br d)with
 |true=>
  rw[show By++d.regs.map (λx:zk=>x.nm)=Br d from rfl,l8,Xp rfl]at hq;obtain⟨rfl,rfl,rfl⟩:=hq;have hr:resD d= .error 161:=by unfold resD;rw[X6 o9,i7,l8];rfl
  simp only[eE,eN,Ej];exact Cv (xs:=IL) rfl rfl rfl hr
 |false=>
 rw[show By++d.regs.map (λx:zk=>x.nm)=Br d from rfl,l8,X6 zd]at hq;obtain⟨rfl,rfl,rfl⟩:=hq;simp only[eE,eN,eX,seval,xE,Ej];refine(So (pre:=[]) hd.cl zd rfl rfl rfl).mono λo H' n' hq=>?_
 unfold CQ at hq;rw[Y5]at hq;cases x7:Ah (d.clus.map λx:zz=>x.nm)with
 |true=>
  rw[x7,Xp rfl]at hq;obtain⟨rfl,rfl,rfl⟩:=hq;have hr:resD d= .error 161:=by unfold resD;rw[X6 o9,i7,l8,x7];rfl
  simp only[eE,eN,retK];exact Cv (xs:=IL) rfl rfl rfl hr
 |false=>
 rw[x7,X6 zd]at hq;obtain⟨rfl,rfl,rfl⟩:=hq;simp only[eE,eN,seval,retK];refine(XV d.clus hd.cl).mono λo H' n' hq=>?_
 rcases hq with⟨h0,rfl,hn,t,rfl,c8⟩|⟨h0,rfl,cap,rest,rfl,rfl,hcr⟩
 ·have o6:d.clus.length=0:=by have:=congrArg List.length h0;simpa using this
  simp only[eE,seval,retK];rw[Ek];simp only[eE,seval,c0];rw[Ek];refine Ul d hd o9 i7 l8 x7 (vc:=.sl t []) (by rw[o6];rfl) hn (λid d6=>?_) (NM.mk (d:=d) (vr:=eRus d.ruls) rfl rfl rfl rfl rfl rfl rfl) (.inl ⟨h0,t,rfl,c8⟩);simp only[AK];repeat rw[X6 zo]
  rfl
 ·simp only[eE,seval,retK];rw[Ek];simp only[eE,seval,X0];rw[Ek];refine Ul d hd o9 i7 l8 x7 (vc:=.ref 23 6 0 d.clus.length cap) rfl zo (λid d6=>?_) (NM.mk (d:=d) (vr:=eRus d.ruls) rfl rfl rfl rfl rfl rfl rfl) (.inr ⟨h0,23,cap,rest,by rw[X0],rfl,hcr⟩);simp only[AK];repeat rw[X6 zo]
  rfl
def RS(d:j7):jq->AC->Nat->Prop:=λo H' n'=>match resD d with
 | .error e=>∃v,o= .ret v/\Wk v (.tup [encD dcl0,.int .i64 e])
 | .ok x=>∃vc vr,o= .ret (.tup [.agg (CR d vc vr),.int .i64 0])/\LF 6 vc H' (x.clus.map CG)/\LV 12 vr H' (x.ruls.map BW)
def RT(d:j7):jq->AC->Nat->Prop:=λo H' n'=>match resD d with
 | .error e=>∃v,o= .ret v/\Wk v (.tup [encD dcl0,.int .i64 e])
 | .ok x=>∃vc vr,o= .ret (.tup [.agg (CR d vc vr),.int .i64 0])/\LF 6 vc H' (x.clus.map CG)/\LF 12 vr H' (x.ruls.map BW)
def p145(d:j7)(hd:qv d):Pur prog 145 [encD d] (CK d):=by
 refine .mk ⟨Ae 0 d,trivial⟩ (by unfold CK;split<;>exact⟨Ae 0 _,trivial,trivial⟩) ?_;refine AP.out (R:=RT d) (AP.seal (R:=RS d) (AP.seal (R:=RR d) (Pk d hd) ?_) ?_) ?_
 ·intro o H' n' h;unfold RR at h;unfold RS;split at h
  ·rename_i e he;try rw[he]
   exact .inl h
  ·rename_i x hx;try rw[hx]
   obtain⟨vc,vr,rfl,h1,h2,h3⟩:=h;rcases h1 with h1|⟨h0,id,cap,rest,rfl,ho,hc⟩
   ·exact .inl ⟨vc,vr,rfl,.inl h1,h2⟩
   ·refine .inr ⟨id,_,_,ho,_,vr,rfl,.inr ⟨h0,id,cap,rest,rfl,AB ..,hc⟩,h2.set λa b c x=>?_⟩;rintro rfl;exact h3 _ _ _ _ _ _ _ _ _ _ rfl rfl rfl
 ·intro o H' n' h;unfold RS at h;unfold RT;split at h
  ·rename_i e he;try rw[he]
   exact .inl h
  ·rename_i x hx;try rw[hx]
   obtain⟨vc,vr,rfl,h1,h2⟩:=h;rcases h2 with h2|⟨h0,id,cap,rest,rfl,ho,hc⟩
   ·exact .inl ⟨vc,vr,rfl,h1,.inl h2⟩
   ·refine .inr ⟨id,_,_,ho,vc,_,rfl,?_,.inr ⟨h0,id,cap,rest,rfl,AB ..,hc⟩⟩;rcases h1 with h1|⟨q0,i2,c2,r2,rfl,o2,hc2⟩
    ·exact .inl h1
    ·refine .inr ⟨q0,i2,c2,r2,rfl,?_,hc2⟩;rw[AA _ _ _ _ (by rintro rfl;rw[ho]at o2;cases o2)];exact o2
 ·intro o H' n' h;unfold RT at h;unfold CK;split at h
  ·rename_i e he;try rw[he]
   obtain⟨v,rfl,hw⟩:=h;exact⟨.ret v,⟨v,rfl,hw⟩,λg w e _ q=>q⟩
  ·rename_i x hx;try rw[hx]
   obtain⟨vc,vr,rfl,h1,h2⟩:=h;refine⟨.ret (.tup [encD x,.int .i64 0]),⟨_,rfl,Wk.refl _⟩,λg w e hR q=>?_⟩;obtain⟨e1,e2,e3,e4,e5,e6,e7,e8⟩:=N2 hx;cases e with
   |panicked c=>exact q.elim
   |outgrown=>exact q.elim
   |returned y=>
    obtain⟨vs,rfl,y1,r1,q1,q2,q3⟩:=q;refine⟨vs,rfl,y1,r1,q1,?_,q3⟩;obtain⟨us,rfl,p1,p2⟩:=q2;refine⟨us,rfl,?_,p2⟩;obtain⟨a1,b1,f1,g1,a2,b2,f2,g2,a3,b3,f3,g3,a4,b4,f4,g4,a5,b5,f5,g5,a6,b6,f6,g6,a7,b7,f7,g7,a8,b8,f8,g8,a9,b9,f9,g9,a10,b10,f10,g10,g11⟩:=p1;rw[<-e1]at g1;rw[<-e2]at g2;rw[<-e3]at g3;rw[<-e4]at g4;rw[<-e5]at g5;rw[<-e6]at g6;rw[<-e7]at g7;rw[<-e8]at g8;exact⟨a1,b1,f1,g1,a2,b2,f2,g2,a3,b3,f3,g3,a4,b4,f4,g4,a5,b5,f5,g5,a6,b6,f6,g6,a7,b7,f7,g7,a8,b8,f8,g8,a9,b9,f9,JG h1 hR g9,a10,b10,f10,JG h2 hR g10,g11⟩
abbrev encF(f:FormD):Fs:=.agg [.bool f.on,.bool f.set,.bool f.oth,.bool f.bnd,.bool f.num,.bool f.rdb,.bool f.knw,.int .i64 f.clue]
def KH{k:Int}(h:k<0\/14<=k):Cz k={}:=by
 unfold Cz;repeat rw[X6 zo]
def p280(k:Int):Pur prog 280 [.int .i64 k] (encF (Cz k)):=by
 refine .mk ⟨trivial,trivial⟩ ⟨trivial,trivial,trivial,trivial,trivial,trivial,trivial,trivial,trivial⟩ (c280.a (AF AJ.tnil (AG ?_)));by_cases hk:k<0\/14<=k
 ·have hb:(decide (k<0)||decide (14<=k))=true:=by simpa using hk
  rw[KH hk];simp only[eZ,seval,BK,c280,hb];exact Wk.refl _
 ·have hb:(decide (k<0)||decide (14<=k))=false:=by simp;omega
  simp only[eZ,seval,BK,c280,hb];have k9:k=0\/k=1\/k=2\/k=3\/k=4\/k=5\/k=6\/k=7\/k=8\/k=9\/k=10\/k=11\/k=12\/k=13:=zo
  rcases k9 with rfl|rfl|rfl|rfl|rfl|rfl|rfl|rfl|rfl|rfl|rfl|rfl|rfl|rfl<;>exact⟨zd,zd,rfl,rfl,Wk.refl _⟩
def p247(c:zz):Pur prog 247 [CG c] (.bool (Dp c)):=by
 refine .mk ⟨EH 0 c,trivial⟩ trivial (c247.a (AF AJ.tnil (AG ?_)));unfold Dp;by_cases h1:c.ty=1
 ·simp only[eZ,seval,c247,h1]
 by_cases h2:c.ty=2
 ·simp only[eZ,seval,c247,h2]
 by_cases h3:c.ty=3
 ·simp only[eZ,seval,c247,h3]
 simp only[eZ,seval,c247,h1,h2,h3]
def p208(b:Bool)(e:Int):Pur prog 208 [.bool b,.int .i64 e] (.int .i64 (if b=true then 0 else e)):=by
 refine .mk ⟨trivial,trivial,trivial⟩ trivial (c208.a (AF AJ.tnil (AG ?_)));cases b<;>simp only[eZ,seval,c208]
def Tsh:Tab:=tadd 280 (s1 dI any1 λk=>encF (Cz k)) tnil
def Um:AJ prog Tsh:=AJ.tnil.add (q1 λk _=>p280 k)
def Vd(k:Int):(Cz k).rdb=(decide (1<=k)&&decide (k<=11)):=by
 by_cases hk:k<0\/14<=k
 ·rw[KH hk];symm;simp;omega
 ·have k9:k=0\/k=1\/k=2\/k=3\/k=4\/k=5\/k=6\/k=7\/k=8\/k=9\/k=10\/k=11\/k=12\/k=13:=zo
  rcases k9 with rfl|rfl|rfl|rfl|rfl|rfl|rfl|rfl|rfl|rfl|rfl|rfl|rfl|rfl<;>rfl
def p248(r:qj):Pur prog 248 [BW r] (.bool (Hy r)):=by
 refine .mk ⟨At 0 r,trivial⟩ trivial (c248.a (AF Um (AG ?_)));simp only[eE,eN,seval,c248,Tsh,s1,A4,Ai,encF,tadd];exact Vd r.kind
abbrev ruE1(r:qj)(on set oth:Bool):Bool:=on !=scmp .neq r.on []||set != !decide (r.set=0)||oth != !decide (r.oth=0)|| !on&& !decide (r.fam=0)|| !set&&decide ((0:Int)<(r.ns.length:Int))|| !oth&&decide ((0:Int)<(r.os.length:Int))
abbrev ruE2(r:qj)(bnd:Bool):Bool:=bnd !=(decide (1<=r.op)&&decide (r.op<=3))|| !bnd&& !decide (r.op=0)||decide (r.n<0)||decide (65536<r.n)
abbrev ruE3(r:qj)(bnd num:Bool):Bool:=!(num||bnd&&scmp .eql r.byN [])&& !decide (r.n=0)
def Ss{cl:List zz}{r:qj}{on set oth bnd num rdb:Bool}{clue:Int}(hf:Cz r.kind=⟨on,set,oth,bnd,num,rdb,true,clue⟩):
  Eo cl r=if ruE1 r on set oth=true then false else if ruE2 r bnd=true then false else if ruE3 r bnd num=true then false else
   if(if(bnd&&scmp .neq r.byN [])=true then 2 else clue)=0 then decide (r.byN=[])&&decide (r.clue= -1)else cluP cl r (if(bnd&&scmp .neq r.byN [])=true then 2 else clue):=by
 unfold Eo;rw[hf];have e1:∀(l:List Bs),decide ((0:Int)<(l.length:Int))=decide (0<l.length):=λl=>by
  rw[Y0,X8,X8];omega
 simp only[ruE1,ruE2,ruE3,Ap,Ax,e1,ne_eq,decide_not,aF,Yd];rfl
def p246(d:j7)(r:qj):Pur prog 246 [encD d,BW r] (.bool (Eo d.clus r)):=by
 refine .mk ⟨Ae 0 d,At 0 r,trivial⟩ trivial (c246.a (AF Um (AG ?_)));cases hf:(Cz r.kind)with
 |mk on set oth bnd num rdb knw clue=>
 cases knw with
 |false=>
  have hR:Eo d.clus r=false:=by unfold Eo;rw[hf];rfl
  rw[hR];simp only[eZ,seval,X5,c246,Tsh,s1,A4,Ai,hf,encF,tadd]
 |true=>
 rw[Ss hf];cases h1:ruE1 r on set oth with
 |true=>
  rw[Xp rfl];simp only[eZ,seval,X3,X0,c246,Tsh,s1,A4,Ai,hf,encF,h1,tadd]
 |false=>
 rw[X6 zd];cases h2:ruE2 r bnd with
 |true=>
  rw[Xp rfl];simp only[eZ,seval,X3,X0,c246,Tsh,s1,A4,Ai,hf,encF,h1,h2,tadd]
 |false=>
 rw[X6 zd];cases h3:ruE3 r bnd num with
 |true=>
  rw[Xp rfl];simp only[eZ,seval,X3,X0,c246,Tsh,s1,A4,Ai,hf,encF,h1,h2,h3,tadd]
 |false=>
 rw[X6 zd];cases h4:(bnd&&scmp .neq r.byN [])with
 |true=>
  simp only[Yt];rw[X6 zd];by_cases hc:r.clue<0\/(d.clus.length:Int)<=r.clue
  ·have m9:(decide (r.clue<0)||decide ((d.clus.length:Int)<=r.clue))=true:=by simpa using hc
   have hP:cluP d.clus r 2=false:=by unfold cluP;rw[Xp hc]
   rw[hP];simp only[eZ,seval,X3,X0,c246,Tsh,s1,A4,Ai,hf,encF,h1,h2,h3,h4,m9,tadd]
  ·have m9:(decide (r.clue<0)||decide ((d.clus.length:Int)<=r.clue))=false:=by simp;omega
   obtain⟨j,hj⟩:∃j:Nat,r.clue=(j:Int):=⟨r.clue.toNat,zo⟩;have hjl:j<d.clus.length:=zo
   have hg:=X2 hjl;generalize d.clus[j]=c at hg;have hP:cluP d.clus r 2=(decide (c.ty=2)&&(decide (2=1)||decide (c.fam=r.fam))):=by
    unfold cluP;(rw[X6 hc,hj,Xo,hg])<;>rfl
   rw[hP];rw[hj]at m9;simp only[eZ,seval,X3,eY,c246,Tsh,s1,A4,Ai,hf,encF,h1,h2,h3,h4,hj,m9,lt_T hjl,hg,tadd]
 |false=>
  simp only[Y1,Yd];by_cases h5:clue=0
  ·rw[Xp h5];subst h5;simp only[eZ,seval,X3,X0,c246,Tsh,s1,A4,Ai,hf,encF,h1,h2,h3,h4,tadd];rw[Ax]
  ·rw[X6 h5];by_cases hc:r.clue<0\/(d.clus.length:Int)<=r.clue
   ·have m9:(decide (r.clue<0)||decide ((d.clus.length:Int)<=r.clue))=true:=by simpa using hc
    have hP:cluP d.clus r clue=false:=by unfold cluP;rw[Xp hc]
    rw[hP];simp only[eZ,seval,X3,X0,c246,Tsh,s1,A4,Ai,hf,encF,h1,h2,h3,h4,Ay h5,m9,tadd]
   ·have m9:(decide (r.clue<0)||decide ((d.clus.length:Int)<=r.clue))=false:=by simp;omega
    obtain⟨j,hj⟩:∃j:Nat,r.clue=(j:Int):=⟨r.clue.toNat,zo⟩;have hjl:j<d.clus.length:=zo
    have hg:=X2 hjl;generalize d.clus[j]=c at hg;have hP:cluP d.clus r clue=(decide (c.ty=clue)&&(decide (clue=1)||decide (c.fam=r.fam))):=by
     unfold cluP;(rw[X6 hc,hj,Xo,hg])<;>rfl
    rw[hP];rw[hj]at m9;simp only[eZ,seval,X3,eY,c246,Tsh,s1,A4,Ai,hf,encF,h1,h2,h3,h4,Ay h5,hj,m9,lt_T hjl,hg,tadd]
def Trd:Tab:=tadd 248 (s1 dRu any1 λr=>.bool (Hy r)) tnil
def Trd_ok:AJ prog Trd:=AJ.tnil.add (q1 λr _=>p248 r)
structure VU where
 i:Nat
 tk:jx
 H:AC
 n:Nat
structure IU(rs:List qj)(v:VU):Prop where
 hi:v.i<=rs.length
 fr:AR v.H v.n
 hn:2<=v.n
 tok:tkG 1 1 v.H v.tk
 es:v.tk.esz=1\/BZ (rs.take v.i)=[]
def Ia(rs:List qj):(BZ rs).length<=rs.length:=by
 unfold BZ;rw[X0];exact Yi (Yz ..) zw
def G8{rs:List qj}{i:Nat}(h:i<rs.length):BZ (rs.take (i+1))=BZ (rs.take i)++(if Hy rs[i]=true then[]else[(i:Int)]):=by
 rw[Xx,X2 h];show BZ (rs.take i++[rs[i]])=_;rw[PV,Ya,Nat.min_eq_left zo]
def p217(d:j7)(hr:few d.ruls):Pur prog 217 [encD d] (eIs (BZ d.ruls)):=by
 refine .mk ⟨Ae 0 d,trivial⟩ (AQ 0 _) (c217.a (AF Trd_ok (AG ?_)));have hrl:d.ruls.length<1000000000:=hr;simp only[eE,eN,seval,X0,c217];refine AL (λv:VU=>⟨[(2,true,.sl v.tk ((BZ (d.ruls.take v.i)).map eI)),(6,true,eRus d.ruls),(7,true,.int .i64 d.ruls.length),(8,true,.int .i64 v.i)],v.H,v.n⟩) (IU d.ruls) (λv=>d.ruls.length-v.i)
  ⟨0,.nil,hset hnil 0 (.box (AI d)),2⟩ rfl ⟨Xn _,AR.nil.hset (m:=2) (Xn 2) (show 0<2 by decide),X9 _,.inl rfl,.inr rfl⟩ ?_
 rintro⟨i,tk,H,n⟩ ⟨hi,c7,hn,c8,d7⟩;simp only at hi c7 hn c8 d7;by_cases c5:i<d.ruls.length
 ·have hg:=X2 c5;have e:=AE (k:=i) zo;have hu:=G8 c5;have hul:=Ia (d.ruls.take i);rw[Ya]at hul;generalize d.ruls[i]=r at hg hu;cases x8:Hy r with
  |true=>
   rw[x8,Xp rfl,Yb]at hu;simp only[eZ,seval,X3,eY,lt_T c5,hg,fr1 c7,Trd,s1,Bi,BB,x8,e,AN,tadd];refine .mk ⟨i+1,tk,hset H (n+3) (.box (BS r)),n+6⟩ ?_ ⟨c5,c7.hset (m:=n+6) zo zo,zp,c8.set (.inr (.inr (c7 _ zo))),by simp only[hu];exact d7⟩ zp;simp only[hu]
  |false=>
   rw[x8,X6 zd]at hu;have gt:tkG 1 1 (hset H (n+3) (.box (BS r))) tk:=c8.set (.inr (.inr (c7 _ zo)));have gf:AR (hset H (n+3) (.box (BS r))) (n+6):=c7.hset (m:=n+6) zo zo;have q1:A8 (hset H (n+3) (.box (BS r))) 1 tk=True:=X1 gt.app;have q2:((BZ (d.ruls.take i)).length<=35184372088831)=True:=X1 zo;have q3:Aj ((BZ (d.ruls.take i)).length+1) 8=True:=X1 (AY zo zd);simp only[eZ,seval,X5,eY,lt_T c5,hg,fr1 c7,Trd,s1,Bi,BB,x8,e,AN,q1,q2,q3,tadd];refine .mk ⟨i+1,.own (n+9) 1,hset (AO (hset H (n+3) (.box (BS r))) tk) (n+9) .tok,n+11⟩ ?_ ⟨c5,(AU gt gf).hset (m:=n+11) zo zo,zp,.inr (.inr ⟨n+9,rfl,zo,AB ..⟩),.inl rfl⟩ zp;simp only[hu,Xr];rfl
 obtain rfl:i=d.ruls.length:=zo
 rw[Xu]at d7;simp only[eZ,seval,lt_F c5,Xu];exact Wk.sl (d7.imp id λq=>by rw[q];rfl)
def Tfm:Tab:=tadd 246 (s2 dD dRu any2 λd r=>.bool (Eo d.clus r)) (tadd 247 (s1 dCl any1 λc=>.bool (Dp c)) tnil)
def Tfm_ok:AJ prog Tfm:=(AJ.tnil.add (q1 λc _=>p247 c)).add (q2 λd r _=>p246 d r)
structure VM2 where
 i:Nat
 es:List (Fs×Fs×Nat)
 c:Nat
 H:AC
 n:Nat
structure IM2(d:j7)(id:Nat)(v:VM2):Prop where
 hi:v.i<=d.ruls.length
 fr:AR v.H v.n
 hn:id<v.n
 h0:hget v.H 0=some (.box (AI d))
 hm:hget v.H id=some (.map v.es v.c)
 ct:Ml (d.ruls.take v.i) v.es
 ok:d.ruls.all (Eo d.clus)=(d.ruls.drop v.i).all (Eo d.clus)
def Ml.nil:Ml [] []:=⟨trivial,λz=>rfl⟩
def p215(d:j7)(hd:qv d):Pur prog 215 [encD d] (.bool (Bg d)):=by
 refine .mk ⟨Ae 0 d,trivial⟩ trivial (c215.a (AF Tfm_ok (AG ?_)));have hsl:d.syms.length<1000000000:=hd.sy;have hrl:d.ruls.length<1000000000:=hd.ru;have o6:d.clus.length<1000000000:=hd.cl;simp only[eE,eN,seval,X0,c215];refine AL (λv:VF=>⟨[(1,true,.ptr 0 0),(11,true,eSys d.syms),(12,true,.int .i64 d.syms.length),(13,true,.int .i64 v.i)],v.H,v.n⟩) (λv=>v.i<=d.syms.length/\AR v.H v.n/\2<=v.n/\hget v.H 0=some (.box (AI d))/\(d.syms.all λs=>decide (0<=s.v)&&decide (s.v<=99))=((d.syms.drop v.i).all λs=>decide (0<=s.v)&&decide (s.v<=99))) (λv=>d.syms.length-v.i)
  ⟨0,hset hnil 0 (.box (AI d)),2⟩ rfl ⟨Xn _,AR.nil.hset (m:=2) (Xn 2) (show 0<2 by decide),X9 _,rfl,rfl⟩ ?_
 rintro⟨i,H,n⟩ ⟨hi,c7,hn,h0,c6⟩;simp only at hi c7 hn h0 c6;by_cases c5:i<d.syms.length
 ·have hg:=X2 c5;have e:=AE (k:=i) zo;rw[Y2 c5,Zy]at c6;generalize d.syms[i]=s at hg c6;by_cases hs:0<=s.v/\s.v<=99
  ·have hb:(decide (s.v<0)||decide (99<s.v))=false:=by simp;omega
   simp only[eZ,seval,eY,lt_T c5,hg,fr1 c7,e,AN,hb];refine .mk ⟨i+1,hset H (n+2) (.box [.str s.nm,.int .i64 s.v]),n+4⟩ rfl ⟨c5,c7.hset (m:=n+4) zo zo,zp,by simp only[];rw[AA _ _ _ _ zo];exact h0,?_⟩ zp;simp only[];rw[c6,BE hs.1,BE hs.2];rfl
  ·have hb:(decide (s.v<0)||decide (99<s.v))=true:=by simp;omega
   have hR:Bg d=false:=by
    unfold Bg;rw[c6,show(decide (0<=s.v)&&decide (s.v<=99))=false by simp;omega];rfl
   rw[hR];simp only[eZ,seval,eY,lt_T c5,hg,fr1 c7,AN,hb]
 obtain rfl:i=d.syms.length:=zo
 rw[Yj]at c6;have y0:(n=0)=False:=X7 zo;simp only[eZ,seval,xE,X0,lt_F c5,h0,fr0 c7,y0];refine AL (λv:VM2=>⟨[(1,true,.ptr 0 0),(5,true,.mp n),(28,true,eRus d.ruls),(29,true,.int .i64 d.ruls.length),(30,true,.int .i64 v.i)],v.H,v.n⟩) (IM2 d n) (λv=>d.ruls.length-v.i)
  ⟨0,[],0,hset H n (.map [] 0),n+2⟩ rfl ⟨Xn _,c7.hset (m:=n+2) zo zo,zp,by simp only[];rw[AA _ _ _ _ zo];exact h0,AB ..,Ml.nil,rfl⟩ ?_
 rintro⟨k,es,c,H1,n1⟩ hI;have hk:=hI.hi;have u9:=hI.fr;have l5:=hI.hn;have l7:=hI.h0;have hm:=hI.hm;have t6:=hI.ct;have d9:=hI.ok;simp only at hk u9 l5 l7 hm t6 d9;by_cases s8:k<d.ruls.length
 ·have hg:=X2 s8;have e:=AE (k:=k) zo;have c8:d.ruls.take (k+1)=d.ruls.take k++[d.ruls[k]]:=by rw[Xx,X2 s8];rfl
  rw[Y2 s8,Zy]at d9;have y1:∀q,(n1+q=n)=False:=λq=>X7 zo
  have y2:∀q,(n=n1+q)=False:=λq=>X7 zo
  have y3:∀q,(n1+q=0)=False:=λq=>X7 zo
  have y4:∀q,(0=n1+q)=False:=λq=>X7 zo
  generalize d.ruls[k]=r at hg d9 c8;cases hr:Eo d.clus r with
  |false=>
   have hR:Bg d=false:=by
    unfold Bg;rw[d9,hr];simp
   rw[hR];simp only[eZ,seval,X5,eY,lt_T s8,hg,Tfm,s2,BC,An,Bi,BB,hr,l7,fr1 u9,y3,AN,tadd]
  |true=>
  rw[hr,Yq]at d9;have o6:=VW (d.ruls.take k) r.clue;rw[Ya]at o6;have ew:=AE (k:=cntZ (d.ruls.take k) r.clue) zo;have hq:=t6.2 r.clue;simp only[eZ,seval,X3,xE,eY,lt_T s8,hg,Tfm,s2,BC,An,Bi,BB,hr,l7,fr1 u9,y1,y3,AN,hm,t6.1,KT.is,Cb,hq,e,ew,tadd];refine .mk ⟨k+1,mset (.int .i64 r.clue) (.int .i64 ((cntZ (d.ruls.take k) r.clue+1:Nat):Int)) c es,(if(BQ (Fs.int IntKind.i64 r.clue) es).isSome=true then c else c+1),hset (hset H1 (n1+2) (.box (BS r))) n (.map (mset (.int .i64 r.clue) (.int .i64 ((cntZ (d.ruls.take k) r.clue+1:Nat):Int)) c es) (if(BQ (Fs.int IntKind.i64 r.clue) es).isSome=true then c else c+1)),n1+4⟩ rfl
   ⟨s8,(u9.hset (m:=n1+4) zo zo).hset (X9 (n1+4)) (show n<n1+4 by omega),zp,?_,AB ..,by simp only[];rw[c8];exact t6.next,d9⟩ zp
  simp only[];rw[AA _ _ _ _ zo,AA _ _ _ _ zo];exact l7
 obtain rfl:k=d.ruls.length:=zo
 rw[Yj]at d9;rw[Xu]at t6;simp only[eZ,seval,X0,lt_F s8,l7];refine AL (λv:VF=>⟨[(5,true,.mp n),(45,true,eCls d.clus),(46,true,.int .i64 d.clus.length),(47,true,.int .i64 v.i)],v.H,v.n⟩) (λv=>v.i<=d.clus.length/\AR v.H v.n/\n<v.n/\hget v.H n=some (.map es c)/\∀j (h:j<d.clus.length),j<v.i->EG d.ruls j=1/\Dp d.clus[j]=true) (λv=>d.clus.length-v.i)
  ⟨0,H1,n1⟩ rfl ⟨Xn _,u9,l5,hm,λj h q=>absurd q (Yw _)⟩ ?_
 rintro⟨j,H2,n2⟩ ⟨hj,v9,hn2,w9,m5⟩;simp only at hj v9 hn2 w9 m5;by_cases hlj:j<d.clus.length
 ·have hg:=X2 hlj;have e:=AE (k:=j) zo;have y1:∀q,(n2+q=n)=False:=λq=>X7 zo
  have y2:∀q,(n=n2+q)=False:=λq=>X7 zo
  have hq:=t6.2 (j:Int);rw[N4]at hq;have i5:¬(EG d.ruls j=1/\Dp d.clus[j]=true)->Bg d=false:=λq=>by
   unfold Bg;rw[c6,d9];cases q1:((List.range d.clus.length).all λi=>decide (EG d.ruls i=1))with
   |false=>rfl
   |true=>
   cases q2:d.clus.all Dp with
   |false=>rfl
   |true=>exact absurd ⟨Yh (Xv.1 q1 j (Yu.2 hlj)),Xv.1 q2 _ (Xt hlj)⟩ q
  have hnext:EG d.ruls j=1/\Dp d.clus[j]=true->∀q (h:q<d.clus.length),q<j+1->EG d.ruls q=1/\Dp d.clus[q]=true:=λz q h hq=>by
   by_cases w:q=j
   ·subst w;exact z
   ·exact m5 q h zo
  generalize hx:d.clus[j]=x at hg i5 hnext;by_cases hmc:EG d.ruls j=1
  ·have hmb:(((EG d.ruls j:Nat):Int)=1)=True:=X1 zo;cases hc:Dp x with
   |false=>
    rw[i5 (by rw[hc];simp)];simp only[eZ,seval,X3,X5,xE,eY,lt_T hlj,hg,Tfm,s1,H8,Fd,hc,fr1 v9,y1,AN,w9,t6.1,KT.is,Cb,hq,hmb,tadd]
   |true=>
    simp only[eZ,seval,X3,xE,eY,lt_T hlj,hg,Tfm,s1,H8,Fd,hc,fr1 v9,y1,AN,w9,t6.1,KT.is,Cb,hq,e,hmb,tadd];refine .mk ⟨j+1,hset H2 (n2+3) (.box (CG x).cells),n2+6⟩ rfl ⟨hlj,v9.hset (m:=n2+6) zo zo,zp,?_,hnext ⟨hmc,hc⟩⟩ zp;simp only[];rw[AA _ _ _ _ zo];exact w9
  ·have hmb:(((EG d.ruls j:Nat):Int)=1)=False:=X7 zo;rw[i5 (λq=>hmc q.1)];simp only[eZ,seval,X3,X5,xE,eY,lt_T hlj,hg,Tfm,s1,H8,Fd,fr1 v9,y1,AN,w9,t6.1,KT.is,Cb,hq,hmb,tadd]
 obtain rfl:j=d.clus.length:=zo
 have hR:Bg d=true:=by
  have z2:d.clus.all Dp=true:=Xv.2 λq hq=>by
   obtain⟨m,hm,rfl⟩:=Yc.1 hq;exact(m5 m hm hm).2
  unfold Bg;rw[c6,d9,Xv.2 λq hq=>Y3 (m5 q (Yu.1 hq) (Yu.1 hq)).1,z2];rfl
 rw[hR];simp only[eZ,seval,lt_F hlj]
section
abbrev clV(q:Nat):Fs:=.fn (.func 278) [] [.ptr q 0]
abbrev eApp(q c:Nat):List (Nat×Bool×Fs):=[(2,true,.ptr c 0),(4,true,.sl .nil []),(6,true,clV q)]
structure AppF(q c L l':Nat)(H0:AC)(n0:Nat)(qs:List Int)(H:AC)(m:Nat):Prop where
 fr:AR H m
 lc:n0<=c
 cl:c<L
 lm:L<m
 hc:∃lv,hget H c=some (.box [lv])/\LvG eI 1 (L+1) H lv qs
 hL:hget H L=some (.lp ⟨l',.ready,none,13,eApp q c, #[7],Em,En⟩)
 kp:∀id ob,id<n0->hget H0 id=some ob->hget H id=some ob
variable {H:AC} {l:List Int} {q n:Nat}
theorem y_app{c L l':Nat}{H0:AC}{n0:Nat}{qs:List Int}{m:Nat}(F:AppF q c L l' H0 n0 qs H m)(x:Int)(hs:qs.length<1000000000){R:Bool->AC->Nat->Prop}
  (hR:∀H' m',AppF q c L l' H0 n0 (qs++[x]) H' m'->R true H' m'):B2 prog l' [eI x] H m R:=by
 obtain⟨fr,lc,cl,lm,⟨lv,hc,l9⟩,hL,kp⟩:=F;refine VQ hL rfl (AF AJ.tnil (AG ?_));simp only[eE,eN,seval,J0,renv,Zo,Zr,YW,ZL];refine⟨_,hL,rfl,AF AJ.tnil (AG ?_)⟩;have y1:∀k,(L=m+k)=False:=λk=>X7 zo
 have y2:(L=c)=False:=X7 zo;have y3:(c=L)=False:=X7 zo;simp only[eE,seval,Jz,hc,y2];have g1:∀k,hget (hset H L (.lp ⟨l',.busy,none,13,eApp q c, #[7],Em,En⟩)) (m+k)=none:=λk=>by rw[AA _ _ _ _ zo];exact fr1 fr k
 refine Mm (enc:=eI) (lo:=L+1) (qs:=qs) (z0:=0) ?_ rfl zd rfl rfl (AY zo zd) (g1 3) zo zo ?_
 ·rcases l9 with h|⟨d8,id,rest,h1,h2,h3⟩
  ·exact .inl h
  ·exact .inr ⟨d8,id,rest,h1,h2,by rw[AA _ _ _ _ zo];exact h3⟩
 intro id rest hlo d6;have hidm:id<m+5:=by
  rcases d6 with rfl|⟨Z,h⟩
  ·omega
  ·apply Classical.byContradiction;intro z;obtain⟨k,rfl⟩:∃k,id=m+k:=⟨id-m,zo⟩;rw[g1]at h;cases h
 have z1:(id=L)=False:=X7 zo;have z2:(id=c)=False:=X7 zo;have z3:(L=id)=False:=X7 zo;have z4:(c=id)=False:=X7 zo;have hidn:¬id<n0:=zo
 simp only[eE,eN,seval,EN,z2,y2,hc];refine⟨⟨l',.busy,none,13,eApp q c, #[7],Em,En⟩,by simp only[AK,y3,z1,Yd,Yt],hR _ _ ⟨?_,lc,cl,zp,⟨_,by simp only[AK,y2,Yd,Yt],.inr ⟨zw,id,rest,rfl,hlo,by simp only[AK,z3,z4,Yd,Yt]⟩⟩,by simp only[AK,Yt],?_⟩⟩
 ·intro j hj;have hj':m+5<=j:=hj;simp only[AK];repeat rw[X6 zo]
  exact fr j zo
 ·intro j ob hj h0;simp only[AK];repeat rw[X6 zo]
  exact kp j ob hj h0
theorem St(hf:AR H n)(hq:hget H q=some (.box [eIs l]))(hl:few l):
  AP prog 303 [.sl .nil [],clV q] H n λo H' n'=>∃lv,o= .ret lv/\LvG eI 1 (n+3) H' lv l/\AR H' n'/\n<=n'/\∀id ob,id<n->hget H id=some ob->hget H' id=some ob:=by
 have m7:l.length<1000000000:=hl;have hqn:=hf.lt hq;refine a303 (AF AJ.tnil (AG ?_));simp only[eE,eN,seval,c303,fr0 hf,FT];intro l';generalize hH1:hset (hset H n (.box [.sl .nil []])) (n+2) _=H1;have hq1:hget H1 q=some (.box [eIs l]):=by
  subst hH1;simp only[AK];repeat rw[X6 zo]
  exact hq
 have F0:AppF q n (n+2) l' H n [] H1 (n+3):=by
  subst hH1;refine⟨λj hj=>?_,X9 _,zo,zo,⟨.sl .nil [],?_,.inl ⟨rfl,rfl⟩⟩,AB ..,λj ob hj h0=>?_⟩
  ·simp only[AK];repeat rw[X6 zo]
   exact hf j zo
  ·simp only[AK];rw[X6 zo,Xp trivial]
  ·simp only[AK];repeat rw[X6 zo]
   exact h0
 clear hH1;refine c278.a (AF AJ.tnil (AG ?_));simp only[eE,eN,seval,X0,c278,hq1];refine AL (λv:VF=>⟨[(0,true,.fn (.yield l') [] []),(5,true,eIs l),(6,true,.int .i64 l.length),(7,true,.int .i64 v.i)],v.H,v.n⟩) (λv=>v.i<=l.length/\n+3<=v.n/\AppF q n (n+2) l' H n (l.take v.i) v.H v.n) (λv=>l.length-v.i)
  ⟨0,H1,n+3⟩ rfl ⟨Xn _,X9 _,F0⟩ ?_
 rintro⟨i,H2,m⟩ ⟨hi,hm,F⟩;simp only at hi hm F;by_cases c5:i<l.length
 ·have hg:=X2 c5;have e:=AE (k:=i) zo;have c8:l.take (i+1)=l.take i++[l[i]]:=by rw[Xx,X2 c5];rfl
  generalize l[i]=x at hg c8;simp only[eZ,seval,eY,lt_T c5,hg];refine y_app F x (by rw[Ya];omega) λH' m' F'=>?_
  simp only[eZ,seval,X3,yldK,e];exact .mk ⟨i+1,H',m'⟩ rfl ⟨c5,by have:=F'.lm;simp only[];omega,by simp only[];rw[c8];exact F'⟩ zp
 obtain rfl:i=l.length:=zo
 rw[Xu]at F;obtain⟨fr,lc,cl,lm,⟨lv,hc,l9⟩,hL,kp⟩:=F;have y1:(n+2=n)=False:=X7 zo;simp only[eZ,seval,lt_F c5,FQ,hL,hc,y1];refine⟨lv,rfl,?_,fr.hset (X9 m) (show n+2<m by omega),zo,λid ob d6 h0=>by rw[X6 zo];exact kp id ob d6 h0⟩;rcases l9 with h|⟨d8,id,rest,h1,h2,h3⟩
 ·exact .inl h
 ·exact .inr ⟨d8,id,rest,h1,h2,by rw[AA _ _ _ _ zo];exact h3⟩
theorem t_coll(hf:AR H n)(hq:hget H q=some (.box [eIs l]))(hl:few l):
  AP prog 277 [clV q] H n λo H' n'=>∃lv,o= .ret lv/\LvG eI 1 (n+3) H' lv l/\AR H' n'/\n<=n'/\∀id ob,id<n->hget H id=some ob->hget H' id=some ob:=by
 refine c277.a (AF AJ.tnil (AG ?_));simp only[eE,eN,seval,c277];refine(St hf hq hl).mono ?_;rintro o H' n' ⟨lv,rfl,h1,h2,h3,h4⟩;simp only[eE,eN,seval,retK];exact⟨lv,rfl,h1,h2,h3,h4⟩
theorem Lo:AP prog 221 [.sl .nil []] H n λo H' n'=>o= .ret (.tup [])/\H'=H/\n'=n:=by
 refine⟨lSort,λg w vs hR hv=>?_⟩;obtain⟨v,r,rfl,k1,k2⟩:=hv;have k2':r=[]:=k2;subst k2';have hv:∃p cap,v= .slice p 0 cap:=by
  rcases k1 with⟨-,rfl,-⟩|⟨-,b,o,cap,⟨sp,rfl,hsp⟩,hc,hst,-⟩
  ·exact⟨_,_,rfl⟩
  ·exact⟨_,_,rfl⟩
 obtain⟨p,cap,rfl⟩:=hv;refine(slices_Sort_int_none p cap w).mono ?_;rintro e w' ⟨rfl,rfl⟩;exact⟨g,.ret (.tup []),H,n,⟨rfl,rfl,rfl⟩,⟨_,rfl,rfl⟩,hR,X9 _,q8.refl _ _ _ _⟩
def SrA(ob:List Fs->zx)(H:AC)(l:List Int):jq->AC->Nat->Prop:=λo H' n'=>
 CE H H'/\((l=[]/\o= .ret (.sl .nil []))\/l≠[]/\∃id rest,o= .ret (.ref id 1 0 l.length (l.length+rest.length))/\hget H id=none/\hget H' id=some (ob ((l.mergeSort leI++rest).map eI)))
theorem DH(l:List Int):(l.mergeSort leI).length=l.length:=List.length_mergeSort ..
theorem t_srtd(hf:AR H n)(hq:hget H q=some (.box [eIs l]))(hl:few l):
  AP prog 242 [clV q] H n (QRet H (eIs (l.mergeSort leI))):=by
 have m7:l.length<1000000000:=hl;refine AP.out (AP.seal (R:=SrA (.arr 1) H l) (R':=SrA (.frz 1) H l) (c242.a (AF AJ.tnil (AG ?_))) ?_) ?_
 ·simp only[eE,eN,seval,c242];refine(t_coll hf hq hl).mono ?_;rintro o H1 n1 ⟨lv,rfl,l9,hf1,l5,hk⟩;simp only[eE,eN,seval,retK];have hK:CE H H1:=λid ob h0=>hk id ob (hf.lt h0) h0
  rcases l9 with⟨rfl,rfl⟩|⟨d8,id,rest,rfl,h2,h3⟩
  ·refine Lo.mono ?_;rintro o H2 n2 ⟨rfl,rfl,rfl⟩;simp only[eE,eN,seval,retK];exact⟨hK,.inl ⟨rfl,rfl⟩⟩
  ·refine(N5 h3 zw m7).mono ?_;rintro o H2 n2 ⟨rfl,rfl,rfl⟩;rw[ao,List.drop_left];simp only[eE,eN,seval,retK];refine⟨λi ob h0=>?_,.inr ⟨d8,id,rest,rfl,hf _ zo,AB ..⟩⟩;rw[AA _ _ _ _ (λe=>by subst e;rw[hf _ zo]at h0;cases h0)];exact hK i ob h0
 ·rintro o H' n' ⟨hK,h⟩;rcases h with h|⟨d8,id,rest,h1,h2,h3⟩
  ·exact .inl ⟨hK,.inl h⟩
  ·refine .inr ⟨id,1,_,h3,λi ob h0=>?_,.inr ⟨d8,id,rest,h1,h2,AB ..⟩⟩;rw[AA _ _ _ _ (λe=>by subst e;rw[h2]at h0;cases h0)];exact hK i ob h0
 ·rintro o H' n' ⟨hK,h⟩;refine⟨.ret (eIs (l.mergeSort leI)),⟨⟨_,rfl,Wk.refl _⟩,hK⟩,λg w e hR he=>?_⟩;have hL:∃lv,o= .ret lv/\LF 1 lv H' ((l.mergeSort leI).map eI):=by
   rcases h with⟨rfl,rfl⟩|⟨hz,id,rest,rfl,h2,h3⟩
   ·exact⟨_,rfl,.inl ⟨zw,_,rfl,.inl rfl⟩⟩
   ·refine⟨_,rfl,?_⟩;have hl2:=DH l;refine .inr ⟨λq=>hz (by rw[List.map_eq_nil_iff]at q;rw[q]at hl2;exact YQ.1 hl2.symm),id,l.length+rest.length,rest.map eI,by rw[X0,hl2],by rw[h3,Xr],by simp [hl2]⟩
  obtain⟨lv,rfl,hL⟩:=hL;cases e with
  |returned v=>exact JG hL hR he
  |panicked c=>exact he.elim
  |outgrown=>exact he.elim
theorem t_vals(hf:AR H n):AP prog 243 [eIs l] H n λo H' n'=>o= .ret (clV n)/\H'=hset H n (.box [eIs l])/\n'=n+2:=by
 refine c243.a (AF AJ.tnil (AG ?_));simp only[eE,eN,seval,c243,fr0 hf]
end
section
abbrev srt(l:List Int):List Int:=l.mergeSort leI
def JO(ls:List (List Int))(j:Nat)(x:List Int):Bool:=((ls.take j).map srt).contains (srt x)
def Su{ls:List (List Int)}(hn:∀l∈ls,l.Nodup){j:Nat}(hj:j<ls.length)(h:JO ls j ls[j]=true):Bt ls=true:=by
 unfold JO at h;rw[Yk,Yo]at h;obtain⟨y,hy,e⟩:=h;obtain⟨b,hb,rfl⟩:=Yc.1 hy;rw[Ya]at hb;rw[List.getElem_take]at e;refine Fx.2 ⟨j,b,hj,zo,zo,?_⟩;rw[JC (hn _ (Xt _)) (hn _ (Xt _)),X8];exact e.symm
def Pm{ls:List (List Int)}(hn:∀l∈ls,l.Nodup)(h:∀j (hj:j<ls.length),JO ls j ls[j]=false):Bt ls=false:=by
 cases q:Bt ls with
 |false=>rfl
 |true=>
  obtain⟨a,b,ha,hb,s7,h2⟩:=Fx.1 q;rw[JC (hn _ (Xt _)) (hn _ (Xt _)),X8]at h2;have:=h a ha;unfold JO at this;rw[<-Bool.not_eq_true,Yk,Yo]at this;exact absurd ⟨ls[b],Yc.2 ⟨b,by rw[Ya];omega,by rw[List.getElem_take]⟩,h2.symm⟩ this
def Sv(o:Option zx):Prop:=∃x:List Int,few x/\o=some (.box [eIs x])
def Mx:Option zx->List Int
 |some (.box [.sl _ L])=>L.map toI
 |_=>[]
variable {x:List Int}
theorem FM(h:few x):Sv (some (.box [eIs x]))=True:=X1 ⟨x,h,rfl⟩
theorem DY(x:List Int):Mx (some (.box [eIs x]))=x:=Au x
def sSr:List Fs->AC->Prop×Fs:=λa H=>match a with
 |[.fn (.func f) [] [.ptr q 0]]=>(f=278/\Sv (hget H q),eIs (srt (Mx (hget H q))))
 |_=>(False,.tup [])
theorem qSr:∀args H n,(sSr args H).1->Al prog 242 args H n (sSr args H).2:=by
 intro args H n hh;unfold sSr at hh⊢;split at hh
 ·rename_i f q;obtain⟨rfl,x,hx,h0⟩:=hh;simp only[h0,DY];exact Al.of c242.l (AQ n _) λhf=>t_srtd hf h0 hx
 ·exact hh.elim
def sR1:List Fs->AC->Prop×Fs:=λa H=>match a with
 |[y,.ptr q 0]=>(dIs.ok y/\wide (dIs.dec y)/\Sv (hget H q),.bool (decide (Mx (hget H q)=dIs.dec y)))
 |_=>(False,.tup [])
def Teq:Tab:=tadd 103 (s2 dIs dIs (λ_ b=>wide b) (λa b=>.bool (decide (a=b)))) tnil
theorem Teq_ok:AJ prog Teq:=AJ.tnil.add (q2 p103)
theorem qR1:∀args H n,(sR1 args H).1->Al prog 245 args H n (sR1 args H).2:=by
 intro args H n hh;unfold sR1 at hh⊢;split at hh
 ·rename_i y q;obtain⟨h1,h2,x,hx,h0⟩:=hh;simp only[h0,DY];refine Al.of c245.l trivial λhf=>c245.a (AF Teq_ok (AG ?_))
  simp only[eE,eN,seval,c245,h0,Teq,s2,Ac,AW,X1 h1,X1 h2,tadd];exact λ_ _ h=>h
 ·exact hh.elim
abbrev clR(q:Nat):Fs:=.fn (.func 245) [] [.ptr q 0]
def Tr1:Tab:=tadd 245 sR1 tnil
theorem Tr1_ok:AJ prog Tr1:=AJ.tnil.add qR1
def idxL(met:List (List Int))(x:List Int):Int:=match met.findIdx? (λy=>decide (x=y))with
 |some k=>(k:Int)
 |none=>-1
theorem q_ifLi{H:AC}{n q:Nat}{met:List (List Int)}(hm:Bw met)(hx:few x)(h0:hget H q=some (.box [eIs x])):Al prog 279 [eLl met,clR q] H n (.int .i64 (idxL met x)):=by
 refine Al.of c279.l trivial λhf=>c279.a (AF Tr1_ok (AG ?_))
 have hml:met.length<1000000000:=hm.1;simp only[eE,eN,seval,X0,c279];refine AL (λi:Nat=>⟨[(0,true,eLl met),(1,true,clR q),(7,true,.int .i64 met.length),(8,true,.int .i64 i)],H,n⟩) (λi=>i<=met.length/\∀j (h:j<met.length),j<i->¬x=met[j]) (λi=>met.length-i)
  0 rfl ⟨Xn _,λj _ h=>absurd h (Yw _)⟩ ?_
 rintro i ⟨hi,hb⟩;by_cases c5:i<met.length
 ·have hg:=X2 c5;have e:=AE (k:=i) zo;have hyf:=hm.2 _ (Xt c5);generalize hy:met[i]=y at hg hyf;by_cases hxy:x=y
  ·have hR:idxL met x=i:=by
    unfold idxL;rw[YT.2 ⟨c5,by simpa [hy]using hxy,λj hj=>by simpa using hb j zo hj⟩]
   rw[hR];simp only[eZ,seval,eY,lt_T c5,hg,Tr1,sR1,h0,FM hx,DY,Ac,AW,X1 hyf,BE hxy,tadd];exact λ_ _ h=>h
  ·simp only[eZ,seval,eY,lt_T c5,hg,e,Tr1,sR1,h0,FM hx,DY,Ac,AW,X1 hyf,Ay hxy,tadd];refine .mk (i+1) rfl ⟨c5,λj hj h=>?_⟩ zo;by_cases z:j=i
   ·subst z;rw[hy];exact hxy
   ·exact hb j hj zo
 obtain rfl:i=met.length:=zo
 have hR:idxL met x= -1:=by
  unfold idxL;rw[ZE.2 λy hy=>by
   obtain⟨j,hj,rfl⟩:=Yc.1 hy;simpa using hb j hj hj]
 rw[hR];simp only[eZ,seval,lt_F c5];exact λ_ _ h=>h
theorem idx_in(met:List (List Int))(x:List Int):decide (0<=idxL met x)=met.contains x:=by
 rw[Y0,X8,Yk];unfold idxL;cases h:met.findIdx? (λy=>decide (x=y))with
 |none=>
  rw[ZE]at h;constructor
  ·intro q;simp at q
  ·intro q;have:=h x q;simp at this
 |some k=>
  obtain⟨h1,h2,-⟩:=YT.1 h;constructor
  ·intro _;have:=Yh h2;rw[this];exact Xt _
  ·intro _;simp
def sIf(f:List (List Int)->List Int->Fs):List Fs->AC->Prop×Fs:=λa H=>match a with
 |[y,.fn (.func g) [] [.ptr q 0]]=>(dLl.ok y/\Bw (dLl.dec y)/\g=245/\Sv (hget H q),f (dLl.dec y) (Mx (hget H q)))
 |_=>(False,.tup [])
theorem q_sIf{f:List (List Int)->List Int->Fs}{i4:FuncId}(h:∀{H:AC} {n q:Nat} {met:List (List Int)} {x:List Int},Bw met->few x->hget H q=some (.box [eIs x])->Al prog i4 [eLl met,clR q] H n (f met x)):∀args H n,(sIf f args H).1->Al prog i4 args H n (sIf f args H).2:=by
 intro args H n hh;unfold sIf at hh⊢;split at hh
 ·rename_i y g q;obtain⟨h1,h2,rfl,x,hx,h0⟩:=hh;simp only[h0,DY];refine AP.args (h (n:=n) h2 hx h0) ?_;rintro g vs ⟨v,r,rfl,k1,k2⟩;exact⟨v,_,rfl,dLl.wk _ h1 _ _ k1,k2⟩
 ·exact hh.elim
abbrev fIf(met:List (List Int))(x:List Int):Fs:=.int .i64 (idxL met x)
abbrev fCf(met:List (List Int))(x:List Int):Fs:=.bool (met.contains x)
def Tr2:Tab:=tadd 279 (sIf fIf) tnil
theorem Tr2_ok:AJ prog Tr2:=AJ.tnil.add (q_sIf λh1 h2 h3=>q_ifLi h1 h2 h3)
theorem Pn{t:jx}{l:List (List Int)}(ht:t.esz=1\/l=[]):dLl.ok (.sl t (l.map eIs))=True:=H9 Dy ht
theorem My{t:jx}(l:List (List Int)):dLl.dec (.sl t (l.map eIs))=l:=Fe Dy
theorem q_cfLi{H:AC}{n q:Nat}{met:List (List Int)}(hm:Bw met)(hx:few x)(h0:hget H q=some (.box [eIs x])):Al prog 244 [eLl met,clR q] H n (fCf met x):=by
 refine Al.of c244.l trivial λhf=>c244.a (AF Tr2_ok (AG ?_))
 simp only[eE,eN,seval,c244,Tr2,sIf,h0,FM hx,DY,CX,Bq,X1 hm,idx_in,tadd];exact λ_ _ h=>h
def Trg:Tab:=tadd 150 (s2 dGd dLl (λg l=>Ak g.sh g.w g.h g.holes=some g.cells/\few g.holes/\Bw l) λg l=>rgsV g.cells l) (tadd 244 (sIf fCf) (tadd 242 sSr tnil))
theorem Trg_ok:AJ prog Trg:=((AJ.tnil.add qSr).add (q_sIf λh1 h2 h3=>q_cfLi h1 h2 h3)).add (q2 λg l h=>p150 g l h.1 h.2.1 h.2.2)
structure VRm where
 j:Nat
 tk:jx
 H:AC
 n:Nat
structure IRm(g:jz)(r:zk)(v:VRm):Prop where
 hj:v.j<=r.ls.length
 fr:AR v.H v.n
 hn:3<=v.n
 h1:hget v.H 1=some (.box (AD g.sh g.w g.h g.holes g.cells))
 tok:tkG 1 2 v.H v.tk
 es:v.tk.esz=1\/(r.ls.take v.j).map srt=[]
 no:∀k (hk:k<r.ls.length),k<v.j->JO r.ls k r.ls[k]=false
theorem p213(d:j7)(g:jz)(hd:qv d)(hG:Ak g.sh g.w g.h g.holes=some g.cells)(hh:few g.holes):Pur prog 213 [encD d,B8 g] (.int .i64 (DA g.cells d.regs)):=by
 refine .mk ⟨Ae 0 d,Ar 0 ..,trivial⟩ trivial (c213.a (AF Trg_ok (AG ?_)));have hrl:d.regs.length<1000000000:=hd.rg;simp only[eE,eN,seval,X0,c213];refine AL (λv:VF=>⟨[(3,true,.ptr 1 0),(14,true,eRgs d.regs),(15,true,.int .i64 d.regs.length),(16,true,.int .i64 v.i)],v.H,v.n⟩) (λv=>v.i<=d.regs.length/\AR v.H v.n/\3<=v.n/\hget v.H 1=some (.box (AD g.sh g.w g.h g.holes g.cells))/\DA g.cells d.regs=DA g.cells (d.regs.drop v.i)) (λv=>d.regs.length-v.i)
  ⟨0,hset (hset hnil 0 (.box (AI d))) 1 (.box (AD g.sh g.w g.h g.holes g.cells)),3⟩ rfl ⟨Xn _,(AR.nil.hset (m:=3) (Xn 3) (show 0<3 by decide)).hset (X9 3) (show 1<3 by decide),X9 _,rfl,rfl⟩ ?_
 rintro⟨i,H,n⟩ ⟨hi,c7,hn,h1,heq⟩;simp only at hi c7 hn h1 heq;by_cases c5:i<d.regs.length;case neg=>
  obtain rfl:i=d.regs.length:=zo
  rw[Yj]at heq;rw[heq];simp only[eZ,seval,lt_F c5];rfl
 have hg:=X2 c5;have e:=AE (k:=i) zo;have hrf:Mn d.regs[i]:=hd.rgs _ (Xt c5);rw[LY _ _ _ c5]at heq;generalize d.regs[i]=r at hg hrf heq;have y1:∀q,(n+q=1)=False:=λq=>X7 zo
 have hc:=X1 (⟨hG,hh,hrf⟩:Ak g.sh g.w g.h g.holes=some g.cells/\few g.holes/\Bw r.ls);by_cases hb:(decide (r.ls.length<=64)&&r.ls.all (Di g.cells))=true;case neg=>
  have hv:rgsV g.cells r.ls= .tup [eLl [],.int .i64 130]:=X6 hb;have hE:regE g.cells r=130:=Xp (by simpa using hb);rw[hE,X6 zd]at heq;rw[heq];simp only[eZ,seval,X5,eY,lt_T c5,hg,fr1 c7,h1,y1,Trg,s2,FD,C0,CX,Bq,hc,hv,tadd]
 have hv:rgsV g.cells r.ls= .tup [eLl (r.ls.map (BR g.cells)),.int .i64 0]:=Xp hb;obtain⟨hb1,i8⟩:=(X4 _ _).mp hb;have hb1:=Yh hb1;have hnd:∀l∈r.ls,l.Nodup:=λl hl=>(Ep (Xv.1 i8 l hl)).1
 have hregE:regE g.cells r=if Bt r.ls=true then 161 else 0:=by unfold regE;rw[hb,X6 zd]
 simp only[eZ,seval,X3,eY,lt_T c5,hg,fr1 c7,h1,y1,Trg,s2,FD,C0,CX,Bq,hc,hv,AN,tadd];refine AL (λv:VRm=>⟨[(3,true,.ptr 1 0),(9,true,.sl v.tk (((r.ls.take v.j).map srt).map eIs)),(14,true,eRgs d.regs),(15,true,.int .i64 d.regs.length),(16,true,.int .i64 i),(31,true,eLl r.ls),(32,true,.int .i64 r.ls.length),(33,true,.int .i64 v.j)],v.H,v.n⟩) (IRm g r) (λv=>r.ls.length-v.j)
  ⟨0,.nil,hset H (n+2) (.box [.str r.nm,eLl r.ls]),n+4⟩ rfl ⟨Xn _,c7.hset (m:=n+4) zo zo,zp,by simp only[];rw[AA _ _ _ _ zo];exact h1,.inl rfl,.inr rfl,λk _ h=>absurd h (Yw _)⟩ ?_
 rintro⟨j,tk,H1,n1⟩ hI;have hj:=hI.hj;have hf1:=hI.fr;have l5:=hI.hn;have h11:=hI.h1;have c8:=hI.tok;have d7:=hI.es;have e9:=hI.no;simp only at hj hf1 l5 h11 c8 d7 e9;by_cases hlj:j<r.ls.length
 ·have hgj:=X2 hlj;have ej:=AE (k:=j) zo;have hlf:few r.ls[j]:=by
   obtain⟨q1,-,q3⟩:=Ep (Xv.1 i8 _ (Xt hlj));have h1:=IF q1 q3;have h2:=(Az hG).2.1;show r.ls[j].length<_;omega
  have hmt:=map_take (f:=srt) hlj;have hhit:=λq=>Su hnd hlj q
  have hnx:JO r.ls j r.ls[j]=false->∀k (hk:k<r.ls.length),k<j+1->JO r.ls k r.ls[k]=false:=λq k hk h=>by
   by_cases z:k=j
   ·subst z;exact q
   ·exact e9 k hk zo
  generalize r.ls[j]=l at hgj hlf hmt hhit hnx;have hmf:Bw ((r.ls.take j).map srt):=⟨show((r.ls.take j).map srt).length<_ by rw[X0,Ya];omega,λx hx=>by
   obtain⟨y,hy,rfl⟩:=Yo.1 hx;show(srt y).length<_;rw[DH];exact hrf.2 _ (ZR hy)⟩
  have hsf:few (srt l):=show(srt l).length<_ by rw[DH];exact hlf
  have z1:∀q,(n1+q=1)=False:=λq=>X7 zo
  have hmb:((r.ls.take j).map srt).contains (srt l)=JO r.ls j l:=rfl;simp only[eZ,seval,eY,lt_T hlj,hgj];refine(t_vals (n:=n1+5) λj hj=>hf1 j zo).mono ?_;rintro o H2 n2 ⟨rfl,rfl,rfl⟩;cases hb3:JO r.ls j l with
  |true=>
   rw[hregE,hhit hb3,Xp rfl,X6 zd]at heq;rw[heq];simp only[eZ,seval,retK,Trg,sSr,FM hlf,DY,fr1 hf1,sIf,FM hsf,Pn d7,My,X1 hmf,hmb,hb3,AN,tadd]
  |false=>
   have gt:tkG 1 2 (hset (hset H1 (n1+5) (.box [eIs l])) (n1+3) (.box [eIs (srt l)])) tk:=(c8.set (.inr (.inr (fr1 hf1 5)))).set (.inr (.inr (by rw[AA _ _ _ _ zo];exact fr1 hf1 3)));have gf:AR (hset (hset H1 (n1+5) (.box [eIs l])) (n1+3) (.box [eIs (srt l)])) (n1+12):=(hf1.hset (m:=n1+12) zo zo).hset (m:=n1+12) zo zo;have q1:A8 (hset (hset H1 (n1+5) (.box [eIs l])) (n1+3) (.box [eIs (srt l)])) 1 tk=True:=X1 gt.app;have q2:((r.ls.take j).length<=35184372088831)=True:=X1 (by rw[Ya];omega);have q3:Aj ((r.ls.take j).length+1) 24=True:=X1 (AY (by rw[Ya];omega) zd);simp only[eZ,seval,X0,retK,Trg,sSr,FM hlf,DY,fr1 hf1,sIf,FM hsf,Pn d7,My,X1 hmf,hmb,hb3,AN,q2,q3,q1,ej,tadd];refine .mk ⟨j+1,.own (n1+10) 1,hset (AO (hset (hset H1 (n1+5) (.box [eIs l])) (n1+3) (.box [eIs (srt l)])) tk) (n1+10) .tok,n1+12⟩ ?_ ⟨hlj,(AU gt gf).hset (X9 _) (show n1+10<n1+12 by omega),zp,?_,.inr (.inr ⟨n1+10,rfl,zo,AB ..⟩),.inl rfl,hnx hb3⟩ zp
   ·simp only[hmt,Xr];rfl
   ·simp only[];rw[AA _ _ _ _ zo,AX gt (.inl zo),AA _ _ _ _ zo,AA _ _ _ _ zo];exact h11
 obtain rfl:j=r.ls.length:=zo
 rw[hregE,Pm hnd λj hj=>e9 j hj hj]at heq;simp only[eZ,seval,lt_F hlj,e];exact .mk ⟨i+1,H1,n1⟩ rfl ⟨c5,hf1,l5,h11,heq⟩ zp
end
section
def whn(b:Bool)(e:Int):Int:=if b=true then 0 else e
def OM(d:j7):Int:=whn (limD d) 2
def Lp(d:j7):Int:=match resD d with
 | .error e=>e
 | .ok x=>whn (decide (x=d)) 170
def ON(d:j7):Int:=whn (decide (1<=d.ver)&&decide (d.ver<=255)) 170
def OO(d:j7):Int:=match Ak d.sh d.w d.h d.holes with
 |some _=>0
 |none=>130
def OP(d:j7):Int:=whn (Bg d) 170
def Po(d:j7):Int:=whn (decide (BZ d.ruls=[])) 171
def EZ{d:j7}{e:Int}(h:resD d= .error e):e≠0:=by
 unfold resD at h
 rintro rfl
 repeat' split at h
 all_goals simp at h
def dB:Dc Bool:=⟨.bool,toB,λv=>match v with| .bool _=>True|_=>False,λv h=>by
 cases v<;>first|exact Wk.refl _|exact h.elim⟩
theorem Pp(b:Bool):dB.ok (.bool b)=True:=rfl
theorem KI(b:Bool):dB.dec (.bool b)=b:=rfl
def Tst:Tab:=tadd 208 (s2 dB dI any2 λb e=>.int .i64 (whn b e)) (tadd 145 (s1 dD qv CK) (tadd 104 (s2 dD dD (λ_ b=>qv b) λa b=>.bool (decide (a=b))) (tadd 215 (s1 dD qv λd=>.bool (Bg d)) (tadd 217 (s1 dD qv λd=>eIs (BZ d.ruls)) (tadd 213 (s2 dD dGd (λd g=>qv d/\Ak g.sh g.w g.h g.holes=some g.cells/\few g.holes) λd g=>.int .i64 (DA g.cells d.regs)) tnil)))))
def Ib:AJ prog Tst:=(((((AJ.tnil.add (q2 λd g h=>p213 d g h.1 h.2.1 h.2.2)).add (q1 λd h=>p217 d h.ru)).add (q1 λd h=>p215 d h)).add (q2 λa b h=>p104 a b h)).add (q1 λd h=>p145 d h)).add (q2 λb e _=>p208 b e)
def Un{H:AC}{n i:Nat}(hf:AR H n)(hi:n<=i)(a b:zx):CE H (hset (hset H i a) i b):=λid ob h=>by
 have:=hf.lt h;rw[AA _ _ _ _ zo,AA _ _ _ _ zo];exact h
def Sw(d:j7):(decide ((0:Int)<d.syms.length)&&decide ((d.syms.length:Int)<=16)&&decide ((d.regs.length:Int)<=4)&&decide ((d.clus.length:Int)<=4)&&decide ((d.ruls.length:Int)<=16))=limD d:=by
 rw[Y0];simp [limD];omega
def Ve(l:List Int):decide ((l.length:Int)=0)=decide (l=[]):=by
 cases l<;>simp;omega
variable {d:j7} {H:AC} {n q:Nat}
theorem u1(hd:qv d)(h0:hget H q=some (.box (AI d))):Al prog 207 [.ptr q 0] H n (.int .i64 (OM d)):=by
 refine Al.of c207.l trivial λhf=>c207.a (AF Ib (AG ?_))
 simp only[eZ,seval,X0,c207,h0,Tst,s2,Pp,KI,A4,Ai,Sw,tadd];exact⟨rfl,λ_ _ h=>h⟩
theorem u2(hd:qv d)(h0:hget H q=some (.box (AI d))):Al prog 209 [.ptr q 0] H n (.int .i64 (Lp d)):=by
 refine Al.of c209.l trivial λhf=>c209.a (AF Ib (AG ?_))
 have hq:=hf.lt h0;have y1:∀k,(n+k=q)=False:=λk=>X7 zo
 unfold Lp;cases hr:resD d with
 |error e=>
  have hv:CK d= .tup [encD dcl0,.int .i64 e]:=by unfold CK;rw[hr]
  have he:(e=0)=False:=X7 (EZ hr);simp only[eZ,seval,X5,eY,c209,h0,Tst,s1,BC,An,X1 hd,hv,fr1 hf,he,tadd];exact Un hf zo _ _
 |ok x=>
  have hv:CK d= .tup [encD x,.int .i64 0]:=by unfold CK;rw[hr]
  simp only[eZ,seval,X3,eY,c209,h0,Tst,s1,s2,BC,An,X1 hd,hv,fr1 hf,y1,Pp,KI,A4,Ai,tadd];exact Un hf zo _ _
theorem u3(h0:hget H q=some (.box (AI d))):Al prog 210 [.ptr q 0] H n (.int .i64 (ON d)):=by
 refine Al.of c210.l trivial λhf=>c210.a (AF Ib (AG ?_))
 simp only[eZ,seval,c210,h0,Tst,s2,Pp,KI,A4,Ai,tadd];exact⟨rfl,λ_ _ h=>h⟩
theorem u6(hd:qv d)(h0:hget H q=some (.box (AI d))):Al prog 214 [.ptr q 0] H n (.int .i64 (OP d)):=by
 refine Al.of c214.l trivial λhf=>c214.a (AF Ib (AG ?_))
 simp only[eE,eN,seval,c214,h0,Tst,s1,s2,Pp,KI,A4,Ai,BC,An,X1 hd,tadd];exact⟨rfl,λ_ _ h=>h⟩
theorem u7(hd:qv d)(h0:hget H q=some (.box (AI d))):Al prog 216 [.ptr q 0] H n (.int .i64 (Po d)):=by
 refine Al.of c216.l trivial λhf=>c216.a (AF Ib (AG ?_))
 simp only[eE,eN,seval,X0,c216,h0,Tst,s1,s2,Pp,KI,A4,Ai,BC,An,X1 hd,Ve,tadd];exact⟨rfl,λ_ _ h=>h⟩
theorem u5{g:jz}{q':Nat}(hd:qv d)(hG:Ak g.sh g.w g.h g.holes=some g.cells)(hh:few g.holes)(h0:hget H q=some (.box (AI d)))(h1:hget H q'=some (.box (AD g.sh g.w g.h g.holes g.cells))):Al prog 212 [.ptr q 0,.ptr q' 0] H n (.int .i64 (DA g.cells d.regs)):=by
 refine Al.of c212.l trivial λhf=>c212.a (AF Ib (AG ?_))
 simp only[eE,eN,seval,c212,h0,h1,Tst,s2,FD,C0,BC,An,X1 hd,hG,X1 hh,tadd];exact λ_ _ h=>h
abbrev gr0:List Fs:=[.int .i64 0,.int .i64 0,.int .i64 0,.sl .nil [],.sl .nil []]
def Tmc:Tab:=tadd 147 (λa H=>match a with
 |[.int .i64 sh,.int .i64 w,.int .i64 h,x]=>(dIs.ok x/\few (dIs.dec x),BM sh w h (dIs.dec x))
 |_=>(False,.tup [])) tnil
theorem Tmc_ok:AJ prog Tmc:=AJ.tnil.add VZ
theorem u4{q':Nat}(d8:q≠q')(hh:few d.holes)(h0:hget H q=some (.box (AI d)))(h1:hget H q'=some (.box gr0)):
  AP prog 211 [.ptr q 0,.ptr q' 0] H n λo H' n'=>o= .ret (.int .i64 (OO d))/\n'=n/\∃cs,H'=hset H q' (.box cs)/\∀cells,Ak d.sh d.w d.h d.holes=some cells->cs=AD d.sh d.w d.h d.holes cells:=by
 refine c211.a (AF Tmc_ok (AG ?_));unfold OO;cases hc:Ak d.sh d.w d.h d.holes with
 |none=>
  have hv:BM d.sh d.w d.h d.holes= .tup [encG 0 0 0 [] [],.int .i64 130]:=by unfold BM;rw[hc]
  simp only[eE,eN,seval,eY,c211,h0,h1,Tmc,Ac,AW,X1 hh,hv,tadd];exact⟨_,rfl⟩
 |some cells=>
  have hv:BM d.sh d.w d.h d.holes= .tup [encG d.sh d.w d.h d.holes cells,.int .i64 0]:=by unfold BM;rw[hc]
  simp only[eE,eN,seval,eY,c211,h0,h1,Tmc,Ac,AW,X1 hh,hv,tadd];exact⟨_,rfl,λc h=>by cases h;rfl⟩
end
theorem Pq(d:j7):chkD d=if OM d≠0 then OM d else if Lp d≠0 then Lp d else if ON d≠0 then ON d else match Ak d.sh d.w d.h d.holes with
  |none=>130
  |some cells=>if DA cells d.regs≠0 then DA cells d.regs else if OP d≠0 then OP d else Po d:=by
 unfold chkD OM Lp ON OP Po;cases limD d with
 |false=>rfl
 |true=>
 cases hr:resD d with
 |error e=>simp [whn,EZ hr]
 |ok x=>
 by_cases hx:x=d
 ·by_cases hv:d.ver<1\/255<d.ver
  ·have:(decide (1<=d.ver)&&decide (d.ver<=255))=false:=by simp;omega
   simp [whn,hx,hv,this]
  ·have:(decide (1<=d.ver)&&decide (d.ver<=255))=true:=by simp;omega
   cases hc:Ak d.sh d.w d.h d.holes with
   |none=>simp [whn,hx,hv,this]
   |some cells=>
    cases Bg d<;>by_cases hu:BZ d.ruls=[]<;>simp [whn,hx,hv,this,hu]
 ·simp [whn,hx]
abbrev stA:List Fs:=[.fn (.func 207) [] [.ptr 0 0],.fn (.func 209) [] [.ptr 0 0],.fn (.func 210) [] [.ptr 0 0],.fn (.func 211) [] [.ptr 0 0,.ptr 2 0],.fn (.func 212) [] [.ptr 0 0,.ptr 2 0],.fn (.func 214) [] [.ptr 0 0],.fn (.func 216) [] [.ptr 0 0]]
structure IChk(d:j7)(v:VF):Prop where
 hi:v.i<=7
 h0:hget v.H 0=some (.box (AI d))
 z1:0<v.i->OM d=0
 z2:1<v.i->Lp d=0
 z3:2<v.i->ON d=0
 g0:v.i<=3->hget v.H 2=some (.box gr0)
 z4:3<v.i->∃cells,Ak d.sh d.w d.h d.holes=some cells/\hget v.H 2=some (.box (AD d.sh d.w d.h d.holes cells))/\(4<v.i->DA cells d.regs=0)
 z6:5<v.i->OP d=0
 z7:6<v.i->Po d=0
def p146(d:j7)(hd:qv d):Pur prog 146 [encD d] (.int .i64 (chkD d)):=by
 refine .mk ⟨Ae 0 d,trivial⟩ trivial (c146.a (AF AJ.tnil (AG ?_)));simp only[eE,eN,seval,c146];have h7:((7:Nat):Int)=7:=rfl;refine AL (λv:VF=>⟨[(14,true,.sl (.exact 1) stA),(15,true,.int .i64 7),(16,true,.int .i64 v.i)],v.H,v.n⟩) (IChk d) (λv=>7-v.i)
  ⟨0,hset (hset hnil 0 (.box (AI d))) 2 (.box gr0),3⟩ rfl ⟨Xn _,rfl,λh=>absurd h (Yw _),λh=>absurd h (Yw _),λh=>absurd h (Yw _),λ_=>rfl,λh=>absurd h (Yw _),λh=>absurd h (Yw _),λh=>absurd h (Yw _)⟩ ?_
 rintro⟨i,H,n⟩ hI;obtain⟨hi,h0,z1,z2,z3,g0,z4,z6,z7⟩:=hI;simp only at hi h0 z1 z2 z3 g0 z4 z6 z7;have hS:=Pq d;by_cases c5:i<7;case neg=>
  obtain⟨cells,hc,-,hr⟩:=z4 zo;have hlF:((i:Int)<7)=False:=X7 zo;simp only[z1 zo,z2 zo,z3 zo,hc,hr zo,z6 zo,z7 zo,ne_eq,Zs,Yd]at hS;rw[hS];simp only[eZ,seval,hlF]
 have hlT:((i:Int)<7)=True:=X1 zo;have hlN:((i:Int)<((7:Nat):Int))=True:=hlT;have e:=AE (k:=i) zo;have h8:i=0\/i=1\/i=2\/i=3\/i=4\/i=5\/i=6:=zo
 rcases h8 with h8|h8|h8|h8|h8|h8|h8
 ·have hg:stA[i]?=some (.fn (.func 207) [] [.ptr 0 0]):=by rw[h8];rfl
  have hl7:i<stA.length:=c5;simp only[eZ,seval,Xs,Xo,Xq,hlT,hlN,hg];refine(u1 hd h0).mono ?_;rintro o H' n' ⟨rfl,rfl,rfl⟩;by_cases hz:OM d=0
  ·rw[hz];simp only[eZ,seval,X3,retK,e];exact .mk ⟨i+1,H',n'⟩ rfl ⟨c5,h0,λ_=>hz,λh=>absurd h zp,λh=>absurd h zp,λ_=>g0 zo,λh=>absurd h zp,λh=>absurd h zp,λh=>absurd h zp⟩ zp
  ·rw[Xp hz]at hS;rw[hS];simp only[eZ,seval,X5,retK,X7 hz]
 ·have hg:stA[i]?=some (.fn (.func 209) [] [.ptr 0 0]):=by rw[h8];rfl
  have hl7:i<stA.length:=c5;simp only[eZ,seval,Xs,Xo,Xq,hlT,hlN,hg];refine(u2 hd h0).mono ?_;rintro o H' n' ⟨rfl,rfl,rfl⟩;simp only[z1 zo,ne_eq,Zs,Yd]at hS;by_cases hz:Lp d=0
  ·rw[hz];simp only[eZ,seval,X3,retK,e];exact .mk ⟨i+1,H',n'⟩ rfl ⟨c5,h0,λ_=>z1 zo,λ_=>hz,λh=>absurd h zp,λ_=>g0 zo,λh=>absurd h zp,λh=>absurd h zp,λh=>absurd h zp⟩ zp
  ·rw[Xp hz]at hS;rw[hS];simp only[eZ,seval,X5,retK,X7 hz]
 ·have hg:stA[i]?=some (.fn (.func 210) [] [.ptr 0 0]):=by rw[h8];rfl
  have hl7:i<stA.length:=c5;simp only[eZ,seval,Xs,Xo,Xq,hlT,hlN,hg];refine(u3 h0).mono ?_;rintro o H' n' ⟨rfl,rfl,rfl⟩;simp only[z1 zo,z2 zo,ne_eq,Zs,Yd]at hS;by_cases hz:ON d=0
  ·rw[hz];simp only[eZ,seval,X3,retK,e];exact .mk ⟨i+1,H',n'⟩ rfl ⟨c5,h0,λ_=>z1 zo,λ_=>z2 zo,λ_=>hz,λ_=>g0 zo,λh=>absurd h zp,λh=>absurd h zp,λh=>absurd h zp⟩ zp
  ·rw[Xp hz]at hS;rw[hS];simp only[eZ,seval,X5,retK,X7 hz]
 ·have hg:stA[i]?=some (.fn (.func 211) [] [.ptr 0 0,.ptr 2 0]):=by rw[h8];rfl
  have hl7:i<stA.length:=c5;simp only[eZ,seval,Xs,Xo,Xq,hlT,hlN,hg];refine(u4 zd hd.ho h0 (g0 zo)).mono ?_;rintro o H' n' ⟨rfl,rfl,cs,rfl,t5⟩;have o7:hget (hset H 2 (.box cs)) 0=some (.box (AI d)):=by rw[AA _ _ _ _ zd];exact h0
  simp only[z1 zo,z2 zo,z3 zo,ne_eq,Zs,Yd]at hS;cases hc:Ak d.sh d.w d.h d.holes with
  |none=>
   have hs4:OO d=130:=by unfold OO;rw[hc]
   rw[hc]at hS;rw[hS,hs4];simp only[eZ,seval,X5,retK]
  |some cells=>
   have hs4:OO d=0:=by unfold OO;rw[hc]
   rw[hs4];simp only[eZ,seval,X3,retK,e];refine .mk ⟨i+1,hset H 2 (.box cs),n'⟩ rfl ⟨c5,o7,λ_=>z1 zo,λ_=>z2 zo,λ_=>z3 zo,λh=>absurd h zp,λ_=>⟨cells,hc,by simp only[];rw[AB,t5 cells hc],λh=>absurd h zp⟩,λh=>absurd h zp,λh=>absurd h zp⟩ zp
 ·have hg:stA[i]?=some (.fn (.func 212) [] [.ptr 0 0,.ptr 2 0]):=by rw[h8];rfl
  have hl7:i<stA.length:=c5;obtain⟨cells,hc,hg2,hr⟩:=z4 zo;simp only[eZ,seval,Xs,Xo,Xq,hlT,hlN,hg];refine(u5 (g:=⟨d.sh,d.w,d.h,d.holes,cells⟩) hd hc hd.ho h0 hg2).mono ?_;rintro o H' n' ⟨rfl,rfl,rfl⟩;simp only[z1 zo,z2 zo,z3 zo,hc,ne_eq,Zs,Yd]at hS;by_cases hz:DA cells d.regs=0
  ·rw[hz];simp only[eZ,seval,X3,retK,e];exact .mk ⟨i+1,H',n'⟩ rfl ⟨c5,h0,λ_=>z1 zo,λ_=>z2 zo,λ_=>z3 zo,λh=>absurd h zp,λ_=>⟨cells,hc,hg2,λ_=>hz⟩,λh=>absurd h zp,λh=>absurd h zp⟩ zp
  ·rw[Xp hz]at hS;rw[hS];simp only[eZ,seval,X5,retK,X7 hz]
 ·have hg:stA[i]?=some (.fn (.func 214) [] [.ptr 0 0]):=by rw[h8];rfl
  have hl7:i<stA.length:=c5;obtain⟨cells,hc,hg2,hr⟩:=z4 zo;simp only[eZ,seval,Xs,Xo,Xq,hlT,hlN,hg];refine(u6 hd h0).mono ?_;rintro o H' n' ⟨rfl,rfl,rfl⟩;simp only[z1 zo,z2 zo,z3 zo,hc,hr zo,ne_eq,Zs,Yd]at hS;by_cases hz:OP d=0
  ·rw[hz];simp only[eZ,seval,X3,retK,e];exact .mk ⟨i+1,H',n'⟩ rfl ⟨c5,h0,λ_=>z1 zo,λ_=>z2 zo,λ_=>z3 zo,λh=>absurd h zp,λ_=>⟨cells,hc,hg2,λ_=>hr zo⟩,λ_=>hz,λh=>absurd h zp⟩ zp
  ·rw[Xp hz]at hS;rw[hS];simp only[eZ,seval,X5,retK,X7 hz]
 ·have hg:stA[i]?=some (.fn (.func 216) [] [.ptr 0 0]):=by rw[h8];rfl
  have hl7:i<stA.length:=c5;obtain⟨cells,hc,hg2,hr⟩:=z4 zo;simp only[eZ,seval,Xs,Xo,Xq,hlT,hlN,hg];refine(u7 hd h0).mono ?_;rintro o H' n' ⟨rfl,rfl,rfl⟩;simp only[z1 zo,z2 zo,z3 zo,hc,hr zo,z6 zo,ne_eq,Zs,Yd]at hS;by_cases hz:Po d=0
  ·rw[hz];simp only[eZ,seval,X3,retK,e];exact .mk ⟨i+1,H',n'⟩ rfl ⟨c5,h0,λ_=>z1 zo,λ_=>z2 zo,λ_=>z3 zo,λh=>absurd h zp,λ_=>⟨cells,hc,hg2,λ_=>hr zo⟩,λ_=>z6 zo,λ_=>hz⟩ zp
  ·rw[hS];simp only[eZ,seval,X5,retK,X7 hz]
structure qw where
 d:j7
 g:jz
 nb:List (List Int)
 ls:List (List (List Int))
 deriving DecidableEq
def Av(x:j7)(cells:List Int):jz:=⟨x.sh,x.w,x.h,x.holes,cells⟩
def Vf(x:j7)(cells:List Int):qw:=
 ⟨x,Av x cells,nbsS x.sh (AV x.sh x.w cells),((List.range 8).map λf=>famS x.sh x.w x.h (AV x.sh x.w cells) f)++x.regs.map λr=>r.ls.map (BR cells)⟩
def DZ(d:j7):Except Int qw:=match resD d with
 | .error e=>.error e
 | .ok x=>if chkD x≠0 then .error (chkD x)else match Ak x.sh x.w x.h x.holes with
  |none=>.error 130
  |some cells=>.ok (Vf x cells)
def G9(k:qw):Bool:=match DZ k.d with
 | .ok x=>decide (k=x)
 | .error _=>false
def Bl(k:qw):Int:=if G9 k then 0 else 180
def Mz{k:qw}(h:G9 k=true):DZ k.d= .ok k:=by grind [G9]
def M1{x:j7}(h:chkD x=0):∃cells,Ak x.sh x.w x.h x.holes=some cells:=by
 unfold chkD at h;split at h
 ·cases h
 ·split at h
  ·rename_i e he;have:=EZ he;exact absurd h this
  ·grind
def JP{d:j7}{k:qw}(h:DZ d= .ok k):∃x cells,resD d= .ok x/\chkD x=0/\Ak x.sh x.w x.h x.holes=some cells/\k=Vf x cells:=by grind [DZ]
def p130W(a b:List Int)(ha:wide a):Pur prog 130 [eIs a,eIs b] (.bool (decide (a=b))):=by
 refine .mk ⟨AQ 0 _,AQ 0 _,trivial⟩ trivial (c130.a (AF AJ.tnil (AG ?_)));have m5:a.length<1125899906842624:=ha;by_cases hl:a.length=b.length;case neg=>
  have hR:decide (a=b)=false:=Xy λq=>hl (by rw[q])
  have hq:((a.length:Int)=(b.length:Int))=False:=X7 zo;rw[hR];simp only[eZ,seval,X5,X0,c130,hq]
 have hq:((a.length:Int)=(b.length:Int))=True:=X1 zo;simp only[eZ,seval,X3,X0,c130,hq];refine AL (λi:Nat=>⟨[(0,true,eIs a),(1,true,eIs b),(5,true,.int .i64 i)],hnil,0⟩) (λi=>i<=a.length/\a.take i=b.take i) (λi=>a.length-i) 0 rfl ⟨Xn _,rfl⟩ ?_;rintro i ⟨hi,c8⟩;by_cases c5:i<a.length
 ·have hltb:i<b.length:=zo
  have hg:=X2 c5;have hgb:=X2 hltb;have e:=AE (k:=i) zo;have ta:a.take (i+1)=a.take i++[a[i]]:=by rw[Xx,hg];rfl
  have tb:b.take (i+1)=b.take i++[b[i]]:=by rw[Xx,hgb];rfl
  generalize a[i]=x at hg ta;generalize b[i]=y at hgb tb;by_cases hxy:x=y
  ·simp only[eZ,seval,X3,eY,lt_T c5,lt_T hltb,hg,hgb,e,hxy];exact .mk (i+1) rfl ⟨c5,by rw[ta,tb,c8,hxy]⟩ zo
  ·have hR:decide (a=b)=false:=Xy λq=>hxy (by rw[q]at hg;rw[hg]at hgb;exact Option.some.inj hgb)
   rw[hR];simp only[eZ,seval,X5,eY,lt_T c5,lt_T hltb,hg,hgb,Ay hxy]
 obtain rfl:i=a.length:=zo
 have hR:decide (a=b)=true:=Y3 (by rw[Xu,hl,Xu]at c8;exact c8);rw[hR];simp only[eZ,seval,X0,lt_F c5]
def p130(a b:List Int)(ha:few a):Pur prog 130 [eIs a,eIs b] (.bool (decide (a=b))):=p130W a b (Co ha)
def p168(r:qj):Pur prog 168 [BW r] (.bool (Hy r)):=by
 refine .mk ⟨At 0 r,trivial⟩ trivial (c168.a (AF AJ.tnil (AG ?_)));simp only[eZ,seval,c168];rfl
def Tr7:Tab:=tadd 168 (s1 dRu any1 λr=>.bool (Hy r)) tnil
def Tr7_ok:AJ prog Tr7:=AJ.tnil.add (q1 λr _=>p168 r)
structure IUr(d:j7)(v:VU):Prop where
 hi:v.i<=d.ruls.length
 fr:AR v.H v.n
 hn:2<=v.n
 h0:hget v.H 0=some (.box (AI d))
 tok:tkG 1 1 v.H v.tk
 es:v.tk.esz=1\/BZ (d.ruls.take v.i)=[]
def p123(d:j7)(hr:few d.ruls):Pur prog 123 [encD d] (eIs (BZ d.ruls)):=by
 refine .mk ⟨Ae 0 d,trivial⟩ (AQ 0 _) (c123.a (AF Tr7_ok (AG ?_)));have hrl:d.ruls.length<1000000000:=hr;simp only[eE,eN,seval,c123];refine AL (λv:VU=>⟨[(1,true,.ptr 0 0),(3,true,.sl v.tk ((BZ (d.ruls.take v.i)).map eI)),(4,true,.int .i64 v.i)],v.H,v.n⟩) (IUr d) (λv=>d.ruls.length-v.i)
  ⟨0,.nil,hset hnil 0 (.box (AI d)),2⟩ rfl ⟨Xn _,AR.nil.hset (m:=2) (Xn 2) (show 0<2 by decide),X9 _,rfl,.inl rfl,.inr rfl⟩ ?_
 rintro⟨i,tk,H,n⟩ ⟨hi,c7,hn,h0,c8,d7⟩;simp only at hi c7 hn h0 c8 d7;by_cases c5:i<d.ruls.length
 ·have hg:=X2 c5;have e:=AE (k:=i) zo;have hu:=G8 c5;have hul:=Ia (d.ruls.take i);rw[Ya]at hul;generalize d.ruls[i]=r at hg hu;cases x8:Hy r with
  |true=>
   rw[x8,Xp rfl,Yb]at hu;simp only[eZ,seval,X3,eY,lt_T c5,hg,Tr7,s1,Bi,BB,x8,e,h0,tadd];refine .mk ⟨i+1,tk,H,n⟩ ?_ ⟨c5,c7,hn,h0,c8,by simp only[hu];exact d7⟩ zp;simp only[hu]
  |false=>
   rw[x8,X6 zd]at hu;have q1:A8 H 1 tk=True:=X1 c8.app;have q2:((BZ (d.ruls.take i)).length<=35184372088831)=True:=X1 zo;have q3:Aj ((BZ (d.ruls.take i)).length+1) 8=True:=X1 (AY zo zd);simp only[eZ,seval,X5,eY,lt_T c5,hg,fr1 c7,Tr7,s1,Bi,BB,x8,e,h0,q1,q2,q3,tadd];refine .mk ⟨i+1,.own (n+3) 1,hset (AO H tk) (n+3) .tok,n+5⟩ ?_ ⟨c5,(AU c8 c7).hset (m:=n+5) zo zo,zp,?_,.inr (.inr ⟨n+3,rfl,zo,AB ..⟩),.inl rfl⟩ zp
   ·simp only[hu,Xr];rfl
   ·simp only[];rw[AA _ _ _ _ zo,AX c8 (.inr ⟨_,h0⟩)];exact h0
 obtain rfl:i=d.ruls.length:=zo
 rw[Xu]at d7;simp only[eZ,seval,X0,lt_F c5,Xu,h0];exact Wk.sl (d7.imp id λq=>by rw[q];rfl)
end Go.AM
