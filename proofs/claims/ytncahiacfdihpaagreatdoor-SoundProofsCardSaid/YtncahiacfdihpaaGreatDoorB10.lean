/-
  Parts of the proof. Conditions: none.
-/
import Derived.Test.YtncahiacfdihpaaGreatDoorB9
set_option maxRecDepth 20000
set_option linter.all false
namespace Go.AM
open Go.Lib Go.Proofs Go.Proofs.Tryz
section
abbrev errV(n:Int):Fs:=.ifc 39 (.int .i64 n)
abbrev nmO(l:List Bs):zj:=.map (nmEs l 0) l.length
def CO(H:AC)(n id:Nat)(pre ns:List Bs):j9->AC->Nat->Prop:=λo H' n'=>
 if Ae (pre++ns)=true then o= .pan (errV 161)/\H'=hset H id .dead/\n'=n else o= .ret (.mp id)/\H'=hset H id (nmO (pre++ns))/\n'=n
def Gj(H:AC)(id:Nat)(pre ns:List Bs):j9->AC->Nat->Prop:=λo H' n'=>
 if Ae (pre++ns)=true then o= .pan (errV 161)/\(∃ob,hget H' id=some ob)/\CA id H H' else(∃v,o= .ret v/\Wk v (.mp id))/\hget H' id=some (nmO (pre++ns))/\CA id H H'
def PD(n:Nat)(l:List Bs):(nmO l).under n:=by
 suffices h:∀(i n c:Nat),(zj.map (nmEs l i) c).under n from h 0 n l.length
 induction l with
 |nil=>intro i n c;trivial
 |cons x r ih=>intro i n c;exact⟨trivial,trivial,ih (i+1) n c⟩
variable {H:AC} {f:Int} {pre:List Bs} {n id:Nat}
theorem J4{H':AC}{ob ob1:zj}(hf:AQ H n)(d7:id<n)(h1:hget H' id=some ob1)(hw:OWk ob1 ob)(hu:ob.under n)(h2:CA id H H'):Ff n H H' (hset H id ob):=by
 refine⟨λi o ho=>?_,λi hi=>?_⟩
 ·rw[AK]at ho;by_cases e:id=i
  ·subst e;rw[X6 rfl]at ho;cases ho;exact⟨d7,⟨_,h1,hw⟩,.inl hu⟩
  ·rw[X0 e]at ho;exact⟨hf.lt ho,⟨o,h2 i o (Ne.symm e) ho,OWk.refl _⟩,.inr ho⟩
 ·rw[AK];split
  ·exact λh=>by cases h
  ·exact hi
theorem SQ(ob:zj):OWk ob .dead:=⟨λ_ _ _ _=>trivial,λh=>by cases h⟩
theorem CO.of{i5:FuncId}{args:List Fs}{ns:List Bs}(hc:Bk prog i5)(hp:hget H id=some (nmO pre))(h:AQ H n->id<n->AP prog i5 args H n (Gj H id pre ns)):AP prog i5 args H n (CO H n id pre ns):=by
 refine AP.fresh hc λhf=>?_
 have d7:=hf.lt hp;refine AP.forget (h hf d7) ?_;intro o H' n' q;unfold Gj at q;by_cases ht:Ae (pre++ns)=true
 ·rw[X6 ht]at q;obtain⟨rfl,⟨ob,h1⟩,h2⟩:=q;exact⟨.pan (errV 161),hset H id .dead,by unfold CO;rw[X6 ht];exact⟨rfl,rfl,rfl⟩,J4 hf d7 h1 (SQ _) trivial h2,Wk.refl _,trivial⟩
 ·rw[X0 ht]at q;obtain⟨⟨v,rfl,hw⟩,h1,h2⟩:=q;exact⟨.ret (.mp id),hset H id (nmO (pre++ns)),by unfold CO;rw[X0 ht];exact⟨rfl,rfl,rfl⟩,J4 hf d7 h1 (OWk.refl _) (PD n _) h2,hw,d7⟩
structure VIx where
 i:Nat
 H:AC
 n:Nat
structure IIx(H:AC)(n id:Nat)(pre ns:List Bs)(v:VIx):Prop where
 hi:v.i<=ns.length
 hn:n<=v.n
 fr:AQ v.H v.n
 hm:hget v.H id=some (nmO (pre++ns.take v.i))
 hk:CA id H v.H
 tw:Ae (pre++ns.take v.i)=false
theorem G3{ns:List Bs}{i:Nat}(h:i<ns.length)(l7:ns[i]∈pre++ns.take i):Ae (pre++ns)=true:=by
 have e:pre++ns=(pre++ns.take i)++ns[i]::ns.drop (i+1):=by
  rw[Xx,<-Xm h,List.take_append_drop]
 rw[e];exact UA l7
theorem G4{l:List Bs}{s:Bs}(h:Ae l=false)(hs:s∉l):Ae (l++[s])=false:=Rq.2 ⟨h,hs⟩
theorem p193(x:j8):Pur prog 193 [IS x] (.str x.nm):=by
 refine .mk ⟨Hw 0 x,trivial⟩ trivial (c193.a (AF AH.tnil (AG ?_)));simp only[eE,eN,seval,c193]
theorem p195(x:zx):Pur prog 195 [Fu x] (.str x.nm):=by
 refine .mk ⟨Cf 0 x,trivial⟩ trivial (c195.a (AF AH.tnil (AG ?_)));simp only[eE,eN,seval,c195]
theorem p200(x:z8):Pur prog 200 [CC x] (.str x.nm):=by
 refine .mk ⟨ED 0 x,trivial⟩ trivial (c200.a (AF AH.tnil (AG ?_)));simp only[eE,eN,seval,c200]
theorem p204(x:qj):Pur prog 204 [BT x] (.str x.nm):=by
 refine .mk ⟨As 0 x,trivial⟩ trivial (c204.a (AF AH.tnil (AG ?_)));simp only[eE,eN,seval,c204]
theorem p198(x:Bs):Pur prog 198 [.str x] (.str x):=by
 refine .mk ⟨trivial,trivial⟩ trivial (c198.a (AF AH.tnil (AG ?_)));simp only[eE,eN,seval,c198]
theorem p197:Pur prog 197 [] (eSs Bv):=by
 refine .mk trivial (BS 0 _) (c197.a (AF AH.tnil (AG ?_)));simp only[eE,eN,seval,c197];exact Wk.sl (.inl rfl)
def Tx1:Tab:=tadd 193 (s1 dSy any1 λx=>.str ((λx:j8=>x.nm) x)) tnil
theorem Tx1_ok:AH prog Tx1:=AH.tnil.add (q1 λx _=>p193 x)
theorem SR{l:List j8}(hl:few l)(t5:pre.length<1000000000)(hf0:f=(pre.length:Int))(hp:hget H id=some (nmO pre))(hd:Ae pre=false):
  AP prog 192 [eSys l,.int .i64 f,.fn (.func 193) [] [],.mp id] H n (CO H n id pre (l.map (λx:j8=>x.nm))):=by
 subst hf0;refine CO.of c192.l hp λhf d7=>c192.a (AF Tx1_ok (AG ?_))
 have o7:l.length<1000000000:=hl;simp only[eE,eN,seval,W3,c192];refine AL (λv:VIx=>⟨[(1,true,.int .i64 pre.length),(2,true,.fn (.func 193) [] []),(3,true,.mp id),(13,true,eSys l),(14,true,.int .i64 l.length),(15,true,.int .i64 v.i)],v.H,v.n⟩) (IIx H n id pre (l.map (λx:j8=>x.nm))) (λv=>l.length-v.i)
  ⟨0,H,n⟩ rfl ⟨X3 _,X2 _,hf,by rw[Yl,Xs];exact hp,CA.refl _,by rw[Yl,Xs];exact hd⟩ ?_
 rintro⟨i,H1,n1⟩ hI;have hi:=hI.hi;have hn:=hI.hn;have c8:=hI.fr;have hm:=hI.hm;have hk:=hI.hk;have u9:=hI.tw;simp only[W3]at hi hn c8 hm hk u9;by_cases c6:i<l.length
 ·have s8:i<(l.map (λx:j8=>x.nm)).length:=by rw[W3];exact c6
  have hg:=W5 c6;have x0:(l.map (λx:j8=>x.nm))[i]=(λx:j8=>x.nm) l[i]:=Zm ..;have e:=AE (k:=i) zo;have d6:(l.map (λx:j8=>x.nm)).take (i+1)=(l.map (λx:j8=>x.nm)).take i++[(λx:j8=>x.nm) l[i]]:=by rw[Xd,W5 s8,x0];rfl
  have m6:(pre++(l.map (λx:j8=>x.nm)).take i).length=pre.length+i:=by rw[Xf,Xp,W3];omega
  have ew:IntKind.wrap .i64 ((pre.length:Int)+(i:Int))=((pre.length+i:Nat):Int):=by rw[Aq zo zo];omega
  have y1:∀k,(n1+k=id)=False:=λk=>W9 zo
  have y2:∀k,(id=n1+k)=False:=λk=>W9 zo
  have l7:=λq=>G3 (pre:=pre) s8 (by rw[x0];exact q)
  generalize hx:l[i]=x at hg x0 d6 l7;have t7:=EF (pre++(l.map (λx:j8=>x.nm)).take i) ((λx:j8=>x.nm) x);cases i4:BF (pre++(l.map (λx:j8=>x.nm)).take i) ((λx:j8=>x.nm) x)with
  |some k=>
   have htt:Ae (pre++l.map (λx:j8=>x.nm))=true:=l7 (by
    apply Classical.byContradiction;intro q;rw[Bb.2 q]at i4;cases i4)
   rw[i4,XD]at t7;simp only[eZ,seval,xE,eY,isF,lt_T c6,hg,Tx1,s1,U1,R6,hm,t7,Dw,KT.is,CZ,fr1 c8,y1,AO,tadd];unfold Gj;rw[X6 htt];refine⟨rfl,⟨nmO (pre++(l.map (λx:j8=>x.nm)).take i),?_⟩,?_⟩
   ·rw[AA _ _ _ _ zo];exact hm
   ·exact hk.new hf zo
  |none=>
   rw[i4,Yk]at t7;have x5:=LN i4;rw[m6]at x5;simp only[eZ,seval,xE,eY,lt_T c6,hg,Tx1,s1,U1,R6,hm,t7,Dw,KT.is,CZ,fr1 c8,y1,e,ew,m6,x5,AO,tadd];refine .mk ⟨i+1,hset (hset H1 (n1+3) (.box (IS x).cells)) id (.map (nmEs (pre++(l.map (λx:j8=>x.nm)).take i++[(λx:j8=>x.nm) x]) 0) (pre.length+(i+1))),n1+6⟩ rfl ⟨by simp only[W3];omega,zp,?_,?_,?_,?_⟩ zp
   ·exact(c8.hset (m:=n1+6) zo zo).hset (X2 (n1+6)) (show id<n1+6 by omega)
   ·simp only[];rw[AB,d6,<-Xx,nmO,Xf,m6];rfl
   ·exact(hk.new hf zo).set
   ·simp only[];rw[d6,<-Xx];exact G4 u9 (Bb.1 i4)
 have i6:i=l.length:=zo
 subst i6;have w9:(l.map (λx:j8=>x.nm)).take l.length=l.map (λx:j8=>x.nm):=Y0 (by rw[W3];omega);rw[w9]at hm u9;simp only[eZ,seval,lt_F c6];unfold Gj;rw[u9,X0 zd];exact⟨⟨_,rfl,Wk.refl _⟩,hm,hk⟩
def Tx2:Tab:=tadd 195 (s1 dRg any1 λx=>.str ((λx:zx=>x.nm) x)) tnil
theorem Tx2_ok:AH prog Tx2:=AH.tnil.add (q1 λx _=>p195 x)
theorem SS{l:List zx}(hl:few l)(t5:pre.length<1000000000)(hf0:f=(pre.length:Int))(hp:hget H id=some (nmO pre))(hd:Ae pre=false):
  AP prog 194 [eRgs l,.int .i64 f,.fn (.func 195) [] [],.mp id] H n (CO H n id pre (l.map (λx:zx=>x.nm))):=by
 subst hf0;refine CO.of c194.l hp λhf d7=>c194.a (AF Tx2_ok (AG ?_))
 have o7:l.length<1000000000:=hl;simp only[eE,eN,seval,W3,c194];refine AL (λv:VIx=>⟨[(1,true,.int .i64 pre.length),(2,true,.fn (.func 195) [] []),(3,true,.mp id),(13,true,eRgs l),(14,true,.int .i64 l.length),(15,true,.int .i64 v.i)],v.H,v.n⟩) (IIx H n id pre (l.map (λx:zx=>x.nm))) (λv=>l.length-v.i)
  ⟨0,H,n⟩ rfl ⟨X3 _,X2 _,hf,by rw[Yl,Xs];exact hp,CA.refl _,by rw[Yl,Xs];exact hd⟩ ?_
 rintro⟨i,H1,n1⟩ hI;have hi:=hI.hi;have hn:=hI.hn;have c8:=hI.fr;have hm:=hI.hm;have hk:=hI.hk;have u9:=hI.tw;simp only[W3]at hi hn c8 hm hk u9;by_cases c6:i<l.length
 ·have s8:i<(l.map (λx:zx=>x.nm)).length:=by rw[W3];exact c6
  have hg:=W5 c6;have x0:(l.map (λx:zx=>x.nm))[i]=(λx:zx=>x.nm) l[i]:=Zm ..;have e:=AE (k:=i) zo;have d6:(l.map (λx:zx=>x.nm)).take (i+1)=(l.map (λx:zx=>x.nm)).take i++[(λx:zx=>x.nm) l[i]]:=by rw[Xd,W5 s8,x0];rfl
  have m6:(pre++(l.map (λx:zx=>x.nm)).take i).length=pre.length+i:=by rw[Xf,Xp,W3];omega
  have ew:IntKind.wrap .i64 ((pre.length:Int)+(i:Int))=((pre.length+i:Nat):Int):=by rw[Aq zo zo];omega
  have y1:∀k,(n1+k=id)=False:=λk=>W9 zo
  have y2:∀k,(id=n1+k)=False:=λk=>W9 zo
  have l7:=λq=>G3 (pre:=pre) s8 (by rw[x0];exact q)
  generalize hx:l[i]=x at hg x0 d6 l7;have t7:=EF (pre++(l.map (λx:zx=>x.nm)).take i) ((λx:zx=>x.nm) x);cases i4:BF (pre++(l.map (λx:zx=>x.nm)).take i) ((λx:zx=>x.nm) x)with
  |some k=>
   have htt:Ae (pre++l.map (λx:zx=>x.nm))=true:=l7 (by
    apply Classical.byContradiction;intro q;rw[Bb.2 q]at i4;cases i4)
   rw[i4,XD]at t7;simp only[eZ,seval,xE,eY,isF,lt_T c6,hg,Tx2,s1,JB,GK,hm,t7,Dw,KT.is,CZ,fr1 c8,y1,AO,tadd];unfold Gj;rw[X6 htt];refine⟨rfl,⟨nmO (pre++(l.map (λx:zx=>x.nm)).take i),?_⟩,?_⟩
   ·rw[AA _ _ _ _ zo];exact hm
   ·exact hk.new hf zo
  |none=>
   rw[i4,Yk]at t7;have x5:=LN i4;rw[m6]at x5;simp only[eZ,seval,xE,eY,lt_T c6,hg,Tx2,s1,JB,GK,hm,t7,Dw,KT.is,CZ,fr1 c8,y1,e,ew,m6,x5,AO,tadd];refine .mk ⟨i+1,hset (hset H1 (n1+3) (.box (Fu x).cells)) id (.map (nmEs (pre++(l.map (λx:zx=>x.nm)).take i++[(λx:zx=>x.nm) x]) 0) (pre.length+(i+1))),n1+6⟩ rfl ⟨by simp only[W3];omega,zp,?_,?_,?_,?_⟩ zp
   ·exact(c8.hset (m:=n1+6) zo zo).hset (X2 (n1+6)) (show id<n1+6 by omega)
   ·simp only[];rw[AB,d6,<-Xx,nmO,Xf,m6];rfl
   ·exact(hk.new hf zo).set
   ·simp only[];rw[d6,<-Xx];exact G4 u9 (Bb.1 i4)
 have i6:i=l.length:=zo
 subst i6;have w9:(l.map (λx:zx=>x.nm)).take l.length=l.map (λx:zx=>x.nm):=Y0 (by rw[W3];omega);rw[w9]at hm u9;simp only[eZ,seval,lt_F c6];unfold Gj;rw[u9,X0 zd];exact⟨⟨_,rfl,Wk.refl _⟩,hm,hk⟩
def Tx3:Tab:=tadd 198 (s1 dS any1 λx=>.str ((λx:Bs=>x) x)) tnil
theorem Tx3_ok:AH prog Tx3:=AH.tnil.add (q1 λx _=>p198 x)
theorem VA{l:List Bs}(hl:few l)(t5:pre.length<1000000000)(hf0:f=(pre.length:Int))(hp:hget H id=some (nmO pre))(hd:Ae pre=false):
  AP prog 196 [eSs l,.int .i64 f,.fn (.func 198) [] [],.mp id] H n (CO H n id pre (l.map (λx:Bs=>x))):=by
 subst hf0;refine CO.of c196.l hp λhf d7=>c196.a (AF Tx3_ok (AG ?_))
 have o7:l.length<1000000000:=hl;simp only[eE,eN,seval,W3,c196];refine AL (λv:VIx=>⟨[(1,true,.int .i64 pre.length),(2,true,.fn (.func 198) [] []),(3,true,.mp id),(13,true,eSs l),(14,true,.int .i64 l.length),(15,true,.int .i64 v.i)],v.H,v.n⟩) (IIx H n id pre (l.map (λx:Bs=>x))) (λv=>l.length-v.i)
  ⟨0,H,n⟩ rfl ⟨X3 _,X2 _,hf,by rw[Yl,Xs];exact hp,CA.refl _,by rw[Yl,Xs];exact hd⟩ ?_
 rintro⟨i,H1,n1⟩ hI;have hi:=hI.hi;have hn:=hI.hn;have c8:=hI.fr;have hm:=hI.hm;have hk:=hI.hk;have u9:=hI.tw;simp only[W3]at hi hn c8 hm hk u9;by_cases c6:i<l.length
 ·have s8:i<(l.map (λx:Bs=>x)).length:=by rw[W3];exact c6
  have hg:=W5 c6;have x0:(l.map (λx:Bs=>x))[i]=(λx:Bs=>x) l[i]:=Zm ..;have e:=AE (k:=i) zo;have d6:(l.map (λx:Bs=>x)).take (i+1)=(l.map (λx:Bs=>x)).take i++[(λx:Bs=>x) l[i]]:=by rw[Xd,W5 s8,x0];rfl
  have m6:(pre++(l.map (λx:Bs=>x)).take i).length=pre.length+i:=by rw[Xf,Xp,W3];omega
  have ew:IntKind.wrap .i64 ((pre.length:Int)+(i:Int))=((pre.length+i:Nat):Int):=by rw[Aq zo zo];omega
  have y1:∀k,(n1+k=id)=False:=λk=>W9 zo
  have y2:∀k,(id=n1+k)=False:=λk=>W9 zo
  have l7:=λq=>G3 (pre:=pre) s8 (by rw[x0];exact q)
  generalize hx:l[i]=x at hg x0 d6 l7;have t7:=EF (pre++(l.map (λx:Bs=>x)).take i) ((λx:Bs=>x) x);cases i4:BF (pre++(l.map (λx:Bs=>x)).take i) ((λx:Bs=>x) x)with
  |some k=>
   have htt:Ae (pre++l.map (λx:Bs=>x))=true:=l7 (by
    apply Classical.byContradiction;intro q;rw[Bb.2 q]at i4;cases i4)
   rw[i4,XD]at t7;simp only[eZ,seval,xE,eY,isF,lt_T c6,hg,Tx3,s1,Gs,EK,hm,t7,Dw,KT.is,CZ,tadd];unfold Gj;rw[X6 htt];refine⟨rfl,⟨nmO (pre++(l.map (λx:Bs=>x)).take i),?_⟩,?_⟩
   ·exact hm
   ·exact hk
  |none=>
   rw[i4,Yk]at t7;have x5:=LN i4;rw[m6]at x5;simp only[eZ,seval,xE,eY,lt_T c6,hg,Tx3,s1,Gs,EK,hm,t7,Dw,KT.is,CZ,e,ew,m6,x5,tadd];refine .mk ⟨i+1,hset H1 id (.map (nmEs (pre++(l.map (λx:Bs=>x)).take i++[(λx:Bs=>x) x]) 0) (pre.length+(i+1))),n1⟩ rfl ⟨by simp only[W3];omega,zp,?_,?_,?_,?_⟩ zp
   ·exact c8.hset (m:=n1) (X2 _) zo
   ·simp only[];rw[AB,d6,<-Xx,nmO,Xf,m6];rfl
   ·exact hk.set
   ·simp only[];rw[d6,<-Xx];exact G4 u9 (Bb.1 i4)
 have i6:i=l.length:=zo
 subst i6;have w9:(l.map (λx:Bs=>x)).take l.length=l.map (λx:Bs=>x):=Y0 (by rw[W3];omega);rw[w9]at hm u9;simp only[eZ,seval,lt_F c6];unfold Gj;rw[u9,X0 zd];exact⟨⟨_,rfl,Wk.refl _⟩,hm,hk⟩
def Tx4:Tab:=tadd 200 (s1 dCl any1 λx=>.str ((λx:z8=>x.nm) x)) tnil
theorem Tx4_ok:AH prog Tx4:=AH.tnil.add (q1 λx _=>p200 x)
theorem ST{l:List z8}(hl:few l)(t5:pre.length<1000000000)(hf0:f=(pre.length:Int))(hp:hget H id=some (nmO pre))(hd:Ae pre=false):
  AP prog 199 [eCls l,.int .i64 f,.fn (.func 200) [] [],.mp id] H n (CO H n id pre (l.map (λx:z8=>x.nm))):=by
 subst hf0;refine CO.of c199.l hp λhf d7=>c199.a (AF Tx4_ok (AG ?_))
 have o7:l.length<1000000000:=hl;simp only[eE,eN,seval,W3,c199];refine AL (λv:VIx=>⟨[(1,true,.int .i64 pre.length),(2,true,.fn (.func 200) [] []),(3,true,.mp id),(13,true,eCls l),(14,true,.int .i64 l.length),(15,true,.int .i64 v.i)],v.H,v.n⟩) (IIx H n id pre (l.map (λx:z8=>x.nm))) (λv=>l.length-v.i)
  ⟨0,H,n⟩ rfl ⟨X3 _,X2 _,hf,by rw[Yl,Xs];exact hp,CA.refl _,by rw[Yl,Xs];exact hd⟩ ?_
 rintro⟨i,H1,n1⟩ hI;have hi:=hI.hi;have hn:=hI.hn;have c8:=hI.fr;have hm:=hI.hm;have hk:=hI.hk;have u9:=hI.tw;simp only[W3]at hi hn c8 hm hk u9;by_cases c6:i<l.length
 ·have s8:i<(l.map (λx:z8=>x.nm)).length:=by rw[W3];exact c6
  have hg:=W5 c6;have x0:(l.map (λx:z8=>x.nm))[i]=(λx:z8=>x.nm) l[i]:=Zm ..;have e:=AE (k:=i) zo;have d6:(l.map (λx:z8=>x.nm)).take (i+1)=(l.map (λx:z8=>x.nm)).take i++[(λx:z8=>x.nm) l[i]]:=by rw[Xd,W5 s8,x0];rfl
  have m6:(pre++(l.map (λx:z8=>x.nm)).take i).length=pre.length+i:=by rw[Xf,Xp,W3];omega
  have ew:IntKind.wrap .i64 ((pre.length:Int)+(i:Int))=((pre.length+i:Nat):Int):=by rw[Aq zo zo];omega
  have y1:∀k,(n1+k=id)=False:=λk=>W9 zo
  have y2:∀k,(id=n1+k)=False:=λk=>W9 zo
  have l7:=λq=>G3 (pre:=pre) s8 (by rw[x0];exact q)
  generalize hx:l[i]=x at hg x0 d6 l7;have t7:=EF (pre++(l.map (λx:z8=>x.nm)).take i) ((λx:z8=>x.nm) x);cases i4:BF (pre++(l.map (λx:z8=>x.nm)).take i) ((λx:z8=>x.nm) x)with
  |some k=>
   have htt:Ae (pre++l.map (λx:z8=>x.nm))=true:=l7 (by
    apply Classical.byContradiction;intro q;rw[Bb.2 q]at i4;cases i4)
   rw[i4,XD]at t7;simp only[eZ,seval,xE,eY,isF,lt_T c6,hg,Tx4,s1,Hx,Fa,hm,t7,Dw,KT.is,CZ,fr1 c8,y1,AO,tadd];unfold Gj;rw[X6 htt];refine⟨rfl,⟨nmO (pre++(l.map (λx:z8=>x.nm)).take i),?_⟩,?_⟩
   ·rw[AA _ _ _ _ zo];exact hm
   ·exact hk.new hf zo
  |none=>
   rw[i4,Yk]at t7;have x5:=LN i4;rw[m6]at x5;simp only[eZ,seval,xE,eY,lt_T c6,hg,Tx4,s1,Hx,Fa,hm,t7,Dw,KT.is,CZ,fr1 c8,y1,e,ew,m6,x5,AO,tadd];refine .mk ⟨i+1,hset (hset H1 (n1+3) (.box (CC x).cells)) id (.map (nmEs (pre++(l.map (λx:z8=>x.nm)).take i++[(λx:z8=>x.nm) x]) 0) (pre.length+(i+1))),n1+6⟩ rfl ⟨by simp only[W3];omega,zp,?_,?_,?_,?_⟩ zp
   ·exact(c8.hset (m:=n1+6) zo zo).hset (X2 (n1+6)) (show id<n1+6 by omega)
   ·simp only[];rw[AB,d6,<-Xx,nmO,Xf,m6];rfl
   ·exact(hk.new hf zo).set
   ·simp only[];rw[d6,<-Xx];exact G4 u9 (Bb.1 i4)
 have i6:i=l.length:=zo
 subst i6;have w9:(l.map (λx:z8=>x.nm)).take l.length=l.map (λx:z8=>x.nm):=Y0 (by rw[W3];omega);rw[w9]at hm u9;simp only[eZ,seval,lt_F c6];unfold Gj;rw[u9,X0 zd];exact⟨⟨_,rfl,Wk.refl _⟩,hm,hk⟩
def Tx5:Tab:=tadd 204 (s1 dRu any1 λx=>.str ((λx:qj=>x.nm) x)) tnil
theorem Tx5_ok:AH prog Tx5:=AH.tnil.add (q1 λx _=>p204 x)
theorem SU{l:List qj}(hl:few l)(t5:pre.length<1000000000)(hf0:f=(pre.length:Int))(hp:hget H id=some (nmO pre))(hd:Ae pre=false):
  AP prog 203 [eRus l,.int .i64 f,.fn (.func 204) [] [],.mp id] H n (CO H n id pre (l.map (λx:qj=>x.nm))):=by
 subst hf0;refine CO.of c203.l hp λhf d7=>c203.a (AF Tx5_ok (AG ?_))
 have o7:l.length<1000000000:=hl;simp only[eE,eN,seval,W3,c203];refine AL (λv:VIx=>⟨[(1,true,.int .i64 pre.length),(2,true,.fn (.func 204) [] []),(3,true,.mp id),(13,true,eRus l),(14,true,.int .i64 l.length),(15,true,.int .i64 v.i)],v.H,v.n⟩) (IIx H n id pre (l.map (λx:qj=>x.nm))) (λv=>l.length-v.i)
  ⟨0,H,n⟩ rfl ⟨X3 _,X2 _,hf,by rw[Yl,Xs];exact hp,CA.refl _,by rw[Yl,Xs];exact hd⟩ ?_
 rintro⟨i,H1,n1⟩ hI;have hi:=hI.hi;have hn:=hI.hn;have c8:=hI.fr;have hm:=hI.hm;have hk:=hI.hk;have u9:=hI.tw;simp only[W3]at hi hn c8 hm hk u9;by_cases c6:i<l.length
 ·have s8:i<(l.map (λx:qj=>x.nm)).length:=by rw[W3];exact c6
  have hg:=W5 c6;have x0:(l.map (λx:qj=>x.nm))[i]=(λx:qj=>x.nm) l[i]:=Zm ..;have e:=AE (k:=i) zo;have d6:(l.map (λx:qj=>x.nm)).take (i+1)=(l.map (λx:qj=>x.nm)).take i++[(λx:qj=>x.nm) l[i]]:=by rw[Xd,W5 s8,x0];rfl
  have m6:(pre++(l.map (λx:qj=>x.nm)).take i).length=pre.length+i:=by rw[Xf,Xp,W3];omega
  have ew:IntKind.wrap .i64 ((pre.length:Int)+(i:Int))=((pre.length+i:Nat):Int):=by rw[Aq zo zo];omega
  have y1:∀k,(n1+k=id)=False:=λk=>W9 zo
  have y2:∀k,(id=n1+k)=False:=λk=>W9 zo
  have l7:=λq=>G3 (pre:=pre) s8 (by rw[x0];exact q)
  generalize hx:l[i]=x at hg x0 d6 l7;have t7:=EF (pre++(l.map (λx:qj=>x.nm)).take i) ((λx:qj=>x.nm) x);cases i4:BF (pre++(l.map (λx:qj=>x.nm)).take i) ((λx:qj=>x.nm) x)with
  |some k=>
   have htt:Ae (pre++l.map (λx:qj=>x.nm))=true:=l7 (by
    apply Classical.byContradiction;intro q;rw[Bb.2 q]at i4;cases i4)
   rw[i4,XD]at t7;simp only[eZ,seval,xE,eY,isF,lt_T c6,hg,Tx5,s1,Bc,A8,hm,t7,Dw,KT.is,CZ,fr1 c8,y1,AO,tadd];unfold Gj;rw[X6 htt];refine⟨rfl,⟨nmO (pre++(l.map (λx:qj=>x.nm)).take i),?_⟩,?_⟩
   ·rw[AA _ _ _ _ zo];exact hm
   ·exact hk.new hf zo
  |none=>
   rw[i4,Yk]at t7;have x5:=LN i4;rw[m6]at x5;simp only[eZ,seval,xE,eY,lt_T c6,hg,Tx5,s1,Bc,A8,hm,t7,Dw,KT.is,CZ,fr1 c8,y1,e,ew,m6,x5,AO,tadd];refine .mk ⟨i+1,hset (hset H1 (n1+3) (.box (BT x).cells)) id (.map (nmEs (pre++(l.map (λx:qj=>x.nm)).take i++[(λx:qj=>x.nm) x]) 0) (pre.length+(i+1))),n1+6⟩ rfl ⟨by simp only[W3];omega,zp,?_,?_,?_,?_⟩ zp
   ·exact(c8.hset (m:=n1+6) zo zo).hset (X2 (n1+6)) (show id<n1+6 by omega)
   ·simp only[];rw[AB,d6,<-Xx,nmO,Xf,m6];rfl
   ·exact(hk.new hf zo).set
   ·simp only[];rw[d6,<-Xx];exact G4 u9 (Bb.1 i4)
 have i6:i=l.length:=zo
 subst i6;have w9:(l.map (λx:qj=>x.nm)).take l.length=l.map (λx:qj=>x.nm):=Y0 (by rw[W3];omega);rw[w9]at hm u9;simp only[eZ,seval,lt_F c6];unfold Gj;rw[u9,X0 zd];exact⟨⟨_,rfl,Wk.refl _⟩,hm,hk⟩
end
section
def NPost(H:AC)(n:Nat)(r:Option Int):j9->AC->Nat->Prop:=λo H' n'=>H'=H/\n'=n/\match r with
 |some k=>o= .ret (.int .i64 k)
 |none=>o= .pan (errV 160)
variable {l:List Bs}
theorem J5{H:AC}{n id:Nat}{s:Bs}(hp:hget H id=some (nmO l)):AP prog 202 [.mp id,.str s] H n (NPost H n (BF l s)):=by
 refine c202.a (AF AH.tnil (AG ?_));have hf:=EF l s;cases i4:BF l s with
 |some k=>
  rw[i4,XD]at hf;simp only[eZ,seval,W6,xE,eY,c202,hp,hf,Dw,KT.is,CZ];exact⟨rfl,rfl,rfl⟩
 |none=>
  rw[i4,Yk]at hf;simp only[eZ,seval,W8,xE,eY,isF,c202,hp,hf,Dw,KT.is,CZ];exact⟨rfl,rfl,rfl⟩
theorem UN{a b:Nat}(ha:a<65536)(hb:b<65536):V2 .or .i64 (a:Int) (b:Int)=((a|||b:Nat):Int):=by
 have s6:a|||b<65536:=Nat.or_lt_two_pow (n:=16) ha hb
 have e:∀x:Nat,BitVec.ofInt 64 (x:Int)=BitVec.ofNat 64 x:=λx=>by
  apply BitVec.eq_of_toNat_eq;simp [BitVec.toNat_ofNat]
 show IntKind.wrap .i64 ((BitVec.ofInt 64 (a:Int)|||BitVec.ofInt 64 (b:Int)).toNat:Int)=_;rw[e,e,BitVec.toNat_or,BitVec.toNat_ofNat,BitVec.toNat_ofNat,Nat.mod_eq_of_lt zo,Nat.mod_eq_of_lt zo,Aq zo zo]
theorem PE{j:Nat}(h:j<16):Ii .shl .i64 1 (j:Int)=((1<<<j:Nat):Int):=by
 have h2:2^j<65536:=Nat.pow_lt_pow_right zd (show j<16 from h);show IntKind.wrap .i64 (1*2^(min (j:Int).toNat 64))=_;rw[Int.one_mul,X4,Nat.min_eq_left zo,Nat.shiftLeft_eq,Nat.one_mul];have e:((2:Int)^j)=((2^j:Nat):Int):=by rw[Int.natCast_pow];rfl
 rw[e];generalize 2^j=p at h2;exact Aq zo zo
theorem Mh{j:Nat}(h:j<16):1<<<j<65536:=by
 rw[Nat.shiftLeft_eq,Nat.one_mul];exact Nat.pow_lt_pow_right zd (show j<16 from h)
def EQ(l:List Bs)(acc:Nat)(ss:List Bs):Option Int:=(CS l ss).map λk=>((acc|||k.toNat:Nat):Int)
theorem IT(l:List Bs)(acc:Nat):EQ l acc []=some (acc:Int):=by simp [EQ,CS]
theorem G5{acc:Nat}{s:Bs}{r:List Bs}:EQ l acc (s::r)=match BF l s with
  |none=>none
  |some j=>EQ l (acc|||1<<<j.toNat) r:=by
 unfold EQ;rw[JA,BF];cases l.findIdx? λx=>decide (x=s)with
 |none=>rfl
 |some i=>
  simp only[XD,X4];cases CS l r with
  |none=>rfl
  |some n=>
   simp only[XD,Option.some.injEq];congr 1;show acc|||(Int.ofNat (Nat.lor (1<<<i) n.toNat)).toNat=_
   rw[Nat.or_assoc];rfl
theorem Mi(l ss:List Bs):EQ l 0 ss=CS l ss:=by
 unfold EQ;rw[O2];cases Ad (λs=>l.findIdx? λx=>decide (x=s)) ss with
 |none=>rfl
 |some is=>simp
theorem SV{H:AC}{n id sid:Nat}{ss:List Bs}(hl:l.length<=16)(v9:wide ss)(hs:hget H sid=some (.box [.mp id]))(hp:hget H id=some (nmO l)):AP prog 206 [eSs ss,.ptr sid 0] H n (NPost H n (CS l ss)):=by
 refine c206.a (AF AH.tnil (AG ?_));have hsl:ss.length<1125899906842624:=v9;rw[<-Mi];simp only[eE,eN,seval,W3,c206];refine AL (λv:Nat×Nat=>⟨[(1,true,.ptr sid 0),(3,true,.int .i64 v.2),(6,true,eSs ss),(7,true,.int .i64 ss.length),(8,true,.int .i64 v.1)],H,n⟩) (λv=>v.1<=ss.length/\v.2<65536/\EQ l 0 ss=EQ l v.2 (ss.drop v.1)) (λv=>ss.length-v.1) (0,0) rfl ⟨X3 _,zd,rfl⟩ ?_;rintro⟨i,acc⟩ ⟨hi,y9,heq⟩;simp only at hi y9 heq;by_cases c6:i<ss.length
 ·have hg:=W5 c6;have e:=AE (k:=i) zo;rw[Xm c6,G5]at heq;generalize ss[i]=s at hg heq;simp only[eZ,seval,eY,lt_T c6,hg,hs];refine(J5 hp).mono λo H' n' hq=>?_
  obtain⟨rfl,rfl,hq⟩:=hq;cases i4:BF l s with
  |none=>
   rw[i4]at hq heq;subst hq;simp only at heq;rw[heq];simp only[eE,eN,retK];exact⟨rfl,rfl,rfl⟩
  |some k=>
   rw[i4]at hq heq;subst hq;simp only at heq;obtain⟨h0,h1⟩:=LJ i4;obtain⟨j,rfl⟩:∃j:Nat,k=j:=⟨k.toNat,zo⟩;rw[X4]at heq;simp only[eE,eN,seval,X5,retK,PE (show j<16 by omega),UN y9 (Mh (show j<16 by omega)),e];exact .mk (i+1,acc|||1<<<j) rfl ⟨c6,Nat.or_lt_two_pow (n:=16) y9 (Mh zo),heq⟩ zp
 obtain rfl:i=ss.length:=zo
 rw[Xy,IT]at heq;rw[heq];simp only[eZ,seval,lt_F c6];exact⟨rfl,rfl,rfl⟩
end
abbrev IH:List Fs:=[.str [],.int .i64 0,.int .i64 0,.int .i64 0,.int .i64 0,.sl .nil [],.sl .nil [],.sl .nil [],.sl .nil [],.sl .nil []]
def d_rn{H:AC}{n i0 i1:Nat}:CV prog 191 [.ptr i0 0,.ptr i1 0] .nilifc H n (λH' n'=>H'=H/\n'=n):=by
 refine a191 (AF AH.tnil (AG ?_));simp only[eZ,seval,W6,xE,c191]
def d_rp{H:AC}{n:Nat}{xs:List Fs}{y:Fs}{p:Int}(h0:hget H 1=some (.box xs))(hx:xs.length=10)(h1:hget H 2=some (.box [y])):
  CV prog 191 [.ptr 1 0,.ptr 2 0] (errV p) H n (λH' n'=>hget H' 1=some (.box IH)/\hget H' 2=some (.box [.int .i64 p])):=by
 refine a191 (AF AH.tnil (AG ?_));obtain⟨a,b,c,d,e,f,g,h,i,j,rfl⟩:∃a b c d e f g h i j,xs=[a,b,c,d,e,f,g,h,i,j]:=by
  match xs,hx with
  |[a,b,c,d,e,f,g,h,i,j],_=>exact⟨a,b,c,d,e,f,g,h,i,j,rfl⟩
 simp only[eZ,seval,xE,c191,h0,h1]
section
def CF(d:zy):Fs:=match resD d with
 | .error e=>.tup [encD dcl0,.int .i64 e]
 | .ok x=>.tup [encD x,.int .i64 0]
abbrev CP(d:zy)(vc vr:Fs):List Fs:=[.str d.nm,.int .i64 d.ver,.int .i64 d.sh,.int .i64 d.w,.int .i64 d.h,eIs d.holes,eSys d.syms,eRgs d.regs,vc,vr]
def RR(d:zy):j9->AC->Nat->Prop:=λo H' n'=>match resD d with
 | .error e=>∃v,o= .ret v/\Wk v (.tup [encD dcl0,.int .i64 e])
 | .ok x=>∃vc vr,o= .ret (.tup [.agg (CP d vc vr),.int .i64 0])/\LV 6 vc H' (x.clus.map CC)/\LV 12 vr H' (x.ruls.map BT)/\(∀i a b c e j f g h k,vc= .ref i a b c e->vr= .ref j f g h k->i≠j)
def Tnr:Tab:=tadd 197 (λa _=>match a with
 |[]=>(True,eSs Bv)
 |_=>(False,.tup [])) tnil
def UO:AH prog Tnr:=AH.tnil.add λargs H n h=>by
 cases args with
 |nil=>exact p197.quiet H n
 |cons _ _=>exact h.elim
abbrev rsR:List RC:=[.c 2 10 true,.c 3 1 false]
abbrev envR:List (Nat×Bool×Fs):=[(1,true,.ptr 0 0),(2,true,.ptr 1 0),(3,true,.ptr 2 0)]
abbrev argsR:List Fs:=[.ptr 1 0,.ptr 2 0]
def afst:qq->qq
 | .seq a _=>a
 |c=>c
def asnd:qq->qq
 | .seq _ b=>b
 |c=>c
def LY:Nat->qq->qq
 |0,c=>c
 |k+1,c=>LY k (asnd c)
abbrev QR(d:zy):qv->AS->Prop:=Tk prog 191 argsR rsR envR (RR d)
variable {xs:List Fs}
theorem ten(h:xs.length=10):∃a b c d e f g h i j,xs=[a,b,c,d,e,f,g,h,i,j]:=by
 match xs,h with
 |[a,b,c,d,e,f,g,h,i,j],_=>exact⟨a,b,c,d,e,f,g,h,i,j,rfl⟩
theorem Ct{d:zy}{H:AC}{m:Nat}{y:Fs}{p:Int}(h1:hget H 1=some (.box xs))(hx:xs.length=10)(h2:hget H 2=some (.box [y]))(hr:resD d= .error p):QR d (.pan (errV p)) ⟨[],H,m⟩:=by
 refine CV.mono (d_rp h1 hx h2) ?_;rintro H2 n2 ⟨k1,k2⟩;unfold RcOf;simp only[eE,seval,BI,k1,k2];unfold RR;rw[hr];exact⟨_,rfl,Wk.tup (.cons (Wk.agg (.cons (Wk.refl _) (.cons (Wk.refl _) (.cons (Wk.refl _) (.cons (Wk.refl _) (.cons (Wk.refl _) (.cons (Wk.sl (.inr rfl)) (.cons (Wk.sl (.inr rfl)) (.cons (Wk.sl (.inr rfl)) (.cons (Wk.sl (.inr rfl)) (.cons (Wk.sl (.inr rfl)) .nil))))))))))) (.cons (Wk.refl _) .nil))⟩
theorem PF{d:zy}{env:List (Nat×Bool×Fs)}{H:AC}{m:Nat}{y:Fs}(h1:hget H 1=some (.box xs))(hx:xs.length=10)(h2:hget H 2=some (.box [y]))(hr:RR d (.ret (.tup [.agg xs,y])) H m):QR d .ret ⟨env,H,m⟩:=by
 refine CV.mono d_rn ?_;rintro H2 n2 ⟨rfl,rfl⟩;obtain⟨a,b,c,d,e,f,g,h,i,j,rfl⟩:=ten hx;unfold RcOf;simp only[eE,seval,BI,h1,h2];exact hr
end
section
structure NM(d:zy)(vc vr:Fs)(H:AC):Prop where
 h0:hget H 0=some (.box (CP d vc vr))
 h1:hget H 1=some (.box IH)
 h2:hget H 2=some (.box [.int .i64 0])
 h5:hget H 5=some (nmO (d.syms.map λx:j8=>x.nm))
 h7:hget H 7=some (.box [.mp 5])
 h12:hget H 12=some (nmO (Bn d))
 h18:hget H 18=some (nmO (d.clus.map λx:z8=>x.nm))
def notM(i:Nat):Prop:=i≠0/\i≠1/\i≠2/\i≠5/\i≠7/\i≠12/\i≠18
variable {H:AC} {vc vr:Fs} {d:zy} {i e:Nat}
theorem NM.set{ob:zj}(h:NM d vc vr H)(hi:notM i):NM d vc vr (hset H i ob):=by
 obtain⟨a,b,c,e,f,g,k⟩:=hi;exact⟨by rw[AA _ _ _ _ a];exact h.h0,by rw[AA _ _ _ _ b];exact h.h1,by rw[AA _ _ _ _ c];exact h.h2,by rw[AA _ _ _ _ e];exact h.h5,by rw[AA _ _ _ _ f];exact h.h7,by rw[AA _ _ _ _ g];exact h.h12,by rw[AA _ _ _ _ k];exact h.h18⟩
theorem NM.put{vc' vr':Fs}(h:NM d vc vr H):NM d vc' vr' (hset H 0 (.box (CP d vc' vr'))):=
 ⟨AB ..,by rw[AA _ _ _ _ zd];exact h.h1,by rw[AA _ _ _ _ zd];exact h.h2,by rw[AA _ _ _ _ zd];exact h.h5,by rw[AA _ _ _ _ zd];exact h.h7,by rw[AA _ _ _ _ zd];exact h.h12,by rw[AA _ _ _ _ zd];exact h.h18⟩
theorem NM.ne{id:Nat}{A:List Fs}(r9:NM d vc vr H)(ho:hget H id=some (.arr e A)):notM id:=by
 refine⟨?_,?_,?_,?_,?_,?_,?_⟩<;>rintro rfl
 ·rw[r9.h0]at ho;cases ho
 ·rw[r9.h1]at ho;cases ho
 ·rw[r9.h2]at ho;cases ho
 ·rw[r9.h5]at ho;cases ho
 ·rw[r9.h7]at ho;cases ho
 ·rw[r9.h12]at ho;cases ho
 ·rw[r9.h18]at ho;cases ho
theorem LZ(h:21<=i):notM i:=⟨zo,zo,zo,zo,zo,zo,zo⟩
theorem Cn{α β:Type}(f:α->Option β)(x:α)(r:List α):Ad f (x::r)=(match f x with
  |some y=>(Ad f r).map λs=>y::s
  |none=>none):=by
 simp only[Ad];cases f x with
 |none=>rfl
 |some y=>cases Ad f r<;>rfl
structure VRl where
 i:Nat
 dn:List qj
 H:AC
structure IRl(d:zy)(cs:List z8)(vc vr:Fs)(n:Nat)(v:VRl):Prop where
 hi:v.i<=d.ruls.length
 ln:v.dn.length=v.i
 fr:AQ v.H n
 nm:NM d vc vr v.H
 lc:LV 6 vc v.H (cs.map CC)
 lv:LV 12 vr v.H ((v.dn++d.ruls.drop v.i).map BT)
 eq:Ad (BE d) d.ruls=(Ad (BE d) (d.ruls.drop v.i)).map λr=>v.dn++r
section
variable {a b c d e f g h i j k l v:Fs}
theorem apR3(hv:v.cells=[v]):DU (.agg [a,b,c,d,e,f,g,h,i,j,k,l]) 3 1 12 v=(True,.agg [a,b,c,v,e,f,g,h,i,j,k,l]):=by
 rw[EW zd];simp [splice,hv]
theorem apR6(hv:v.cells=[v]):DU (.agg [a,b,c,d,e,f,g,h,i,j,k,l]) 6 1 12 v=(True,.agg [a,b,c,d,e,f,v,h,i,j,k,l]):=by
 rw[EW zd];simp [splice,hv]
theorem apR7(hv:v.cells=[v]):DU (.agg [a,b,c,d,e,f,g,h,i,j,k,l]) 7 1 12 v=(True,.agg [a,b,c,d,e,f,g,v,i,j,k,l]):=by
 rw[EW zd];simp [splice,hv]
theorem SW(hv:v.cells=[v]):DU (.agg [a,b,c,d,e,f,g,h,i,j,k,l]) 11 1 12 v=(True,.agg [a,b,c,d,e,f,g,h,i,j,k,v]):=by
 rw[EW zd];simp [splice,hv]
end
theorem LV.set{v:Fs}{l:List Fs}{id:Nat}{ob:zj}(h:LV e v H l)(d9:∀a b c x,v≠ .ref id a b c x):LV e v (hset H id ob) l:=by
 rcases h with h|⟨h0,i,cap,rest,rfl,ho,hc⟩
 ·exact .inl h
 ·exact .inr ⟨h0,i,cap,rest,rfl,by rw[AA _ _ _ _ (λq=>d9 _ _ _ _ (by rw[q]))];exact ho,hc⟩
theorem LV.no{l:List Fs}{a b c x:Nat}(h:LV e (.ref i a b c x) H l)(hn:∀e' A,hget H i≠some (.arr e' A)):False:=by
 rcases h with⟨-,t,h,-⟩|⟨-,id,cap,rest,h,ho,-⟩
 ·cases h
 ·cases h;exact hn _ _ ho
theorem UP(d:zy)(hd:qk d)(o8:¬16<d.syms.length)(i8:Ae (d.syms.map λx:j8=>x.nm)=false)(l9:Ae (Bn d)=false)(x6:Ae (d.clus.map λx:z8=>x.nm)=false){cs:List z8}(s9:Ad (Bh d) d.clus=some cs)(ae:Ae (d.ruls.map λx:qj=>x.nm)=false)
  {n:Nat} (hf:AQ H n) (hm:NM d vc vr H) (hvc:LV 6 vc H (cs.map CC)) (hvr:LV 12 vr H (d.ruls.map BT)) (hdj:∀i a b c e j f g h k,vc= .ref i a b c e->vr= .ref j f g h k->i≠j):
  evK prog Tnr (asnd (afst (LY 9 c145))) [.c (asnd (LY 9 c145))] (QR d) ⟨[(1,true,.ptr 0 0),(2,true,.ptr 1 0),(3,true,.ptr 2 0),(5,true,.mp 12),(6,true,.mp 18),(8,true,.fn (.func 206) [] [.ptr 7 0]),(66,true,.int .i64 d.ruls.length),(67,true,.int .i64 0)],H,n⟩:=by
 have hrl:d.ruls.length<1000000000:=hd.ru;have hbase:∀x,Ad (BE d) d.ruls=x->resD d=(match x with|none=>.error 160|some rs=>.ok {d with clus:=cs,ruls:=rs}):=λx hx=>by
  unfold resD;rw[X0 o8,i8,l9,x6,s9];simp only[Xh,Xt];rw[ae,hx];rfl
 simp only[eE,LY,asnd,afst,c145];refine AL (λv:VRl=>⟨[(1,true,.ptr 0 0),(2,true,.ptr 1 0),(3,true,.ptr 2 0),(5,true,.mp 12),(6,true,.mp 18),(8,true,.fn (.func 206) [] [.ptr 7 0]),(66,true,.int .i64 d.ruls.length),(67,true,.int .i64 v.i)],v.H,n⟩) (IRl d cs vc vr n) (λv=>d.ruls.length-v.i)
  ⟨0,[],H⟩ rfl ⟨X3 _,rfl,hf,hm,hvc,hvr,by rw[ZA];cases Ad (BE d) d.ruls<;>rfl⟩ ?_
 rintro⟨i,dn,H1⟩ hI;have hi:=hI.hi;have o9:=hI.ln;have c8:=hI.fr;have r9:=hI.nm;have m9:=hI.lc;have m4:=hI.lv;have heq:=hI.eq;clear hI hf hm hvc hvr;simp only at hi o9 c8 r9 m9 m4 heq;by_cases c6:i<d.ruls.length;case neg=>
  obtain rfl:i=d.ruls.length:=zo
  rw[Xy]at heq m4;rw[Xs]at m4;have hr:=hbase _ heq;simp only[Ad,XD,Xs]at hr;simp only[eZ,seval,lt_F c6,r9.h0,CP,r9.h1,r9.h2];refine PF (xs:=CP d vc vr) (y:=.int .i64 0) ?_ rfl ?_ ?_
  ·simp only[AK];rfl
  ·simp only[AK];rfl
  unfold RR;rw[hr];have l6:∀a b c x,vc≠ .ref 1 a b c x/\vc≠ .ref 2 a b c x/\vr≠ .ref 1 a b c x/\vr≠ .ref 2 a b c x:=by
   intro a b c x;refine⟨?_,?_,?_,?_⟩<;>rintro rfl
   ·exact m9.no (by rw[r9.h1];simp)
   ·exact m9.no (by rw[r9.h2];simp)
   ·exact m4.no (by rw[r9.h1];simp)
   ·exact m4.no (by rw[r9.h2];simp)
  exact⟨vc,vr,rfl,(m9.set λa b c x=>(l6 a b c x).1).set λa b c x=>(l6 a b c x).2.1,(m4.set λa b c x=>(l6 a b c x).2.2.1).set λa b c x=>(l6 a b c x).2.2.2,hdj⟩
 have hrx:=(hd.rus _ (Xa c6));rw[Xm c6]at heq m4;rw[Cn]at heq;generalize d.ruls[i]=r at heq m4 hrx;have o7:((dn++r::d.ruls.drop (i+1)).map BT).length=d.ruls.length:=by simp;omega
 rcases m4 with⟨h0,-⟩|⟨-,id,cap,rest,hvr,ho,hcr⟩
 ·simp at h0
 rw[o7]at hvr hcr;subst hvr;have e:=AE (k:=i) zo;have d7:id<n:=c8.lt ho;have d9:=r9.ne ho;have h0:=r9.h0;have z9:((dn++r::d.ruls.drop (i+1)).map BT++rest)[i]?=some (BT r):=by
  rw[X7,Xx,XX (by simp;omega)];simp [o9]
 have t8:i<((dn++r::d.ruls.drop (i+1)).map BT++rest).length:=by rw[Xf,o7];omega
 have hse:∀r':qj,((dn++r::d.ruls.drop (i+1)).map BT++rest).set i (BT r')=((dn++[r'])++d.ruls.drop (i+1)).map BT++rest:=λr'=>by
  rw[X7,Xx,List.set_append_right _ _ (by simp;omega)];simp [o9]
 generalize hA:(dn++r::d.ruls.drop (i+1)).map BT++rest=A at ho z9 t8 hse;have t9:∀x,(i<(A.set i x).length)=True:=λx=>W4 (by rw[YC];exact t8)
 have hgs:∀x,(A.set i x)[i]?=some x:=λx=>List.getElem?_set_self t8
 have v9:∀x y,(A.set i x).set i y=A.set i y:=λx y=>List.set_set ..
 have z0':(id=0)=False:=W9 d9.1;have z5':(id=5)=False:=W9 d9.2.2.2.1;have z7':(id=7)=False:=W9 d9.2.2.2.2.1;have z12':(id=12)=False:=W9 d9.2.2.2.2.2.1;have z18':(id=18)=False:=W9 d9.2.2.2.2.2.2;have h7:=r9.h7;have h5:=r9.h5;have i7:BE d r=none->resD d= .error 160:=λq=>by
  rw[q]at heq;exact hbase _ heq
 have k9:∀ob,NM d vc (.ref id 12 0 d.ruls.length cap) (hset H1 id ob):=λob=>r9.set d9
 have hvn:∀a b c x,vc≠ .ref id a b c x:=λa b c x q=>hdj _ _ _ _ _ _ _ _ _ _ q rfl rfl
 have fin:∀(F a b c:Int),BE d r=some {r with fam:=F,set:=a,oth:=b,clue:=c}->lpN (λv:VRl=>⟨[(1,true,.ptr 0 0),(2,true,.ptr 1 0),(3,true,.ptr 2 0),(5,true,.mp 12),(6,true,.mp 18),(8,true,.fn (.func 206) [] [.ptr 7 0]),(66,true,.int .i64 d.ruls.length),(67,true,.int .i64 v.i)],v.H,n⟩) (IRl d cs vc (.ref id 12 0 d.ruls.length cap) n) (λv=>d.ruls.length-v.i) ⟨i,dn,H1⟩
   ⟨[(1,true,.ptr 0 0),(2,true,.ptr 1 0),(3,true,.ptr 2 0),(5,true,.mp 12),(6,true,.mp 18),(8,true,.fn (.func 206) [] [.ptr 7 0]),(66,true,.int .i64 d.ruls.length),(67,true,.int .i64 ((i+1:Nat):Int))],hset H1 id (.arr 12 (A.set i (.agg [.str r.nm,.str r.on,.int .i64 r.kind,.int .i64 F,eSs r.ns,eSs r.os,.int .i64 a,.int .i64 b,.int .i64 r.op,.int .i64 r.n,.str r.byN,.int .i64 c]))),n⟩:=λF a b c x8=>by
  rw[x8]at heq;have hse2:=hse {r with fam:=F,set:=a,oth:=b,clue:=c};refine .mk ⟨i+1,dn++[{r with fam:=F,set:=a,oth:=b,clue:=c}],hset H1 id (.arr 12 (A.set i (BT {r with fam:=F,set:=a,oth:=b,clue:=c})))⟩ rfl ⟨c6,by simp [o9],c8.hset (X2 _) d7,k9 _,m9.set hvn,.inr ⟨zw,id,cap,rest,?_,?_,?_⟩,?_⟩ zp
  ·simp only[W3,Xf,Xj,Y2,Yc,o9];congr 1;omega
  ·simp only[];rw[AB,hse2]
  ·simp only[W3,Xf,Xj,Y2,Yc,o9];omega
  ·simp only[];rw[heq];cases Ad (BE d) (d.ruls.drop (i+1))<;>simp
 by_cases ai:r.on=[]
 ·have hb:scmp .neq r.on []=false:=by rw[Ap,ai];rfl
  simp only[eZ,eX,seval,X8,X4,X5,atN,atK,GD,lt_T c6,h0,CP,ho,z9,W4 t8,addr,W4 d7,t9,hgs,v9,BT,BP,apR3,SW,AO,hb];refine(SV (by rw[W3];omega) hrx.1 (k9 _).h7 (k9 _).h5).mono λo H' n' hq=>?_
  obtain⟨rfl,rfl,hq⟩:=hq;cases m5:CS (d.syms.map λx:j8=>x.nm) r.ns with
  |none=>
   rw[m5]at hq;subst hq;simp only[eE,eN,Ed];exact Ct (k9 _).h1 rfl (k9 _).h2 (i7 (by unfold BE;rw[X6 ai,m5]))
  |some a=>
   rw[m5]at hq;subst hq;simp only[eE,eC,eX,seval,Ed];refine(SV (by rw[W3];omega) hrx.2 (k9 _).h7 (k9 _).h5).mono λo H' n' hq=>?_
   obtain⟨rfl,rfl,hq⟩:=hq;cases v7:CS (d.syms.map λx:j8=>x.nm) r.os with
   |none=>
    rw[v7]at hq;subst hq;simp only[eE,eN,Ed];exact Ct (k9 _).h1 rfl (k9 _).h2 (i7 (by unfold BE;rw[X6 ai,m5,v7]))
   |some b=>
    rw[v7]at hq;subst hq;by_cases aj:r.byN=[]
    ·have i9:scmp .neq r.byN []=false:=by rw[Ap,aj];rfl
     simp only[eZ,eX,seval,X8,Ed,i9,JD,t9,hgs,v9,apR6,apR7,AO,e];exact fin 0 a b (-1) (by unfold BE;rw[X6 ai,m5,v7,X6 aj])
    ·have i9:scmp .neq r.byN []=true:=by rw[Ap,Ax aj];rfl
     simp only[eZ,eX,seval,X8,Ed,i9,JD,t9,hgs,v9,apR6,apR7,AO];refine(J5 (k9 _).h18).mono λo H' n' hq=>?_
     obtain⟨rfl,rfl,hq⟩:=hq;cases t6:BF (d.clus.map λx:z8=>x.nm) r.byN with
     |none=>
      rw[t6]at hq;subst hq;simp only[eE,eN,retK];exact Ct (k9 _).h1 rfl (k9 _).h2 (i7 (by unfold BE;rw[X6 ai,m5,v7,X0 aj,t6]))
     |some c=>
      rw[t6]at hq;subst hq;simp only[eE,eN,seval,X8,retK,t9,hgs,v9,SW,AO,e];exact fin 0 a b c (by unfold BE;rw[X6 ai,m5,v7,X0 aj,t6])
 ·have hb:scmp .neq r.on []=true:=by rw[Ap,Ax ai];rfl
  simp only[eZ,seval,X8,X4,X5,lt_T c6,h0,CP,ho,z9,W4 t8,t9,hgs,v9,BT,BP,apR3,SW,AO,hb];refine(J5 (k9 _).h12).mono λo H' n' hq=>?_
  obtain⟨rfl,rfl,hq⟩:=hq;cases i4:BF (Bn d) r.on with
  |none=>
   rw[i4]at hq;subst hq;simp only[eE,eN,retK];exact Ct (k9 _).h1 rfl (k9 _).h2 (i7 (by unfold BE;rw[X0 ai,i4]))
  |some F=>
   rw[i4]at hq;subst hq;simp only[eE,eN,eX,seval,X8,atN,atK,GD,retK,addr,W4 d7,t9,hgs,v9,apR3,AO];refine(SV (by rw[W3];omega) hrx.1 (k9 _).h7 (k9 _).h5).mono λo H' n' hq=>?_
   obtain⟨rfl,rfl,hq⟩:=hq;cases m5:CS (d.syms.map λx:j8=>x.nm) r.ns with
   |none=>
    rw[m5]at hq;subst hq;simp only[eE,eN,Ed];exact Ct (k9 _).h1 rfl (k9 _).h2 (i7 (by unfold BE;rw[X0 ai,i4,m5]))
   |some a=>
    rw[m5]at hq;subst hq;simp only[eE,eC,eX,seval,Ed];refine(SV (by rw[W3];omega) hrx.2 (k9 _).h7 (k9 _).h5).mono λo H' n' hq=>?_
    obtain⟨rfl,rfl,hq⟩:=hq;cases v7:CS (d.syms.map λx:j8=>x.nm) r.os with
    |none=>
     rw[v7]at hq;subst hq;simp only[eE,eN,Ed];exact Ct (k9 _).h1 rfl (k9 _).h2 (i7 (by unfold BE;rw[X0 ai,i4,m5,v7]))
    |some b=>
     rw[v7]at hq;subst hq;by_cases aj:r.byN=[]
     ·have i9:scmp .neq r.byN []=false:=by rw[Ap,aj];rfl
      simp only[eZ,eX,seval,X8,Ed,i9,JD,t9,hgs,v9,apR6,apR7,AO,e];exact fin F a b (-1) (by unfold BE;rw[X0 ai,i4,m5,v7,X6 aj])
     ·have i9:scmp .neq r.byN []=true:=by rw[Ap,Ax aj];rfl
      simp only[eZ,eX,seval,X8,Ed,i9,JD,t9,hgs,v9,apR6,apR7,AO];refine(J5 (k9 _).h18).mono λo H' n' hq=>?_
      obtain⟨rfl,rfl,hq⟩:=hq;cases t6:BF (d.clus.map λx:z8=>x.nm) r.byN with
      |none=>
       rw[t6]at hq;subst hq;simp only[eE,eN,retK];exact Ct (k9 _).h1 rfl (k9 _).h2 (i7 (by unfold BE;rw[X0 ai,i4,m5,v7,X0 aj,t6]))
      |some c=>
       rw[t6]at hq;subst hq;simp only[eE,eN,seval,X8,retK,t9,hgs,v9,SW,AO,e];exact fin F a b c (by unfold BE;rw[X0 ai,i4,m5,v7,X0 aj,t6])
end
structure VCl where
 i:Nat
 dn:List z8
 H:AC
structure ICl(d:zy)(vc:Fs)(n:Nat)(v:VCl):Prop where
 hi:v.i<=d.clus.length
 ln:v.dn.length=v.i
 fr:AQ v.H n
 nm:NM d vc (eRus d.ruls) v.H
 lv:LV 6 vc v.H ((v.dn++d.clus.drop v.i).map CC)
 eq:Ad (Bh d) d.clus=(Ad (Bh d) (d.clus.drop v.i)).map λr=>v.dn++r
def apS2{a b c d e f v:Fs}(h:v.cells=[v]):DU (.agg [a,b,c,d,e,f]) 2 1 6 v=(True,.agg [a,b,v,d,e,f]):=by
 rw[EW zd];simp [splice,h]
theorem UQ(d:zy)(hd:qk d)(o8:¬16<d.syms.length)(i8:Ae (d.syms.map λx:j8=>x.nm)=false)(l9:Ae (Bn d)=false)(x6:Ae (d.clus.map λx:z8=>x.nm)=false)
  {vc:Fs} {H:AC} {n:Nat} {ml:Int} (hml:ml=(d.clus.length:Int)) (hn:21<=n) (hf:AQ H n) (hm:NM d vc (eRus d.ruls) H) (hv:LV 6 vc H (d.clus.map CC)):
  evK prog Tnr (asnd (afst (LY 5 c145))) [.c (asnd (LY 5 c145))] (QR d) ⟨[(1,true,.ptr 0 0),(2,true,.ptr 1 0),(3,true,.ptr 2 0),(4,true,.ptr 7 0),(5,true,.mp 12),(6,true,.mp 18),(37,true,.int .i64 ml),(38,true,.int .i64 0)],H,n⟩:=by
 subst hml;have m8:d.clus.length<1000000000:=hd.cl;simp only[eE,LY,asnd,afst,c145];refine AL (λv:VCl=>⟨[(1,true,.ptr 0 0),(2,true,.ptr 1 0),(3,true,.ptr 2 0),(4,true,.ptr 7 0),(5,true,.mp 12),(6,true,.mp 18),(37,true,.int .i64 d.clus.length),(38,true,.int .i64 v.i)],v.H,n⟩) (ICl d vc n) (λv=>d.clus.length-v.i)
  ⟨0,[],H⟩ rfl ⟨X3 _,rfl,hf,hm,hv,by rw[ZA];cases Ad (Bh d) d.clus<;>rfl⟩ ?_
 rintro⟨i,dn,H1⟩ hI;have hi:=hI.hi;have o9:=hI.ln;have c8:=hI.fr;have r9:=hI.nm;have m4:=hI.lv;have heq:=hI.eq;simp only at hi o9 c8 r9 m4 heq;by_cases c6:i<d.clus.length
 ·rw[Xm c6]at heq m4;rw[Cn]at heq;generalize d.clus[i]=c at heq m4;have o7:((dn++c::d.clus.drop (i+1)).map CC).length=d.clus.length:=by simp;omega
  rcases m4 with⟨h0,-⟩|⟨-,id,cap,rest,hvc,ho,hcr⟩
  ·simp at h0
  rw[o7]at hvc hcr;subst hvc;have e:=AE (k:=i) zo;have d7:id<n:=c8.lt ho;have h0:=r9.h0;have z9:((dn++c::d.clus.drop (i+1)).map CC++rest)[i]?=some (.agg [.str c.nm,.str c.on,.int .i64 c.fam,.int .i64 c.ty,.int .i64 c.lo,.int .i64 c.hi]):=by
   rw[X7,Xx,XX (by simp;omega)];simp [o9]
  have t8:(i<((dn++c::d.clus.drop (i+1)).map CC++rest).length)=True:=W4 (by rw[Xf,o7];omega);have hse:∀c':z8,((dn++c::d.clus.drop (i+1)).map CC++rest).set i (CC c')=((dn++[c'])++d.clus.drop (i+1)).map CC++rest:=λc'=>by
   rw[X7,Xx,List.set_append_right _ _ (by simp;omega)];simp [o9]
  have d9:=r9.ne ho;generalize hA:(dn++c::d.clus.drop (i+1)).map CC++rest=A at ho z9 t8 hse;simp only[eZ,eX,seval,X8,X4,X5,atN,atK,GD,lt_T c6,h0,CP,ho,z9,t8,addr,W4 d7];refine(J5 r9.h12).mono λo H' n' hq=>?_
  obtain⟨rfl,rfl,hq⟩:=hq;cases i4:BF (Bn d) c.on with
  |none=>
   rw[i4]at hq;subst hq;have hrc:Bh d c=none:=by unfold Bh;rw[i4];rfl
   rw[hrc]at heq;have hr:resD d= .error 160:=by unfold resD;rw[X0 o8,i8,l9,x6,heq];rfl
   simp only[eE,eN,Ed];exact Ct r9.h1 rfl r9.h2 hr
  |some k=>
   rw[i4]at hq;subst hq;have hrc:Bh d c=some {c with fam:=k}:=by unfold Bh;rw[i4];rfl
   rw[hrc]at heq;have v7:=hse {c with fam:=k};simp only[eZ,eX,seval,X8,X4,X5,Ed,JD,ho,z9,t8,apS2 (v:=.int .i64 k) rfl,e];refine⟨zo,.mk ⟨i+1,dn++[{c with fam:=k}],hset H' id (.arr 6 (A.set i (CC {c with fam:=k})))⟩ rfl ⟨c6,by simp [o9],c8.hset (X2 _) d7,r9.set d9,.inr ⟨zw,id,cap,rest,?_,?_,?_⟩,?_⟩ zp⟩
   ·simp only[W3,Xf,Xj,Y2,Yc,o9];congr 1;omega
   ·simp only[];rw[AB,v7]
   ·simp only[W3,Xf,Xj,Y2,Yc,o9];omega
   ·simp only[];rw[heq];cases Ad (Bh d) (d.clus.drop (i+1))<;>simp
 obtain rfl:i=d.clus.length:=zo
 rw[Xy]at heq m4;rw[Xs]at m4;have s9:Ad (Bh d) d.clus=some dn:=by rw[heq];simp [Ad]
 have h0:=r9.h0;have y0:∀k,(n+k=0)=False:=λk=>W9 zo
 simp only[eZ,seval,xE,lt_F c6,h0,CP,fr1 c8];refine(SU (pre:=[]) hd.ru zd rfl (AB ..) rfl).mono λo H' n' hq=>?_
 unfold CO at hq;rw[Xq]at hq;have k9:∀a b,NM d vc (eRus d.ruls) (hset (hset H1 (n+2) a) (n+2) b):=λa b=>(r9.set (LZ zo)).set (LZ zo)
 cases ae:Ae (d.ruls.map λx:qj=>x.nm)with
 |true=>
  rw[ae,X6 rfl]at hq;obtain⟨rfl,rfl,rfl⟩:=hq;have hr:resD d= .error 161:=by
   unfold resD;rw[X0 o8,i8,l9,x6,s9];simp only[Xh,Xt];rw[ae];rfl
  simp only[eE,eN,retK];exact Ct (k9 _ _).h1 rfl (k9 _ _).h2 hr
 |false=>
 rw[ae,X0 zd]at hq;obtain⟨rfl,rfl,rfl⟩:=hq;have hH:=k9 (nmO []) (nmO (d.ruls.map λx:qj=>x.nm));have m9:LV 6 vc (hset (hset H1 (n+2) (nmO [])) (n+2) (nmO (d.ruls.map λx:qj=>x.nm))) (dn.map CC):=by
  have ah:∀a b c x,vc≠ .ref (n+2) a b c x:=by
   rintro a b c x rfl;exact m4.no (by rw[c8 _ zo];simp)
  exact(m4.set ah).set ah
 have m7:AQ (hset (hset H1 (n+2) (nmO [])) (n+2) (nmO (d.ruls.map λx:qj=>x.nm))) (n+4):=(c8.hset (m:=n+4) zo zo).hset (X2 _) zo;generalize hset (hset H1 (n+2) (nmO [])) (n+2) (nmO (d.ruls.map λx:qj=>x.nm))=H2 at hH m9 m7;have h02:=hH.h0;simp only[eE,eN,seval,retK,h02,CP];refine(Wo d.ruls hd.ru).mono λo H' n' hq=>?_
 rcases hq with⟨s5,rfl,hn',t,rfl,d6⟩|⟨s5,rfl,cap,rest,rfl,rfl,hcr⟩
 ·have hrl:d.ruls.length=0:=by have:=congrArg List.length s5;simpa using this
  simp only[eE,seval,retK,h02,CP];rw[Ee];simp only[eE,seval];rw[Ee];simp only[eE,seval,c0];rw[Ee];have x9:∀a b c x,vc≠ .ref 0 a b c x:=by
   rintro a b c x rfl;exact m9.no (by rw[h02];simp)
  have:=UP d hd o8 i8 l9 x6 s9 ae (vr:=.sl t []) (m7.hset (id:=0) (m:=n') zo zo) hH.put (m9.set x9) (.inl ⟨s5,t,rfl,d6⟩) (λi a b c e j f g h k _ q=>by cases q);rw[hrl]at this;exact this
 ·have y4:∀k,(n+4+k=0)=False:=λk=>W9 zo
  simp only[eE,seval,retK,h02,CP,y0];rw[Ee];simp only[eE,seval];rw[Ee];simp only[eE,seval,W3];rw[Ee];have x9:∀a b c x,vc≠ .ref 0 a b c x:=by
   rintro a b c x rfl;exact m9.no (by rw[h02];simp)
  have hc6:∀a b c x,vc≠ .ref (n+6) a b c x:=by
   rintro a b c x rfl;exact m9.no (by rw[m7 _ zo];simp)
  refine UP d hd o8 i8 l9 x6 s9 ae (vr:=.ref (n+6) 12 0 d.ruls.length cap) (((m7.hset (m:=n+8) zo zo).hset (X2 _) zo)) (hH.set (LZ zo)).put ((m9.set hc6).set x9) (.inr ⟨s5,n+6,cap,rest,by rw[W3],?_,hcr⟩) (λi a b c e j f g h k q1 q2=>?_)
  ·rw[AA _ _ _ _ zo];exact AB ..
  ·cases q2;rintro rfl;exact hc6 _ _ _ _ q1
def PG(d:zy)(hd:qk d):AP prog 145 [encD d] hnil 0 (RR d):=by
 refine a145 (AF UO (AG ?_));simp only[eE,eN,seval,Rg,Ec,K5,AX,encD];refine⟨_,_,rfl,AF UO (AG ?_)⟩;generalize hE:List.filter (λ(e:Nat×Bool×Fs)=>Nat.blt e.1 4) _=E;have hE':E=envR:=by rw[<-hE];rfl
 subst hE';clear hE;rw[Xq];by_cases o8:16<d.syms.length
 ·have hr:resD d= .error 2:=by unfold resD;rw[X6 o8]
  simp only[eZ,seval,W3,c145,W4 (show(16:Int)<(d.syms.length:Int)by omega),AI];refine PF (xs:=IH) rfl rfl rfl ?_;unfold RR;rw[hr];exact⟨_,rfl,Wk.tup (.cons (Wk.agg (.cons (Wk.refl _) (.cons (Wk.refl _) (.cons (Wk.refl _) (.cons (Wk.refl _) (.cons (Wk.refl _) (.cons (Wk.sl (.inr rfl)) (.cons (Wk.sl (.inr rfl)) (.cons (Wk.sl (.inr rfl)) (.cons (Wk.sl (.inr rfl)) (.cons (Wk.sl (.inr rfl)) .nil))))))))))) (.cons (Wk.refl _) .nil))⟩
 simp only[eZ,seval,xE,W3,c145,W9 (show ¬(16:Int)<(d.syms.length:Int)by omega),AI];refine(SR (pre:=[]) hd.sy zd rfl rfl rfl).mono λo H' n' hq=>?_
 unfold CO at hq;rw[Xq]at hq;cases i8:Ae (d.syms.map λx:j8=>x.nm)with
 |true=>
  rw[i8,X6 rfl]at hq;obtain⟨rfl,rfl,rfl⟩:=hq;have hr:resD d= .error 161:=by unfold resD;rw[X0 o8,i8];rfl
  simp only[eE,eN,retK];exact Ct (xs:=IH) rfl rfl rfl hr
 |false=>
 rw[i8,X0 zd]at hq;obtain⟨rfl,rfl,rfl⟩:=hq;simp only[eZ,eX,seval,xE,retK,Tnr,addr,tadd];refine⟨⟨trivial,BS 0 _⟩,(VA (pre:=[]) zd zd rfl rfl rfl).mono λo H' n' hq=>?_⟩;unfold CO at hq;rw[Xq,show Ae (Bv.map λx:Bs=>x)=false by decide,X0 zd]at hq;obtain⟨rfl,rfl,rfl⟩:=hq;simp only[eE,eX,seval,Ed];refine(SS (pre:=Bv) hd.rg zd rfl rfl zd).mono λo H' n' hq=>?_
 unfold CO at hq;cases l9:Ae (Bn d)with
 |true=>
  rw[show Bv++d.regs.map (λx:zx=>x.nm)=Bn d from rfl,l9,X6 rfl]at hq;obtain⟨rfl,rfl,rfl⟩:=hq;have hr:resD d= .error 161:=by unfold resD;rw[X0 o8,i8,l9];rfl
  simp only[eE,eN,Ed];exact Ct (xs:=IH) rfl rfl rfl hr
 |false=>
 rw[show Bv++d.regs.map (λx:zx=>x.nm)=Bn d from rfl,l9,X0 zd]at hq;obtain⟨rfl,rfl,rfl⟩:=hq;simp only[eE,eN,eX,seval,xE,Ed];refine(ST (pre:=[]) hd.cl zd rfl rfl rfl).mono λo H' n' hq=>?_
 unfold CO at hq;rw[Xq]at hq;cases x6:Ae (d.clus.map λx:z8=>x.nm)with
 |true=>
  rw[x6,X6 rfl]at hq;obtain⟨rfl,rfl,rfl⟩:=hq;have hr:resD d= .error 161:=by unfold resD;rw[X0 o8,i8,l9,x6];rfl
  simp only[eE,eN,retK];exact Ct (xs:=IH) rfl rfl rfl hr
 |false=>
 rw[x6,X0 zd]at hq;obtain⟨rfl,rfl,rfl⟩:=hq;simp only[eE,eN,seval,retK];refine(Wn d.clus hd.cl).mono λo H' n' hq=>?_
 rcases hq with⟨h0,rfl,hn,t,rfl,d6⟩|⟨h0,rfl,cap,rest,rfl,rfl,hcr⟩
 ·have m8:d.clus.length=0:=by have:=congrArg List.length h0;simpa using this
  simp only[eE,seval,retK];rw[Ee];simp only[eE,seval,c0];rw[Ee];refine UQ d hd o8 i8 l9 x6 (vc:=.sl t []) (by rw[m8];rfl) hn (λid d7=>?_) (NM.mk (d:=d) (vr:=eRus d.ruls) rfl rfl rfl rfl rfl rfl rfl) (.inl ⟨h0,t,rfl,d6⟩);simp only[AK];repeat rw[X0 zo]
  rfl
 ·simp only[eE,seval,retK];rw[Ee];simp only[eE,seval,W3];rw[Ee];refine UQ d hd o8 i8 l9 x6 (vc:=.ref 23 6 0 d.clus.length cap) rfl zo (λid d7=>?_) (NM.mk (d:=d) (vr:=eRus d.ruls) rfl rfl rfl rfl rfl rfl rfl) (.inr ⟨h0,23,cap,rest,by rw[W3],rfl,hcr⟩);simp only[AK];repeat rw[X0 zo]
  rfl
def RS(d:zy):j9->AC->Nat->Prop:=λo H' n'=>match resD d with
 | .error e=>∃v,o= .ret v/\Wk v (.tup [encD dcl0,.int .i64 e])
 | .ok x=>∃vc vr,o= .ret (.tup [.agg (CP d vc vr),.int .i64 0])/\LF 6 vc H' (x.clus.map CC)/\LV 12 vr H' (x.ruls.map BT)
def RT(d:zy):j9->AC->Nat->Prop:=λo H' n'=>match resD d with
 | .error e=>∃v,o= .ret v/\Wk v (.tup [encD dcl0,.int .i64 e])
 | .ok x=>∃vc vr,o= .ret (.tup [.agg (CP d vc vr),.int .i64 0])/\LF 6 vc H' (x.clus.map CC)/\LF 12 vr H' (x.ruls.map BT)
def p145(d:zy)(hd:qk d):Pur prog 145 [encD d] (CF d):=by
 refine .mk ⟨Ab 0 d,trivial⟩ (by unfold CF;split<;>exact⟨Ab 0 _,trivial,trivial⟩) ?_;refine AP.out (R:=RT d) (AP.seal (R:=RS d) (AP.seal (R:=RR d) (PG d hd) ?_) ?_) ?_
 ·intro o H' n' h;unfold RR at h;unfold RS;split at h
  ·rename_i e he;try rw[he]
   exact .inl h
  ·rename_i x hx;try rw[hx]
   obtain⟨vc,vr,rfl,h1,h2,h3⟩:=h;rcases h1 with h1|⟨h0,id,cap,rest,rfl,ho,hc⟩
   ·exact .inl ⟨vc,vr,rfl,.inl h1,h2⟩
   ·refine .inr ⟨id,_,_,ho,_,vr,rfl,.inr ⟨h0,id,cap,rest,rfl,AB ..,hc⟩,h2.set λa b c x=>?_⟩;rintro rfl;exact h3 _ _ _ _ _ _ _ _ _ _ rfl rfl rfl
 ·intro o H' n' h;unfold RS at h;unfold RT;split at h
  ·rename_i e he;try rw[he]
   exact .inl h
  ·rename_i x hx;try rw[hx]
   obtain⟨vc,vr,rfl,h1,h2⟩:=h;rcases h2 with h2|⟨h0,id,cap,rest,rfl,ho,hc⟩
   ·exact .inl ⟨vc,vr,rfl,h1,.inl h2⟩
   ·refine .inr ⟨id,_,_,ho,vc,_,rfl,?_,.inr ⟨h0,id,cap,rest,rfl,AB ..,hc⟩⟩;rcases h1 with h1|⟨q0,i2,c2,r2,rfl,o2,hc2⟩
    ·exact .inl h1
    ·refine .inr ⟨q0,i2,c2,r2,rfl,?_,hc2⟩;rw[AA _ _ _ _ (by rintro rfl;rw[ho]at o2;cases o2)];exact o2
 ·intro o H' n' h;unfold RT at h;unfold CF;split at h
  ·rename_i e he;try rw[he]
   obtain⟨v,rfl,hw⟩:=h;exact⟨.ret v,⟨v,rfl,hw⟩,λg w e _ q=>q⟩
  ·rename_i x hx;try rw[hx]
   obtain⟨vc,vr,rfl,h1,h2⟩:=h;refine⟨.ret (.tup [encD x,.int .i64 0]),⟨_,rfl,Wk.refl _⟩,λg w e hR q=>?_⟩;obtain⟨e1,e2,e3,e4,e5,e6,e7,e8⟩:=Nh hx;cases e with
   |panicked c=>exact q.elim
   |outgrown=>exact q.elim
   |returned y=>
    obtain⟨vs,rfl,y1,r1,q1,q2,q3⟩:=q;refine⟨vs,rfl,y1,r1,q1,?_,q3⟩;obtain⟨us,rfl,p1,p2⟩:=q2;refine⟨us,rfl,?_,p2⟩;obtain⟨a1,b1,f1,g1,a2,b2,f2,g2,a3,b3,f3,g3,a4,b4,f4,g4,a5,b5,f5,g5,a6,b6,f6,g6,a7,b7,f7,g7,a8,b8,f8,g8,a9,b9,f9,g9,a10,b10,f10,g10,g11⟩:=p1;rw[<-e1]at g1;rw[<-e2]at g2;rw[<-e3]at g3;rw[<-e4]at g4;rw[<-e5]at g5;rw[<-e6]at g6;rw[<-e7]at g7;rw[<-e8]at g8;exact⟨a1,b1,f1,g1,a2,b2,f2,g2,a3,b3,f3,g3,a4,b4,f4,g4,a5,b5,f5,g5,a6,b6,f6,g6,a7,b7,f7,g7,a8,b8,f8,g8,a9,b9,f9,JC h1 hR g9,a10,b10,f10,JC h2 hR g10,g11⟩
abbrev encF(f:FormD):Fs:=.agg [.bool f.on,.bool f.set,.bool f.oth,.bool f.bnd,.bool f.num,.bool f.rdb,.bool f.knw,.int .i64 f.clue]
def J6{k:Int}(h:k<0\/14<=k):Cy k={}:=by
 unfold Cy;repeat rw[X0 zo]
def p280(k:Int):Pur prog 280 [.int .i64 k] (encF (Cy k)):=by
 refine .mk ⟨trivial,trivial⟩ ⟨trivial,trivial,trivial,trivial,trivial,trivial,trivial,trivial,trivial⟩ (c280.a (AF AH.tnil (AG ?_)));by_cases hk:k<0\/14<=k
 ·have hb:(decide (k<0)||decide (14<=k))=true:=by simpa using hk
  rw[J6 hk];simp only[eZ,seval,BI,c280,hb];exact Wk.refl _
 ·have hb:(decide (k<0)||decide (14<=k))=false:=by simp;omega
  simp only[eZ,seval,BI,c280,hb];have l5:k=0\/k=1\/k=2\/k=3\/k=4\/k=5\/k=6\/k=7\/k=8\/k=9\/k=10\/k=11\/k=12\/k=13:=zo
  rcases l5 with rfl|rfl|rfl|rfl|rfl|rfl|rfl|rfl|rfl|rfl|rfl|rfl|rfl|rfl<;>exact⟨zd,zd,rfl,rfl,Wk.refl _⟩
def p247(c:z8):Pur prog 247 [CC c] (.bool (Dm c)):=by
 refine .mk ⟨ED 0 c,trivial⟩ trivial (c247.a (AF AH.tnil (AG ?_)));unfold Dm;by_cases h1:c.ty=1
 ·simp only[eZ,seval,c247,h1]
 by_cases h2:c.ty=2
 ·simp only[eZ,seval,c247,h2]
 by_cases h3:c.ty=3
 ·simp only[eZ,seval,c247,h3]
 simp only[eZ,seval,c247,h1,h2,h3]
def p208(b:Bool)(e:Int):Pur prog 208 [.bool b,.int .i64 e] (.int .i64 (if b=true then 0 else e)):=by
 refine .mk ⟨trivial,trivial,trivial⟩ trivial (c208.a (AF AH.tnil (AG ?_)));cases b<;>simp only[eZ,seval,c208]
def Tsh:Tab:=tadd 280 (s1 dI any1 λk=>encF (Cy k)) tnil
def UR:AH prog Tsh:=AH.tnil.add (q1 λk _=>p280 k)
def VB(k:Int):(Cy k).rdb=(decide (1<=k)&&decide (k<=11)):=by
 by_cases hk:k<0\/14<=k
 ·rw[J6 hk];symm;simp;omega
 ·have l5:k=0\/k=1\/k=2\/k=3\/k=4\/k=5\/k=6\/k=7\/k=8\/k=9\/k=10\/k=11\/k=12\/k=13:=zo
  rcases l5 with rfl|rfl|rfl|rfl|rfl|rfl|rfl|rfl|rfl|rfl|rfl|rfl|rfl|rfl<;>rfl
def p248(r:qj):Pur prog 248 [BT r] (.bool (Hv r)):=by
 refine .mk ⟨As 0 r,trivial⟩ trivial (c248.a (AF UR (AG ?_)));simp only[eE,eN,seval,c248,Tsh,s1,A3,Ai,encF,tadd];exact VB r.kind
abbrev ruE1(r:qj)(on set oth:Bool):Bool:=on !=scmp .neq r.on []||set != !decide (r.set=0)||oth != !decide (r.oth=0)|| !on&& !decide (r.fam=0)|| !set&&decide ((0:Int)<(r.ns.length:Int))|| !oth&&decide ((0:Int)<(r.os.length:Int))
abbrev ruE2(r:qj)(bnd:Bool):Bool:=bnd !=(decide (1<=r.op)&&decide (r.op<=3))|| !bnd&& !decide (r.op=0)||decide (r.n<0)||decide (65536<r.n)
abbrev ruE3(r:qj)(bnd num:Bool):Bool:=!(num||bnd&&scmp .eql r.byN [])&& !decide (r.n=0)
def SX{cl:List z8}{r:qj}{on set oth bnd num rdb:Bool}{clue:Int}(hf:Cy r.kind=⟨on,set,oth,bnd,num,rdb,true,clue⟩):
  Ej cl r=if ruE1 r on set oth=true then false else if ruE2 r bnd=true then false else if ruE3 r bnd num=true then false else
   if(if(bnd&&scmp .neq r.byN [])=true then 2 else clue)=0 then decide (r.byN=[])&&decide (r.clue= -1)else cluP cl r (if(bnd&&scmp .neq r.byN [])=true then 2 else clue):=by
 unfold Ej;rw[hf];have e1:∀(l:List Bs),decide ((0:Int)<(l.length:Int))=decide (0<l.length):=λl=>by
  rw[Xg,X1,X1];omega
 simp only[ruE1,ruE2,ruE3,Ap,Aw,e1,ne_eq,decide_not,Zw,Xt];rfl
def p246(d:zy)(r:qj):Pur prog 246 [encD d,BT r] (.bool (Ej d.clus r)):=by
 refine .mk ⟨Ab 0 d,As 0 r,trivial⟩ trivial (c246.a (AF UR (AG ?_)));cases hf:(Cy r.kind)with
 |mk on set oth bnd num rdb knw clue=>
 cases knw with
 |false=>
  have hR:Ej d.clus r=false:=by unfold Ej;rw[hf];rfl
  rw[hR];simp only[eZ,seval,W8,c246,Tsh,s1,A3,Ai,hf,encF,tadd]
 |true=>
 rw[SX hf];cases h1:ruE1 r on set oth with
 |true=>
  rw[X6 rfl];simp only[eZ,seval,W6,W3,c246,Tsh,s1,A3,Ai,hf,encF,h1,tadd]
 |false=>
 rw[X0 zd];cases h2:ruE2 r bnd with
 |true=>
  rw[X6 rfl];simp only[eZ,seval,W6,W3,c246,Tsh,s1,A3,Ai,hf,encF,h1,h2,tadd]
 |false=>
 rw[X0 zd];cases h3:ruE3 r bnd num with
 |true=>
  rw[X6 rfl];simp only[eZ,seval,W6,W3,c246,Tsh,s1,A3,Ai,hf,encF,h1,h2,h3,tadd]
 |false=>
 rw[X0 zd];cases h4:(bnd&&scmp .neq r.byN [])with
 |true=>
  simp only[XJ];rw[X0 zd];by_cases hc:r.clue<0\/(d.clus.length:Int)<=r.clue
  ·have o6:(decide (r.clue<0)||decide ((d.clus.length:Int)<=r.clue))=true:=by simpa using hc
   have hP:cluP d.clus r 2=false:=by unfold cluP;rw[X6 hc]
   rw[hP];simp only[eZ,seval,W6,W3,c246,Tsh,s1,A3,Ai,hf,encF,h1,h2,h3,h4,o6,tadd]
  ·have o6:(decide (r.clue<0)||decide ((d.clus.length:Int)<=r.clue))=false:=by simp;omega
   obtain⟨j,hj⟩:∃j:Nat,r.clue=(j:Int):=⟨r.clue.toNat,zo⟩;have hjl:j<d.clus.length:=zo
   have hg:=W5 hjl;generalize d.clus[j]=c at hg;have hP:cluP d.clus r 2=(decide (c.ty=2)&&(decide (2=1)||decide (c.fam=r.fam))):=by
    unfold cluP;(rw[X0 hc,hj,X4,hg])<;>rfl
   rw[hP];rw[hj]at o6;simp only[eZ,seval,W6,eY,c246,Tsh,s1,A3,Ai,hf,encF,h1,h2,h3,h4,hj,o6,lt_T hjl,hg,tadd]
 |false=>
  simp only[Xh,Xt];by_cases h5:clue=0
  ·rw[X6 h5];subst h5;simp only[eZ,seval,W6,W3,c246,Tsh,s1,A3,Ai,hf,encF,h1,h2,h3,h4,tadd];rw[Aw]
  ·rw[X0 h5];by_cases hc:r.clue<0\/(d.clus.length:Int)<=r.clue
   ·have o6:(decide (r.clue<0)||decide ((d.clus.length:Int)<=r.clue))=true:=by simpa using hc
    have hP:cluP d.clus r clue=false:=by unfold cluP;rw[X6 hc]
    rw[hP];simp only[eZ,seval,W6,W3,c246,Tsh,s1,A3,Ai,hf,encF,h1,h2,h3,h4,Ax h5,o6,tadd]
   ·have o6:(decide (r.clue<0)||decide ((d.clus.length:Int)<=r.clue))=false:=by simp;omega
    obtain⟨j,hj⟩:∃j:Nat,r.clue=(j:Int):=⟨r.clue.toNat,zo⟩;have hjl:j<d.clus.length:=zo
    have hg:=W5 hjl;generalize d.clus[j]=c at hg;have hP:cluP d.clus r clue=(decide (c.ty=clue)&&(decide (clue=1)||decide (c.fam=r.fam))):=by
     unfold cluP;(rw[X0 hc,hj,X4,hg])<;>rfl
    rw[hP];rw[hj]at o6;simp only[eZ,seval,W6,eY,c246,Tsh,s1,A3,Ai,hf,encF,h1,h2,h3,h4,Ax h5,hj,o6,lt_T hjl,hg,tadd]
def Trd:Tab:=tadd 248 (s1 dRu any1 λr=>.bool (Hv r)) tnil
def Trd_ok:AH prog Trd:=AH.tnil.add (q1 λr _=>p248 r)
structure VU where
 i:Nat
 tk:jj
 H:AC
 n:Nat
structure IU(rs:List qj)(v:VU):Prop where
 hi:v.i<=rs.length
 fr:AQ v.H v.n
 hn:2<=v.n
 tok:tkG 1 1 v.H v.tk
 es:v.tk.esz=1\/BV (rs.take v.i)=[]
def IV(rs:List qj):(BV rs).length<=rs.length:=by
 unfold BV;rw[W3];exact XG (XW ..) zw
def G6{rs:List qj}{i:Nat}(h:i<rs.length):BV (rs.take (i+1))=BV (rs.take i)++(if Hv rs[i]=true then[]else[(i:Int)]):=by
 rw[Xd,W5 h];show BV (rs.take i++[rs[i]])=_;rw[O1,Xp,Nat.min_eq_left zo]
def p217(d:zy)(hr:few d.ruls):Pur prog 217 [encD d] (eIs (BV d.ruls)):=by
 refine .mk ⟨Ab 0 d,trivial⟩ (AU 0 _) (c217.a (AF Trd_ok (AG ?_)));have hrl:d.ruls.length<1000000000:=hr;simp only[eE,eN,seval,W3,c217];refine AL (λv:VU=>⟨[(2,true,.sl v.tk ((BV (d.ruls.take v.i)).map eI)),(6,true,eRus d.ruls),(7,true,.int .i64 d.ruls.length),(8,true,.int .i64 v.i)],v.H,v.n⟩) (IU d.ruls) (λv=>d.ruls.length-v.i)
  ⟨0,.nil,hset hnil 0 (.box (AI d)),2⟩ rfl ⟨X3 _,AQ.nil.hset (m:=2) (X3 2) (show 0<2 by decide),X2 _,.inl rfl,.inr rfl⟩ ?_
 rintro⟨i,tk,H,n⟩ ⟨hi,c8,hn,d6,d8⟩;simp only at hi c8 hn d6 d8;by_cases c6:i<d.ruls.length
 ·have hg:=W5 c6;have e:=AE (k:=i) zo;have hu:=G6 c6;have hul:=IV (d.ruls.take i);rw[Xp]at hul;generalize d.ruls[i]=r at hg hu;cases x8:Hv r with
  |true=>
   rw[x8,X6 rfl,Xs]at hu;simp only[eZ,seval,W6,eY,lt_T c6,hg,fr1 c8,Trd,s1,Bc,A8,x8,e,AO,tadd];refine .mk ⟨i+1,tk,hset H (n+3) (.box (BP r)),n+6⟩ ?_ ⟨c6,c8.hset (m:=n+6) zo zo,zp,d6.set (.inr (.inr (c8 _ zo))),by simp only[hu];exact d8⟩ zp;simp only[hu]
  |false=>
   rw[x8,X0 zd]at hu;have gt:tkG 1 1 (hset H (n+3) (.box (BP r))) tk:=d6.set (.inr (.inr (c8 _ zo)));have gf:AQ (hset H (n+3) (.box (BP r))) (n+6):=c8.hset (m:=n+6) zo zo;have q1:A6 (hset H (n+3) (.box (BP r))) 1 tk=True:=W4 gt.app;have q2:((BV (d.ruls.take i)).length<=35184372088831)=True:=W4 zo;have q3:Aj ((BV (d.ruls.take i)).length+1) 8=True:=W4 (AY zo zd);simp only[eZ,seval,W8,eY,lt_T c6,hg,fr1 c8,Trd,s1,Bc,A8,x8,e,AO,q1,q2,q3,tadd];refine .mk ⟨i+1,.own (n+9) 1,hset (AN (hset H (n+3) (.box (BP r))) tk) (n+9) .tok,n+11⟩ ?_ ⟨c6,(AT gt gf).hset (m:=n+11) zo zo,zp,.inr (.inr ⟨n+9,rfl,zo,AB ..⟩),.inl rfl⟩ zp;simp only[hu,X7];rfl
 obtain rfl:i=d.ruls.length:=zo
 rw[Xb]at d8;simp only[eZ,seval,lt_F c6,Xb];exact Wk.sl (d8.imp id λq=>by rw[q];rfl)
def Tfm:Tab:=tadd 246 (s2 dD dRu any2 λd r=>.bool (Ej d.clus r)) (tadd 247 (s1 dCl any1 λc=>.bool (Dm c)) tnil)
def Tfm_ok:AH prog Tfm:=(AH.tnil.add (q1 λc _=>p247 c)).add (q2 λd r _=>p246 d r)
structure VM2 where
 i:Nat
 es:List (Fs×Fs×Nat)
 c:Nat
 H:AC
 n:Nat
structure IM2(d:zy)(id:Nat)(v:VM2):Prop where
 hi:v.i<=d.ruls.length
 fr:AQ v.H v.n
 hn:id<v.n
 h0:hget v.H 0=some (.box (AI d))
 hm:hget v.H id=some (.map v.es v.c)
 ct:MV (d.ruls.take v.i) v.es
 ok:d.ruls.all (Ej d.clus)=(d.ruls.drop v.i).all (Ej d.clus)
def MV.nil:MV [] []:=⟨trivial,λz=>rfl⟩
def p215(d:zy)(hd:qk d):Pur prog 215 [encD d] (.bool (Ba d)):=by
 refine .mk ⟨Ab 0 d,trivial⟩ trivial (c215.a (AF Tfm_ok (AG ?_)));have hsl:d.syms.length<1000000000:=hd.sy;have hrl:d.ruls.length<1000000000:=hd.ru;have m8:d.clus.length<1000000000:=hd.cl;simp only[eE,eN,seval,W3,c215];refine AL (λv:VF=>⟨[(1,true,.ptr 0 0),(11,true,eSys d.syms),(12,true,.int .i64 d.syms.length),(13,true,.int .i64 v.i)],v.H,v.n⟩) (λv=>v.i<=d.syms.length/\AQ v.H v.n/\2<=v.n/\hget v.H 0=some (.box (AI d))/\(d.syms.all λs=>decide (0<=s.v)&&decide (s.v<=99))=((d.syms.drop v.i).all λs=>decide (0<=s.v)&&decide (s.v<=99))) (λv=>d.syms.length-v.i)
  ⟨0,hset hnil 0 (.box (AI d)),2⟩ rfl ⟨X3 _,AQ.nil.hset (m:=2) (X3 2) (show 0<2 by decide),X2 _,rfl,rfl⟩ ?_
 rintro⟨i,H,n⟩ ⟨hi,c8,hn,h0,c7⟩;simp only at hi c8 hn h0 c7;by_cases c6:i<d.syms.length
 ·have hg:=W5 c6;have e:=AE (k:=i) zo;rw[Xm c6,Z0]at c7;generalize d.syms[i]=s at hg c7;by_cases hs:0<=s.v/\s.v<=99
  ·have hb:(decide (s.v<0)||decide (99<s.v))=false:=by simp;omega
   simp only[eZ,seval,eY,lt_T c6,hg,fr1 c8,e,AO,hb];refine .mk ⟨i+1,hset H (n+2) (.box [.str s.nm,.int .i64 s.v]),n+4⟩ rfl ⟨c6,c8.hset (m:=n+4) zo zo,zp,by simp only[];rw[AA _ _ _ _ zo];exact h0,?_⟩ zp;simp only[];rw[c7,BB hs.1,BB hs.2];rfl
  ·have hb:(decide (s.v<0)||decide (99<s.v))=true:=by simp;omega
   have hR:Ba d=false:=by
    unfold Ba;rw[c7,show(decide (0<=s.v)&&decide (s.v<=99))=false by simp;omega];rfl
   rw[hR];simp only[eZ,seval,eY,lt_T c6,hg,fr1 c8,AO,hb]
 obtain rfl:i=d.syms.length:=zo
 rw[Xy]at c7;have y0:(n=0)=False:=W9 zo;simp only[eZ,seval,xE,W3,lt_F c6,h0,fr0 c8,y0];refine AL (λv:VM2=>⟨[(1,true,.ptr 0 0),(5,true,.mp n),(28,true,eRus d.ruls),(29,true,.int .i64 d.ruls.length),(30,true,.int .i64 v.i)],v.H,v.n⟩) (IM2 d n) (λv=>d.ruls.length-v.i)
  ⟨0,[],0,hset H n (.map [] 0),n+2⟩ rfl ⟨X3 _,c8.hset (m:=n+2) zo zo,zp,by simp only[];rw[AA _ _ _ _ zo];exact h0,AB ..,MV.nil,rfl⟩ ?_
 rintro⟨k,es,c,H1,n1⟩ hI;have hk:=hI.hi;have u0:=hI.fr;have l6:=hI.hn;have l8:=hI.h0;have hm:=hI.hm;have x7:=hI.ct;have e9:=hI.ok;simp only at hk u0 l6 l8 hm x7 e9;by_cases s7:k<d.ruls.length
 ·have hg:=W5 s7;have e:=AE (k:=k) zo;have d6:d.ruls.take (k+1)=d.ruls.take k++[d.ruls[k]]:=by rw[Xd,W5 s7];rfl
  rw[Xm s7,Z0]at e9;have y1:∀q,(n1+q=n)=False:=λq=>W9 zo
  have y2:∀q,(n=n1+q)=False:=λq=>W9 zo
  have y3:∀q,(n1+q=0)=False:=λq=>W9 zo
  have y4:∀q,(0=n1+q)=False:=λq=>W9 zo
  generalize d.ruls[k]=r at hg e9 d6;cases hr:Ej d.clus r with
  |false=>
   have hR:Ba d=false:=by
    unfold Ba;rw[e9,hr];simp
   rw[hR];simp only[eZ,seval,W8,eY,lt_T s7,hg,Tfm,s2,A9,Al,Bc,A8,hr,l8,fr1 u0,y3,AO,tadd]
  |true=>
  rw[hr,XY]at e9;have m8:=U4 (d.ruls.take k) r.clue;rw[Xp]at m8;have ew:=AE (k:=cntZ (d.ruls.take k) r.clue) zo;have hq:=x7.2 r.clue;simp only[eZ,seval,W6,xE,eY,lt_T s7,hg,Tfm,s2,A9,Al,Bc,A8,hr,l8,fr1 u0,y1,y3,AO,hm,x7.1,KT.is,CZ,hq,e,ew,tadd];refine .mk ⟨k+1,mset (.int .i64 r.clue) (.int .i64 ((cntZ (d.ruls.take k) r.clue+1:Nat):Int)) c es,(if(BN (Fs.int IntKind.i64 r.clue) es).isSome=true then c else c+1),hset (hset H1 (n1+2) (.box (BP r))) n (.map (mset (.int .i64 r.clue) (.int .i64 ((cntZ (d.ruls.take k) r.clue+1:Nat):Int)) c es) (if(BN (Fs.int IntKind.i64 r.clue) es).isSome=true then c else c+1)),n1+4⟩ rfl
   ⟨s7,(u0.hset (m:=n1+4) zo zo).hset (X2 (n1+4)) (show n<n1+4 by omega),zp,?_,AB ..,by simp only[];rw[d6];exact x7.next,e9⟩ zp
  simp only[];rw[AA _ _ _ _ zo,AA _ _ _ _ zo];exact l8
 obtain rfl:k=d.ruls.length:=zo
 rw[Xy]at e9;rw[Xb]at x7;simp only[eZ,seval,W3,lt_F s7,l8];refine AL (λv:VF=>⟨[(5,true,.mp n),(45,true,eCls d.clus),(46,true,.int .i64 d.clus.length),(47,true,.int .i64 v.i)],v.H,v.n⟩) (λv=>v.i<=d.clus.length/\AQ v.H v.n/\n<v.n/\hget v.H n=some (.map es c)/\∀j (h:j<d.clus.length),j<v.i->EC d.ruls j=1/\Dm d.clus[j]=true) (λv=>d.clus.length-v.i)
  ⟨0,H1,n1⟩ rfl ⟨X3 _,u0,l6,hm,λj h q=>absurd q (XN _)⟩ ?_
 rintro⟨j,H2,n2⟩ ⟨hj,v8,hn2,w8,hal⟩;simp only at hj v8 hn2 w8 hal;by_cases hlj:j<d.clus.length
 ·have hg:=W5 hlj;have e:=AE (k:=j) zo;have y1:∀q,(n2+q=n)=False:=λq=>W9 zo
  have y2:∀q,(n=n2+q)=False:=λq=>W9 zo
  have hq:=x7.2 (j:Int);rw[Ni]at hq;have i7:¬(EC d.ruls j=1/\Dm d.clus[j]=true)->Ba d=false:=λq=>by
   unfold Ba;rw[c7,e9];cases q1:((List.range d.clus.length).all λi=>decide (EC d.ruls i=1))with
   |false=>rfl
   |true=>
   cases q2:d.clus.all Dm with
   |false=>rfl
   |true=>exact absurd ⟨Xv (X9.1 q1 j (XK.2 hlj)),X9.1 q2 _ (Xa hlj)⟩ q
  have hnext:EC d.ruls j=1/\Dm d.clus[j]=true->∀q (h:q<d.clus.length),q<j+1->EC d.ruls q=1/\Dm d.clus[q]=true:=λz q h hq=>by
   by_cases w:q=j
   ·subst w;exact z
   ·exact hal q h zo
  generalize hx:d.clus[j]=x at hg i7 hnext;by_cases hmc:EC d.ruls j=1
  ·have hmb:(((EC d.ruls j:Nat):Int)=1)=True:=W4 zo;cases hc:Dm x with
   |false=>
    rw[i7 (by rw[hc];simp)];simp only[eZ,seval,W6,W8,xE,eY,lt_T hlj,hg,Tfm,s1,Hx,Fa,hc,fr1 v8,y1,AO,w8,x7.1,KT.is,CZ,hq,hmb,tadd]
   |true=>
    simp only[eZ,seval,W6,xE,eY,lt_T hlj,hg,Tfm,s1,Hx,Fa,hc,fr1 v8,y1,AO,w8,x7.1,KT.is,CZ,hq,e,hmb,tadd];refine .mk ⟨j+1,hset H2 (n2+3) (.box (CC x).cells),n2+6⟩ rfl ⟨hlj,v8.hset (m:=n2+6) zo zo,zp,?_,hnext ⟨hmc,hc⟩⟩ zp;simp only[];rw[AA _ _ _ _ zo];exact w8
  ·have hmb:(((EC d.ruls j:Nat):Int)=1)=False:=W9 zo;rw[i7 (λq=>hmc q.1)];simp only[eZ,seval,W6,W8,xE,eY,lt_T hlj,hg,Tfm,s1,Hx,Fa,fr1 v8,y1,AO,w8,x7.1,KT.is,CZ,hq,hmb,tadd]
 obtain rfl:j=d.clus.length:=zo
 have hR:Ba d=true:=by
  have z2:d.clus.all Dm=true:=X9.2 λq hq=>by
   obtain⟨m,hm,rfl⟩:=Xn.1 hq;exact(hal m hm hm).2
  unfold Ba;rw[c7,e9,X9.2 λq hq=>Xi (hal q (XK.1 hq) (XK.1 hq)).1,z2];rfl
 rw[hR];simp only[eZ,seval,lt_F hlj]
section
abbrev clV(q:Nat):Fs:=.fn (.func 278) [] [.ptr q 0]
abbrev eApp(q c:Nat):List (Nat×Bool×Fs):=[(2,true,.ptr c 0),(4,true,.sl .nil []),(6,true,clV q)]
structure AppF(q c L l':Nat)(H0:AC)(n0:Nat)(qs:List Int)(H:AC)(m:Nat):Prop where
 fr:AQ H m
 lc:n0<=c
 cl:c<L
 lm:L<m
 hc:∃lv,hget H c=some (.box [lv])/\LvG eI 1 (L+1) H lv qs
 hL:hget H L=some (.lp ⟨l',.ready,none,13,eApp q c, #[7],Eh,Ei⟩)
 kp:∀id ob,id<n0->hget H0 id=some ob->hget H id=some ob
variable {H:AC} {l:List Int} {q n:Nat}
theorem y_app{c L l':Nat}{H0:AC}{n0:Nat}{qs:List Int}{m:Nat}(F:AppF q c L l' H0 n0 qs H m)(x:Int)(hs:qs.length<1000000000){R:Bool->AC->Nat->Prop}
  (hR:∀H' m',AppF q c L l' H0 n0 (qs++[x]) H' m'->R true H' m'):Bz prog l' [eI x] H m R:=by
 obtain⟨fr,lc,cl,lm,⟨lv,hc,m4⟩,hL,kp⟩:=F;refine Uz hL rfl (AF AH.tnil (AG ?_));simp only[eE,eN,seval,Jt,renv,YK,YN,Ye,Z2];refine⟨_,hL,rfl,AF AH.tnil (AG ?_)⟩;have y1:∀k,(L=m+k)=False:=λk=>W9 zo
 have y2:(L=c)=False:=W9 zo;have y3:(c=L)=False:=W9 zo;simp only[eE,seval,Js,hc,y2];have g1:∀k,hget (hset H L (.lp ⟨l',.busy,none,13,eApp q c, #[7],Eh,Ei⟩)) (m+k)=none:=λk=>by rw[AA _ _ _ _ zo];exact fr1 fr k
 refine MW (enc:=eI) (lo:=L+1) (qs:=qs) (z0:=0) ?_ rfl zd rfl rfl (AY zo zd) (g1 3) zo zo ?_
 ·rcases m4 with h|⟨d9,id,rest,h1,h2,h3⟩
  ·exact .inl h
  ·exact .inr ⟨d9,id,rest,h1,h2,by rw[AA _ _ _ _ zo];exact h3⟩
 intro id rest hlo d7;have hidm:id<m+5:=by
  rcases d7 with rfl|⟨Z,h⟩
  ·omega
  ·apply Classical.byContradiction;intro z;obtain⟨k,rfl⟩:∃k,id=m+k:=⟨id-m,zo⟩;rw[g1]at h;cases h
 have z1:(id=L)=False:=W9 zo;have z2:(id=c)=False:=W9 zo;have z3:(L=id)=False:=W9 zo;have z4:(c=id)=False:=W9 zo;have hidn:¬id<n0:=zo
 simp only[eE,eN,seval,Ef,z2,y2,hc];refine⟨⟨l',.busy,none,13,eApp q c, #[7],Eh,Ei⟩,by simp only[AK,y3,z1,Xt,XJ],hR _ _ ⟨?_,lc,cl,zp,⟨_,by simp only[AK,y2,Xt,XJ],.inr ⟨zw,id,rest,rfl,hlo,by simp only[AK,z3,z4,Xt,XJ]⟩⟩,by simp only[AK,XJ],?_⟩⟩
 ·intro j hj;have hj':m+5<=j:=hj;simp only[AK];repeat rw[X0 zo]
  exact fr j zo
 ·intro j ob hj h0;simp only[AK];repeat rw[X0 zo]
  exact kp j ob hj h0
theorem SY(hf:AQ H n)(hq:hget H q=some (.box [eIs l]))(hl:few l):
  AP prog 303 [.sl .nil [],clV q] H n λo H' n'=>∃lv,o= .ret lv/\LvG eI 1 (n+3) H' lv l/\AQ H' n'/\n<=n'/\∀id ob,id<n->hget H id=some ob->hget H' id=some ob:=by
 have o7:l.length<1000000000:=hl;have hqn:=hf.lt hq;refine a303 (AF AH.tnil (AG ?_));simp only[eE,eN,seval,c303,fr0 hf,FO];intro l';generalize hH1:hset (hset H n (.box [.sl .nil []])) (n+2) _=H1;have hq1:hget H1 q=some (.box [eIs l]):=by
  subst hH1;simp only[AK];repeat rw[X0 zo]
  exact hq
 have F0:AppF q n (n+2) l' H n [] H1 (n+3):=by
  subst hH1;refine⟨λj hj=>?_,X2 _,zo,zo,⟨.sl .nil [],?_,.inl ⟨rfl,rfl⟩⟩,AB ..,λj ob hj h0=>?_⟩
  ·simp only[AK];repeat rw[X0 zo]
   exact hf j zo
  ·simp only[AK];rw[X0 zo,X6 trivial]
  ·simp only[AK];repeat rw[X0 zo]
   exact h0
 clear hH1;refine c278.a (AF AH.tnil (AG ?_));simp only[eE,eN,seval,W3,c278,hq1];refine AL (λv:VF=>⟨[(0,true,.fn (.yield l') [] []),(5,true,eIs l),(6,true,.int .i64 l.length),(7,true,.int .i64 v.i)],v.H,v.n⟩) (λv=>v.i<=l.length/\n+3<=v.n/\AppF q n (n+2) l' H n (l.take v.i) v.H v.n) (λv=>l.length-v.i)
  ⟨0,H1,n+3⟩ rfl ⟨X3 _,X2 _,F0⟩ ?_
 rintro⟨i,H2,m⟩ ⟨hi,hm,F⟩;simp only at hi hm F;by_cases c6:i<l.length
 ·have hg:=W5 c6;have e:=AE (k:=i) zo;have d6:l.take (i+1)=l.take i++[l[i]]:=by rw[Xd,W5 c6];rfl
  generalize l[i]=x at hg d6;simp only[eZ,seval,eY,lt_T c6,hg];refine y_app F x (by rw[Xp];omega) λH' m' F'=>?_
  simp only[eZ,seval,W6,yldK,e];exact .mk ⟨i+1,H',m'⟩ rfl ⟨c6,by have:=F'.lm;simp only[];omega,by simp only[];rw[d6];exact F'⟩ zp
 obtain rfl:i=l.length:=zo
 rw[Xb]at F;obtain⟨fr,lc,cl,lm,⟨lv,hc,m4⟩,hL,kp⟩:=F;have y1:(n+2=n)=False:=W9 zo;simp only[eZ,seval,lt_F c6,FN,hL,hc,y1];refine⟨lv,rfl,?_,fr.hset (X2 m) (show n+2<m by omega),zo,λid ob d7 h0=>by rw[X0 zo];exact kp id ob d7 h0⟩;rcases m4 with h|⟨d9,id,rest,h1,h2,h3⟩
 ·exact .inl h
 ·exact .inr ⟨d9,id,rest,h1,h2,by rw[AA _ _ _ _ zo];exact h3⟩
theorem t_coll(hf:AQ H n)(hq:hget H q=some (.box [eIs l]))(hl:few l):
  AP prog 277 [clV q] H n λo H' n'=>∃lv,o= .ret lv/\LvG eI 1 (n+3) H' lv l/\AQ H' n'/\n<=n'/\∀id ob,id<n->hget H id=some ob->hget H' id=some ob:=by
 refine c277.a (AF AH.tnil (AG ?_));simp only[eE,eN,seval,c277];refine(SY hf hq hl).mono ?_;rintro o H' n' ⟨lv,rfl,h1,h2,h3,h4⟩;simp only[eE,eN,seval,retK];exact⟨lv,rfl,h1,h2,h3,h4⟩
theorem La:AP prog 221 [.sl .nil []] H n λo H' n'=>o= .ret (.tup [])/\H'=H/\n'=n:=by
 refine⟨lSort,λg w vs hR hv=>?_⟩;obtain⟨v,r,rfl,k1,k2⟩:=hv;have k2':r=[]:=k2;subst k2';have hv:∃p cap,v= .slice p 0 cap:=by
  rcases k1 with⟨-,rfl,-⟩|⟨-,b,o,cap,⟨sp,rfl,hsp⟩,hc,hst,-⟩
  ·exact⟨_,_,rfl⟩
  ·exact⟨_,_,rfl⟩
 obtain⟨p,cap,rfl⟩:=hv;refine(slices_Sort_int_none p cap w).mono ?_;rintro e w' ⟨rfl,rfl⟩;exact⟨g,.ret (.tup []),H,n,⟨rfl,rfl,rfl⟩,⟨_,rfl,rfl⟩,hR,X2 _,q9.refl _ _ _ _⟩
def SrA(ob:List Fs->zj)(H:AC)(l:List Int):j9->AC->Nat->Prop:=λo H' n'=>
 B9 H H'/\((l=[]/\o= .ret (.sl .nil []))\/l≠[]/\∃id rest,o= .ret (.ref id 1 0 l.length (l.length+rest.length))/\hget H id=none/\hget H' id=some (ob ((l.mergeSort leI++rest).map eI)))
theorem DH(l:List Int):(l.mergeSort leI).length=l.length:=List.length_mergeSort ..
theorem t_srtd(hf:AQ H n)(hq:hget H q=some (.box [eIs l]))(hl:few l):
  AP prog 242 [clV q] H n (QRet H (eIs (l.mergeSort leI))):=by
 have o7:l.length<1000000000:=hl;refine AP.out (AP.seal (R:=SrA (.arr 1) H l) (R':=SrA (.frz 1) H l) (c242.a (AF AH.tnil (AG ?_))) ?_) ?_
 ·simp only[eE,eN,seval,c242];refine(t_coll hf hq hl).mono ?_;rintro o H1 n1 ⟨lv,rfl,m4,hf1,l6,hk⟩;simp only[eE,eN,seval,retK];have hK:B9 H H1:=λid ob h0=>hk id ob (hf.lt h0) h0
  rcases m4 with⟨rfl,rfl⟩|⟨d9,id,rest,rfl,h2,h3⟩
  ·refine La.mono ?_;rintro o H2 n2 ⟨rfl,rfl,rfl⟩;simp only[eE,eN,seval,retK];exact⟨hK,.inl ⟨rfl,rfl⟩⟩
  ·refine(Nj h3 zw o7).mono ?_;rintro o H2 n2 ⟨rfl,rfl,rfl⟩;rw[Zi,List.drop_left];simp only[eE,eN,seval,retK];refine⟨λi ob h0=>?_,.inr ⟨d9,id,rest,rfl,hf _ zo,AB ..⟩⟩;rw[AA _ _ _ _ (λe=>by subst e;rw[hf _ zo]at h0;cases h0)];exact hK i ob h0
 ·rintro o H' n' ⟨hK,h⟩;rcases h with h|⟨d9,id,rest,h1,h2,h3⟩
  ·exact .inl ⟨hK,.inl h⟩
  ·refine .inr ⟨id,1,_,h3,λi ob h0=>?_,.inr ⟨d9,id,rest,h1,h2,AB ..⟩⟩;rw[AA _ _ _ _ (λe=>by subst e;rw[h2]at h0;cases h0)];exact hK i ob h0
 ·rintro o H' n' ⟨hK,h⟩;refine⟨.ret (eIs (l.mergeSort leI)),⟨⟨_,rfl,Wk.refl _⟩,hK⟩,λg w e hR he=>?_⟩;have hL:∃lv,o= .ret lv/\LF 1 lv H' ((l.mergeSort leI).map eI):=by
   rcases h with⟨rfl,rfl⟩|⟨hz,id,rest,rfl,h2,h3⟩
   ·exact⟨_,rfl,.inl ⟨zw,_,rfl,.inl rfl⟩⟩
   ·refine⟨_,rfl,?_⟩;have hl2:=DH l;refine .inr ⟨λq=>hz (by rw[List.map_eq_nil_iff]at q;rw[q]at hl2;exact Y7.1 hl2.symm),id,l.length+rest.length,rest.map eI,by rw[W3,hl2],by rw[h3,X7],by simp [hl2]⟩
  obtain⟨lv,rfl,hL⟩:=hL;cases e with
  |returned v=>exact JC hL hR he
  |panicked c=>exact he.elim
  |outgrown=>exact he.elim
theorem t_vals(hf:AQ H n):AP prog 243 [eIs l] H n λo H' n'=>o= .ret (clV n)/\H'=hset H n (.box [eIs l])/\n'=n+2:=by
 refine c243.a (AF AH.tnil (AG ?_));simp only[eE,eN,seval,c243,fr0 hf]
end
section
abbrev srt(l:List Int):List Int:=l.mergeSort leI
def JL(ls:List (List Int))(j:Nat)(x:List Int):Bool:=((ls.take j).map srt).contains (srt x)
def SZ{ls:List (List Int)}(hn:∀l∈ls,l.Nodup){j:Nat}(hj:j<ls.length)(h:JL ls j ls[j]=true):Bo ls=true:=by
 unfold JL at h;rw[Xz,XH]at h;obtain⟨y,hy,e⟩:=h;obtain⟨b,hb,rfl⟩:=Xn.1 hy;rw[Xp]at hb;rw[List.getElem_take]at e;refine Ft.2 ⟨j,b,hj,zo,zo,?_⟩;rw[I8 (hn _ (Xa _)) (hn _ (Xa _)),X1];exact e.symm
def PH{ls:List (List Int)}(hn:∀l∈ls,l.Nodup)(h:∀j (hj:j<ls.length),JL ls j ls[j]=false):Bo ls=false:=by
 cases q:Bo ls with
 |false=>rfl
 |true=>
  obtain⟨a,b,ha,hb,s6,h2⟩:=Ft.1 q;rw[I8 (hn _ (Xa _)) (hn _ (Xa _)),X1]at h2;have:=h a ha;unfold JL at this;rw[<-Bool.not_eq_true,Xz,XH]at this;exact absurd ⟨ls[b],Xn.2 ⟨b,by rw[Xp];omega,by rw[List.getElem_take]⟩,h2.symm⟩ this
def Sa(o:Option zj):Prop:=∃x:List Int,few x/\o=some (.box [eIs x])
def Mj:Option zj->List Int
 |some (.box [.sl _ L])=>L.map toI
 |_=>[]
variable {x:List Int}
theorem FH(h:few x):Sa (some (.box [eIs x]))=True:=W4 ⟨x,h,rfl⟩
theorem DV(x:List Int):Mj (some (.box [eIs x]))=x:=At x
def sSr:List Fs->AC->Prop×Fs:=λa H=>match a with
 |[.fn (.func f) [] [.ptr q 0]]=>(f=278/\Sa (hget H q),eIs (srt (Mj (hget H q))))
 |_=>(False,.tup [])
theorem qSr:∀args H n,(sSr args H).1->An prog 242 args H n (sSr args H).2:=by
 intro args H n hh;unfold sSr at hh⊢;split at hh
 ·rename_i f q;obtain⟨rfl,x,hx,h0⟩:=hh;simp only[h0,DV];exact An.of c242.l (AU n _) λhf=>t_srtd hf h0 hx
 ·exact hh.elim
def sR1:List Fs->AC->Prop×Fs:=λa H=>match a with
 |[y,.ptr q 0]=>(dIs.ok y/\wide (dIs.dec y)/\Sa (hget H q),.bool (decide (Mj (hget H q)=dIs.dec y)))
 |_=>(False,.tup [])
def Teq:Tab:=tadd 103 (s2 dIs dIs (λ_ b=>wide b) (λa b=>.bool (decide (a=b)))) tnil
theorem Teq_ok:AH prog Teq:=AH.tnil.add (q2 p103)
theorem qR1:∀args H n,(sR1 args H).1->An prog 245 args H n (sR1 args H).2:=by
 intro args H n hh;unfold sR1 at hh⊢;split at hh
 ·rename_i y q;obtain⟨h1,h2,x,hx,h0⟩:=hh;simp only[h0,DV];refine An.of c245.l trivial λhf=>c245.a (AF Teq_ok (AG ?_))
  simp only[eE,eN,seval,c245,h0,Teq,s2,Af,AZ,W4 h1,W4 h2,tadd];exact λ_ _ h=>h
 ·exact hh.elim
abbrev clR(q:Nat):Fs:=.fn (.func 245) [] [.ptr q 0]
def Tr1:Tab:=tadd 245 sR1 tnil
theorem Tr1_ok:AH prog Tr1:=AH.tnil.add qR1
def idxL(met:List (List Int))(x:List Int):Int:=match met.findIdx? (λy=>decide (x=y))with
 |some k=>(k:Int)
 |none=>-1
theorem q_ifLi{H:AC}{n q:Nat}{met:List (List Int)}(hm:Bt met)(hx:few x)(h0:hget H q=some (.box [eIs x])):An prog 279 [eLl met,clR q] H n (.int .i64 (idxL met x)):=by
 refine An.of c279.l trivial λhf=>c279.a (AF Tr1_ok (AG ?_))
 have hml:met.length<1000000000:=hm.1;simp only[eE,eN,seval,W3,c279];refine AL (λi:Nat=>⟨[(0,true,eLl met),(1,true,clR q),(7,true,.int .i64 met.length),(8,true,.int .i64 i)],H,n⟩) (λi=>i<=met.length/\∀j (h:j<met.length),j<i->¬x=met[j]) (λi=>met.length-i)
  0 rfl ⟨X3 _,λj _ h=>absurd h (XN _)⟩ ?_
 rintro i ⟨hi,hb⟩;by_cases c6:i<met.length
 ·have hg:=W5 c6;have e:=AE (k:=i) zo;have hyf:=hm.2 _ (Xa c6);generalize hy:met[i]=y at hg hyf;by_cases hxy:x=y
  ·have hR:idxL met x=i:=by
    unfold idxL;rw[Yb.2 ⟨c6,by simpa [hy]using hxy,λj hj=>by simpa using hb j zo hj⟩]
   rw[hR];simp only[eZ,seval,eY,lt_T c6,hg,Tr1,sR1,h0,FH hx,DV,Af,AZ,W4 hyf,BB hxy,tadd];exact λ_ _ h=>h
  ·simp only[eZ,seval,eY,lt_T c6,hg,e,Tr1,sR1,h0,FH hx,DV,Af,AZ,W4 hyf,Ax hxy,tadd];refine .mk (i+1) rfl ⟨c6,λj hj h=>?_⟩ zo;by_cases z:j=i
   ·subst z;rw[hy];exact hxy
   ·exact hb j hj zo
 obtain rfl:i=met.length:=zo
 have hR:idxL met x= -1:=by
  unfold idxL;rw[YW.2 λy hy=>by
   obtain⟨j,hj,rfl⟩:=Xn.1 hy;simpa using hb j hj hj]
 rw[hR];simp only[eZ,seval,lt_F c6];exact λ_ _ h=>h
theorem idx_in(met:List (List Int))(x:List Int):decide (0<=idxL met x)=met.contains x:=by
 rw[Xg,X1,Xz];unfold idxL;cases h:met.findIdx? (λy=>decide (x=y))with
 |none=>
  rw[YW]at h;constructor
  ·intro q;simp at q
  ·intro q;have:=h x q;simp at this
 |some k=>
  obtain⟨h1,h2,-⟩:=Yb.1 h;constructor
  ·intro _;have:=Xv h2;rw[this];exact Xa _
  ·intro _;simp
def sIf(f:List (List Int)->List Int->Fs):List Fs->AC->Prop×Fs:=λa H=>match a with
 |[y,.fn (.func g) [] [.ptr q 0]]=>(dLl.ok y/\Bt (dLl.dec y)/\g=245/\Sa (hget H q),f (dLl.dec y) (Mj (hget H q)))
 |_=>(False,.tup [])
theorem q_sIf{f:List (List Int)->List Int->Fs}{i5:FuncId}(h:∀{H:AC} {n q:Nat} {met:List (List Int)} {x:List Int},Bt met->few x->hget H q=some (.box [eIs x])->An prog i5 [eLl met,clR q] H n (f met x)):∀args H n,(sIf f args H).1->An prog i5 args H n (sIf f args H).2:=by
 intro args H n hh;unfold sIf at hh⊢;split at hh
 ·rename_i y g q;obtain⟨h1,h2,rfl,x,hx,h0⟩:=hh;simp only[h0,DV];refine AP.args (h (n:=n) h2 hx h0) ?_;rintro g vs ⟨v,r,rfl,k1,k2⟩;exact⟨v,_,rfl,dLl.wk _ h1 _ _ k1,k2⟩
 ·exact hh.elim
abbrev fIf(met:List (List Int))(x:List Int):Fs:=.int .i64 (idxL met x)
abbrev fCf(met:List (List Int))(x:List Int):Fs:=.bool (met.contains x)
def Tr2:Tab:=tadd 279 (sIf fIf) tnil
theorem Tr2_ok:AH prog Tr2:=AH.tnil.add (q_sIf λh1 h2 h3=>q_ifLi h1 h2 h3)
theorem PI{t:jj}{l:List (List Int)}(ht:t.esz=1\/l=[]):dLl.ok (.sl t (l.map eIs))=True:=Hy Dv ht
theorem Mk{t:jj}(l:List (List Int)):dLl.dec (.sl t (l.map eIs))=l:=Fb Dv
theorem q_cfLi{H:AC}{n q:Nat}{met:List (List Int)}(hm:Bt met)(hx:few x)(h0:hget H q=some (.box [eIs x])):An prog 244 [eLl met,clR q] H n (fCf met x):=by
 refine An.of c244.l trivial λhf=>c244.a (AF Tr2_ok (AG ?_))
 simp only[eE,eN,seval,c244,Tr2,sIf,h0,FH hx,DV,CU,Bm,W4 hm,idx_in,tadd];exact λ_ _ h=>h
def Trg:Tab:=tadd 150 (s2 dGd dLl (λg l=>Ah g.sh g.w g.h g.holes=some g.cells/\few g.holes/\Bt l) λg l=>rgsV g.cells l) (tadd 244 (sIf fCf) (tadd 242 sSr tnil))
theorem Trg_ok:AH prog Trg:=((AH.tnil.add qSr).add (q_sIf λh1 h2 h3=>q_cfLi h1 h2 h3)).add (q2 λg l h=>p150 g l h.1 h.2.1 h.2.2)
structure VRm where
 j:Nat
 tk:jj
 H:AC
 n:Nat
structure IRm(g:jz)(r:zx)(v:VRm):Prop where
 hj:v.j<=r.ls.length
 fr:AQ v.H v.n
 hn:3<=v.n
 h1:hget v.H 1=some (.box (AD g.sh g.w g.h g.holes g.cells))
 tok:tkG 1 2 v.H v.tk
 es:v.tk.esz=1\/(r.ls.take v.j).map srt=[]
 no:∀k (hk:k<r.ls.length),k<v.j->JL r.ls k r.ls[k]=false
theorem p213(d:zy)(g:jz)(hd:qk d)(hG:Ah g.sh g.w g.h g.holes=some g.cells)(hh:few g.holes):Pur prog 213 [encD d,B5 g] (.int .i64 (C9 g.cells d.regs)):=by
 refine .mk ⟨Ab 0 d,Ar 0 ..,trivial⟩ trivial (c213.a (AF Trg_ok (AG ?_)));have hrl:d.regs.length<1000000000:=hd.rg;simp only[eE,eN,seval,W3,c213];refine AL (λv:VF=>⟨[(3,true,.ptr 1 0),(14,true,eRgs d.regs),(15,true,.int .i64 d.regs.length),(16,true,.int .i64 v.i)],v.H,v.n⟩) (λv=>v.i<=d.regs.length/\AQ v.H v.n/\3<=v.n/\hget v.H 1=some (.box (AD g.sh g.w g.h g.holes g.cells))/\C9 g.cells d.regs=C9 g.cells (d.regs.drop v.i)) (λv=>d.regs.length-v.i)
  ⟨0,hset (hset hnil 0 (.box (AI d))) 1 (.box (AD g.sh g.w g.h g.holes g.cells)),3⟩ rfl ⟨X3 _,(AQ.nil.hset (m:=3) (X3 3) (show 0<3 by decide)).hset (X2 3) (show 1<3 by decide),X2 _,rfl,rfl⟩ ?_
 rintro⟨i,H,n⟩ ⟨hi,c8,hn,h1,heq⟩;simp only at hi c8 hn h1 heq;by_cases c6:i<d.regs.length;case neg=>
  obtain rfl:i=d.regs.length:=zo
  rw[Xy]at heq;rw[heq];simp only[eZ,seval,lt_F c6];rfl
 have hg:=W5 c6;have e:=AE (k:=i) zo;have hrf:MX d.regs[i]:=hd.rgs _ (Xa c6);rw[LL _ _ _ c6]at heq;generalize d.regs[i]=r at hg hrf heq;have y1:∀q,(n+q=1)=False:=λq=>W9 zo
 have hc:=W4 (⟨hG,hh,hrf⟩:Ah g.sh g.w g.h g.holes=some g.cells/\few g.holes/\Bt r.ls);by_cases hb:(decide (r.ls.length<=64)&&r.ls.all (Dg g.cells))=true;case neg=>
  have hv:rgsV g.cells r.ls= .tup [eLl [],.int .i64 130]:=X0 hb;have hE:regE g.cells r=130:=X6 (by simpa using hb);rw[hE,X0 zd]at heq;rw[heq];simp only[eZ,seval,W8,eY,lt_T c6,hg,fr1 c8,h1,y1,Trg,s2,E9,Cz,CU,Bm,hc,hv,tadd]
 have hv:rgsV g.cells r.ls= .tup [eLl (r.ls.map (BO g.cells)),.int .i64 0]:=X6 hb;obtain⟨hb1,i9⟩:=(W7 _ _).mp hb;have hb1:=Xv hb1;have hnd:∀l∈r.ls,l.Nodup:=λl hl=>(Ek (X9.1 i9 l hl)).1
 have hregE:regE g.cells r=if Bo r.ls=true then 161 else 0:=by unfold regE;rw[hb,X0 zd]
 simp only[eZ,seval,W6,eY,lt_T c6,hg,fr1 c8,h1,y1,Trg,s2,E9,Cz,CU,Bm,hc,hv,AO,tadd];refine AL (λv:VRm=>⟨[(3,true,.ptr 1 0),(9,true,.sl v.tk (((r.ls.take v.j).map srt).map eIs)),(14,true,eRgs d.regs),(15,true,.int .i64 d.regs.length),(16,true,.int .i64 i),(31,true,eLl r.ls),(32,true,.int .i64 r.ls.length),(33,true,.int .i64 v.j)],v.H,v.n⟩) (IRm g r) (λv=>r.ls.length-v.j)
  ⟨0,.nil,hset H (n+2) (.box [.str r.nm,eLl r.ls]),n+4⟩ rfl ⟨X3 _,c8.hset (m:=n+4) zo zo,zp,by simp only[];rw[AA _ _ _ _ zo];exact h1,.inl rfl,.inr rfl,λk _ h=>absurd h (XN _)⟩ ?_
 rintro⟨j,tk,H1,n1⟩ hI;have hj:=hI.hj;have hf1:=hI.fr;have l6:=hI.hn;have h11:=hI.h1;have d6:=hI.tok;have d8:=hI.es;have i4:=hI.no;simp only at hj hf1 l6 h11 d6 d8 i4;by_cases hlj:j<r.ls.length
 ·have hgj:=W5 hlj;have ej:=AE (k:=j) zo;have hlf:few r.ls[j]:=by
   obtain⟨q1,-,q3⟩:=Ek (X9.1 i9 _ (Xa hlj));have h1:=IC q1 q3;have h2:=(Ay hG).2.1;show r.ls[j].length<_;omega
  have hmt:=map_take (f:=srt) hlj;have hhit:=λq=>SZ hnd hlj q
  have hnx:JL r.ls j r.ls[j]=false->∀k (hk:k<r.ls.length),k<j+1->JL r.ls k r.ls[k]=false:=λq k hk h=>by
   by_cases z:k=j
   ·subst z;exact q
   ·exact i4 k hk zo
  generalize r.ls[j]=l at hgj hlf hmt hhit hnx;have hmf:Bt ((r.ls.take j).map srt):=⟨show((r.ls.take j).map srt).length<_ by rw[W3,Xp];omega,λx hx=>by
   obtain⟨y,hy,rfl⟩:=XH.1 hx;show(srt y).length<_;rw[DH];exact hrf.2 _ (Zk hy)⟩
  have hsf:few (srt l):=show(srt l).length<_ by rw[DH];exact hlf
  have z1:∀q,(n1+q=1)=False:=λq=>W9 zo
  have hmb:((r.ls.take j).map srt).contains (srt l)=JL r.ls j l:=rfl;simp only[eZ,seval,eY,lt_T hlj,hgj];refine(t_vals (n:=n1+5) λj hj=>hf1 j zo).mono ?_;rintro o H2 n2 ⟨rfl,rfl,rfl⟩;cases hb3:JL r.ls j l with
  |true=>
   rw[hregE,hhit hb3,X6 rfl,X0 zd]at heq;rw[heq];simp only[eZ,seval,retK,Trg,sSr,FH hlf,DV,fr1 hf1,sIf,FH hsf,PI d8,Mk,W4 hmf,hmb,hb3,AO,tadd]
  |false=>
   have gt:tkG 1 2 (hset (hset H1 (n1+5) (.box [eIs l])) (n1+3) (.box [eIs (srt l)])) tk:=(d6.set (.inr (.inr (fr1 hf1 5)))).set (.inr (.inr (by rw[AA _ _ _ _ zo];exact fr1 hf1 3)));have gf:AQ (hset (hset H1 (n1+5) (.box [eIs l])) (n1+3) (.box [eIs (srt l)])) (n1+12):=(hf1.hset (m:=n1+12) zo zo).hset (m:=n1+12) zo zo;have q1:A6 (hset (hset H1 (n1+5) (.box [eIs l])) (n1+3) (.box [eIs (srt l)])) 1 tk=True:=W4 gt.app;have q2:((r.ls.take j).length<=35184372088831)=True:=W4 (by rw[Xp];omega);have q3:Aj ((r.ls.take j).length+1) 24=True:=W4 (AY (by rw[Xp];omega) zd);simp only[eZ,seval,W3,retK,Trg,sSr,FH hlf,DV,fr1 hf1,sIf,FH hsf,PI d8,Mk,W4 hmf,hmb,hb3,AO,q2,q3,q1,ej,tadd];refine .mk ⟨j+1,.own (n1+10) 1,hset (AN (hset (hset H1 (n1+5) (.box [eIs l])) (n1+3) (.box [eIs (srt l)])) tk) (n1+10) .tok,n1+12⟩ ?_ ⟨hlj,(AT gt gf).hset (X2 _) (show n1+10<n1+12 by omega),zp,?_,.inr (.inr ⟨n1+10,rfl,zo,AB ..⟩),.inl rfl,hnx hb3⟩ zp
   ·simp only[hmt,X7];rfl
   ·simp only[];rw[AA _ _ _ _ zo,AW gt (.inl zo),AA _ _ _ _ zo,AA _ _ _ _ zo];exact h11
 obtain rfl:j=r.ls.length:=zo
 rw[hregE,PH hnd λj hj=>i4 j hj hj]at heq;simp only[eZ,seval,lt_F hlj,e];exact .mk ⟨i+1,H1,n1⟩ rfl ⟨c6,hf1,l6,h11,heq⟩ zp
end
section
def whn(b:Bool)(e:Int):Int:=if b=true then 0 else e
def N0(d:zy):Int:=whn (limD d) 2
def Lb(d:zy):Int:=match resD d with
 | .error e=>e
 | .ok x=>whn (decide (x=d)) 170
def N2(d:zy):Int:=whn (decide (1<=d.ver)&&decide (d.ver<=255)) 170
def N4(d:zy):Int:=match Ah d.sh d.w d.h d.holes with
 |some _=>0
 |none=>130
def N5(d:zy):Int:=whn (Ba d) 170
def PJ(d:zy):Int:=whn (decide (BV d.ruls=[])) 171
def ER{d:zy}{e:Int}(h:resD d= .error e):e≠0:=by
 unfold resD at h
 rintro rfl
 repeat' split at h
 all_goals simp at h
def dB:Dc Bool:=⟨.bool,toB,λv=>match v with| .bool _=>True|_=>False,λv h=>by
 cases v<;>first|exact Wk.refl _|exact h.elim⟩
theorem PL(b:Bool):dB.ok (.bool b)=True:=rfl
theorem J7(b:Bool):dB.dec (.bool b)=b:=rfl
def Tst:Tab:=tadd 208 (s2 dB dI any2 λb e=>.int .i64 (whn b e)) (tadd 145 (s1 dD qk CF) (tadd 104 (s2 dD dD (λ_ b=>qk b) λa b=>.bool (decide (a=b))) (tadd 215 (s1 dD qk λd=>.bool (Ba d)) (tadd 217 (s1 dD qk λd=>eIs (BV d.ruls)) (tadd 213 (s2 dD dGd (λd g=>qk d/\Ah g.sh g.w g.h g.holes=some g.cells/\few g.holes) λd g=>.int .i64 (C9 g.cells d.regs)) tnil)))))
def IW:AH prog Tst:=(((((AH.tnil.add (q2 λd g h=>p213 d g h.1 h.2.1 h.2.2)).add (q1 λd h=>p217 d h.ru)).add (q1 λd h=>p215 d h)).add (q2 λa b h=>p104 a b h)).add (q1 λd h=>p145 d h)).add (q2 λb e _=>p208 b e)
def US{H:AC}{n i:Nat}(hf:AQ H n)(hi:n<=i)(a b:zj):B9 H (hset (hset H i a) i b):=λid ob h=>by
 have:=hf.lt h;rw[AA _ _ _ _ zo,AA _ _ _ _ zo];exact h
def Sb(d:zy):(decide ((0:Int)<d.syms.length)&&decide ((d.syms.length:Int)<=16)&&decide ((d.regs.length:Int)<=4)&&decide ((d.clus.length:Int)<=4)&&decide ((d.ruls.length:Int)<=16))=limD d:=by
 rw[Xg];simp [limD];omega
def VC(l:List Int):decide ((l.length:Int)=0)=decide (l=[]):=by
 cases l<;>simp;omega
variable {d:zy} {H:AC} {n q:Nat}
theorem u1(hd:qk d)(h0:hget H q=some (.box (AI d))):An prog 207 [.ptr q 0] H n (.int .i64 (N0 d)):=by
 refine An.of c207.l trivial λhf=>c207.a (AF IW (AG ?_))
 simp only[eZ,seval,W3,c207,h0,Tst,s2,PL,J7,A3,Ai,Sb,tadd];exact⟨rfl,λ_ _ h=>h⟩
theorem u2(hd:qk d)(h0:hget H q=some (.box (AI d))):An prog 209 [.ptr q 0] H n (.int .i64 (Lb d)):=by
 refine An.of c209.l trivial λhf=>c209.a (AF IW (AG ?_))
 have hq:=hf.lt h0;have y1:∀k,(n+k=q)=False:=λk=>W9 zo
 unfold Lb;cases hr:resD d with
 |error e=>
  have hv:CF d= .tup [encD dcl0,.int .i64 e]:=by unfold CF;rw[hr]
  have he:(e=0)=False:=W9 (ER hr);simp only[eZ,seval,W8,eY,c209,h0,Tst,s1,A9,Al,W4 hd,hv,fr1 hf,he,tadd];exact US hf zo _ _
 |ok x=>
  have hv:CF d= .tup [encD x,.int .i64 0]:=by unfold CF;rw[hr]
  simp only[eZ,seval,W6,eY,c209,h0,Tst,s1,s2,A9,Al,W4 hd,hv,fr1 hf,y1,PL,J7,A3,Ai,tadd];exact US hf zo _ _
theorem u3(h0:hget H q=some (.box (AI d))):An prog 210 [.ptr q 0] H n (.int .i64 (N2 d)):=by
 refine An.of c210.l trivial λhf=>c210.a (AF IW (AG ?_))
 simp only[eZ,seval,c210,h0,Tst,s2,PL,J7,A3,Ai,tadd];exact⟨rfl,λ_ _ h=>h⟩
theorem u6(hd:qk d)(h0:hget H q=some (.box (AI d))):An prog 214 [.ptr q 0] H n (.int .i64 (N5 d)):=by
 refine An.of c214.l trivial λhf=>c214.a (AF IW (AG ?_))
 simp only[eE,eN,seval,c214,h0,Tst,s1,s2,PL,J7,A3,Ai,A9,Al,W4 hd,tadd];exact⟨rfl,λ_ _ h=>h⟩
theorem u7(hd:qk d)(h0:hget H q=some (.box (AI d))):An prog 216 [.ptr q 0] H n (.int .i64 (PJ d)):=by
 refine An.of c216.l trivial λhf=>c216.a (AF IW (AG ?_))
 simp only[eE,eN,seval,W3,c216,h0,Tst,s1,s2,PL,J7,A3,Ai,A9,Al,W4 hd,VC,tadd];exact⟨rfl,λ_ _ h=>h⟩
theorem u5{g:jz}{q':Nat}(hd:qk d)(hG:Ah g.sh g.w g.h g.holes=some g.cells)(hh:few g.holes)(h0:hget H q=some (.box (AI d)))(h1:hget H q'=some (.box (AD g.sh g.w g.h g.holes g.cells))):An prog 212 [.ptr q 0,.ptr q' 0] H n (.int .i64 (C9 g.cells d.regs)):=by
 refine An.of c212.l trivial λhf=>c212.a (AF IW (AG ?_))
 simp only[eE,eN,seval,c212,h0,h1,Tst,s2,E9,Cz,A9,Al,W4 hd,hG,W4 hh,tadd];exact λ_ _ h=>h
abbrev gr0:List Fs:=[.int .i64 0,.int .i64 0,.int .i64 0,.sl .nil [],.sl .nil []]
def Tmc:Tab:=tadd 147 (λa H=>match a with
 |[.int .i64 sh,.int .i64 w,.int .i64 h,x]=>(dIs.ok x/\few (dIs.dec x),BK sh w h (dIs.dec x))
 |_=>(False,.tup [])) tnil
theorem Tmc_ok:AH prog Tmc:=AH.tnil.add U7
theorem u4{q':Nat}(d9:q≠q')(hh:few d.holes)(h0:hget H q=some (.box (AI d)))(h1:hget H q'=some (.box gr0)):
  AP prog 211 [.ptr q 0,.ptr q' 0] H n λo H' n'=>o= .ret (.int .i64 (N4 d))/\n'=n/\∃cs,H'=hset H q' (.box cs)/\∀cells,Ah d.sh d.w d.h d.holes=some cells->cs=AD d.sh d.w d.h d.holes cells:=by
 refine c211.a (AF Tmc_ok (AG ?_));unfold N4;cases hc:Ah d.sh d.w d.h d.holes with
 |none=>
  have hv:BK d.sh d.w d.h d.holes= .tup [encG 0 0 0 [] [],.int .i64 130]:=by unfold BK;rw[hc]
  simp only[eE,eN,seval,eY,c211,h0,h1,Tmc,Af,AZ,W4 hh,hv,tadd];exact⟨_,rfl⟩
 |some cells=>
  have hv:BK d.sh d.w d.h d.holes= .tup [encG d.sh d.w d.h d.holes cells,.int .i64 0]:=by unfold BK;rw[hc]
  simp only[eE,eN,seval,eY,c211,h0,h1,Tmc,Af,AZ,W4 hh,hv,tadd];exact⟨_,rfl,λc h=>by cases h;rfl⟩
end
theorem PM(d:zy):chkD d=if N0 d≠0 then N0 d else if Lb d≠0 then Lb d else if N2 d≠0 then N2 d else match Ah d.sh d.w d.h d.holes with
  |none=>130
  |some cells=>if C9 cells d.regs≠0 then C9 cells d.regs else if N5 d≠0 then N5 d else PJ d:=by
 unfold chkD N0 Lb N2 N5 PJ;cases limD d with
 |false=>rfl
 |true=>
 cases hr:resD d with
 |error e=>simp [whn,ER hr]
 |ok x=>
 by_cases hx:x=d
 ·by_cases hv:d.ver<1\/255<d.ver
  ·have:(decide (1<=d.ver)&&decide (d.ver<=255))=false:=by simp;omega
   simp [whn,hx,hv,this]
  ·have:(decide (1<=d.ver)&&decide (d.ver<=255))=true:=by simp;omega
   cases hc:Ah d.sh d.w d.h d.holes with
   |none=>simp [whn,hx,hv,this]
   |some cells=>
    cases Ba d<;>by_cases hu:BV d.ruls=[]<;>simp [whn,hx,hv,this,hu]
 ·simp [whn,hx]
abbrev stA:List Fs:=[.fn (.func 207) [] [.ptr 0 0],.fn (.func 209) [] [.ptr 0 0],.fn (.func 210) [] [.ptr 0 0],.fn (.func 211) [] [.ptr 0 0,.ptr 2 0],.fn (.func 212) [] [.ptr 0 0,.ptr 2 0],.fn (.func 214) [] [.ptr 0 0],.fn (.func 216) [] [.ptr 0 0]]
structure IChk(d:zy)(v:VF):Prop where
 hi:v.i<=7
 h0:hget v.H 0=some (.box (AI d))
 z1:0<v.i->N0 d=0
 z2:1<v.i->Lb d=0
 z3:2<v.i->N2 d=0
 g0:v.i<=3->hget v.H 2=some (.box gr0)
 z4:3<v.i->∃cells,Ah d.sh d.w d.h d.holes=some cells/\hget v.H 2=some (.box (AD d.sh d.w d.h d.holes cells))/\(4<v.i->C9 cells d.regs=0)
 z6:5<v.i->N5 d=0
 z7:6<v.i->PJ d=0
def p146(d:zy)(hd:qk d):Pur prog 146 [encD d] (.int .i64 (chkD d)):=by
 refine .mk ⟨Ab 0 d,trivial⟩ trivial (c146.a (AF AH.tnil (AG ?_)));simp only[eE,eN,seval,c146];have h7:((7:Nat):Int)=7:=rfl;refine AL (λv:VF=>⟨[(14,true,.sl (.exact 1) stA),(15,true,.int .i64 7),(16,true,.int .i64 v.i)],v.H,v.n⟩) (IChk d) (λv=>7-v.i)
  ⟨0,hset (hset hnil 0 (.box (AI d))) 2 (.box gr0),3⟩ rfl ⟨X3 _,rfl,λh=>absurd h (XN _),λh=>absurd h (XN _),λh=>absurd h (XN _),λ_=>rfl,λh=>absurd h (XN _),λh=>absurd h (XN _),λh=>absurd h (XN _)⟩ ?_
 rintro⟨i,H,n⟩ hI;obtain⟨hi,h0,z1,z2,z3,g0,z4,z6,z7⟩:=hI;simp only at hi h0 z1 z2 z3 g0 z4 z6 z7;have hS:=PM d;by_cases c6:i<7;case neg=>
  obtain⟨cells,hc,-,hr⟩:=z4 zo;have hlF:((i:Int)<7)=False:=W9 zo;simp only[z1 zo,z2 zo,z3 zo,hc,hr zo,z6 zo,z7 zo,ne_eq,YH,Xt]at hS;rw[hS];simp only[eZ,seval,hlF]
 have hlT:((i:Int)<7)=True:=W4 zo;have hlN:((i:Int)<((7:Nat):Int))=True:=hlT;have e:=AE (k:=i) zo;have h8:i=0\/i=1\/i=2\/i=3\/i=4\/i=5\/i=6:=zo
 rcases h8 with h8|h8|h8|h8|h8|h8|h8
 ·have hg:stA[i]?=some (.fn (.func 207) [] [.ptr 0 0]):=by rw[h8];rfl
  have hl7:i<stA.length:=c6;simp only[eZ,seval,X8,X4,X5,hlT,hlN,hg];refine(u1 hd h0).mono ?_;rintro o H' n' ⟨rfl,rfl,rfl⟩;by_cases hz:N0 d=0
  ·rw[hz];simp only[eZ,seval,W6,retK,e];exact .mk ⟨i+1,H',n'⟩ rfl ⟨c6,h0,λ_=>hz,λh=>absurd h zp,λh=>absurd h zp,λ_=>g0 zo,λh=>absurd h zp,λh=>absurd h zp,λh=>absurd h zp⟩ zp
  ·rw[X6 hz]at hS;rw[hS];simp only[eZ,seval,W8,retK,W9 hz]
 ·have hg:stA[i]?=some (.fn (.func 209) [] [.ptr 0 0]):=by rw[h8];rfl
  have hl7:i<stA.length:=c6;simp only[eZ,seval,X8,X4,X5,hlT,hlN,hg];refine(u2 hd h0).mono ?_;rintro o H' n' ⟨rfl,rfl,rfl⟩;simp only[z1 zo,ne_eq,YH,Xt]at hS;by_cases hz:Lb d=0
  ·rw[hz];simp only[eZ,seval,W6,retK,e];exact .mk ⟨i+1,H',n'⟩ rfl ⟨c6,h0,λ_=>z1 zo,λ_=>hz,λh=>absurd h zp,λ_=>g0 zo,λh=>absurd h zp,λh=>absurd h zp,λh=>absurd h zp⟩ zp
  ·rw[X6 hz]at hS;rw[hS];simp only[eZ,seval,W8,retK,W9 hz]
 ·have hg:stA[i]?=some (.fn (.func 210) [] [.ptr 0 0]):=by rw[h8];rfl
  have hl7:i<stA.length:=c6;simp only[eZ,seval,X8,X4,X5,hlT,hlN,hg];refine(u3 h0).mono ?_;rintro o H' n' ⟨rfl,rfl,rfl⟩;simp only[z1 zo,z2 zo,ne_eq,YH,Xt]at hS;by_cases hz:N2 d=0
  ·rw[hz];simp only[eZ,seval,W6,retK,e];exact .mk ⟨i+1,H',n'⟩ rfl ⟨c6,h0,λ_=>z1 zo,λ_=>z2 zo,λ_=>hz,λ_=>g0 zo,λh=>absurd h zp,λh=>absurd h zp,λh=>absurd h zp⟩ zp
  ·rw[X6 hz]at hS;rw[hS];simp only[eZ,seval,W8,retK,W9 hz]
 ·have hg:stA[i]?=some (.fn (.func 211) [] [.ptr 0 0,.ptr 2 0]):=by rw[h8];rfl
  have hl7:i<stA.length:=c6;simp only[eZ,seval,X8,X4,X5,hlT,hlN,hg];refine(u4 zd hd.ho h0 (g0 zo)).mono ?_;rintro o H' n' ⟨rfl,rfl,cs,rfl,s9⟩;have s5:hget (hset H 2 (.box cs)) 0=some (.box (AI d)):=by rw[AA _ _ _ _ zd];exact h0
  simp only[z1 zo,z2 zo,z3 zo,ne_eq,YH,Xt]at hS;cases hc:Ah d.sh d.w d.h d.holes with
  |none=>
   have hs4:N4 d=130:=by unfold N4;rw[hc]
   rw[hc]at hS;rw[hS,hs4];simp only[eZ,seval,W8,retK]
  |some cells=>
   have hs4:N4 d=0:=by unfold N4;rw[hc]
   rw[hs4];simp only[eZ,seval,W6,retK,e];refine .mk ⟨i+1,hset H 2 (.box cs),n'⟩ rfl ⟨c6,s5,λ_=>z1 zo,λ_=>z2 zo,λ_=>z3 zo,λh=>absurd h zp,λ_=>⟨cells,hc,by simp only[];rw[AB,s9 cells hc],λh=>absurd h zp⟩,λh=>absurd h zp,λh=>absurd h zp⟩ zp
 ·have hg:stA[i]?=some (.fn (.func 212) [] [.ptr 0 0,.ptr 2 0]):=by rw[h8];rfl
  have hl7:i<stA.length:=c6;obtain⟨cells,hc,hg2,hr⟩:=z4 zo;simp only[eZ,seval,X8,X4,X5,hlT,hlN,hg];refine(u5 (g:=⟨d.sh,d.w,d.h,d.holes,cells⟩) hd hc hd.ho h0 hg2).mono ?_;rintro o H' n' ⟨rfl,rfl,rfl⟩;simp only[z1 zo,z2 zo,z3 zo,hc,ne_eq,YH,Xt]at hS;by_cases hz:C9 cells d.regs=0
  ·rw[hz];simp only[eZ,seval,W6,retK,e];exact .mk ⟨i+1,H',n'⟩ rfl ⟨c6,h0,λ_=>z1 zo,λ_=>z2 zo,λ_=>z3 zo,λh=>absurd h zp,λ_=>⟨cells,hc,hg2,λ_=>hz⟩,λh=>absurd h zp,λh=>absurd h zp⟩ zp
  ·rw[X6 hz]at hS;rw[hS];simp only[eZ,seval,W8,retK,W9 hz]
 ·have hg:stA[i]?=some (.fn (.func 214) [] [.ptr 0 0]):=by rw[h8];rfl
  have hl7:i<stA.length:=c6;obtain⟨cells,hc,hg2,hr⟩:=z4 zo;simp only[eZ,seval,X8,X4,X5,hlT,hlN,hg];refine(u6 hd h0).mono ?_;rintro o H' n' ⟨rfl,rfl,rfl⟩;simp only[z1 zo,z2 zo,z3 zo,hc,hr zo,ne_eq,YH,Xt]at hS;by_cases hz:N5 d=0
  ·rw[hz];simp only[eZ,seval,W6,retK,e];exact .mk ⟨i+1,H',n'⟩ rfl ⟨c6,h0,λ_=>z1 zo,λ_=>z2 zo,λ_=>z3 zo,λh=>absurd h zp,λ_=>⟨cells,hc,hg2,λ_=>hr zo⟩,λ_=>hz,λh=>absurd h zp⟩ zp
  ·rw[X6 hz]at hS;rw[hS];simp only[eZ,seval,W8,retK,W9 hz]
 ·have hg:stA[i]?=some (.fn (.func 216) [] [.ptr 0 0]):=by rw[h8];rfl
  have hl7:i<stA.length:=c6;obtain⟨cells,hc,hg2,hr⟩:=z4 zo;simp only[eZ,seval,X8,X4,X5,hlT,hlN,hg];refine(u7 hd h0).mono ?_;rintro o H' n' ⟨rfl,rfl,rfl⟩;simp only[z1 zo,z2 zo,z3 zo,hc,hr zo,z6 zo,ne_eq,YH,Xt]at hS;by_cases hz:PJ d=0
  ·rw[hz];simp only[eZ,seval,W6,retK,e];exact .mk ⟨i+1,H',n'⟩ rfl ⟨c6,h0,λ_=>z1 zo,λ_=>z2 zo,λ_=>z3 zo,λh=>absurd h zp,λ_=>⟨cells,hc,hg2,λ_=>hr zo⟩,λ_=>z6 zo,λ_=>hz⟩ zp
  ·rw[hS];simp only[eZ,seval,W8,retK,W9 hz]
structure zz where
 d:zy
 g:jz
 nb:List (List Int)
 ls:List (List (List Int))
 deriving DecidableEq
def Au(x:zy)(cells:List Int):jz:=⟨x.sh,x.w,x.h,x.holes,cells⟩
def VD(x:zy)(cells:List Int):zz:=
 ⟨x,Au x cells,nbsS x.sh (AR x.sh x.w cells),((List.range 8).map λf=>famS x.sh x.w x.h (AR x.sh x.w cells) f)++x.regs.map λr=>r.ls.map (BO cells)⟩
def DW(d:zy):Except Int zz:=match resD d with
 | .error e=>.error e
 | .ok x=>if chkD x≠0 then .error (chkD x)else match Ah x.sh x.w x.h x.holes with
  |none=>.error 130
  |some cells=>.ok (VD x cells)
def G7(k:zz):Bool:=match DW k.d with
 | .ok x=>decide (k=x)
 | .error _=>false
def Bg(k:zz):Int:=if G7 k then 0 else 180
def Ml{k:zz}(h:G7 k=true):DW k.d= .ok k:=by grind [G7]
def Mm{x:zy}(h:chkD x=0):∃cells,Ah x.sh x.w x.h x.holes=some cells:=by
 unfold chkD at h;split at h
 ·cases h
 ·split at h
  ·rename_i e he;have:=ER he;exact absurd h this
  ·grind
def JM{d:zy}{k:zz}(h:DW d= .ok k):∃x cells,resD d= .ok x/\chkD x=0/\Ah x.sh x.w x.h x.holes=some cells/\k=VD x cells:=by grind [DW]
def p130W(a b:List Int)(ha:wide a):Pur prog 130 [eIs a,eIs b] (.bool (decide (a=b))):=by
 refine .mk ⟨AU 0 _,AU 0 _,trivial⟩ trivial (c130.a (AF AH.tnil (AG ?_)));have hal:a.length<1125899906842624:=ha;by_cases hl:a.length=b.length;case neg=>
  have hR:decide (a=b)=false:=Xe λq=>hl (by rw[q])
  have hq:((a.length:Int)=(b.length:Int))=False:=W9 zo;rw[hR];simp only[eZ,seval,W8,W3,c130,hq]
 have hq:((a.length:Int)=(b.length:Int))=True:=W4 zo;simp only[eZ,seval,W6,W3,c130,hq];refine AL (λi:Nat=>⟨[(0,true,eIs a),(1,true,eIs b),(5,true,.int .i64 i)],hnil,0⟩) (λi=>i<=a.length/\a.take i=b.take i) (λi=>a.length-i) 0 rfl ⟨X3 _,rfl⟩ ?_;rintro i ⟨hi,d6⟩;by_cases c6:i<a.length
 ·have hltb:i<b.length:=zo
  have hg:=W5 c6;have hgb:=W5 hltb;have e:=AE (k:=i) zo;have ta:a.take (i+1)=a.take i++[a[i]]:=by rw[Xd,hg];rfl
  have tb:b.take (i+1)=b.take i++[b[i]]:=by rw[Xd,hgb];rfl
  generalize a[i]=x at hg ta;generalize b[i]=y at hgb tb;by_cases hxy:x=y
  ·simp only[eZ,seval,W6,eY,lt_T c6,lt_T hltb,hg,hgb,e,hxy];exact .mk (i+1) rfl ⟨c6,by rw[ta,tb,d6,hxy]⟩ zo
  ·have hR:decide (a=b)=false:=Xe λq=>hxy (by rw[q]at hg;rw[hg]at hgb;exact Option.some.inj hgb)
   rw[hR];simp only[eZ,seval,W8,eY,lt_T c6,lt_T hltb,hg,hgb,Ax hxy]
 obtain rfl:i=a.length:=zo
 have hR:decide (a=b)=true:=Xi (by rw[Xb,hl,Xb]at d6;exact d6);rw[hR];simp only[eZ,seval,W3,lt_F c6]
def p130(a b:List Int)(ha:few a):Pur prog 130 [eIs a,eIs b] (.bool (decide (a=b))):=p130W a b (Cm ha)
def p168(r:qj):Pur prog 168 [BT r] (.bool (Hv r)):=by
 refine .mk ⟨As 0 r,trivial⟩ trivial (c168.a (AF AH.tnil (AG ?_)));simp only[eZ,seval,c168];rfl
def Tr7:Tab:=tadd 168 (s1 dRu any1 λr=>.bool (Hv r)) tnil
def Tr7_ok:AH prog Tr7:=AH.tnil.add (q1 λr _=>p168 r)
structure IUr(d:zy)(v:VU):Prop where
 hi:v.i<=d.ruls.length
 fr:AQ v.H v.n
 hn:2<=v.n
 h0:hget v.H 0=some (.box (AI d))
 tok:tkG 1 1 v.H v.tk
 es:v.tk.esz=1\/BV (d.ruls.take v.i)=[]
def p123(d:zy)(hr:few d.ruls):Pur prog 123 [encD d] (eIs (BV d.ruls)):=by
 refine .mk ⟨Ab 0 d,trivial⟩ (AU 0 _) (c123.a (AF Tr7_ok (AG ?_)));have hrl:d.ruls.length<1000000000:=hr;simp only[eE,eN,seval,c123];refine AL (λv:VU=>⟨[(1,true,.ptr 0 0),(3,true,.sl v.tk ((BV (d.ruls.take v.i)).map eI)),(4,true,.int .i64 v.i)],v.H,v.n⟩) (IUr d) (λv=>d.ruls.length-v.i)
  ⟨0,.nil,hset hnil 0 (.box (AI d)),2⟩ rfl ⟨X3 _,AQ.nil.hset (m:=2) (X3 2) (show 0<2 by decide),X2 _,rfl,.inl rfl,.inr rfl⟩ ?_
 rintro⟨i,tk,H,n⟩ ⟨hi,c8,hn,h0,d6,d8⟩;simp only at hi c8 hn h0 d6 d8;by_cases c6:i<d.ruls.length
 ·have hg:=W5 c6;have e:=AE (k:=i) zo;have hu:=G6 c6;have hul:=IV (d.ruls.take i);rw[Xp]at hul;generalize d.ruls[i]=r at hg hu;cases x8:Hv r with
  |true=>
   rw[x8,X6 rfl,Xs]at hu;simp only[eZ,seval,W6,eY,lt_T c6,hg,Tr7,s1,Bc,A8,x8,e,h0,tadd];refine .mk ⟨i+1,tk,H,n⟩ ?_ ⟨c6,c8,hn,h0,d6,by simp only[hu];exact d8⟩ zp;simp only[hu]
  |false=>
   rw[x8,X0 zd]at hu;have q1:A6 H 1 tk=True:=W4 d6.app;have q2:((BV (d.ruls.take i)).length<=35184372088831)=True:=W4 zo;have q3:Aj ((BV (d.ruls.take i)).length+1) 8=True:=W4 (AY zo zd);simp only[eZ,seval,W8,eY,lt_T c6,hg,fr1 c8,Tr7,s1,Bc,A8,x8,e,h0,q1,q2,q3,tadd];refine .mk ⟨i+1,.own (n+3) 1,hset (AN H tk) (n+3) .tok,n+5⟩ ?_ ⟨c6,(AT d6 c8).hset (m:=n+5) zo zo,zp,?_,.inr (.inr ⟨n+3,rfl,zo,AB ..⟩),.inl rfl⟩ zp
   ·simp only[hu,X7];rfl
   ·simp only[];rw[AA _ _ _ _ zo,AW d6 (.inr ⟨_,h0⟩)];exact h0
 obtain rfl:i=d.ruls.length:=zo
 rw[Xb]at d8;simp only[eZ,seval,W3,lt_F c6,Xb,h0];exact Wk.sl (d8.imp id λq=>by rw[q];rfl)
end Go.AM
