/-
  Parts of the proof. Conditions: none.
-/
import Derived.Test.YtabcmhkkohbdeaaGreatB9
set_option maxRecDepth 20000
set_option linter.all false
namespace Go.AM
open Go.Lib Go.Proofs Go.Proofs.Tryz
section
abbrev WO(n:Int):Fs:=.ifc 46 (.int .i64 n)
abbrev Ii(l:List Bs):xq:=.map (HW l 0) l.length
def DC(H:AB)(n id:Nat)(pre ns:List Bs):v8->AB->Nat->Prop:=λo H' n'=>
 if Ap (pre++ns)=true then o= .pan (WO 161)/\H'=hset H id .dead/\n'=n else o= .ret (.mp id)/\H'=hset H id (Ii (pre++ns))/\n'=n
def He(H:AB)(id:Nat)(pre ns:List Bs):v8->AB->Nat->Prop:=λo H' n'=>
 if Ap (pre++ns)=true then o= .pan (WO 161)/\(∃ob,AD H' id=some ob)/\Dg id H H' else(∃v,o= .ret v/\Wk v (.mp id))/\AD H' id=some (Ii (pre++ns))/\Dg id H H'
def WP(n:Nat)(l:List Bs):(Ii l).under n:=by
 suffices h:∀(i n c:Nat),(xq.map (HW l i) c).under n from h 0 n l.length
 induction l with
 |nil=>intro i n c;trivial
 |cons x r ih=>intro i n c;exact⟨zt,zt,ih (i+1) n c⟩
variable {H:AB} {f:Int} {pre:List Bs} {n id:Nat}
theorem Ol{H':AB}{ob ob1:xq}(hf:AP H n)(p9:id<n)(h1:AD H' id=some ob1)(hw:ez ob1 ob)(hu:ob.under n)(h2:Dg id H H'):IB n H H' (hset H id ob):=by
 refine⟨λi o ho=>?_,λi hi=>?_⟩
 ·rw[AT]at ho;by_cases e:id=i
  ·subst e;rw[rt rfl]at ho;cases ho;exact⟨p9,⟨_,h1,hw⟩,.inl hu⟩
  ·rw[rj e]at ho;exact⟨hf.lt ho,⟨o,h2 i o (Ne.symm e) ho,ez.refl _⟩,.inr ho⟩
 ·rw[AT];split
  ·exact λh=>by cases h
  ·exact hi
theorem X7(ob:xq):ez ob .dead:=⟨λ_ _ _ _=>zt,λh=>by cases h⟩
theorem DC.of{s9:FuncId}{args:List Fs}{ns:List Bs}(hc:C7 prog s9)(hp:AD H id=some (Ii pre))(h:AP H n->id<n->AV prog s9 args H n (He H id pre ns)):AV prog s9 args H n (DC H n id pre ns):=by
 refine AV.fresh hc λhf=>?_
 have p9:=hf.lt hp;refine AV.forget (h hf p9) ?_;intro o H' n' q;unfold He at q;by_cases ht:Ap (pre++ns)=true
 ·rw[rt ht]at q;obtain⟨rfl,⟨ob,h1⟩,h2⟩:=q;exact⟨.pan (WO 161),hset H id .dead,by unfold DC;rw[rt ht];exact⟨rfl,rfl,rfl⟩,Ol hf p9 h1 (X7 _) zt h2,Wk.refl _,zt⟩
 ·rw[rj ht]at q;obtain⟨⟨v,rfl,hw⟩,h1,h2⟩:=q;exact⟨.ret (.mp id),hset H id (Ii (pre++ns)),by unfold DC;rw[rj ht];exact⟨rfl,rfl,rfl⟩,Ol hf p9 h1 (ez.refl _) (WP n _) h2,hw,p9⟩
structure VIx where
 i:Nat
 H:AB
 n:Nat
structure IIx(H:AB)(n id:Nat)(pre ns:List Bs)(v:VIx):Prop where
 hi:v.i<=ns.length
 hn:n<=v.n
 fr:AP v.H v.n
 hm:AD v.H id=some (Ii (pre++ns.take v.i))
 hk:Dg id H v.H
 tw:Ap (pre++ns.take v.i)=false
theorem Jj{ns:List Bs}{i:Nat}(h:i<ns.length)(wd:ns[i]∈pre++ns.take i):Ap (pre++ns)=true:=by
 have e:pre++ns=(pre++ns.take i)++ns[i]::ns.drop (i+1):=by
  rw[sJ,<-sn h,List.take_append_drop]
 rw[e];exact bk wd
theorem Jk{l:List Bs}{s:Bs}(h:Ap l=false)(hs:s∉l):Ap (l++[s])=false:=Xo.2 ⟨h,hs⟩
theorem p198(x:xv):Aw prog 198 [JF x] (.str x.nm):=by
 refine .mk ⟨ME 0 x,zt⟩ zt (c198.a (AI AH.tnil (AJ ?_)));simp only[eE,eN,seval,c198]
theorem p200(x:xj):Aw prog 200 [Gc x] (.str x.nm):=by
 refine .mk ⟨ES 0 x,zt⟩ zt (c200.a (AI AH.tnil (AJ ?_)));simp only[eE,eN,seval,c200]
theorem p205(x:x8):Aw prog 205 [Cc x] (.str x.nm):=by
 refine .mk ⟨Gd 0 x,zt⟩ zt (c205.a (AI AH.tnil (AJ ?_)));simp only[eE,eN,seval,c205]
theorem p209(x:zj):Aw prog 209 [Br x] (.str x.nm):=by
 refine .mk ⟨BN 0 x,zt⟩ zt (c209.a (AI AH.tnil (AJ ?_)));simp only[eE,eN,seval,c209]
theorem p203(x:Bs):Aw prog 203 [.str x] (.str x):=by
 refine .mk ⟨zt,zt⟩ zt (c203.a (AI AH.tnil (AJ ?_)));simp only[eE,eN,seval,c203]
theorem p202:Aw prog 202 [] (FH CW):=by
 refine .mk zt (CN 0 _) (c202.a (AI AH.tnil (AJ ?_)));simp only[eE,eN,seval,c202];exact Wk.sl (.inl rfl)
def Tx1:Bc:=AG 198 (s1 dSy KR λx=>.str ((λx:xv=>x.nm) x)) tnil
theorem jp:AH prog Tx1:=AH.tnil.add (q1 λx _=>p198 x)
theorem X8{l:List xv}(hl:An l)(wu:pre.length<1000000000)(hf0:f=(pre.length:Int))(hp:AD H id=some (Ii pre))(hd:Ap pre=false):
  AV prog 197 [IW l,.int .i64 f,.fn (.func 198) [] [],.mp id] H n (DC H n id pre (l.map (λx:xv=>x.nm))):=by
 subst hf0;refine DC.of pF.l hp λhf p9=>pF.a (AI jp (AJ ?_))
 have am:l.length<1000000000:=hl;simp only[eE,eN,seval,r9,pF];refine AO (λv:VIx=>⟨[(1,true,.int .i64 pre.length),(2,true,.fn (.func 198) [] []),(3,true,.mp id),(13,true,IW l),(14,true,.int .i64 l.length),(15,true,.int .i64 v.i)],v.H,v.n⟩) (IIx H n id pre (l.map (λx:xv=>x.nm))) (λv=>l.length-v.i)
  ⟨0,H,n⟩ rfl ⟨rm _,rq _,hf,by rw[tX,sE];exact hp,Dg.refl _,by rw[tX,sE];exact hd⟩ ?_
 rintro⟨i,H1,n1⟩ hI;have hi:=hI.hi;have hn:=hI.hn;have l7:=hI.fr;have hm:=hI.hm;have hk:=hI.hk;have xh:=hI.tw;simp only[r9]at hi hn l7 hm hk xh;by_cases c9:i<l.length
 ·have wy:i<(l.map (λx:xv=>x.nm)).length:=by rw[r9];exact c9
  have hg:=rc c9;have yb:(l.map (λx:xv=>x.nm))[i]=(λx:xv=>x.nm) l[i]:=vo ..;have e:=AK (k:=i) zo;have l5:(l.map (λx:xv=>x.nm)).take (i+1)=(l.map (λx:xv=>x.nm)).take i++[(λx:xv=>x.nm) l[i]]:=by rw[sf,rc wy,yb];rfl
  have wr:(pre++(l.map (λx:xv=>x.nm)).take i).length=pre.length+i:=by rw[sm,sD,r9];omega
  have ew:IntKind.wrap .i64 ((pre.length:Int)+(i:Int))=((pre.length+i:Nat):Int):=by rw[A6 zo zo];omega
  have y1:∀k,(n1+k=id)=False:=λk=>ri zo
  have y2:∀k,(id=n1+k)=False:=λk=>ri zo
  have wd:=λq=>Jj (pre:=pre) wy (by rw[yb];exact q)
  generalize hx:l[i]=x at hg yb l5 wd;have xd:=GI (pre++(l.map (λx:xv=>x.nm)).take i) ((λx:xv=>x.nm) x);cases s8:BY (pre++(l.map (λx:xv=>x.nm)).take i) ((λx:xv=>x.nm) x)with
  |some k=>
   have htt:Ap (pre++l.map (λx:xv=>x.nm))=true:=wd (by
    apply Classical.byContradiction;intro q;rw[Cn.2 q]at s8;cases s8)
   rw[s8,sU]at xd;simp only[eZ,seval,xE,eY,W6,AN c9,hg,Tx1,s1,bh,WI,hm,xd,E9,KT.is,C9,Bq l7,y1,AQ,AG];unfold He;rw[rt htt];refine⟨rfl,⟨Ii (pre++(l.map (λx:xv=>x.nm)).take i),?_⟩,?_⟩
   ·rw[AA _ _ _ _ zo];exact hm
   ·exact hk.new hf zo
  |none=>
   rw[s8,tR]at xd;have xm:=N2 s8;rw[wr]at xm;simp only[eZ,seval,xE,eY,AN c9,hg,Tx1,s1,bh,WI,hm,xd,E9,KT.is,C9,Bq l7,y1,e,ew,wr,xm,AQ,AG];refine .mk ⟨i+1,hset (hset H1 (n1+3) (.box (JF x).cells)) id (.map (HW (pre++(l.map (λx:xv=>x.nm)).take i++[(λx:xv=>x.nm) x]) 0) (pre.length+(i+1))),n1+6⟩ rfl ⟨by simp only[r9];omega,zp,?_,?_,?_,?_⟩ zp
   ·exact(l7.hset (m:=n1+6) zo zo).hset (rq (n1+6)) (show id<n1+6 by omega)
   ·simp only[];rw[AC,l5,<-sJ,Ii,sm,wr];rfl
   ·exact(hk.new hf zo).set
   ·simp only[];rw[l5,<-sJ];exact Jk xh (Cn.1 s8)
 have w9:i=l.length:=zo
 subst w9;have ya:(l.map (λx:xv=>x.nm)).take l.length=l.map (λx:xv=>x.nm):=sQ (by rw[r9];omega);rw[ya]at hm xh;simp only[eZ,seval,Ad c9];unfold He;rw[xh,rj zd];exact⟨⟨_,rfl,Wk.refl _⟩,hm,hk⟩
def Tx2:Bc:=AG 200 (s1 qf KR λx=>.str ((λx:xj=>x.nm) x)) tnil
theorem jq:AH prog Tx2:=AH.tnil.add (q1 λx _=>p200 x)
theorem X9{l:List xj}(hl:An l)(wu:pre.length<1000000000)(hf0:f=(pre.length:Int))(hp:AD H id=some (Ii pre))(hd:Ap pre=false):
  AV prog 199 [HP l,.int .i64 f,.fn (.func 200) [] [],.mp id] H n (DC H n id pre (l.map (λx:xj=>x.nm))):=by
 subst hf0;refine DC.of pG.l hp λhf p9=>pG.a (AI jq (AJ ?_))
 have am:l.length<1000000000:=hl;simp only[eE,eN,seval,r9,pG];refine AO (λv:VIx=>⟨[(1,true,.int .i64 pre.length),(2,true,.fn (.func 200) [] []),(3,true,.mp id),(13,true,HP l),(14,true,.int .i64 l.length),(15,true,.int .i64 v.i)],v.H,v.n⟩) (IIx H n id pre (l.map (λx:xj=>x.nm))) (λv=>l.length-v.i)
  ⟨0,H,n⟩ rfl ⟨rm _,rq _,hf,by rw[tX,sE];exact hp,Dg.refl _,by rw[tX,sE];exact hd⟩ ?_
 rintro⟨i,H1,n1⟩ hI;have hi:=hI.hi;have hn:=hI.hn;have l7:=hI.fr;have hm:=hI.hm;have hk:=hI.hk;have xh:=hI.tw;simp only[r9]at hi hn l7 hm hk xh;by_cases c9:i<l.length
 ·have wy:i<(l.map (λx:xj=>x.nm)).length:=by rw[r9];exact c9
  have hg:=rc c9;have yb:(l.map (λx:xj=>x.nm))[i]=(λx:xj=>x.nm) l[i]:=vo ..;have e:=AK (k:=i) zo;have l5:(l.map (λx:xj=>x.nm)).take (i+1)=(l.map (λx:xj=>x.nm)).take i++[(λx:xj=>x.nm) l[i]]:=by rw[sf,rc wy,yb];rfl
  have wr:(pre++(l.map (λx:xj=>x.nm)).take i).length=pre.length+i:=by rw[sm,sD,r9];omega
  have ew:IntKind.wrap .i64 ((pre.length:Int)+(i:Int))=((pre.length+i:Nat):Int):=by rw[A6 zo zo];omega
  have y1:∀k,(n1+k=id)=False:=λk=>ri zo
  have y2:∀k,(id=n1+k)=False:=λk=>ri zo
  have wd:=λq=>Jj (pre:=pre) wy (by rw[yb];exact q)
  generalize hx:l[i]=x at hg yb l5 wd;have xd:=GI (pre++(l.map (λx:xj=>x.nm)).take i) ((λx:xj=>x.nm) x);cases s8:BY (pre++(l.map (λx:xj=>x.nm)).take i) ((λx:xj=>x.nm) x)with
  |some k=>
   have htt:Ap (pre++l.map (λx:xj=>x.nm))=true:=wd (by
    apply Classical.byContradiction;intro q;rw[Cn.2 q]at s8;cases s8)
   rw[s8,sU]at xd;simp only[eZ,seval,xE,eY,W6,AN c9,hg,Tx2,s1,LO,Iu,hm,xd,E9,KT.is,C9,Bq l7,y1,AQ,AG];unfold He;rw[rt htt];refine⟨rfl,⟨Ii (pre++(l.map (λx:xj=>x.nm)).take i),?_⟩,?_⟩
   ·rw[AA _ _ _ _ zo];exact hm
   ·exact hk.new hf zo
  |none=>
   rw[s8,tR]at xd;have xm:=N2 s8;rw[wr]at xm;simp only[eZ,seval,xE,eY,AN c9,hg,Tx2,s1,LO,Iu,hm,xd,E9,KT.is,C9,Bq l7,y1,e,ew,wr,xm,AQ,AG];refine .mk ⟨i+1,hset (hset H1 (n1+3) (.box (Gc x).cells)) id (.map (HW (pre++(l.map (λx:xj=>x.nm)).take i++[(λx:xj=>x.nm) x]) 0) (pre.length+(i+1))),n1+6⟩ rfl ⟨by simp only[r9];omega,zp,?_,?_,?_,?_⟩ zp
   ·exact(l7.hset (m:=n1+6) zo zo).hset (rq (n1+6)) (show id<n1+6 by omega)
   ·simp only[];rw[AC,l5,<-sJ,Ii,sm,wr];rfl
   ·exact(hk.new hf zo).set
   ·simp only[];rw[l5,<-sJ];exact Jk xh (Cn.1 s8)
 have w9:i=l.length:=zo
 subst w9;have ya:(l.map (λx:xj=>x.nm)).take l.length=l.map (λx:xj=>x.nm):=sQ (by rw[r9];omega);rw[ya]at hm xh;simp only[eZ,seval,Ad c9];unfold He;rw[xh,rj zd];exact⟨⟨_,rfl,Wk.refl _⟩,hm,hk⟩
def Tx3:Bc:=AG 203 (s1 dS KR λx=>.str ((λx:Bs=>x) x)) tnil
theorem jr:AH prog Tx3:=AH.tnil.add (q1 λx _=>p203 x)
theorem cd{l:List Bs}(hl:An l)(wu:pre.length<1000000000)(hf0:f=(pre.length:Int))(hp:AD H id=some (Ii pre))(hd:Ap pre=false):
  AV prog 201 [FH l,.int .i64 f,.fn (.func 203) [] [],.mp id] H n (DC H n id pre (l.map (λx:Bs=>x))):=by
 subst hf0;refine DC.of pH.l hp λhf p9=>pH.a (AI jr (AJ ?_))
 have am:l.length<1000000000:=hl;simp only[eE,eN,seval,r9,pH];refine AO (λv:VIx=>⟨[(1,true,.int .i64 pre.length),(2,true,.fn (.func 203) [] []),(3,true,.mp id),(13,true,FH l),(14,true,.int .i64 l.length),(15,true,.int .i64 v.i)],v.H,v.n⟩) (IIx H n id pre (l.map (λx:Bs=>x))) (λv=>l.length-v.i)
  ⟨0,H,n⟩ rfl ⟨rm _,rq _,hf,by rw[tX,sE];exact hp,Dg.refl _,by rw[tX,sE];exact hd⟩ ?_
 rintro⟨i,H1,n1⟩ hI;have hi:=hI.hi;have hn:=hI.hn;have l7:=hI.fr;have hm:=hI.hm;have hk:=hI.hk;have xh:=hI.tw;simp only[r9]at hi hn l7 hm hk xh;by_cases c9:i<l.length
 ·have wy:i<(l.map (λx:Bs=>x)).length:=by rw[r9];exact c9
  have hg:=rc c9;have yb:(l.map (λx:Bs=>x))[i]=(λx:Bs=>x) l[i]:=vo ..;have e:=AK (k:=i) zo;have l5:(l.map (λx:Bs=>x)).take (i+1)=(l.map (λx:Bs=>x)).take i++[(λx:Bs=>x) l[i]]:=by rw[sf,rc wy,yb];rfl
  have wr:(pre++(l.map (λx:Bs=>x)).take i).length=pre.length+i:=by rw[sm,sD,r9];omega
  have ew:IntKind.wrap .i64 ((pre.length:Int)+(i:Int))=((pre.length+i:Nat):Int):=by rw[A6 zo zo];omega
  have y1:∀k,(n1+k=id)=False:=λk=>ri zo
  have y2:∀k,(id=n1+k)=False:=λk=>ri zo
  have wd:=λq=>Jj (pre:=pre) wy (by rw[yb];exact q)
  generalize hx:l[i]=x at hg yb l5 wd;have xd:=GI (pre++(l.map (λx:Bs=>x)).take i) ((λx:Bs=>x) x);cases s8:BY (pre++(l.map (λx:Bs=>x)).take i) ((λx:Bs=>x) x)with
  |some k=>
   have htt:Ap (pre++l.map (λx:Bs=>x))=true:=wd (by
    apply Classical.byContradiction;intro q;rw[Cn.2 q]at s8;cases s8)
   rw[s8,sU]at xd;simp only[eZ,seval,xE,eY,W6,AN c9,hg,Tx3,s1,Ho,Fb,hm,xd,E9,KT.is,C9,AG];unfold He;rw[rt htt];refine⟨rfl,⟨Ii (pre++(l.map (λx:Bs=>x)).take i),?_⟩,?_⟩
   ·exact hm
   ·exact hk
  |none=>
   rw[s8,tR]at xd;have xm:=N2 s8;rw[wr]at xm;simp only[eZ,seval,xE,eY,AN c9,hg,Tx3,s1,Ho,Fb,hm,xd,E9,KT.is,C9,e,ew,wr,xm,AG];refine .mk ⟨i+1,hset H1 id (.map (HW (pre++(l.map (λx:Bs=>x)).take i++[(λx:Bs=>x) x]) 0) (pre.length+(i+1))),n1⟩ rfl ⟨by simp only[r9];omega,zp,?_,?_,?_,?_⟩ zp
   ·exact l7.hset (m:=n1) (rq _) zo
   ·simp only[];rw[AC,l5,<-sJ,Ii,sm,wr];rfl
   ·exact hk.set
   ·simp only[];rw[l5,<-sJ];exact Jk xh (Cn.1 s8)
 have w9:i=l.length:=zo
 subst w9;have ya:(l.map (λx:Bs=>x)).take l.length=l.map (λx:Bs=>x):=sQ (by rw[r9];omega);rw[ya]at hm xh;simp only[eZ,seval,Ad c9];unfold He;rw[xh,rj zd];exact⟨⟨_,rfl,Wk.refl _⟩,hm,hk⟩
def Tx4:Bc:=AG 205 (s1 dCl KR λx=>.str ((λx:x8=>x.nm) x)) tnil
theorem js:AH prog Tx4:=AH.tnil.add (q1 λx _=>p205 x)
theorem YA{l:List x8}(hl:An l)(wu:pre.length<1000000000)(hf0:f=(pre.length:Int))(hp:AD H id=some (Ii pre))(hd:Ap pre=false):
  AV prog 204 [E6 l,.int .i64 f,.fn (.func 205) [] [],.mp id] H n (DC H n id pre (l.map (λx:x8=>x.nm))):=by
 subst hf0;refine DC.of pI.l hp λhf p9=>pI.a (AI js (AJ ?_))
 have am:l.length<1000000000:=hl;simp only[eE,eN,seval,r9,pI];refine AO (λv:VIx=>⟨[(1,true,.int .i64 pre.length),(2,true,.fn (.func 205) [] []),(3,true,.mp id),(13,true,E6 l),(14,true,.int .i64 l.length),(15,true,.int .i64 v.i)],v.H,v.n⟩) (IIx H n id pre (l.map (λx:x8=>x.nm))) (λv=>l.length-v.i)
  ⟨0,H,n⟩ rfl ⟨rm _,rq _,hf,by rw[tX,sE];exact hp,Dg.refl _,by rw[tX,sE];exact hd⟩ ?_
 rintro⟨i,H1,n1⟩ hI;have hi:=hI.hi;have hn:=hI.hn;have l7:=hI.fr;have hm:=hI.hm;have hk:=hI.hk;have xh:=hI.tw;simp only[r9]at hi hn l7 hm hk xh;by_cases c9:i<l.length
 ·have wy:i<(l.map (λx:x8=>x.nm)).length:=by rw[r9];exact c9
  have hg:=rc c9;have yb:(l.map (λx:x8=>x.nm))[i]=(λx:x8=>x.nm) l[i]:=vo ..;have e:=AK (k:=i) zo;have l5:(l.map (λx:x8=>x.nm)).take (i+1)=(l.map (λx:x8=>x.nm)).take i++[(λx:x8=>x.nm) l[i]]:=by rw[sf,rc wy,yb];rfl
  have wr:(pre++(l.map (λx:x8=>x.nm)).take i).length=pre.length+i:=by rw[sm,sD,r9];omega
  have ew:IntKind.wrap .i64 ((pre.length:Int)+(i:Int))=((pre.length+i:Nat):Int):=by rw[A6 zo zo];omega
  have y1:∀k,(n1+k=id)=False:=λk=>ri zo
  have y2:∀k,(id=n1+k)=False:=λk=>ri zo
  have wd:=λq=>Jj (pre:=pre) wy (by rw[yb];exact q)
  generalize hx:l[i]=x at hg yb l5 wd;have xd:=GI (pre++(l.map (λx:x8=>x.nm)).take i) ((λx:x8=>x.nm) x);cases s8:BY (pre++(l.map (λx:x8=>x.nm)).take i) ((λx:x8=>x.nm) x)with
  |some k=>
   have htt:Ap (pre++l.map (λx:x8=>x.nm))=true:=wd (by
    apply Classical.byContradiction;intro q;rw[Cn.2 q]at s8;cases s8)
   rw[s8,sU]at xd;simp only[eZ,seval,xE,eY,W6,AN c9,hg,Tx4,s1,Jc,HT,hm,xd,E9,KT.is,C9,Bq l7,y1,AQ,AG];unfold He;rw[rt htt];refine⟨rfl,⟨Ii (pre++(l.map (λx:x8=>x.nm)).take i),?_⟩,?_⟩
   ·rw[AA _ _ _ _ zo];exact hm
   ·exact hk.new hf zo
  |none=>
   rw[s8,tR]at xd;have xm:=N2 s8;rw[wr]at xm;simp only[eZ,seval,xE,eY,AN c9,hg,Tx4,s1,Jc,HT,hm,xd,E9,KT.is,C9,Bq l7,y1,e,ew,wr,xm,AQ,AG];refine .mk ⟨i+1,hset (hset H1 (n1+3) (.box (Cc x).cells)) id (.map (HW (pre++(l.map (λx:x8=>x.nm)).take i++[(λx:x8=>x.nm) x]) 0) (pre.length+(i+1))),n1+6⟩ rfl ⟨by simp only[r9];omega,zp,?_,?_,?_,?_⟩ zp
   ·exact(l7.hset (m:=n1+6) zo zo).hset (rq (n1+6)) (show id<n1+6 by omega)
   ·simp only[];rw[AC,l5,<-sJ,Ii,sm,wr];rfl
   ·exact(hk.new hf zo).set
   ·simp only[];rw[l5,<-sJ];exact Jk xh (Cn.1 s8)
 have w9:i=l.length:=zo
 subst w9;have ya:(l.map (λx:x8=>x.nm)).take l.length=l.map (λx:x8=>x.nm):=sQ (by rw[r9];omega);rw[ya]at hm xh;simp only[eZ,seval,Ad c9];unfold He;rw[xh,rj zd];exact⟨⟨_,rfl,Wk.refl _⟩,hm,hk⟩
def Tx5:Bc:=AG 209 (s1 Mk KR λx=>.str ((λx:zj=>x.nm) x)) tnil
theorem jt:AH prog Tx5:=AH.tnil.add (q1 λx _=>p209 x)
theorem YB{l:List zj}(hl:An l)(wu:pre.length<1000000000)(hf0:f=(pre.length:Int))(hp:AD H id=some (Ii pre))(hd:Ap pre=false):
  AV prog 208 [Dr l,.int .i64 f,.fn (.func 209) [] [],.mp id] H n (DC H n id pre (l.map (λx:zj=>x.nm))):=by
 subst hf0;refine DC.of pJ.l hp λhf p9=>pJ.a (AI jt (AJ ?_))
 have am:l.length<1000000000:=hl;simp only[eE,eN,seval,r9,pJ];refine AO (λv:VIx=>⟨[(1,true,.int .i64 pre.length),(2,true,.fn (.func 209) [] []),(3,true,.mp id),(13,true,Dr l),(14,true,.int .i64 l.length),(15,true,.int .i64 v.i)],v.H,v.n⟩) (IIx H n id pre (l.map (λx:zj=>x.nm))) (λv=>l.length-v.i)
  ⟨0,H,n⟩ rfl ⟨rm _,rq _,hf,by rw[tX,sE];exact hp,Dg.refl _,by rw[tX,sE];exact hd⟩ ?_
 rintro⟨i,H1,n1⟩ hI;have hi:=hI.hi;have hn:=hI.hn;have l7:=hI.fr;have hm:=hI.hm;have hk:=hI.hk;have xh:=hI.tw;simp only[r9]at hi hn l7 hm hk xh;by_cases c9:i<l.length
 ·have wy:i<(l.map (λx:zj=>x.nm)).length:=by rw[r9];exact c9
  have hg:=rc c9;have yb:(l.map (λx:zj=>x.nm))[i]=(λx:zj=>x.nm) l[i]:=vo ..;have e:=AK (k:=i) zo;have l5:(l.map (λx:zj=>x.nm)).take (i+1)=(l.map (λx:zj=>x.nm)).take i++[(λx:zj=>x.nm) l[i]]:=by rw[sf,rc wy,yb];rfl
  have wr:(pre++(l.map (λx:zj=>x.nm)).take i).length=pre.length+i:=by rw[sm,sD,r9];omega
  have ew:IntKind.wrap .i64 ((pre.length:Int)+(i:Int))=((pre.length+i:Nat):Int):=by rw[A6 zo zo];omega
  have y1:∀k,(n1+k=id)=False:=λk=>ri zo
  have y2:∀k,(id=n1+k)=False:=λk=>ri zo
  have wd:=λq=>Jj (pre:=pre) wy (by rw[yb];exact q)
  generalize hx:l[i]=x at hg yb l5 wd;have xd:=GI (pre++(l.map (λx:zj=>x.nm)).take i) ((λx:zj=>x.nm) x);cases s8:BY (pre++(l.map (λx:zj=>x.nm)).take i) ((λx:zj=>x.nm) x)with
  |some k=>
   have htt:Ap (pre++l.map (λx:zj=>x.nm))=true:=wd (by
    apply Classical.byContradiction;intro q;rw[Cn.2 q]at s8;cases s8)
   rw[s8,sU]at xd;simp only[eZ,seval,xE,eY,W6,AN c9,hg,Tx5,s1,CA,Bg,hm,xd,E9,KT.is,C9,Bq l7,y1,AQ,AG];unfold He;rw[rt htt];refine⟨rfl,⟨Ii (pre++(l.map (λx:zj=>x.nm)).take i),?_⟩,?_⟩
   ·rw[AA _ _ _ _ zo];exact hm
   ·exact hk.new hf zo
  |none=>
   rw[s8,tR]at xd;have xm:=N2 s8;rw[wr]at xm;simp only[eZ,seval,xE,eY,AN c9,hg,Tx5,s1,CA,Bg,hm,xd,E9,KT.is,C9,Bq l7,y1,e,ew,wr,xm,AQ,AG];refine .mk ⟨i+1,hset (hset H1 (n1+3) (.box (Br x).cells)) id (.map (HW (pre++(l.map (λx:zj=>x.nm)).take i++[(λx:zj=>x.nm) x]) 0) (pre.length+(i+1))),n1+6⟩ rfl ⟨by simp only[r9];omega,zp,?_,?_,?_,?_⟩ zp
   ·exact(l7.hset (m:=n1+6) zo zo).hset (rq (n1+6)) (show id<n1+6 by omega)
   ·simp only[];rw[AC,l5,<-sJ,Ii,sm,wr];rfl
   ·exact(hk.new hf zo).set
   ·simp only[];rw[l5,<-sJ];exact Jk xh (Cn.1 s8)
 have w9:i=l.length:=zo
 subst w9;have ya:(l.map (λx:zj=>x.nm)).take l.length=l.map (λx:zj=>x.nm):=sQ (by rw[r9];omega);rw[ya]at hm xh;simp only[eZ,seval,Ad c9];unfold He;rw[xh,rj zd];exact⟨⟨_,rfl,Wk.refl _⟩,hm,hk⟩
end
section
def iU(H:AB)(n:Nat)(r:Option Int):v8->AB->Nat->Prop:=λo H' n'=>H'=H/\n'=n/\match r with
 |some k=>o= .ret (.int .i64 k)
 |none=>o= .pan (WO 160)
variable {l:List Bs}
theorem Mm{H:AB}{n id:Nat}{s:Bs}(hp:AD H id=some (Ii l)):AV prog 207 [.mp id,.str s] H n (iU H n (BY l s)):=by
 refine pK.a (AI AH.tnil (AJ ?_));have hf:=GI l s;cases s8:BY l s with
 |some k=>
  rw[s8,sU]at hf;simp only[eZ,seval,re,xE,eY,pK,hp,hf,E9,KT.is,C9];exact⟨rfl,rfl,rfl⟩
 |none=>
  rw[s8,tR]at hf;simp only[eZ,seval,rf,xE,eY,W6,pK,hp,hf,E9,KT.is,C9];exact⟨rfl,rfl,rfl⟩
theorem YC{a b:Nat}(ha:a<65536)(hb:b<65536):Z2 .or .i64 (a:Int) (b:Int)=((a|||b:Nat):Int):=by
 have wv:a|||b<65536:=Nat.or_lt_two_pow (n:=16) ha hb
 have e:∀x:Nat,BitVec.ofInt 64 (x:Int)=BitVec.ofNat 64 x:=λx=>by
  apply BitVec.eq_of_toNat_eq;simp [BitVec.toNat_ofNat]
 show IntKind.wrap .i64 ((BitVec.ofInt 64 (a:Int)|||BitVec.ofInt 64 (b:Int)).toNat:Int)=_;rw[e,e,BitVec.toNat_or,BitVec.toNat_ofNat,BitVec.toNat_ofNat,Nat.mod_eq_of_lt zo,Nat.mod_eq_of_lt zo,A6 zo zo]
theorem Ux{j:Nat}(h:j<16):K1 .shl .i64 1 (j:Int)=((1<<<j:Nat):Int):=by
 have h2:2^j<65536:=Nat.pow_lt_pow_right zd (show j<16 from h);show IntKind.wrap .i64 (1*2^(min (j:Int).toNat 64))=_;rw[Int.one_mul,rr,Nat.min_eq_left zo,Nat.shiftLeft_eq,Nat.one_mul];have e:((2:Int)^j)=((2^j:Nat):Int):=by rw[Int.natCast_pow];rfl
 rw[e];generalize 2^j=p at h2;exact A6 zo zo
theorem P8{j:Nat}(h:j<16):1<<<j<65536:=by
 rw[Nat.shiftLeft_eq,Nat.one_mul];exact Nat.pow_lt_pow_right zd (show j<16 from h)
def Fy(l:List Bs)(acc:Nat)(ss:List Bs):Option Int:=(Cy l ss).map λk=>((acc|||k.toNat:Nat):Int)
theorem Mn(l:List Bs)(acc:Nat):Fy l acc []=some (acc:Int):=by simp [Fy,Cy]
theorem Lc{acc:Nat}{s:Bs}{r:List Bs}:Fy l acc (s::r)=match BY l s with
  |none=>none
  |some j=>Fy l (acc|||1<<<j.toNat) r:=by
 unfold Fy;rw[Nx,BY];cases l.findIdx? λx=>decide (x=s)with
 |none=>rfl
 |some i=>
  simp only[sU,rr];cases Cy l r with
  |none=>rfl
  |some n=>
   simp only[sU,Option.some.injEq];congr 1;show acc|||(Int.ofNat (Nat.lor (1<<<i) n.toNat)).toNat=_
   rw[Nat.or_assoc];rfl
theorem RP(l ss:List Bs):Fy l 0 ss=Cy l ss:=by
 unfold Fy;rw[Um];cases Aq (λs=>l.findIdx? λx=>decide (x=s)) ss with
 |none=>rfl
 |some is=>simp
theorem Uy{H:AB}{n id sid:Nat}{ss:List Bs}(hl:l.length<=16)(xn:wide ss)(hs:AD H sid=some (.box [.mp id]))(hp:AD H id=some (Ii l)):AV prog 211 [FH ss,.ptr sid 0] H n (iU H n (Cy l ss)):=by
 refine c211.a (AI AH.tnil (AJ ?_));have ye:ss.length<1125899906842624:=xn;rw[<-RP];simp only[eE,eN,seval,r9,c211];refine AO (λv:Nat×Nat=>⟨[(1,true,.ptr sid 0),(3,true,.int .i64 v.2),(6,true,FH ss),(7,true,.int .i64 ss.length),(8,true,.int .i64 v.1)],H,n⟩) (λv=>v.1<=ss.length/\v.2<65536/\Fy l 0 ss=Fy l v.2 (ss.drop v.1)) (λv=>ss.length-v.1) (0,0) rfl ⟨rm _,zd,rfl⟩ ?_;rintro⟨i,acc⟩ ⟨hi,yg,heq⟩;simp only at hi yg heq;by_cases c9:i<ss.length
 ·have hg:=rc c9;have e:=AK (k:=i) zo;rw[sn c9,Lc]at heq;generalize ss[i]=s at hg heq;simp only[eZ,seval,eY,AN c9,hg,hs];refine(Mm hp).mono λo H' n' hq=>?_
  obtain⟨rfl,rfl,hq⟩:=hq;cases s8:BY l s with
  |none=>
   rw[s8]at hq heq;subst hq;simp only at heq;rw[heq];simp only[eE,eN,BV];exact⟨rfl,rfl,rfl⟩
  |some k=>
   rw[s8]at hq heq;subst hq;simp only at heq;obtain⟨h0,h1⟩:=P0 s8;obtain⟨j,rfl⟩:∃j:Nat,k=j:=⟨k.toNat,zo⟩;rw[rr]at heq;simp only[eE,eN,seval,ry,BV,Ux (show j<16 by omega),YC yg (P8 (show j<16 by omega)),e];exact .mk (i+1,acc|||1<<<j) rfl ⟨c9,Nat.or_lt_two_pow (n:=16) yg (P8 zo),heq⟩ zp
 obtain rfl:i=ss.length:=zo
 rw[sK,Mn]at heq;rw[heq];simp only[eZ,seval,Ad c9];exact⟨rfl,rfl,rfl⟩
end
abbrev I4:List Fs:=[.str [],.int .i64 0,.int .i64 0,.int .i64 0,.int .i64 0,.sl .nil [],.sl .nil [],.sl .nil [],.sl .nil [],.sl .nil []]
def d_rn{H:AB}{n i0 i1:Nat}:EG prog 196 [.ptr i0 0,.ptr i1 0] .nilifc H n (λH' n'=>H'=H/\n'=n):=by
 refine a196 (AI AH.tnil (AJ ?_));simp only[eZ,seval,re,xE,gD]
def d_rp{H:AB}{n:Nat}{xs:List Fs}{y:Fs}{p:Int}(h0:AD H 1=some (.box xs))(hx:xs.length=10)(h1:AD H 2=some (.box [y])):
  EG prog 196 [.ptr 1 0,.ptr 2 0] (WO p) H n (λH' n'=>AD H' 1=some (.box I4)/\AD H' 2=some (.box [.int .i64 p])):=by
 refine a196 (AI AH.tnil (AJ ?_));obtain⟨a,b,c,d,e,f,g,h,i,j,rfl⟩:∃a b c d e f g h i j,xs=[a,b,c,d,e,f,g,h,i,j]:=by
  match xs,hx with
  |[a,b,c,d,e,f,g,h,i,j],_=>exact⟨a,b,c,d,e,f,g,h,i,j,rfl⟩
 simp only[eZ,seval,xE,gD,h0,h1]
section
def Cf(d:xk):Fs:=match CJ d with
 | .error e=>.tup [B5 KW,.int .i64 e]
 | .ok x=>.tup [B5 x,.int .i64 0]
abbrev DT(d:xk)(vc vr:Fs):List Fs:=[.str d.nm,.int .i64 d.ver,.int .i64 d.sh,.int .i64 d.w,.int .i64 d.h,Am d.holes,IW d.syms,HP d.regs,vc,vr]
def RR(d:xk):v8->AB->Nat->Prop:=λo H' n'=>match CJ d with
 | .error e=>∃v,o= .ret v/\Wk v (.tup [B5 KW,.int .i64 e])
 | .ok x=>∃vc vr,o= .ret (.tup [.agg (DT d vc vr),.int .i64 0])/\LV 6 vc H' (x.clus.map Cc)/\LV 12 vr H' (x.ruls.map Br)/\(∀i a b c e j f g h k,vc= .ref i a b c e->vr= .ref j f g h k->i≠j)
def Tnr:Bc:=AG 202 (λa _=>match a with
 |[]=>(True,FH CW)
 |_=>(False,.tup [])) tnil
def YD:AH prog Tnr:=AH.tnil.add λargs H n h=>by
 cases args with
 |nil=>exact p202.quiet H n
 |cons _ _=>exact h.elim
abbrev rsR:List RC:=[.c 2 10 true,.c 3 1 false]
abbrev envR:List (Nat×Bool×Fs):=[(1,true,.ptr 0 0),(2,true,.ptr 1 0),(3,true,.ptr 2 0)]
abbrev argsR:List Fs:=[.ptr 1 0,.ptr 2 0]
def cf:z8->z8
 | .seq a _=>a
 |c=>c
def TN:z8->z8
 | .seq _ b=>b
 |c=>c
def Mo:Nat->z8->z8
 |0,c=>c
 |k+1,c=>Mo k (TN c)
abbrev QR(d:xk):x6->AS->Prop:=jY prog 196 argsR rsR envR (RR d)
variable {xs:List Fs}
theorem ten(h:xs.length=10):∃a b c d e f g h i j,xs=[a,b,c,d,e,f,g,h,i,j]:=by
 match xs,h with
 |[a,b,c,d,e,f,g,h,i,j],_=>exact⟨a,b,c,d,e,f,g,h,i,j,rfl⟩
theorem D6{d:xk}{H:AB}{m:Nat}{y:Fs}{p:Int}(h1:AD H 1=some (.box xs))(hx:xs.length=10)(h2:AD H 2=some (.box [y]))(hr:CJ d= .error p):QR d (.pan (WO p)) ⟨[],H,m⟩:=by
 refine EG.mono (d_rp h1 hx h2) ?_;rintro H2 n2 ⟨k1,k2⟩;unfold Xg;simp only[eE,seval,BG,k1,k2];unfold RR;rw[hr];exact⟨_,rfl,Wk.tup (.cons (Wk.agg (.cons (Wk.refl _) (.cons (Wk.refl _) (.cons (Wk.refl _) (.cons (Wk.refl _) (.cons (Wk.refl _) (.cons (Wk.sl (.inr rfl)) (.cons (Wk.sl (.inr rfl)) (.cons (Wk.sl (.inr rfl)) (.cons (Wk.sl (.inr rfl)) (.cons (Wk.sl (.inr rfl)) .nil))))))))))) (.cons (Wk.refl _) .nil))⟩
theorem Uz{d:xk}{env:List (Nat×Bool×Fs)}{H:AB}{m:Nat}{y:Fs}(h1:AD H 1=some (.box xs))(hx:xs.length=10)(h2:AD H 2=some (.box [y]))(hr:RR d (.ret (.tup [.agg xs,y])) H m):QR d .ret ⟨env,H,m⟩:=by
 refine EG.mono d_rn ?_;rintro H2 n2 ⟨rfl,rfl⟩;obtain⟨a,b,c,d,e,f,g,h,i,j,rfl⟩:=ten hx;unfold Xg;simp only[eE,seval,BG,h1,h2];exact hr
end
section
structure NM(d:xk)(vc vr:Fs)(H:AB):Prop where
 h0:AD H 0=some (.box (DT d vc vr))
 h1:AD H 1=some (.box I4)
 h2:AD H 2=some (.box [.int .i64 0])
 h5:AD H 5=some (Ii (d.syms.map λx:xv=>x.nm))
 h7:AD H 7=some (.box [.mp 5])
 h12:AD H 12=some (Ii (By d))
 h18:AD H 18=some (Ii (d.clus.map λx:x8=>x.nm))
def ju(i:Nat):Prop:=i≠0/\i≠1/\i≠2/\i≠5/\i≠7/\i≠12/\i≠18
variable {H:AB} {vc vr:Fs} {d:xk} {i e:Nat}
theorem NM.set{ob:xq}(h:NM d vc vr H)(hi:ju i):NM d vc vr (hset H i ob):=by
 obtain⟨a,b,c,e,f,g,k⟩:=hi;exact⟨by rw[AA _ _ _ _ a];exact h.h0,by rw[AA _ _ _ _ b];exact h.h1,by rw[AA _ _ _ _ c];exact h.h2,by rw[AA _ _ _ _ e];exact h.h5,by rw[AA _ _ _ _ f];exact h.h7,by rw[AA _ _ _ _ g];exact h.h12,by rw[AA _ _ _ _ k];exact h.h18⟩
theorem NM.put{vc' vr':Fs}(h:NM d vc vr H):NM d vc' vr' (hset H 0 (.box (DT d vc' vr'))):=
 ⟨AC ..,by rw[AA _ _ _ _ zd];exact h.h1,by rw[AA _ _ _ _ zd];exact h.h2,by rw[AA _ _ _ _ zd];exact h.h5,by rw[AA _ _ _ _ zd];exact h.h7,by rw[AA _ _ _ _ zd];exact h.h12,by rw[AA _ _ _ _ zd];exact h.h18⟩
theorem NM.ne{id:Nat}{A:List Fs}(so:NM d vc vr H)(ho:AD H id=some (.arr e A)):ju id:=by
 refine⟨?_,?_,?_,?_,?_,?_,?_⟩<;>rintro rfl
 ·rw[so.h0]at ho;cases ho
 ·rw[so.h1]at ho;cases ho
 ·rw[so.h2]at ho;cases ho
 ·rw[so.h5]at ho;cases ho
 ·rw[so.h7]at ho;cases ho
 ·rw[so.h12]at ho;cases ho
 ·rw[so.h18]at ho;cases ho
theorem P9(h:21<=i):ju i:=⟨zo,zo,zo,zo,zo,zo,zo⟩
theorem EX{α β:Type}(f:α->Option β)(x:α)(r:List α):Aq f (x::r)=(match f x with
  |some y=>(Aq f r).map λs=>y::s
  |none=>none):=by
 simp only[Aq];cases f x with
 |none=>rfl
 |some y=>cases Aq f r<;>rfl
structure VRl where
 i:Nat
 dn:List zj
 H:AB
structure IRl(d:xk)(cs:List x8)(vc vr:Fs)(n:Nat)(v:VRl):Prop where
 hi:v.i<=d.ruls.length
 ln:v.dn.length=v.i
 fr:AP v.H n
 nm:NM d vc vr v.H
 lc:LV 6 vc v.H (cs.map Cc)
 lv:LV 12 vr v.H ((v.dn++d.ruls.drop v.i).map Br)
 eq:Aq (Bf d) d.ruls=(Aq (Bf d) (d.ruls.drop v.i)).map λr=>v.dn++r
section
variable {a b c d e f g h i j k l v:Fs}
theorem jv(hv:v.cells=[v]):Do (.agg [a,b,c,d,e,f,g,h,i,j,k,l]) 3 1 12 v=(True,.agg [a,b,c,v,e,f,g,h,i,j,k,l]):=by
 rw[Gz zd];simp [splice,hv]
theorem cj(hv:v.cells=[v]):Do (.agg [a,b,c,d,e,f,g,h,i,j,k,l]) 6 1 12 v=(True,.agg [a,b,c,d,e,f,v,h,i,j,k,l]):=by
 rw[Gz zd];simp [splice,hv]
theorem co(hv:v.cells=[v]):Do (.agg [a,b,c,d,e,f,g,h,i,j,k,l]) 7 1 12 v=(True,.agg [a,b,c,d,e,f,g,v,i,j,k,l]):=by
 rw[Gz zd];simp [splice,hv]
theorem U0(hv:v.cells=[v]):Do (.agg [a,b,c,d,e,f,g,h,i,j,k,l]) 11 1 12 v=(True,.agg [a,b,c,d,e,f,g,h,i,j,k,v]):=by
 rw[Gz zd];simp [splice,hv]
end
theorem LV.set{v:Fs}{l:List Fs}{id:Nat}{ob:xq}(h:LV e v H l)(s6:∀a b c x,v≠ .ref id a b c x):LV e v (hset H id ob) l:=by
 rcases h with h|⟨h0,i,cap,rest,rfl,ho,hc⟩
 ·exact .inl h
 ·exact .inr ⟨h0,i,cap,rest,rfl,by rw[AA _ _ _ _ (λq=>s6 _ _ _ _ (by rw[q]))];exact ho,hc⟩
theorem LV.no{l:List Fs}{a b c x:Nat}(h:LV e (.ref i a b c x) H l)(hn:∀e' A,AD H i≠some (.arr e' A)):False:=by
 rcases h with⟨-,t,h,-⟩|⟨-,id,cap,rest,h,ho,-⟩
 ·cases h
 ·cases h;exact hn _ _ ho
theorem YE(d:xk)(hd:zk d)(wh:¬16<d.syms.length)(y9:Ap (d.syms.map λx:xv=>x.nm)=false)(wi:Ap (By d)=false)(yc:Ap (d.clus.map λx:x8=>x.nm)=false){cs:List x8}(wz:Aq (CI d) d.clus=some cs)(ht4:Ap (d.ruls.map λx:zj=>x.nm)=false)
  {n:Nat} (hf:AP H n) (hm:NM d vc vr H) (hvc:LV 6 vc H (cs.map Cc)) (hvr:LV 12 vr H (d.ruls.map Br)) (hdj:∀i a b c e j f g h k,vc= .ref i a b c e->vr= .ref j f g h k->i≠j):
  Gm prog Tnr (TN (cf (Mo 9 Oh))) [.c (TN (Mo 9 Oh))] (QR d) ⟨[(1,true,.ptr 0 0),(2,true,.ptr 1 0),(3,true,.ptr 2 0),(5,true,.mp 12),(6,true,.mp 18),(8,true,.fn (.func 211) [] [.ptr 7 0]),(66,true,.int .i64 d.ruls.length),(67,true,.int .i64 0)],H,n⟩:=by
 have hrl:d.ruls.length<1000000000:=hd.ru;have hbase:∀x,Aq (Bf d) d.ruls=x->CJ d=(match x with|none=>.error 160|some rs=>.ok {d with clus:=cs,ruls:=rs}):=λx hx=>by
  unfold CJ;rw[rj wh,y9,wi,yc,wz];simp only[sr,sG];rw[ht4,hx];rfl
 simp only[eE,Mo,TN,cf,Oh];refine AO (λv:VRl=>⟨[(1,true,.ptr 0 0),(2,true,.ptr 1 0),(3,true,.ptr 2 0),(5,true,.mp 12),(6,true,.mp 18),(8,true,.fn (.func 211) [] [.ptr 7 0]),(66,true,.int .i64 d.ruls.length),(67,true,.int .i64 v.i)],v.H,n⟩) (IRl d cs vc vr n) (λv=>d.ruls.length-v.i)
  ⟨0,[],H⟩ rfl ⟨rm _,rfl,hf,hm,hvc,hvr,by rw[vG];cases Aq (Bf d) d.ruls<;>rfl⟩ ?_
 rintro⟨i,dn,H1⟩ hI;have hi:=hI.hi;have ww:=hI.ln;have l7:=hI.fr;have so:=hI.nm;have xf:=hI.lc;have wl:=hI.lv;have heq:=hI.eq;clear hI hf hm hvc hvr;simp only at hi ww l7 so xf wl heq;by_cases c9:i<d.ruls.length;case neg=>
  obtain rfl:i=d.ruls.length:=zo
  rw[sK]at heq wl;rw[sE]at wl;have hr:=hbase _ heq;simp only[Aq,sU,sE]at hr;simp only[eZ,seval,Ad c9,so.h0,DT,so.h1,so.h2];refine Uz (xs:=DT d vc vr) (y:=.int .i64 0) ?_ rfl ?_ ?_
  ·simp only[AT];rfl
  ·simp only[AT];rfl
  unfold RR;rw[hr];have me:∀a b c x,vc≠ .ref 1 a b c x/\vc≠ .ref 2 a b c x/\vr≠ .ref 1 a b c x/\vr≠ .ref 2 a b c x:=by
   intro a b c x;refine⟨?_,?_,?_,?_⟩<;>rintro rfl
   ·exact xf.no (by rw[so.h1];simp)
   ·exact xf.no (by rw[so.h2];simp)
   ·exact wl.no (by rw[so.h1];simp)
   ·exact wl.no (by rw[so.h2];simp)
  exact⟨vc,vr,rfl,(xf.set λa b c x=>(me a b c x).1).set λa b c x=>(me a b c x).2.1,(wl.set λa b c x=>(me a b c x).2.2.1).set λa b c x=>(me a b c x).2.2.2,hdj⟩
 have hrx:=(hd.rus _ (rY c9));rw[sn c9]at heq wl;rw[EX]at heq;generalize d.ruls[i]=r at heq wl hrx;have am:((dn++r::d.ruls.drop (i+1)).map Br).length=d.ruls.length:=by simp;omega
 rcases wl with⟨h0,-⟩|⟨-,id,cap,rest,hvr,ho,hcr⟩
 ·simp at h0
 rw[am]at hvr hcr;subst hvr;have e:=AK (k:=i) zo;have p9:id<n:=l7.lt ho;have s6:=so.ne ho;have h0:=so.h0;have yh:((dn++r::d.ruls.drop (i+1)).map Br++rest)[i]?=some (Br r):=by
  rw[rz,sJ,tx (by simp;omega)];simp [ww]
 have xo:i<((dn++r::d.ruls.drop (i+1)).map Br++rest).length:=by rw[sm,am];omega
 have hse:∀r':zj,((dn++r::d.ruls.drop (i+1)).map Br++rest).set i (Br r')=((dn++[r'])++d.ruls.drop (i+1)).map Br++rest:=λr'=>by
  rw[rz,sJ,List.set_append_right _ _ (by simp;omega)];simp [ww]
 generalize hA:(dn++r::d.ruls.drop (i+1)).map Br++rest=A at ho yh xo hse;have xa:∀x,(i<(A.set i x).length)=True:=λx=>ra (by rw[tS];exact xo)
 have hgs:∀x,(A.set i x)[i]?=some x:=λx=>List.getElem?_set_self xo
 have xn:∀x y,(A.set i x).set i y=A.set i y:=λx y=>List.set_set ..
 have z0':(id=0)=False:=ri s6.1;have z5':(id=5)=False:=ri s6.2.2.2.1;have z7':(id=7)=False:=ri s6.2.2.2.2.1;have z12':(id=12)=False:=ri s6.2.2.2.2.2.1;have z18':(id=18)=False:=ri s6.2.2.2.2.2.2;have h7:=so.h7;have h5:=so.h5;have v9:Bf d r=none->CJ d= .error 160:=λq=>by
  rw[q]at heq;exact hbase _ heq
 have to:∀ob,NM d vc (.ref id 12 0 d.ruls.length cap) (hset H1 id ob):=λob=>so.set s6
 have hvn:∀a b c x,vc≠ .ref id a b c x:=λa b c x q=>hdj _ _ _ _ _ _ _ _ _ _ q rfl rfl
 have fin:∀(F a b c:Int),Bf d r=some {r with fam:=F,set:=a,oth:=b,clue:=c}->cX (λv:VRl=>⟨[(1,true,.ptr 0 0),(2,true,.ptr 1 0),(3,true,.ptr 2 0),(5,true,.mp 12),(6,true,.mp 18),(8,true,.fn (.func 211) [] [.ptr 7 0]),(66,true,.int .i64 d.ruls.length),(67,true,.int .i64 v.i)],v.H,n⟩) (IRl d cs vc (.ref id 12 0 d.ruls.length cap) n) (λv=>d.ruls.length-v.i) ⟨i,dn,H1⟩
   ⟨[(1,true,.ptr 0 0),(2,true,.ptr 1 0),(3,true,.ptr 2 0),(5,true,.mp 12),(6,true,.mp 18),(8,true,.fn (.func 211) [] [.ptr 7 0]),(66,true,.int .i64 d.ruls.length),(67,true,.int .i64 ((i+1:Nat):Int))],hset H1 id (.arr 12 (A.set i (.agg [.str r.nm,.str r.on,.int .i64 r.kind,.int .i64 F,FH r.ns,FH r.os,.int .i64 a,.int .i64 b,.int .i64 r.op,.int .i64 r.n,.str r.byN,.int .i64 c]))),n⟩:=λF a b c hrr=>by
  rw[hrr]at heq;have hse2:=hse {r with fam:=F,set:=a,oth:=b,clue:=c};refine .mk ⟨i+1,dn++[{r with fam:=F,set:=a,oth:=b,clue:=c}],hset H1 id (.arr 12 (A.set i (Br {r with fam:=F,set:=a,oth:=b,clue:=c})))⟩ rfl ⟨c9,by simp [ww],l7.hset (rq _) p9,to _,xf.set hvn,.inr ⟨zw,id,cap,rest,?_,?_,?_⟩,?_⟩ zp
  ·simp only[r9,sm,sC,tn,tK,ww];congr 1;omega
  ·simp only[];rw[AC,hse2]
  ·simp only[r9,sm,sC,tn,tK,ww];omega
  ·simp only[];rw[heq];cases Aq (Bf d) (d.ruls.drop (i+1))<;>simp
 by_cases hon:r.on=[]
 ·have hb:scmp .neq r.on []=false:=by rw[A0,hon];rfl
  simp only[eZ,eX,seval,rZ,rr,ry,RN,PW,G1,AN c9,h0,DT,ho,yh,ra xo,EW,ra p9,xa,hgs,xn,Br,B1,jv,U0,AQ,hb];refine(Uy (by rw[r9];omega) hrx.1 (to _).h7 (to _).h5).mono λo H' n' hq=>?_
  obtain⟨rfl,rfl,hq⟩:=hq;cases wn:Cy (d.syms.map λx:xv=>x.nm) r.ns with
  |none=>
   rw[wn]at hq;subst hq;simp only[eE,eN,FP];exact D6 (to _).h1 rfl (to _).h2 (v9 (by unfold Bf;rw[rt hon,wn]))
  |some a=>
   rw[wn]at hq;subst hq;simp only[eE,eC,eX,seval,FP];refine(Uy (by rw[r9];omega) hrx.2 (to _).h7 (to _).h5).mono λo H' n' hq=>?_
   obtain⟨rfl,rfl,hq⟩:=hq;cases xi:Cy (d.syms.map λx:xv=>x.nm) r.os with
   |none=>
    rw[xi]at hq;subst hq;simp only[eE,eN,FP];exact D6 (to _).h1 rfl (to _).h2 (v9 (by unfold Bf;rw[rt hon,wn,xi]))
   |some b=>
    rw[xi]at hq;subst hq;by_cases hby:r.byN=[]
    ·have z9:scmp .neq r.byN []=false:=by rw[A0,hby];rfl
     simp only[eZ,eX,seval,rZ,FP,z9,LT,xa,hgs,xn,cj,co,AQ,e];exact fin 0 a b (-1) (by unfold Bf;rw[rt hon,wn,xi,rt hby])
    ·have z9:scmp .neq r.byN []=true:=by rw[A0,A3 hby];rfl
     simp only[eZ,eX,seval,rZ,FP,z9,LT,xa,hgs,xn,cj,co,AQ];refine(Mm (to _).h18).mono λo H' n' hq=>?_
     obtain⟨rfl,rfl,hq⟩:=hq;cases xb:BY (d.clus.map λx:x8=>x.nm) r.byN with
     |none=>
      rw[xb]at hq;subst hq;simp only[eE,eN,BV];exact D6 (to _).h1 rfl (to _).h2 (v9 (by unfold Bf;rw[rt hon,wn,xi,rj hby,xb]))
     |some c=>
      rw[xb]at hq;subst hq;simp only[eE,eN,seval,rZ,BV,xa,hgs,xn,U0,AQ,e];exact fin 0 a b c (by unfold Bf;rw[rt hon,wn,xi,rj hby,xb])
 ·have hb:scmp .neq r.on []=true:=by rw[A0,A3 hon];rfl
  simp only[eZ,seval,rZ,rr,ry,AN c9,h0,DT,ho,yh,ra xo,xa,hgs,xn,Br,B1,jv,U0,AQ,hb];refine(Mm (to _).h12).mono λo H' n' hq=>?_
  obtain⟨rfl,rfl,hq⟩:=hq;cases s8:BY (By d) r.on with
  |none=>
   rw[s8]at hq;subst hq;simp only[eE,eN,BV];exact D6 (to _).h1 rfl (to _).h2 (v9 (by unfold Bf;rw[rj hon,s8]))
  |some F=>
   rw[s8]at hq;subst hq;simp only[eE,eN,eX,seval,rZ,RN,PW,G1,BV,EW,ra p9,xa,hgs,xn,jv,AQ];refine(Uy (by rw[r9];omega) hrx.1 (to _).h7 (to _).h5).mono λo H' n' hq=>?_
   obtain⟨rfl,rfl,hq⟩:=hq;cases wn:Cy (d.syms.map λx:xv=>x.nm) r.ns with
   |none=>
    rw[wn]at hq;subst hq;simp only[eE,eN,FP];exact D6 (to _).h1 rfl (to _).h2 (v9 (by unfold Bf;rw[rj hon,s8,wn]))
   |some a=>
    rw[wn]at hq;subst hq;simp only[eE,eC,eX,seval,FP];refine(Uy (by rw[r9];omega) hrx.2 (to _).h7 (to _).h5).mono λo H' n' hq=>?_
    obtain⟨rfl,rfl,hq⟩:=hq;cases xi:Cy (d.syms.map λx:xv=>x.nm) r.os with
    |none=>
     rw[xi]at hq;subst hq;simp only[eE,eN,FP];exact D6 (to _).h1 rfl (to _).h2 (v9 (by unfold Bf;rw[rj hon,s8,wn,xi]))
    |some b=>
     rw[xi]at hq;subst hq;by_cases hby:r.byN=[]
     ·have z9:scmp .neq r.byN []=false:=by rw[A0,hby];rfl
      simp only[eZ,eX,seval,rZ,FP,z9,LT,xa,hgs,xn,cj,co,AQ,e];exact fin F a b (-1) (by unfold Bf;rw[rj hon,s8,wn,xi,rt hby])
     ·have z9:scmp .neq r.byN []=true:=by rw[A0,A3 hby];rfl
      simp only[eZ,eX,seval,rZ,FP,z9,LT,xa,hgs,xn,cj,co,AQ];refine(Mm (to _).h18).mono λo H' n' hq=>?_
      obtain⟨rfl,rfl,hq⟩:=hq;cases xb:BY (d.clus.map λx:x8=>x.nm) r.byN with
      |none=>
       rw[xb]at hq;subst hq;simp only[eE,eN,BV];exact D6 (to _).h1 rfl (to _).h2 (v9 (by unfold Bf;rw[rj hon,s8,wn,xi,rj hby,xb]))
      |some c=>
       rw[xb]at hq;subst hq;simp only[eE,eN,seval,rZ,BV,xa,hgs,xn,U0,AQ,e];exact fin F a b c (by unfold Bf;rw[rj hon,s8,wn,xi,rj hby,xb])
end
structure VCl where
 i:Nat
 dn:List x8
 H:AB
structure ICl(d:xk)(vc:Fs)(n:Nat)(v:VCl):Prop where
 hi:v.i<=d.clus.length
 ln:v.dn.length=v.i
 fr:AP v.H n
 nm:NM d vc (Dr d.ruls) v.H
 lv:LV 6 vc v.H ((v.dn++d.clus.drop v.i).map Cc)
 eq:Aq (CI d) d.clus=(Aq (CI d) (d.clus.drop v.i)).map λr=>v.dn++r
def apS2{a b c d e f v:Fs}(h:v.cells=[v]):Do (.agg [a,b,c,d,e,f]) 2 1 6 v=(True,.agg [a,b,v,d,e,f]):=by
 rw[Gz zd];simp [splice,h]
theorem YF(d:xk)(hd:zk d)(wh:¬16<d.syms.length)(y9:Ap (d.syms.map λx:xv=>x.nm)=false)(wi:Ap (By d)=false)(yc:Ap (d.clus.map λx:x8=>x.nm)=false)
  {vc:Fs} {H:AB} {n:Nat} {ml:Int} (hml:ml=(d.clus.length:Int)) (hn:21<=n) (hf:AP H n) (hm:NM d vc (Dr d.ruls) H) (hv:LV 6 vc H (d.clus.map Cc)):
  Gm prog Tnr (TN (cf (Mo 5 Oh))) [.c (TN (Mo 5 Oh))] (QR d) ⟨[(1,true,.ptr 0 0),(2,true,.ptr 1 0),(3,true,.ptr 2 0),(4,true,.ptr 7 0),(5,true,.mp 12),(6,true,.mp 18),(37,true,.int .i64 ml),(38,true,.int .i64 0)],H,n⟩:=by
 subst hml;have wo:d.clus.length<1000000000:=hd.cl;simp only[eE,Mo,TN,cf,Oh];refine AO (λv:VCl=>⟨[(1,true,.ptr 0 0),(2,true,.ptr 1 0),(3,true,.ptr 2 0),(4,true,.ptr 7 0),(5,true,.mp 12),(6,true,.mp 18),(37,true,.int .i64 d.clus.length),(38,true,.int .i64 v.i)],v.H,n⟩) (ICl d vc n) (λv=>d.clus.length-v.i)
  ⟨0,[],H⟩ rfl ⟨rm _,rfl,hf,hm,hv,by rw[vG];cases Aq (CI d) d.clus<;>rfl⟩ ?_
 rintro⟨i,dn,H1⟩ hI;have hi:=hI.hi;have ww:=hI.ln;have l7:=hI.fr;have so:=hI.nm;have wl:=hI.lv;have heq:=hI.eq;simp only at hi ww l7 so wl heq;by_cases c9:i<d.clus.length
 ·rw[sn c9]at heq wl;rw[EX]at heq;generalize d.clus[i]=c at heq wl;have am:((dn++c::d.clus.drop (i+1)).map Cc).length=d.clus.length:=by simp;omega
  rcases wl with⟨h0,-⟩|⟨-,id,cap,rest,hvc,ho,hcr⟩
  ·simp at h0
  rw[am]at hvc hcr;subst hvc;have e:=AK (k:=i) zo;have p9:id<n:=l7.lt ho;have h0:=so.h0;have yh:((dn++c::d.clus.drop (i+1)).map Cc++rest)[i]?=some (.agg [.str c.nm,.str c.on,.int .i64 c.fam,.int .i64 c.ty,.int .i64 c.lo,.int .i64 c.hi]):=by
   rw[rz,sJ,tx (by simp;omega)];simp [ww]
  have xo:(i<((dn++c::d.clus.drop (i+1)).map Cc++rest).length)=True:=ra (by rw[sm,am];omega);have hse:∀c':x8,((dn++c::d.clus.drop (i+1)).map Cc++rest).set i (Cc c')=((dn++[c'])++d.clus.drop (i+1)).map Cc++rest:=λc'=>by
   rw[rz,sJ,List.set_append_right _ _ (by simp;omega)];simp [ww]
  have s6:=so.ne ho;generalize hA:(dn++c::d.clus.drop (i+1)).map Cc++rest=A at ho yh xo hse;simp only[eZ,eX,seval,rZ,rr,ry,RN,PW,G1,AN c9,h0,DT,ho,yh,xo,EW,ra p9];refine(Mm so.h12).mono λo H' n' hq=>?_
  obtain⟨rfl,rfl,hq⟩:=hq;cases s8:BY (By d) c.on with
  |none=>
   rw[s8]at hq;subst hq;have hrc:CI d c=none:=by unfold CI;rw[s8];rfl
   rw[hrc]at heq;have hr:CJ d= .error 160:=by unfold CJ;rw[rj wh,y9,wi,yc,heq];rfl
   simp only[eE,eN,FP];exact D6 so.h1 rfl so.h2 hr
  |some k=>
   rw[s8]at hq;subst hq;have hrc:CI d c=some {c with fam:=k}:=by unfold CI;rw[s8];rfl
   rw[hrc]at heq;have xi:=hse {c with fam:=k};simp only[eZ,eX,seval,rZ,rr,ry,FP,LT,ho,yh,xo,apS2 (v:=.int .i64 k) rfl,e];refine⟨zo,.mk ⟨i+1,dn++[{c with fam:=k}],hset H' id (.arr 6 (A.set i (Cc {c with fam:=k})))⟩ rfl ⟨c9,by simp [ww],l7.hset (rq _) p9,so.set s6,.inr ⟨zw,id,cap,rest,?_,?_,?_⟩,?_⟩ zp⟩
   ·simp only[r9,sm,sC,tn,tK,ww];congr 1;omega
   ·simp only[];rw[AC,xi]
   ·simp only[r9,sm,sC,tn,tK,ww];omega
   ·simp only[];rw[heq];cases Aq (CI d) (d.clus.drop (i+1))<;>simp
 obtain rfl:i=d.clus.length:=zo
 rw[sK]at heq wl;rw[sE]at wl;have wz:Aq (CI d) d.clus=some dn:=by rw[heq];simp [Aq]
 have h0:=so.h0;have y0:∀k,(n+k=0)=False:=λk=>ri zo
 simp only[eZ,seval,xE,Ad c9,h0,DT,Bq l7];refine(YB (pre:=[]) hd.ru zd rfl (AC ..) rfl).mono λo H' n' hq=>?_
 unfold DC at hq;rw[sj]at hq;have to:∀a b,NM d vc (Dr d.ruls) (hset (hset H1 (n+2) a) (n+2) b):=λa b=>(so.set (P9 zo)).set (P9 zo)
 cases ht4:Ap (d.ruls.map λx:zj=>x.nm)with
 |true=>
  rw[ht4,rt rfl]at hq;obtain⟨rfl,rfl,rfl⟩:=hq;have hr:CJ d= .error 161:=by
   unfold CJ;rw[rj wh,y9,wi,yc,wz];simp only[sr,sG];rw[ht4];rfl
  simp only[eE,eN,BV];exact D6 (to _ _).h1 rfl (to _ _).h2 hr
 |false=>
 rw[ht4,rj zd]at hq;obtain⟨rfl,rfl,rfl⟩:=hq;have hH:=to (Ii []) (Ii (d.ruls.map λx:zj=>x.nm));have xf:LV 6 vc (hset (hset H1 (n+2) (Ii [])) (n+2) (Ii (d.ruls.map λx:zj=>x.nm))) (dn.map Cc):=by
  have hv2:∀a b c x,vc≠ .ref (n+2) a b c x:=by
   rintro a b c x rfl;exact wl.no (by rw[l7 _ zo];simp)
  exact(wl.set hv2).set hv2
 have wp:AP (hset (hset H1 (n+2) (Ii [])) (n+2) (Ii (d.ruls.map λx:zj=>x.nm))) (n+4):=(l7.hset (m:=n+4) zo zo).hset (rq _) zo;generalize hset (hset H1 (n+2) (Ii [])) (n+2) (Ii (d.ruls.map λx:zj=>x.nm))=H2 at hH xf wp;have h02:=hH.h0;simp only[eE,eN,seval,BV,h02,DT];refine(iA d.ruls hd.ru).mono λo H' n' hq=>?_
 rcases hq with⟨wj,rfl,hn',t,rfl,l5⟩|⟨wj,rfl,cap,rest,rfl,rfl,hcr⟩
 ·have hrl:d.ruls.length=0:=by have:=congrArg List.length wj;simpa using this
  simp only[eE,seval,BV,h02,DT];rw[GH];simp only[eE,seval];rw[GH];simp only[eE,seval,c0];rw[GH];have yf:∀a b c x,vc≠ .ref 0 a b c x:=by
   rintro a b c x rfl;exact xf.no (by rw[h02];simp)
  have:=YE d hd wh y9 wi yc wz ht4 (vr:=.sl t []) (wp.hset (id:=0) (m:=n') zo zo) hH.put (xf.set yf) (.inl ⟨wj,t,rfl,l5⟩) (λi a b c e j f g h k _ q=>by cases q);rw[hrl]at this;exact this
 ·have y4:∀k,(n+4+k=0)=False:=λk=>ri zo
  simp only[eE,seval,BV,h02,DT,y0];rw[GH];simp only[eE,seval];rw[GH];simp only[eE,seval,r9];rw[GH];have yf:∀a b c x,vc≠ .ref 0 a b c x:=by
   rintro a b c x rfl;exact xf.no (by rw[h02];simp)
  have hc6:∀a b c x,vc≠ .ref (n+6) a b c x:=by
   rintro a b c x rfl;exact xf.no (by rw[wp _ zo];simp)
  refine YE d hd wh y9 wi yc wz ht4 (vr:=.ref (n+6) 12 0 d.ruls.length cap) (((wp.hset (m:=n+8) zo zo).hset (rq _) zo)) (hH.set (P9 zo)).put ((xf.set hc6).set yf) (.inr ⟨wj,n+6,cap,rest,by rw[r9],?_,hcr⟩) (λi a b c e j f g h k q1 q2=>?_)
  ·rw[AA _ _ _ _ zo];exact AC ..
  ·cases q2;rintro rfl;exact hc6 _ _ _ _ q1
def WQ(d:xk)(hd:zk d):AV prog 153 [B5 d] Ai 0 (RR d):=by
 refine a153 (AI YD (AJ ?_));simp only[eE,eN,seval,Uf,JY,St,Ae,B5];refine⟨_,_,rfl,AI YD (AJ ?_)⟩;generalize hE:List.filter (λ(e:Nat×Bool×Fs)=>Nat.blt e.1 4) _=E;have hE':E=envR:=by rw[<-hE];rfl
 subst hE';clear hE;rw[sj];by_cases wh:16<d.syms.length
 ·have hr:CJ d= .error 2:=by unfold CJ;rw[rt wh]
  simp only[eZ,seval,r9,Oh,ra (show(16:Int)<(d.syms.length:Int)by omega),AL];refine Uz (xs:=I4) rfl rfl rfl ?_;unfold RR;rw[hr];exact⟨_,rfl,Wk.tup (.cons (Wk.agg (.cons (Wk.refl _) (.cons (Wk.refl _) (.cons (Wk.refl _) (.cons (Wk.refl _) (.cons (Wk.refl _) (.cons (Wk.sl (.inr rfl)) (.cons (Wk.sl (.inr rfl)) (.cons (Wk.sl (.inr rfl)) (.cons (Wk.sl (.inr rfl)) (.cons (Wk.sl (.inr rfl)) .nil))))))))))) (.cons (Wk.refl _) .nil))⟩
 simp only[eZ,seval,xE,r9,Oh,ri (show ¬(16:Int)<(d.syms.length:Int)by omega),AL];refine(X8 (pre:=[]) hd.sy zd rfl rfl rfl).mono λo H' n' hq=>?_
 unfold DC at hq;rw[sj]at hq;cases y9:Ap (d.syms.map λx:xv=>x.nm)with
 |true=>
  rw[y9,rt rfl]at hq;obtain⟨rfl,rfl,rfl⟩:=hq;have hr:CJ d= .error 161:=by unfold CJ;rw[rj wh,y9];rfl
  simp only[eE,eN,BV];exact D6 (xs:=I4) rfl rfl rfl hr
 |false=>
 rw[y9,rj zd]at hq;obtain⟨rfl,rfl,rfl⟩:=hq;simp only[eZ,eX,seval,xE,BV,Tnr,EW,AG];refine⟨⟨zt,CN 0 _⟩,(cd (pre:=[]) zd zd rfl rfl rfl).mono λo H' n' hq=>?_⟩;unfold DC at hq;rw[sj,show Ap (CW.map λx:Bs=>x)=false by decide,rj zd]at hq;obtain⟨rfl,rfl,rfl⟩:=hq;simp only[eE,eX,seval,FP];refine(X9 (pre:=CW) hd.rg zd rfl rfl zd).mono λo H' n' hq=>?_
 unfold DC at hq;cases wi:Ap (By d)with
 |true=>
  rw[show CW++d.regs.map (λx:xj=>x.nm)=By d from rfl,wi,rt rfl]at hq;obtain⟨rfl,rfl,rfl⟩:=hq;have hr:CJ d= .error 161:=by unfold CJ;rw[rj wh,y9,wi];rfl
  simp only[eE,eN,FP];exact D6 (xs:=I4) rfl rfl rfl hr
 |false=>
 rw[show CW++d.regs.map (λx:xj=>x.nm)=By d from rfl,wi,rj zd]at hq;obtain⟨rfl,rfl,rfl⟩:=hq;simp only[eE,eN,eX,seval,xE,FP];refine(YA (pre:=[]) hd.cl zd rfl rfl rfl).mono λo H' n' hq=>?_
 unfold DC at hq;rw[sj]at hq;cases yc:Ap (d.clus.map λx:x8=>x.nm)with
 |true=>
  rw[yc,rt rfl]at hq;obtain⟨rfl,rfl,rfl⟩:=hq;have hr:CJ d= .error 161:=by unfold CJ;rw[rj wh,y9,wi,yc];rfl
  simp only[eE,eN,BV];exact D6 (xs:=I4) rfl rfl rfl hr
 |false=>
 rw[yc,rj zd]at hq;obtain⟨rfl,rfl,rfl⟩:=hq;simp only[eE,eN,seval,BV];refine(hZ d.clus hd.cl).mono λo H' n' hq=>?_
 rcases hq with⟨h0,rfl,hn,t,rfl,l5⟩|⟨h0,rfl,cap,rest,rfl,rfl,hcr⟩
 ·have wo:d.clus.length=0:=by have:=congrArg List.length h0;simpa using this
  simp only[eE,seval,BV];rw[GH];simp only[eE,seval,c0];rw[GH];refine YF d hd wh y9 wi yc (vc:=.sl t []) (by rw[wo];rfl) hn (λid p9=>?_) (NM.mk (d:=d) (vr:=Dr d.ruls) rfl rfl rfl rfl rfl rfl rfl) (.inl ⟨h0,t,rfl,l5⟩);simp only[AT];repeat rw[rj zo]
  rfl
 ·simp only[eE,seval,BV];rw[GH];simp only[eE,seval,r9];rw[GH];refine YF d hd wh y9 wi yc (vc:=.ref 23 6 0 d.clus.length cap) rfl zo (λid p9=>?_) (NM.mk (d:=d) (vr:=Dr d.ruls) rfl rfl rfl rfl rfl rfl rfl) (.inr ⟨h0,23,cap,rest,by rw[r9],rfl,hcr⟩);simp only[AT];repeat rw[rj zo]
  rfl
def RS(d:xk):v8->AB->Nat->Prop:=λo H' n'=>match CJ d with
 | .error e=>∃v,o= .ret v/\Wk v (.tup [B5 KW,.int .i64 e])
 | .ok x=>∃vc vr,o= .ret (.tup [.agg (DT d vc vr),.int .i64 0])/\LF 6 vc H' (x.clus.map Cc)/\LV 12 vr H' (x.ruls.map Br)
def RT(d:xk):v8->AB->Nat->Prop:=λo H' n'=>match CJ d with
 | .error e=>∃v,o= .ret v/\Wk v (.tup [B5 KW,.int .i64 e])
 | .ok x=>∃vc vr,o= .ret (.tup [.agg (DT d vc vr),.int .i64 0])/\LF 6 vc H' (x.clus.map Cc)/\LF 12 vr H' (x.ruls.map Br)
def p153(d:xk)(hd:zk d):Aw prog 153 [B5 d] (Cf d):=by
 refine .mk ⟨As 0 d,zt⟩ (by unfold Cf;split<;>exact⟨As 0 _,zt,zt⟩) ?_;refine AV.out (R:=RT d) (AV.seal (R:=RS d) (AV.seal (R:=RR d) (WQ d hd) ?_) ?_) ?_
 ·intro o H' n' h;unfold RR at h;unfold RS;split at h
  ·rename_i e he;try rw[he]
   exact .inl h
  ·rename_i x hx;try rw[hx]
   obtain⟨vc,vr,rfl,h1,h2,h3⟩:=h;rcases h1 with h1|⟨h0,id,cap,rest,rfl,ho,hc⟩
   ·exact .inl ⟨vc,vr,rfl,.inl h1,h2⟩
   ·refine .inr ⟨id,_,_,ho,_,vr,rfl,.inr ⟨h0,id,cap,rest,rfl,AC ..,hc⟩,h2.set λa b c x=>?_⟩;rintro rfl;exact h3 _ _ _ _ _ _ _ _ _ _ rfl rfl rfl
 ·intro o H' n' h;unfold RS at h;unfold RT;split at h
  ·rename_i e he;try rw[he]
   exact .inl h
  ·rename_i x hx;try rw[hx]
   obtain⟨vc,vr,rfl,h1,h2⟩:=h;rcases h2 with h2|⟨h0,id,cap,rest,rfl,ho,hc⟩
   ·exact .inl ⟨vc,vr,rfl,h1,.inl h2⟩
   ·refine .inr ⟨id,_,_,ho,vc,_,rfl,?_,.inr ⟨h0,id,cap,rest,rfl,AC ..,hc⟩⟩;rcases h1 with h1|⟨q0,i2,c2,r2,rfl,o2,hc2⟩
    ·exact .inl h1
    ·refine .inr ⟨q0,i2,c2,r2,rfl,?_,hc2⟩;rw[AA _ _ _ _ (by rintro rfl;rw[ho]at o2;cases o2)];exact o2
 ·intro o H' n' h;unfold RT at h;unfold Cf;split at h
  ·rename_i e he;try rw[he]
   obtain⟨v,rfl,hw⟩:=h;exact⟨.ret v,⟨v,rfl,hw⟩,λg w e _ q=>q⟩
  ·rename_i x hx;try rw[hx]
   obtain⟨vc,vr,rfl,h1,h2⟩:=h;refine⟨.ret (.tup [B5 x,.int .i64 0]),⟨_,rfl,Wk.refl _⟩,λg w e hR q=>?_⟩;obtain⟨e1,e2,e3,e4,e5,e6,e7,e8⟩:=S7 hx;cases e with
   |panicked c=>exact q.elim
   |outgrown=>exact q.elim
   |returned y=>
    obtain⟨vs,rfl,y1,r1,q1,q2,q3⟩:=q;refine⟨vs,rfl,y1,r1,q1,?_,q3⟩;obtain⟨us,rfl,p1,p2⟩:=q2;refine⟨us,rfl,?_,p2⟩;obtain⟨a1,b1,f1,g1,a2,b2,f2,g2,a3,b3,f3,g3,a4,b4,f4,g4,a5,b5,f5,g5,a6,b6,f6,g6,a7,b7,f7,g7,a8,b8,f8,g8,a9,b9,f9,g9,gQ,b10,f10,g10,g11⟩:=p1;rw[<-e1]at g1;rw[<-e2]at g2;rw[<-e3]at g3;rw[<-e4]at g4;rw[<-e5]at g5;rw[<-e6]at g6;rw[<-e7]at g7;rw[<-e8]at g8;exact⟨a1,b1,f1,g1,a2,b2,f2,g2,a3,b3,f3,g3,a4,b4,f4,g4,a5,b5,f5,g5,a6,b6,f6,g6,a7,b7,f7,g7,a8,b8,f8,g8,a9,b9,f9,LS h1 hR g9,gQ,b10,f10,LS h2 hR g10,g11⟩
abbrev MJ(f:FormD):Fs:=.agg [.bool f.on,.bool f.set,.bool f.oth,.bool f.bnd,.bool f.num,.bool f.rdb,.bool f.knw,.int .i64 f.clue]
def Om{k:Int}(h:k<0\/14<=k):DQ k={}:=by
 unfold DQ;repeat rw[rj zo]
def p259(k:Int):Aw prog 259 [.int .i64 k] (MJ (DQ k)):=by
 refine .mk ⟨zt,zt⟩ ⟨zt,zt,zt,zt,zt,zt,zt,zt,zt⟩ (pL.a (AI AH.tnil (AJ ?_)));by_cases hk:k<0\/14<=k
 ·have hb:(decide (k<0)||decide (14<=k))=true:=by simpa using hk
  rw[Om hk];simp only[eZ,seval,BG,pL,hb];exact Wk.refl _
 ·have hb:(decide (k<0)||decide (14<=k))=false:=by simp;omega
  simp only[eZ,seval,BG,pL,hb];have my:k=0\/k=1\/k=2\/k=3\/k=4\/k=5\/k=6\/k=7\/k=8\/k=9\/k=10\/k=11\/k=12\/k=13:=zo
  rcases my with rfl|rfl|rfl|rfl|rfl|rfl|rfl|rfl|rfl|rfl|rfl|rfl|rfl|rfl<;>exact⟨zd,zd,rfl,rfl,Wk.refl _⟩
def p244(c:x8):Aw prog 244 [Cc c] (.bool (D0 c)):=by
 refine .mk ⟨Gd 0 c,zt⟩ zt (ao.a (AI AH.tnil (AJ ?_)));unfold D0;by_cases h1:c.ty=1
 ·simp only[eZ,seval,ao,h1]
 by_cases h2:c.ty=2
 ·simp only[eZ,seval,ao,h2]
 by_cases h3:c.ty=3
 ·simp only[eZ,seval,ao,h3]
 simp only[eZ,seval,ao,h1,h2,h3]
def p213(b:Bool)(e:Int):Aw prog 213 [.bool b,.int .i64 e] (.int .i64 (if b=true then 0 else e)):=by
 refine .mk ⟨zt,zt,zt⟩ zt (c213.a (AI AH.tnil (AJ ?_)));cases b<;>simp only[eZ,seval,c213]
def YG:Bc:=AG 259 (s1 dI KR λk=>MJ (DQ k)) tnil
def YH:AH prog YG:=AH.tnil.add (q1 λk _=>p259 k)
def cq(k:Int):(DQ k).rdb=(decide (1<=k)&&decide (k<=11)):=by
 by_cases hk:k<0\/14<=k
 ·rw[Om hk];symm;simp;omega
 ·have my:k=0\/k=1\/k=2\/k=3\/k=4\/k=5\/k=6\/k=7\/k=8\/k=9\/k=10\/k=11\/k=12\/k=13:=zo
  rcases my with rfl|rfl|rfl|rfl|rfl|rfl|rfl|rfl|rfl|rfl|rfl|rfl|rfl|rfl<;>rfl
def p245(r:zj):Aw prog 245 [Br r] (.bool (IR r)):=by
 refine .mk ⟨BN 0 r,zt⟩ zt (c245.a (AI YH (AJ ?_)));simp only[eE,eN,seval,c245,YG,s1,BD,Au,MJ,AG];exact cq r.kind
abbrev jw(r:zj)(on set oth:Bool):Bool:=on !=scmp .neq r.on []||set != !decide (r.set=0)||oth != !decide (r.oth=0)|| !on&& !decide (r.fam=0)|| !set&&decide ((0:Int)<(r.ns.length:Int))|| !oth&&decide ((0:Int)<(r.os.length:Int))
abbrev jx(r:zj)(bnd:Bool):Bool:=bnd !=(decide (1<=r.op)&&decide (r.op<=3))|| !bnd&& !decide (r.op=0)||decide (r.n<0)||decide (65536<r.n)
abbrev jy(r:zj)(bnd num:Bool):Bool:=!(num||bnd&&scmp .eql r.byN [])&& !decide (r.n=0)
def YI{cl:List x8}{r:zj}{on set oth bnd num rdb:Bool}{clue:Int}(hf:DQ r.kind=⟨on,set,oth,bnd,num,rdb,true,clue⟩):
  FT cl r=if jw r on set oth=true then false else if jx r bnd=true then false else if jy r bnd num=true then false else
   if(if(bnd&&scmp .neq r.byN [])=true then 2 else clue)=0 then decide (r.byN=[])&&decide (r.clue= -1)else MR cl r (if(bnd&&scmp .neq r.byN [])=true then 2 else clue):=by
 unfold FT;rw[hf];have e1:∀(l:List Bs),decide ((0:Int)<(l.length:Int))=decide (0<l.length):=λl=>by
  rw[su,rn,rn];omega
 simp only[jw,jx,jy,A0,BB,e1,ne_eq,decide_not,vD,sG];rfl
def p243(d:xk)(r:zj):Aw prog 243 [B5 d,Br r] (.bool (FT d.clus r)):=by
 refine .mk ⟨As 0 d,BN 0 r,zt⟩ zt (Oi.a (AI YH (AJ ?_)));cases hf:(DQ r.kind)with
 |mk on set oth bnd num rdb knw clue=>
 cases knw with
 |false=>
  have hR:FT d.clus r=false:=by unfold FT;rw[hf];rfl
  rw[hR];simp only[eZ,seval,rf,Oi,YG,s1,BD,Au,hf,MJ,AG]
 |true=>
 rw[YI hf];cases h1:jw r on set oth with
 |true=>
  rw[rt rfl];simp only[eZ,seval,re,r9,Oi,YG,s1,BD,Au,hf,MJ,h1,AG]
 |false=>
 rw[rj zd];cases h2:jx r bnd with
 |true=>
  rw[rt rfl];simp only[eZ,seval,re,r9,Oi,YG,s1,BD,Au,hf,MJ,h1,h2,AG]
 |false=>
 rw[rj zd];cases h3:jy r bnd num with
 |true=>
  rw[rt rfl];simp only[eZ,seval,re,r9,Oi,YG,s1,BD,Au,hf,MJ,h1,h2,h3,AG]
 |false=>
 rw[rj zd];cases h4:(bnd&&scmp .neq r.byN [])with
 |true=>
  simp only[t8];rw[rj zd];by_cases hc:r.clue<0\/(d.clus.length:Int)<=r.clue
  ·have wq:(decide (r.clue<0)||decide ((d.clus.length:Int)<=r.clue))=true:=by simpa using hc
   have hP:MR d.clus r 2=false:=by unfold MR;rw[rt hc]
   rw[hP];simp only[eZ,seval,re,r9,Oi,YG,s1,BD,Au,hf,MJ,h1,h2,h3,h4,wq,AG]
  ·have wq:(decide (r.clue<0)||decide ((d.clus.length:Int)<=r.clue))=false:=by simp;omega
   obtain⟨j,hj⟩:∃j:Nat,r.clue=(j:Int):=⟨r.clue.toNat,zo⟩;have yd:j<d.clus.length:=zo
   have hg:=rc yd;generalize d.clus[j]=c at hg;have hP:MR d.clus r 2=(decide (c.ty=2)&&(decide (2=1)||decide (c.fam=r.fam))):=by
    unfold MR;(rw[rj hc,hj,rr,hg])<;>rfl
   rw[hP];rw[hj]at wq;simp only[eZ,seval,re,eY,Oi,YG,s1,BD,Au,hf,MJ,h1,h2,h3,h4,hj,wq,AN yd,hg,AG]
 |false=>
  simp only[sr,sG];by_cases h5:clue=0
  ·rw[rt h5];subst h5;simp only[eZ,seval,re,r9,Oi,YG,s1,BD,Au,hf,MJ,h1,h2,h3,h4,AG];rw[BB]
  ·rw[rj h5];by_cases hc:r.clue<0\/(d.clus.length:Int)<=r.clue
   ·have wq:(decide (r.clue<0)||decide ((d.clus.length:Int)<=r.clue))=true:=by simpa using hc
    have hP:MR d.clus r clue=false:=by unfold MR;rw[rt hc]
    rw[hP];simp only[eZ,seval,re,r9,Oi,YG,s1,BD,Au,hf,MJ,h1,h2,h3,h4,A3 h5,wq,AG]
   ·have wq:(decide (r.clue<0)||decide ((d.clus.length:Int)<=r.clue))=false:=by simp;omega
    obtain⟨j,hj⟩:∃j:Nat,r.clue=(j:Int):=⟨r.clue.toNat,zo⟩;have yd:j<d.clus.length:=zo
    have hg:=rc yd;generalize d.clus[j]=c at hg;have hP:MR d.clus r clue=(decide (c.ty=clue)&&(decide (clue=1)||decide (c.fam=r.fam))):=by
     unfold MR;(rw[rj hc,hj,rr,hg])<;>rfl
    rw[hP];rw[hj]at wq;simp only[eZ,seval,re,eY,Oi,YG,s1,BD,Au,hf,MJ,h1,h2,h3,h4,A3 h5,hj,wq,AN yd,hg,AG]
def Trd:Bc:=AG 245 (s1 Mk KR λr=>.bool (IR r)) tnil
def jz:AH prog Trd:=AH.tnil.add (q1 λr _=>p245 r)
structure VU where
 i:Nat
 tk:w8
 H:AB
 n:Nat
structure IU(rs:List zj)(v:VU):Prop where
 hi:v.i<=rs.length
 fr:AP v.H v.n
 hn:2<=v.n
 tok:DA 1 1 v.H v.tk
 es:v.tk.esz=1\/B0 (rs.take v.i)=[]
def Mp(rs:List zj):(B0 rs).length<=rs.length:=by
 unfold B0;rw[r9];exact sO (tg ..) zw
def Ld{rs:List zj}{i:Nat}(h:i<rs.length):B0 (rs.take (i+1))=B0 (rs.take i)++(if IR rs[i]=true then[]else[(i:Int)]):=by
 rw[sf,rc h];show B0 (rs.take i++[rs[i]])=_;rw[Uk,sD,Nat.min_eq_left zo]
def p222(d:xk)(hr:An d.ruls):Aw prog 222 [B5 d] (Am (B0 d.ruls)):=by
 refine .mk ⟨As 0 d,zt⟩ (AZ 0 _) (c222.a (AI jz (AJ ?_)));have hrl:d.ruls.length<1000000000:=hr;simp only[eE,eN,seval,r9,c222];refine AO (λv:VU=>⟨[(2,true,.sl v.tk ((B0 (d.ruls.take v.i)).map eI)),(6,true,Dr d.ruls),(7,true,.int .i64 d.ruls.length),(8,true,.int .i64 v.i)],v.H,v.n⟩) (IU d.ruls) (λv=>d.ruls.length-v.i)
  ⟨0,.nil,hset Ai 0 (.box (AL d)),2⟩ rfl ⟨rm _,AP.nil.hset (m:=2) (rm 2) (show 0<2 by decide),rq _,.inl rfl,.inr rfl⟩ ?_
 rintro⟨i,tk,H,n⟩ ⟨hi,l7,hn,l5,s5⟩;simp only at hi l7 hn l5 s5;by_cases c9:i<d.ruls.length
 ·have hg:=rc c9;have e:=AK (k:=i) zo;have hu:=Ld c9;have hul:=Mp (d.ruls.take i);rw[sD]at hul;generalize d.ruls[i]=r at hg hu;cases hrr:IR r with
  |true=>
   rw[hrr,rt rfl,sE]at hu;simp only[eZ,seval,re,eY,AN c9,hg,Bq l7,Trd,s1,CA,Bg,hrr,e,AQ,AG];refine .mk ⟨i+1,tk,hset H (n+3) (.box (B1 r)),n+6⟩ ?_ ⟨c9,l7.hset (m:=n+6) zo zo,zp,l5.set (.inr (.inr (l7 _ zo))),by simp only[hu];exact s5⟩ zp;simp only[hu]
  |false=>
   rw[hrr,rj zd]at hu;have gt:DA 1 1 (hset H (n+3) (.box (B1 r))) tk:=l5.set (.inr (.inr (l7 _ zo)));have gf:AP (hset H (n+3) (.box (B1 r))) (n+6):=l7.hset (m:=n+6) zo zo;have q1:BH (hset H (n+3) (.box (B1 r))) 1 tk=True:=ra gt.app;have q2:((B0 (d.ruls.take i)).length<=35184372088831)=True:=ra zo;have q3:Al ((B0 (d.ruls.take i)).length+1) 8=True:=ra (Ac zo zd);simp only[eZ,seval,rf,eY,AN c9,hg,Bq l7,Trd,s1,CA,Bg,hrr,e,AQ,q1,q2,q3,AG];refine .mk ⟨i+1,.own (n+9) 1,hset (AU (hset H (n+3) (.box (B1 r))) tk) (n+9) .tok,n+11⟩ ?_ ⟨c9,(Ab gt gf).hset (m:=n+11) zo zo,zp,.inr (.inr ⟨n+9,rfl,zo,AC ..⟩),.inl rfl⟩ zp;simp only[hu,rz];rfl
 obtain rfl:i=d.ruls.length:=zo
 rw[se]at s5;simp only[eZ,seval,Ad c9,se];exact Wk.sl (s5.imp id λq=>by rw[q];rfl)
def rG:Bc:=AG 243 (s2 dD Mk bV λd r=>.bool (FT d.clus r)) (AG 244 (s1 dCl KR λc=>.bool (D0 c)) tnil)
def j7:AH prog rG:=(AH.tnil.add (q1 λc _=>p244 c)).add (q2 λd r _=>p243 d r)
structure VM2 where
 i:Nat
 es:List (Fs×Fs×Nat)
 c:Nat
 H:AB
 n:Nat
structure IM2(d:xk)(id:Nat)(v:VM2):Prop where
 hi:v.i<=d.ruls.length
 fr:AP v.H v.n
 hn:id<v.n
 h0:AD v.H 0=some (.box (AL d))
 hm:AD v.H id=some (.map v.es v.c)
 ct:N4 (d.ruls.take v.i) v.es
 ok:d.ruls.all (FT d.clus)=(d.ruls.drop v.i).all (FT d.clus)
def N4.nil:N4 [] []:=⟨zt,λz=>rfl⟩
def p220(d:xk)(hd:zk d):Aw prog 220 [B5 d] (.bool (B9 d)):=by
 refine .mk ⟨As 0 d,zt⟩ zt (c220.a (AI j7 (AJ ?_)));have ye:d.syms.length<1000000000:=hd.sy;have hrl:d.ruls.length<1000000000:=hd.ru;have wo:d.clus.length<1000000000:=hd.cl;simp only[eE,eN,seval,r9,c220];refine AO (λv:VF=>⟨[(1,true,.ptr 0 0),(11,true,IW d.syms),(12,true,.int .i64 d.syms.length),(13,true,.int .i64 v.i)],v.H,v.n⟩) (λv=>v.i<=d.syms.length/\AP v.H v.n/\2<=v.n/\AD v.H 0=some (.box (AL d))/\(d.syms.all λs=>decide (0<=s.v)&&decide (s.v<=99))=((d.syms.drop v.i).all λs=>decide (0<=s.v)&&decide (s.v<=99))) (λv=>d.syms.length-v.i)
  ⟨0,hset Ai 0 (.box (AL d)),2⟩ rfl ⟨rm _,AP.nil.hset (m:=2) (rm 2) (show 0<2 by decide),rq _,rfl,rfl⟩ ?_
 rintro⟨i,H,n⟩ ⟨hi,l7,hn,h0,e9⟩;simp only at hi l7 hn h0 e9;by_cases c9:i<d.syms.length
 ·have hg:=rc c9;have e:=AK (k:=i) zo;rw[sn c9,uq]at e9;generalize d.syms[i]=s at hg e9;by_cases hs:0<=s.v/\s.v<=99
  ·have hb:(decide (s.v<0)||decide (99<s.v))=false:=by simp;omega
   simp only[eZ,seval,eY,AN c9,hg,Bq l7,e,AQ,hb];refine .mk ⟨i+1,hset H (n+2) (.box [.str s.nm,.int .i64 s.v]),n+4⟩ rfl ⟨c9,l7.hset (m:=n+4) zo zo,zp,by simp only[];rw[AA _ _ _ _ zo];exact h0,?_⟩ zp;simp only[];rw[e9,BS hs.1,BS hs.2];rfl
  ·have hb:(decide (s.v<0)||decide (99<s.v))=true:=by simp;omega
   have hR:B9 d=false:=by
    unfold B9;rw[e9,show(decide (0<=s.v)&&decide (s.v<=99))=false by simp;omega];rfl
   rw[hR];simp only[eZ,seval,eY,AN c9,hg,Bq l7,AQ,hb]
 obtain rfl:i=d.syms.length:=zo
 rw[sK]at e9;have y0:(n=0)=False:=ri zo;simp only[eZ,seval,xE,r9,Ad c9,h0,S1 l7,y0];refine AO (λv:VM2=>⟨[(1,true,.ptr 0 0),(5,true,.mp n),(28,true,Dr d.ruls),(29,true,.int .i64 d.ruls.length),(30,true,.int .i64 v.i)],v.H,v.n⟩) (IM2 d n) (λv=>d.ruls.length-v.i)
  ⟨0,[],0,hset H n (.map [] 0),n+2⟩ rfl ⟨rm _,l7.hset (m:=n+2) zo zo,zp,by simp only[];rw[AA _ _ _ _ zo];exact h0,AC ..,N4.nil,rfl⟩ ?_
 rintro⟨k,es,c,H1,n1⟩ hI;have hk:=hI.hi;have xg:=hI.fr;have me:=hI.hn;have wc:=hI.h0;have hm:=hI.hm;have wg:=hI.ct;have s7:=hI.ok;simp only at hk xg me wc hm wg s7;by_cases wx:k<d.ruls.length
 ·have hg:=rc wx;have e:=AK (k:=k) zo;have l5:d.ruls.take (k+1)=d.ruls.take k++[d.ruls[k]]:=by rw[sf,rc wx];rfl
  rw[sn wx,uq]at s7;have y1:∀q,(n1+q=n)=False:=λq=>ri zo
  have y2:∀q,(n=n1+q)=False:=λq=>ri zo
  have y3:∀q,(n1+q=0)=False:=λq=>ri zo
  have y4:∀q,(0=n1+q)=False:=λq=>ri zo
  generalize d.ruls[k]=r at hg s7 l5;cases hr:FT d.clus r with
  |false=>
   have hR:B9 d=false:=by
    unfold B9;rw[s7,hr];simp
   rw[hR];simp only[eZ,seval,rf,eY,AN wx,hg,rG,s2,BR,Az,CA,Bg,hr,wc,Bq xg,y3,AQ,AG]
  |true=>
  rw[hr,sS]at s7;have wo:=bq (d.ruls.take k) r.clue;rw[sD]at wo;have ew:=AK (k:=Je (d.ruls.take k) r.clue) zo;have hq:=wg.2 r.clue;simp only[eZ,seval,re,xE,eY,AN wx,hg,rG,s2,BR,Az,CA,Bg,hr,wc,Bq xg,y1,y3,AQ,hm,wg.1,KT.is,C9,hq,e,ew,AG];refine .mk ⟨k+1,EV (.int .i64 r.clue) (.int .i64 ((Je (d.ruls.take k) r.clue+1:Nat):Int)) c es,(if(Bi (Fs.int IntKind.i64 r.clue) es).isSome=true then c else c+1),hset (hset H1 (n1+2) (.box (B1 r))) n (.map (EV (.int .i64 r.clue) (.int .i64 ((Je (d.ruls.take k) r.clue+1:Nat):Int)) c es) (if(Bi (Fs.int IntKind.i64 r.clue) es).isSome=true then c else c+1)),n1+4⟩ rfl
   ⟨wx,(xg.hset (m:=n1+4) zo zo).hset (rq (n1+4)) (show n<n1+4 by omega),zp,?_,AC ..,by simp only[];rw[l5];exact wg.next,s7⟩ zp
  simp only[];rw[AA _ _ _ _ zo,AA _ _ _ _ zo];exact wc
 obtain rfl:k=d.ruls.length:=zo
 rw[sK]at s7;rw[se]at wg;simp only[eZ,seval,r9,Ad wx,wc];refine AO (λv:VF=>⟨[(5,true,.mp n),(45,true,E6 d.clus),(46,true,.int .i64 d.clus.length),(47,true,.int .i64 v.i)],v.H,v.n⟩) (λv=>v.i<=d.clus.length/\AP v.H v.n/\n<v.n/\AD v.H n=some (.map es c)/\∀j (h:j<d.clus.length),j<v.i->Ei d.ruls j=1/\D0 d.clus[j]=true) (λv=>d.clus.length-v.i)
  ⟨0,H1,n1⟩ rfl ⟨rm _,xg,me,hm,λj h q=>absurd q (td _)⟩ ?_
 rintro⟨j,H2,n2⟩ ⟨hj,xl,hn2,xu,wm⟩;simp only at hj xl hn2 xu wm;by_cases l9:j<d.clus.length
 ·have hg:=rc l9;have e:=AK (k:=j) zo;have y1:∀q,(n2+q=n)=False:=λq=>ri zo
  have y2:∀q,(n=n2+q)=False:=λq=>ri zo
  have hq:=wg.2 (j:Int);rw[TA]at hq;have v9:¬(Ei d.ruls j=1/\D0 d.clus[j]=true)->B9 d=false:=λq=>by
   unfold B9;rw[e9,s7];cases q1:((List.range d.clus.length).all λi=>decide (Ei d.ruls i=1))with
   |false=>rfl
   |true=>
   cases q2:d.clus.all D0 with
   |false=>rfl
   |true=>exact absurd ⟨t5 (sg.1 q1 j (t9.2 l9)),sg.1 q2 _ (rY l9)⟩ q
  have xe:Ei d.ruls j=1/\D0 d.clus[j]=true->∀q (h:q<d.clus.length),q<j+1->Ei d.ruls q=1/\D0 d.clus[q]=true:=λz q h hq=>by
   by_cases w:q=j
   ·subst w;exact z
   ·exact wm q h zo
  generalize hx:d.clus[j]=x at hg v9 xe;by_cases hmc:Ei d.ruls j=1
  ·have hmb:(((Ei d.ruls j:Nat):Int)=1)=True:=ra zo;cases hc:D0 x with
   |false=>
    rw[v9 (by rw[hc];simp)];simp only[eZ,seval,re,rf,xE,eY,AN l9,hg,rG,s1,Jc,HT,hc,Bq xl,y1,AQ,xu,wg.1,KT.is,C9,hq,hmb,AG]
   |true=>
    simp only[eZ,seval,re,xE,eY,AN l9,hg,rG,s1,Jc,HT,hc,Bq xl,y1,AQ,xu,wg.1,KT.is,C9,hq,e,hmb,AG];refine .mk ⟨j+1,hset H2 (n2+3) (.box (Cc x).cells),n2+6⟩ rfl ⟨l9,xl.hset (m:=n2+6) zo zo,zp,?_,xe ⟨hmc,hc⟩⟩ zp;simp only[];rw[AA _ _ _ _ zo];exact xu
  ·have hmb:(((Ei d.ruls j:Nat):Int)=1)=False:=ri zo;rw[v9 (λq=>hmc q.1)];simp only[eZ,seval,re,rf,xE,eY,AN l9,hg,rG,s1,Jc,HT,Bq xl,y1,AQ,xu,wg.1,KT.is,C9,hq,hmb,AG]
 obtain rfl:j=d.clus.length:=zo
 have hR:B9 d=true:=by
  have z2:d.clus.all D0=true:=sg.2 λq hq=>by
   obtain⟨m,hm,rfl⟩:=sH.1 hq;exact(wm m hm hm).2
  unfold B9;rw[e9,s7,sg.2 λq hq=>sk (wm q (t9.1 hq) (t9.1 hq)).1,z2];rfl
 rw[hR];simp only[eZ,seval,Ad l9]
section
abbrev clV(q:Nat):Fs:=.fn (.func 257) [] [.ptr q 0]
abbrev j8(q c:Nat):List (Nat×Bool×Fs):=[(2,true,.ptr c 0),(4,true,.sl .nil []),(6,true,clV q)]
structure AppF(q c L l':Nat)(H0:AB)(n0:Nat)(qs:List Int)(H:AB)(m:Nat):Prop where
 fr:AP H m
 lc:n0<=c
 cl:c<L
 lm:L<m
 hc:∃lv,AD H c=some (.box [lv])/\RO eI 1 (L+1) H lv qs
 hL:AD H L=some (.lp ⟨l',.ready,none,13,j8 q c, #[7],GY,GZ⟩)
 kp:∀id ob,id<n0->AD H0 id=some ob->AD H id=some ob
variable {H:AB} {l:List Int} {q n:Nat}
theorem y_app{c L l':Nat}{H0:AB}{n0:Nat}{qs:List Int}{m:Nat}(F:AppF q c L l' H0 n0 qs H m)(x:Int)(hs:qs.length<1000000000){R:Bool->AB->Nat->Prop}
  (hR:∀H' m',AppF q c L l' H0 n0 (qs++[x]) H' m'->R true H' m'):CV prog l' [eI x] H m R:=by
 obtain⟨fr,lc,cl,lm,⟨lv,hc,wl⟩,hL,kp⟩:=F;refine aw hL rfl (AI AH.tnil (AJ ?_));simp only[eE,eN,seval,Mh,Gl,um,uu,tM,uO];refine⟨_,hL,rfl,AI AH.tnil (AJ ?_)⟩;have y1:∀k,(L=m+k)=False:=λk=>ri zo
 have y2:(L=c)=False:=ri zo;have y3:(c=L)=False:=ri zo;simp only[eE,seval,Mg,hc,y2];have g1:∀k,AD (hset H L (.lp ⟨l',.busy,none,13,j8 q c, #[7],GY,GZ⟩)) (m+k)=none:=λk=>by rw[AA _ _ _ _ zo];exact Bq fr k
 refine RE (enc:=eI) (lo:=L+1) (qs:=qs) (z0:=0) ?_ rfl zd rfl rfl (Ac zo zd) (g1 3) zo zo ?_
 ·rcases wl with h|⟨s6,id,rest,h1,h2,h3⟩
  ·exact .inl h
  ·exact .inr ⟨s6,id,rest,h1,h2,by rw[AA _ _ _ _ zo];exact h3⟩
 intro id rest hlo p9;have hidm:id<m+5:=by
  rcases p9 with rfl|⟨Z,h⟩
  ·omega
  ·apply Classical.byContradiction;intro z;obtain⟨k,rfl⟩:∃k,id=m+k:=⟨id-m,zo⟩;rw[g1]at h;cases h
 have z1:(id=L)=False:=ri zo;have z2:(id=c)=False:=ri zo;have z3:(L=id)=False:=ri zo;have z4:(c=id)=False:=ri zo;have hidn:¬id<n0:=zo
 simp only[eE,eN,seval,FY,z2,y2,hc];refine⟨⟨l',.busy,none,13,j8 q c, #[7],GY,GZ⟩,by simp only[AT,y3,z1,sG,t8],hR _ _ ⟨?_,lc,cl,zp,⟨_,by simp only[AT,y2,sG,t8],.inr ⟨zw,id,rest,rfl,hlo,by simp only[AT,z3,z4,sG,t8]⟩⟩,by simp only[AT,t8],?_⟩⟩
 ·intro j hj;have hj':m+5<=j:=hj;simp only[AT];repeat rw[rj zo]
  exact fr j zo
 ·intro j ob hj h0;simp only[AT];repeat rw[rj zo]
  exact kp j ob hj h0
theorem YJ(hf:AP H n)(hq:AD H q=some (.box [Am l]))(hl:An l):
  AV prog 272 [.sl .nil [],clV q] H n λo H' n'=>∃lv,o= .ret lv/\RO eI 1 (n+3) H' lv l/\AP H' n'/\n<=n'/\∀id ob,id<n->AD H id=some ob->AD H' id=some ob:=by
 have am:l.length<1000000000:=hl;have hqn:=hf.lt hq;refine a272 (AI AH.tnil (AJ ?_));simp only[eE,eN,seval,pM,S1 hf,GB];intro l';generalize hH1:hset (hset H n (.box [.sl .nil []])) (n+2) _=H1;have hq1:AD H1 q=some (.box [Am l]):=by
  subst hH1;simp only[AT];repeat rw[rj zo]
  exact hq
 have F0:AppF q n (n+2) l' H n [] H1 (n+3):=by
  subst hH1;refine⟨λj hj=>?_,rq _,zo,zo,⟨.sl .nil [],?_,.inl ⟨rfl,rfl⟩⟩,AC ..,λj ob hj h0=>?_⟩
  ·simp only[AT];repeat rw[rj zo]
   exact hf j zo
  ·simp only[AT];rw[rj zo,rt zt]
  ·simp only[AT];repeat rw[rj zo]
   exact h0
 clear hH1;refine c257.a (AI AH.tnil (AJ ?_));simp only[eE,eN,seval,r9,c257,hq1];refine AO (λv:VF=>⟨[(0,true,.fn (.yield l') [] []),(5,true,Am l),(6,true,.int .i64 l.length),(7,true,.int .i64 v.i)],v.H,v.n⟩) (λv=>v.i<=l.length/\n+3<=v.n/\AppF q n (n+2) l' H n (l.take v.i) v.H v.n) (λv=>l.length-v.i)
  ⟨0,H1,n+3⟩ rfl ⟨rm _,rq _,F0⟩ ?_
 rintro⟨i,H2,m⟩ ⟨hi,hm,F⟩;simp only at hi hm F;by_cases c9:i<l.length
 ·have hg:=rc c9;have e:=AK (k:=i) zo;have l5:l.take (i+1)=l.take i++[l[i]]:=by rw[sf,rc c9];rfl
  generalize l[i]=x at hg l5;simp only[eZ,seval,eY,AN c9,hg];refine y_app F x (by rw[sD];omega) λH' m' F'=>?_
  simp only[eZ,seval,re,Og,e];exact .mk ⟨i+1,H',m'⟩ rfl ⟨c9,by have:=F'.lm;simp only[];omega,by simp only[];rw[l5];exact F'⟩ zp
 obtain rfl:i=l.length:=zo
 rw[se]at F;obtain⟨fr,lc,cl,lm,⟨lv,hc,wl⟩,hL,kp⟩:=F;have y1:(n+2=n)=False:=ri zo;simp only[eZ,seval,Ad c9,GA,hL,hc,y1];refine⟨lv,rfl,?_,fr.hset (rq m) (show n+2<m by omega),zo,λid ob p9 h0=>by rw[rj zo];exact kp id ob p9 h0⟩;rcases wl with h|⟨s6,id,rest,h1,h2,h3⟩
 ·exact .inl h
 ·exact .inr ⟨s6,id,rest,h1,h2,by rw[AA _ _ _ _ zo];exact h3⟩
theorem j9(hf:AP H n)(hq:AD H q=some (.box [Am l]))(hl:An l):
  AV prog 256 [clV q] H n λo H' n'=>∃lv,o= .ret lv/\RO eI 1 (n+3) H' lv l/\AP H' n'/\n<=n'/\∀id ob,id<n->AD H id=some ob->AD H' id=some ob:=by
 refine gE.a (AI AH.tnil (AJ ?_));simp only[eE,eN,seval,gE];refine(YJ hf hq hl).mono ?_;rintro o H' n' ⟨lv,rfl,h1,h2,h3,h4⟩;simp only[eE,eN,seval,BV];exact⟨lv,rfl,h1,h2,h3,h4⟩
theorem QA:AV prog 226 [.sl .nil []] H n λo H' n'=>o= .ret (.tup [])/\H'=H/\n'=n:=by
 refine⟨jk,λg w vs hR hv=>?_⟩;obtain⟨v,r,rfl,k1,k2⟩:=hv;have k2':r=[]:=k2;subst k2';have hv:∃p cap,v= .slice p 0 cap:=by
  rcases k1 with⟨-,rfl,-⟩|⟨-,b,o,cap,⟨sp,rfl,hsp⟩,hc,hst,-⟩
  ·exact⟨_,_,rfl⟩
  ·exact⟨_,_,rfl⟩
 obtain⟨p,cap,rfl⟩:=hv;refine(slices_Sort_int_none p cap w).mono ?_;rintro e w' ⟨rfl,rfl⟩;exact⟨g,.ret (.tup []),H,n,⟨rfl,rfl,rfl⟩,⟨_,rfl,rfl⟩,hR,rq _,q9.refl _ _ _ _⟩
def SrA(ob:List Fs->xq)(H:AB)(l:List Int):v8->AB->Nat->Prop:=λo H' n'=>
 C5 H H'/\((l=[]/\o= .ret (.sl .nil []))\/l≠[]/\∃id rest,o= .ret (.ref id 1 0 l.length (l.length+rest.length))/\AD H id=none/\AD H' id=some (ob ((l.mergeSort Fk++rest).map eI)))
theorem Ep(l:List Int):(l.mergeSort Fk).length=l.length:=List.length_mergeSort ..
theorem kA(hf:AP H n)(hq:AD H q=some (.box [Am l]))(hl:An l):
  AV prog 239 [clV q] H n (Ub H (Am (l.mergeSort Fk))):=by
 have am:l.length<1000000000:=hl;refine AV.out (AV.seal (R:=SrA (.arr 1) H l) (R':=SrA (.frz 1) H l) (Xj.a (AI AH.tnil (AJ ?_))) ?_) ?_
 ·simp only[eE,eN,seval,Xj];refine(j9 hf hq hl).mono ?_;rintro o H1 n1 ⟨lv,rfl,wl,hf1,me,hk⟩;simp only[eE,eN,seval,BV];have hK:C5 H H1:=λid ob h0=>hk id ob (hf.lt h0) h0
  rcases wl with⟨rfl,rfl⟩|⟨s6,id,rest,rfl,h2,h3⟩
  ·refine QA.mono ?_;rintro o H2 n2 ⟨rfl,rfl,rfl⟩;simp only[eE,eN,seval,BV];exact⟨hK,.inl ⟨rfl,rfl⟩⟩
  ·refine(RD h3 zw am).mono ?_;rintro o H2 n2 ⟨rfl,rfl,rfl⟩;rw[vj,List.drop_left];simp only[eE,eN,seval,BV];refine⟨λi ob h0=>?_,.inr ⟨s6,id,rest,rfl,hf _ zo,AC ..⟩⟩;rw[AA _ _ _ _ (λe=>by subst e;rw[hf _ zo]at h0;cases h0)];exact hK i ob h0
 ·rintro o H' n' ⟨hK,h⟩;rcases h with h|⟨s6,id,rest,h1,h2,h3⟩
  ·exact .inl ⟨hK,.inl h⟩
  ·refine .inr ⟨id,1,_,h3,λi ob h0=>?_,.inr ⟨s6,id,rest,h1,h2,AC ..⟩⟩;rw[AA _ _ _ _ (λe=>by subst e;rw[h2]at h0;cases h0)];exact hK i ob h0
 ·rintro o H' n' ⟨hK,h⟩;refine⟨.ret (Am (l.mergeSort Fk)),⟨⟨_,rfl,Wk.refl _⟩,hK⟩,λg w e hR he=>?_⟩;have hL:∃lv,o= .ret lv/\LF 1 lv H' ((l.mergeSort Fk).map eI):=by
   rcases h with⟨rfl,rfl⟩|⟨hz,id,rest,rfl,h2,h3⟩
   ·exact⟨_,rfl,.inl ⟨zw,_,rfl,.inl rfl⟩⟩
   ·refine⟨_,rfl,?_⟩;have hl2:=Ep l;refine .inr ⟨λq=>hz (by rw[List.map_eq_nil_iff]at q;rw[q]at hl2;exact tF.1 hl2.symm),id,l.length+rest.length,rest.map eI,by rw[r9,hl2],by rw[h3,rz],by simp [hl2]⟩
  obtain⟨lv,rfl,hL⟩:=hL;cases e with
  |returned v=>exact LS hL hR he
  |panicked c=>exact he.elim
  |outgrown=>exact he.elim
theorem kB(hf:AP H n):AV prog 240 [Am l] H n λo H' n'=>o= .ret (clV n)/\H'=hset H n (.box [Am l])/\n'=n+2:=by
 refine c240.a (AI AH.tnil (AJ ?_));simp only[eE,eN,seval,c240,S1 hf]
end
section
abbrev RQ(l:List Int):List Int:=l.mergeSort Fk
def Jl(ls:List (List Int))(j:Nat)(x:List Int):Bool:=((ls.take j).map RQ).contains (RQ x)
def YK{ls:List (List Int)}(hn:∀l∈ls,l.Nodup){j:Nat}(hj:j<ls.length)(h:Jl ls j ls[j]=true):Cv ls=true:=by
 unfold Jl at h;rw[sN,t7]at h;obtain⟨y,hy,e⟩:=h;obtain⟨b,hb,rfl⟩:=sH.1 hy;rw[sD]at hb;rw[List.getElem_take]at e;refine IV.2 ⟨j,b,hj,zo,zo,?_⟩;rw[Nw (hn _ (rY _)) (hn _ (rY _)),rn];exact e.symm
def WR{ls:List (List Int)}(hn:∀l∈ls,l.Nodup)(h:∀j (hj:j<ls.length),Jl ls j ls[j]=false):Cv ls=false:=by
 cases q:Cv ls with
 |false=>rfl
 |true=>
  obtain⟨a,b,ha,hb,wv,h2⟩:=IV.1 q;rw[Nw (hn _ (rY _)) (hn _ (rY _)),rn]at h2;have:=h a ha;unfold Jl at this;rw[<-Bool.not_eq_true,sN,t7]at this;exact absurd ⟨ls[b],sH.2 ⟨b,by rw[sD];omega,by rw[List.getElem_take]⟩,h2.symm⟩ this
def U1(o:Option xq):Prop:=∃x:List Int,An x/\o=some (.box [Am x])
def QB:Option xq->List Int
 |some (.box [.sl _ L])=>L.map A9
 |_=>[]
variable {x:List Int}
theorem HC(h:An x):U1 (some (.box [Am x]))=True:=ra ⟨x,h,rfl⟩
theorem FI(x:List Int):QB (some (.box [Am x]))=x:=Ax x
def rH:List Fs->AB->Prop×Fs:=λa H=>match a with
 |[.fn (.func f) [] [.ptr q 0]]=>(f=257/\U1 (AD H q),Am (RQ (QB (AD H q))))
 |_=>(False,.tup [])
theorem qSr:∀args H n,(rH args H).1->Ao prog 239 args H n (rH args H).2:=by
 intro args H n hh;unfold rH at hh⊢;split at hh
 ·rename_i f q;obtain⟨rfl,x,hx,h0⟩:=hh;simp only[h0,FI];exact Ao.of Xj.l (AZ n _) λhf=>kA hf h0 hx
 ·exact hh.elim
def rI:List Fs->AB->Prop×Fs:=λa H=>match a with
 |[y,.ptr q 0]=>(BA.ok y/\wide (BA.dec y)/\U1 (AD H q),.bool (decide (QB (AD H q)=BA.dec y)))
 |_=>(False,.tup [])
def Teq:Bc:=AG 109 (s2 BA BA (λ_ b=>wide b) (λa b=>.bool (decide (a=b)))) tnil
theorem kC:AH prog Teq:=AH.tnil.add (q2 Xt)
theorem qR1:∀args H n,(rI args H).1->Ao prog 242 args H n (rI args H).2:=by
 intro args H n hh;unfold rI at hh⊢;split at hh
 ·rename_i y q;obtain⟨h1,h2,x,hx,h0⟩:=hh;simp only[h0,FI];refine Ao.of pN.l zt λhf=>pN.a (AI kC (AJ ?_))
  simp only[eE,eN,seval,pN,h0,Teq,s2,Ak,Ag,ra h1,ra h2,AG];exact λ_ _ h=>h
 ·exact hh.elim
abbrev clR(q:Nat):Fs:=.fn (.func 242) [] [.ptr q 0]
def Tr1:Bc:=AG 242 rI tnil
theorem kD:AH prog Tr1:=AH.tnil.add qR1
def RU(met:List (List Int))(x:List Int):Int:=match met.findIdx? (λy=>decide (x=y))with
 |some k=>(k:Int)
 |none=>-1
theorem kF{H:AB}{n q:Nat}{met:List (List Int)}(hm:B6 met)(hx:An x)(h0:AD H q=some (.box [Am x])):Ao prog 258 [Bv met,clR q] H n (.int .i64 (RU met x)):=by
 refine Ao.of pO.l zt λhf=>pO.a (AI kD (AJ ?_))
 have hml:met.length<1000000000:=hm.1;simp only[eE,eN,seval,r9,pO];refine AO (λi:Nat=>⟨[(0,true,Bv met),(1,true,clR q),(7,true,.int .i64 met.length),(8,true,.int .i64 i)],H,n⟩) (λi=>i<=met.length/\∀j (h:j<met.length),j<i->¬x=met[j]) (λi=>met.length-i)
  0 rfl ⟨rm _,λj _ h=>absurd h (td _)⟩ ?_
 rintro i ⟨hi,hb⟩;by_cases c9:i<met.length
 ·have hg:=rc c9;have e:=AK (k:=i) zo;have hyf:=hm.2 _ (rY c9);generalize hy:met[i]=y at hg hyf;by_cases hxy:x=y
  ·have hR:RU met x=i:=by
    unfold RU;rw[sM.2 ⟨c9,by simpa [hy]using hxy,λj hj=>by simpa using hb j zo hj⟩]
   rw[hR];simp only[eZ,seval,eY,AN c9,hg,Tr1,rI,h0,HC hx,FI,Ak,Ag,ra hyf,BS hxy,AG];exact λ_ _ h=>h
  ·simp only[eZ,seval,eY,AN c9,hg,e,Tr1,rI,h0,HC hx,FI,Ak,Ag,ra hyf,A3 hxy,AG];refine .mk (i+1) rfl ⟨c9,λj hj h=>?_⟩ zo;by_cases z:j=i
   ·subst z;rw[hy];exact hxy
   ·exact hb j hj zo
 obtain rfl:i=met.length:=zo
 have hR:RU met x= -1:=by
  unfold RU;rw[tT.2 λy hy=>by
   obtain⟨j,hj,rfl⟩:=sH.1 hy;simpa using hb j hj hj]
 rw[hR];simp only[eZ,seval,Ad c9];exact λ_ _ h=>h
theorem kG(met:List (List Int))(x:List Int):decide (0<=RU met x)=met.contains x:=by
 rw[su,rn,sN];unfold RU;cases h:met.findIdx? (λy=>decide (x=y))with
 |none=>
  rw[tT]at h;constructor
  ·intro q;simp at q
  ·intro q;have:=h x q;simp at this
 |some k=>
  obtain⟨h1,h2,-⟩:=sM.1 h;constructor
  ·intro _;have:=t5 h2;rw[this];exact rY _
  ·intro _;simp
def iV(f:List (List Int)->List Int->Fs):List Fs->AB->Prop×Fs:=λa H=>match a with
 |[y,.fn (.func g) [] [.ptr q 0]]=>(N0.ok y/\B6 (N0.dec y)/\g=242/\U1 (AD H q),f (N0.dec y) (QB (AD H q)))
 |_=>(False,.tup [])
theorem iW{f:List (List Int)->List Int->Fs}{s9:FuncId}(h:∀{H:AB} {n q:Nat} {met:List (List Int)} {x:List Int},B6 met->An x->AD H q=some (.box [Am x])->Ao prog s9 [Bv met,clR q] H n (f met x)):∀args H n,(iV f args H).1->Ao prog s9 args H n (iV f args H).2:=by
 intro args H n hh;unfold iV at hh⊢;split at hh
 ·rename_i y g q;obtain⟨h1,h2,rfl,x,hx,h0⟩:=hh;simp only[h0,FI];refine AV.args (h (n:=n) h2 hx h0) ?_;rintro g vs ⟨v,r,rfl,k1,k2⟩;exact⟨v,_,rfl,N0.wk _ h1 _ _ k1,k2⟩
 ·exact hh.elim
abbrev fIf(met:List (List Int))(x:List Int):Fs:=.int .i64 (RU met x)
abbrev fCf(met:List (List Int))(x:List Int):Fs:=.bool (met.contains x)
def Tr2:Bc:=AG 258 (iV fIf) tnil
theorem kI:AH prog Tr2:=AH.tnil.add (iW λh1 h2 h3=>kF h1 h2 h3)
theorem U2{t:w8}{l:List (List Int)}(ht:t.esz=1\/l=[]):N0.ok (.sl t (l.map Am))=True:=Jd Fw ht
theorem RV{t:w8}(l:List (List Int)):N0.dec (.sl t (l.map Am))=l:=HU Fw
theorem kJ{H:AB}{n q:Nat}{met:List (List Int)}(hm:B6 met)(hx:An x)(h0:AD H q=some (.box [Am x])):Ao prog 241 [Bv met,clR q] H n (fCf met x):=by
 refine Ao.of pP.l zt λhf=>pP.a (AI kI (AJ ?_))
 simp only[eE,eN,seval,pP,Tr2,iV,h0,HC hx,FI,Dj,Cz,ra hm,kG,AG];exact λ_ _ h=>h
def Trg:Bc:=AG 158 (s2 DY N0 (λg l=>Av g.sh g.w g.h g.holes=some g.cells/\An g.holes/\B6 l) λg l=>EI g.cells l) (AG 241 (iV fCf) (AG 239 rH tnil))
theorem kK:AH prog Trg:=((AH.tnil.add qSr).add (iW λh1 h2 h3=>kJ h1 h2 h3)).add (q2 λg l h=>p158 g l h.1 h.2.1 h.2.2)
structure VRm where
 j:Nat
 tk:w8
 H:AB
 n:Nat
structure IRm(g:v7)(r:xj)(v:VRm):Prop where
 hj:v.j<=r.ls.length
 fr:AP v.H v.n
 hn:3<=v.n
 h1:AD v.H 1=some (.box (AE g.sh g.w g.h g.holes g.cells))
 tok:DA 1 2 v.H v.tk
 es:v.tk.esz=1\/(r.ls.take v.j).map RQ=[]
 no:∀k (hk:k<r.ls.length),k<v.j->Jl r.ls k r.ls[k]=false
theorem p218(d:xk)(g:v7)(hd:zk d)(hG:Av g.sh g.w g.h g.holes=some g.cells)(hh:An g.holes):Aw prog 218 [B5 d,CK g] (.int .i64 (DV g.cells d.regs)):=by
 refine .mk ⟨As 0 d,BL 0 ..,zt⟩ zt (c218.a (AI kK (AJ ?_)));have hrl:d.regs.length<1000000000:=hd.rg;simp only[eE,eN,seval,r9,c218];refine AO (λv:VF=>⟨[(3,true,.ptr 1 0),(14,true,HP d.regs),(15,true,.int .i64 d.regs.length),(16,true,.int .i64 v.i)],v.H,v.n⟩) (λv=>v.i<=d.regs.length/\AP v.H v.n/\3<=v.n/\AD v.H 1=some (.box (AE g.sh g.w g.h g.holes g.cells))/\DV g.cells d.regs=DV g.cells (d.regs.drop v.i)) (λv=>d.regs.length-v.i)
  ⟨0,hset (hset Ai 0 (.box (AL d))) 1 (.box (AE g.sh g.w g.h g.holes g.cells)),3⟩ rfl ⟨rm _,(AP.nil.hset (m:=3) (rm 3) (show 0<3 by decide)).hset (rq 3) (show 1<3 by decide),rq _,rfl,rfl⟩ ?_
 rintro⟨i,H,n⟩ ⟨hi,l7,hn,h1,heq⟩;simp only at hi l7 hn h1 heq;by_cases c9:i<d.regs.length;case neg=>
  obtain rfl:i=d.regs.length:=zo
  rw[sK]at heq;rw[heq];simp only[eZ,seval,Ad c9];rfl
 have hg:=rc c9;have e:=AK (k:=i) zo;have hrf:N5 d.regs[i]:=hd.rgs _ (rY c9);rw[P2 _ _ _ c9]at heq;generalize d.regs[i]=r at hg hrf heq;have y1:∀q,(n+q=1)=False:=λq=>ri zo
 have hc:=ra (⟨hG,hh,hrf⟩:Av g.sh g.w g.h g.holes=some g.cells/\An g.holes/\B6 r.ls);by_cases hb:(decide (r.ls.length<=64)&&r.ls.all (Eh g.cells))=true;case neg=>
  have hv:EI g.cells r.ls= .tup [Bv [],.int .i64 130]:=rj hb;have hE:LM g.cells r=130:=rt (by simpa using hb);rw[hE,rj zd]at heq;rw[heq];simp only[eZ,seval,rf,eY,AN c9,hg,Bq l7,h1,y1,Trg,s2,Fl,Ds,Dj,Cz,hc,hv,AG]
 have hv:EI g.cells r.ls= .tup [Bv (r.ls.map (Bk g.cells)),.int .i64 0]:=rt hb;obtain⟨hb1,z9⟩:=(rl _ _).mp hb;have hb1:=t5 hb1;have hnd:∀l∈r.ls,l.Nodup:=λl hl=>(HO (sg.1 z9 l hl)).1
 have hregE:LM g.cells r=if Cv r.ls=true then 161 else 0:=by unfold LM;rw[hb,rj zd]
 simp only[eZ,seval,re,eY,AN c9,hg,Bq l7,h1,y1,Trg,s2,Fl,Ds,Dj,Cz,hc,hv,AQ,AG];refine AO (λv:VRm=>⟨[(3,true,.ptr 1 0),(9,true,.sl v.tk (((r.ls.take v.j).map RQ).map Am)),(14,true,HP d.regs),(15,true,.int .i64 d.regs.length),(16,true,.int .i64 i),(31,true,Bv r.ls),(32,true,.int .i64 r.ls.length),(33,true,.int .i64 v.j)],v.H,v.n⟩) (IRm g r) (λv=>r.ls.length-v.j)
  ⟨0,.nil,hset H (n+2) (.box [.str r.nm,Bv r.ls]),n+4⟩ rfl ⟨rm _,l7.hset (m:=n+4) zo zo,zp,by simp only[];rw[AA _ _ _ _ zo];exact h1,.inl rfl,.inr rfl,λk _ h=>absurd h (td _)⟩ ?_
 rintro⟨j,tk,H1,n1⟩ hI;have hj:=hI.hj;have hf1:=hI.fr;have me:=hI.hn;have h11:=hI.h1;have l5:=hI.tok;have s5:=hI.es;have s8:=hI.no;simp only at hj hf1 me h11 l5 s5 s8;by_cases l9:j<r.ls.length
 ·have hgj:=rc l9;have ej:=AK (k:=j) zo;have hlf:An r.ls[j]:=by
   obtain⟨q1,-,q3⟩:=HO (sg.1 z9 _ (rY l9));have h1:=KZ q1 q3;have h2:=(BX hG).2.1;show r.ls[j].length<_;omega
  have hmt:=map_take (f:=RQ) l9;have hhit:=λq=>YK hnd l9 q
  have hnx:Jl r.ls j r.ls[j]=false->∀k (hk:k<r.ls.length),k<j+1->Jl r.ls k r.ls[k]=false:=λq k hk h=>by
   by_cases z:k=j
   ·subst z;exact q
   ·exact s8 k hk zo
  generalize r.ls[j]=l at hgj hlf hmt hhit hnx;have hmf:B6 ((r.ls.take j).map RQ):=⟨show((r.ls.take j).map RQ).length<_ by rw[r9,sD];omega,λx hx=>by
   obtain⟨y,hy,rfl⟩:=t7.1 hx;show(RQ y).length<_;rw[Ep];exact hrf.2 _ (uW hy)⟩
  have hsf:An (RQ l):=show(RQ l).length<_ by rw[Ep];exact hlf
  have z1:∀q,(n1+q=1)=False:=λq=>ri zo
  have hmb:((r.ls.take j).map RQ).contains (RQ l)=Jl r.ls j l:=rfl;simp only[eZ,seval,eY,AN l9,hgj];refine(kB (n:=n1+5) λj hj=>hf1 j zo).mono ?_;rintro o H2 n2 ⟨rfl,rfl,rfl⟩;cases hb3:Jl r.ls j l with
  |true=>
   rw[hregE,hhit hb3,rt rfl,rj zd]at heq;rw[heq];simp only[eZ,seval,BV,Trg,rH,HC hlf,FI,Bq hf1,iV,HC hsf,U2 s5,RV,ra hmf,hmb,hb3,AQ,AG]
  |false=>
   have gt:DA 1 2 (hset (hset H1 (n1+5) (.box [Am l])) (n1+3) (.box [Am (RQ l)])) tk:=(l5.set (.inr (.inr (Bq hf1 5)))).set (.inr (.inr (by rw[AA _ _ _ _ zo];exact Bq hf1 3)));have gf:AP (hset (hset H1 (n1+5) (.box [Am l])) (n1+3) (.box [Am (RQ l)])) (n1+12):=(hf1.hset (m:=n1+12) zo zo).hset (m:=n1+12) zo zo;have q1:BH (hset (hset H1 (n1+5) (.box [Am l])) (n1+3) (.box [Am (RQ l)])) 1 tk=True:=ra gt.app;have q2:((r.ls.take j).length<=35184372088831)=True:=ra (by rw[sD];omega);have q3:Al ((r.ls.take j).length+1) 24=True:=ra (Ac (by rw[sD];omega) zd);simp only[eZ,seval,r9,BV,Trg,rH,HC hlf,FI,Bq hf1,iV,HC hsf,U2 s5,RV,ra hmf,hmb,hb3,AQ,q2,q3,q1,ej,AG];refine .mk ⟨j+1,.own (n1+10) 1,hset (AU (hset (hset H1 (n1+5) (.box [Am l])) (n1+3) (.box [Am (RQ l)])) tk) (n1+10) .tok,n1+12⟩ ?_ ⟨l9,(Ab gt gf).hset (rq _) (show n1+10<n1+12 by omega),zp,?_,.inr (.inr ⟨n1+10,rfl,zo,AC ..⟩),.inl rfl,hnx hb3⟩ zp
   ·simp only[hmt,rz];rfl
   ·simp only[];rw[AA _ _ _ _ zo,Af gt (.inl zo),AA _ _ _ _ zo,AA _ _ _ _ zo];exact h11
 obtain rfl:j=r.ls.length:=zo
 rw[hregE,WR hnd λj hj=>s8 j hj hj]at heq;simp only[eZ,seval,Ad l9,e];exact .mk ⟨i+1,H1,n1⟩ rfl ⟨c9,hf1,me,h11,heq⟩ zp
end
section
def YL(b:Bool)(e:Int):Int:=if b=true then 0 else e
def On(d:xk):Int:=YL (KV d) 2
def Mq(d:xk):Int:=match CJ d with
 | .error e=>e
 | .ok x=>YL (decide (x=d)) 170
def Oo(d:xk):Int:=YL (decide (1<=d.ver)&&decide (d.ver<=255)) 170
def Oq(d:xk):Int:=match Av d.sh d.w d.h d.holes with
 |some _=>0
 |none=>130
def Or(d:xk):Int:=YL (B9 d) 170
def RW(d:xk):Int:=YL (decide (B0 d.ruls=[])) 171
def GQ{d:xk}{e:Int}(h:CJ d= .error e):e≠0:=by
 unfold CJ at h
 rintro rfl
 repeat' split at h
 all_goals simp at h
def dB:Dc Bool:=⟨.bool,Fg,λv=>match v with| .bool _=>True|_=>False,λv h=>by
 cases v<;>first|exact Wk.refl _|exact h.elim⟩
theorem RX(b:Bool):dB.ok (.bool b)=True:=rfl
theorem Mr(b:Bool):dB.dec (.bool b)=b:=rfl
def iX:Bc:=AG 213 (s2 dB dI bV λb e=>.int .i64 (YL b e)) (AG 153 (s1 dD zk Cf) (AG 110 (s2 dD dD (λ_ b=>zk b) λa b=>.bool (decide (a=b))) (AG 220 (s1 dD zk λd=>.bool (B9 d)) (AG 222 (s1 dD zk λd=>Am (B0 d.ruls)) (AG 218 (s2 dD DY (λd g=>zk d/\Av g.sh g.w g.h g.holes=some g.cells/\An g.holes) λd g=>.int .i64 (DV g.cells d.regs)) tnil)))))
def Kl:AH prog iX:=(((((AH.tnil.add (q2 λd g h=>p218 d g h.1 h.2.1 h.2.2)).add (q1 λd h=>p222 d h.ru)).add (q1 λd h=>p220 d h)).add (q2 λa b h=>p110 a b h)).add (q1 λd h=>p153 d h)).add (q2 λb e _=>p213 b e)
def YM{H:AB}{n i:Nat}(hf:AP H n)(hi:n<=i)(a b:xq):C5 H (hset (hset H i a) i b):=λid ob h=>by
 have:=hf.lt h;rw[AA _ _ _ _ zo,AA _ _ _ _ zo];exact h
def YN(d:xk):(decide ((0:Int)<d.syms.length)&&decide ((d.syms.length:Int)<=16)&&decide ((d.regs.length:Int)<=4)&&decide ((d.clus.length:Int)<=4)&&decide ((d.ruls.length:Int)<=16))=KV d:=by
 rw[su];simp [KV];omega
def cr(l:List Int):decide ((l.length:Int)=0)=decide (l=[]):=by
 cases l<;>simp;omega
variable {d:xk} {H:AB} {n q:Nat}
theorem u1(hd:zk d)(h0:AD H q=some (.box (AL d))):Ao prog 212 [.ptr q 0] H n (.int .i64 (On d)):=by
 refine Ao.of pQ.l zt λhf=>pQ.a (AI Kl (AJ ?_))
 simp only[eZ,seval,r9,pQ,h0,iX,s2,RX,Mr,BD,Au,YN,AG];exact⟨rfl,λ_ _ h=>h⟩
theorem u2(hd:zk d)(h0:AD H q=some (.box (AL d))):Ao prog 214 [.ptr q 0] H n (.int .i64 (Mq d)):=by
 refine Ao.of gF.l zt λhf=>gF.a (AI Kl (AJ ?_))
 have hq:=hf.lt h0;have y1:∀k,(n+k=q)=False:=λk=>ri zo
 unfold Mq;cases hr:CJ d with
 |error e=>
  have hv:Cf d= .tup [B5 KW,.int .i64 e]:=by unfold Cf;rw[hr]
  have he:(e=0)=False:=ri (GQ hr);simp only[eZ,seval,rf,eY,gF,h0,iX,s1,BR,Az,ra hd,hv,Bq hf,he,AG];exact YM hf zo _ _
 |ok x=>
  have hv:Cf d= .tup [B5 x,.int .i64 0]:=by unfold Cf;rw[hr]
  simp only[eZ,seval,re,eY,gF,h0,iX,s1,s2,BR,Az,ra hd,hv,Bq hf,y1,RX,Mr,BD,Au,AG];exact YM hf zo _ _
theorem u3(h0:AD H q=some (.box (AL d))):Ao prog 215 [.ptr q 0] H n (.int .i64 (Oo d)):=by
 refine Ao.of pR.l zt λhf=>pR.a (AI Kl (AJ ?_))
 simp only[eZ,seval,pR,h0,iX,s2,RX,Mr,BD,Au,AG];exact⟨rfl,λ_ _ h=>h⟩
theorem u6(hd:zk d)(h0:AD H q=some (.box (AL d))):Ao prog 219 [.ptr q 0] H n (.int .i64 (Or d)):=by
 refine Ao.of pU.l zt λhf=>pU.a (AI Kl (AJ ?_))
 simp only[eE,eN,seval,pU,h0,iX,s1,s2,RX,Mr,BD,Au,BR,Az,ra hd,AG];exact⟨rfl,λ_ _ h=>h⟩
theorem u7(hd:zk d)(h0:AD H q=some (.box (AL d))):Ao prog 221 [.ptr q 0] H n (.int .i64 (RW d)):=by
 refine Ao.of pV.l zt λhf=>pV.a (AI Kl (AJ ?_))
 simp only[eE,eN,seval,r9,pV,h0,iX,s1,s2,RX,Mr,BD,Au,BR,Az,ra hd,cr,AG];exact⟨rfl,λ_ _ h=>h⟩
theorem u5{g:v7}{q':Nat}(hd:zk d)(hG:Av g.sh g.w g.h g.holes=some g.cells)(hh:An g.holes)(h0:AD H q=some (.box (AL d)))(h1:AD H q'=some (.box (AE g.sh g.w g.h g.holes g.cells))):Ao prog 217 [.ptr q 0,.ptr q' 0] H n (.int .i64 (DV g.cells d.regs)):=by
 refine Ao.of pT.l zt λhf=>pT.a (AI Kl (AJ ?_))
 simp only[eE,eN,seval,pT,h0,h1,iX,s2,Fl,Ds,BR,Az,ra hd,hG,ra hh,AG];exact λ_ _ h=>h
abbrev gr0:List Fs:=[.int .i64 0,.int .i64 0,.int .i64 0,.sl .nil [],.sl .nil []]
def Tmc:Bc:=AG 155 (λa H=>match a with
 |[.int .i64 sh,.int .i64 w,.int .i64 h,x]=>(BA.ok x/\An (BA.dec x),Be sh w h (BA.dec x))
 |_=>(False,.tup [])) tnil
theorem kM:AH prog Tmc:=AH.tnil.add cB
theorem u4{q':Nat}(s6:q≠q')(hh:An d.holes)(h0:AD H q=some (.box (AL d)))(h1:AD H q'=some (.box gr0)):
  AV prog 216 [.ptr q 0,.ptr q' 0] H n λo H' n'=>o= .ret (.int .i64 (Oq d))/\n'=n/\∃cs,H'=hset H q' (.box cs)/\∀cells,Av d.sh d.w d.h d.holes=some cells->cs=AE d.sh d.w d.h d.holes cells:=by
 refine pS.a (AI kM (AJ ?_));unfold Oq;cases hc:Av d.sh d.w d.h d.holes with
 |none=>
  have hv:Be d.sh d.w d.h d.holes= .tup [Ek 0 0 0 [] [],.int .i64 130]:=by unfold Be;rw[hc]
  simp only[eE,eN,seval,eY,pS,h0,h1,Tmc,Ak,Ag,ra hh,hv,AG];exact⟨_,rfl⟩
 |some cells=>
  have hv:Be d.sh d.w d.h d.holes= .tup [Ek d.sh d.w d.h d.holes cells,.int .i64 0]:=by unfold Be;rw[hc]
  simp only[eE,eN,seval,eY,pS,h0,h1,Tmc,Ak,Ag,ra hh,hv,AG];exact⟨_,rfl,λc h=>by cases h;rfl⟩
end
theorem WS(d:xk):D2 d=if On d≠0 then On d else if Mq d≠0 then Mq d else if Oo d≠0 then Oo d else match Av d.sh d.w d.h d.holes with
  |none=>130
  |some cells=>if DV cells d.regs≠0 then DV cells d.regs else if Or d≠0 then Or d else RW d:=by
 unfold D2 On Mq Oo Or RW;cases KV d with
 |false=>rfl
 |true=>
 cases hr:CJ d with
 |error e=>simp [YL,GQ hr]
 |ok x=>
 by_cases hx:x=d
 ·by_cases hv:d.ver<1\/255<d.ver
  ·have:(decide (1<=d.ver)&&decide (d.ver<=255))=false:=by simp;omega
   simp [YL,hx,hv,this]
  ·have:(decide (1<=d.ver)&&decide (d.ver<=255))=true:=by simp;omega
   cases hc:Av d.sh d.w d.h d.holes with
   |none=>simp [YL,hx,hv,this]
   |some cells=>
    cases B9 d<;>by_cases hu:B0 d.ruls=[]<;>simp [YL,hx,hv,this,hu]
 ·simp [YL,hx]
abbrev TO:List Fs:=[.fn (.func 212) [] [.ptr 0 0],.fn (.func 214) [] [.ptr 0 0],.fn (.func 215) [] [.ptr 0 0],.fn (.func 216) [] [.ptr 0 0,.ptr 2 0],.fn (.func 217) [] [.ptr 0 0,.ptr 2 0],.fn (.func 219) [] [.ptr 0 0],.fn (.func 221) [] [.ptr 0 0]]
structure IChk(d:xk)(v:VF):Prop where
 hi:v.i<=7
 h0:AD v.H 0=some (.box (AL d))
 z1:0<v.i->On d=0
 z2:1<v.i->Mq d=0
 z3:2<v.i->Oo d=0
 g0:v.i<=3->AD v.H 2=some (.box gr0)
 z4:3<v.i->∃cells,Av d.sh d.w d.h d.holes=some cells/\AD v.H 2=some (.box (AE d.sh d.w d.h d.holes cells))/\(4<v.i->DV cells d.regs=0)
 z6:5<v.i->Or d=0
 z7:6<v.i->RW d=0
def p154(d:xk)(hd:zk d):Aw prog 154 [B5 d] (.int .i64 (D2 d)):=by
 refine .mk ⟨As 0 d,zt⟩ zt (c154.a (AI AH.tnil (AJ ?_)));simp only[eE,eN,seval,c154];have h7:((7:Nat):Int)=7:=rfl;refine AO (λv:VF=>⟨[(14,true,.sl (.exact 1) TO),(15,true,.int .i64 7),(16,true,.int .i64 v.i)],v.H,v.n⟩) (IChk d) (λv=>7-v.i)
  ⟨0,hset (hset Ai 0 (.box (AL d))) 2 (.box gr0),3⟩ rfl ⟨rm _,rfl,λh=>absurd h (td _),λh=>absurd h (td _),λh=>absurd h (td _),λ_=>rfl,λh=>absurd h (td _),λh=>absurd h (td _),λh=>absurd h (td _)⟩ ?_
 rintro⟨i,H,n⟩ hI;obtain⟨hi,h0,z1,z2,z3,g0,z4,z6,z7⟩:=hI;simp only at hi h0 z1 z2 z3 g0 z4 z6 z7;have hS:=WS d;by_cases c9:i<7;case neg=>
  obtain⟨cells,hc,-,hr⟩:=z4 zo;have hlF:((i:Int)<7)=False:=ri zo;simp only[z1 zo,z2 zo,z3 zo,hc,hr zo,z6 zo,z7 zo,ne_eq,ux,sG]at hS;rw[hS];simp only[eZ,seval,hlF]
 have hlT:((i:Int)<7)=True:=ra zo;have hlN:((i:Int)<((7:Nat):Int))=True:=hlT;have e:=AK (k:=i) zo;have h8:i=0\/i=1\/i=2\/i=3\/i=4\/i=5\/i=6:=zo
 rcases h8 with h8|h8|h8|h8|h8|h8|h8
 ·have hg:TO[i]?=some (.fn (.func 212) [] [.ptr 0 0]):=by rw[h8];rfl
  have hl7:i<TO.length:=c9;simp only[eZ,seval,rZ,rr,ry,hlT,hlN,hg];refine(u1 hd h0).mono ?_;rintro o H' n' ⟨rfl,rfl,rfl⟩;by_cases hz:On d=0
  ·rw[hz];simp only[eZ,seval,re,BV,e];exact .mk ⟨i+1,H',n'⟩ rfl ⟨c9,h0,λ_=>hz,λh=>absurd h zp,λh=>absurd h zp,λ_=>g0 zo,λh=>absurd h zp,λh=>absurd h zp,λh=>absurd h zp⟩ zp
  ·rw[rt hz]at hS;rw[hS];simp only[eZ,seval,rf,BV,ri hz]
 ·have hg:TO[i]?=some (.fn (.func 214) [] [.ptr 0 0]):=by rw[h8];rfl
  have hl7:i<TO.length:=c9;simp only[eZ,seval,rZ,rr,ry,hlT,hlN,hg];refine(u2 hd h0).mono ?_;rintro o H' n' ⟨rfl,rfl,rfl⟩;simp only[z1 zo,ne_eq,ux,sG]at hS;by_cases hz:Mq d=0
  ·rw[hz];simp only[eZ,seval,re,BV,e];exact .mk ⟨i+1,H',n'⟩ rfl ⟨c9,h0,λ_=>z1 zo,λ_=>hz,λh=>absurd h zp,λ_=>g0 zo,λh=>absurd h zp,λh=>absurd h zp,λh=>absurd h zp⟩ zp
  ·rw[rt hz]at hS;rw[hS];simp only[eZ,seval,rf,BV,ri hz]
 ·have hg:TO[i]?=some (.fn (.func 215) [] [.ptr 0 0]):=by rw[h8];rfl
  have hl7:i<TO.length:=c9;simp only[eZ,seval,rZ,rr,ry,hlT,hlN,hg];refine(u3 h0).mono ?_;rintro o H' n' ⟨rfl,rfl,rfl⟩;simp only[z1 zo,z2 zo,ne_eq,ux,sG]at hS;by_cases hz:Oo d=0
  ·rw[hz];simp only[eZ,seval,re,BV,e];exact .mk ⟨i+1,H',n'⟩ rfl ⟨c9,h0,λ_=>z1 zo,λ_=>z2 zo,λ_=>hz,λ_=>g0 zo,λh=>absurd h zp,λh=>absurd h zp,λh=>absurd h zp⟩ zp
  ·rw[rt hz]at hS;rw[hS];simp only[eZ,seval,rf,BV,ri hz]
 ·have hg:TO[i]?=some (.fn (.func 216) [] [.ptr 0 0,.ptr 2 0]):=by rw[h8];rfl
  have hl7:i<TO.length:=c9;simp only[eZ,seval,rZ,rr,ry,hlT,hlN,hg];refine(u4 zd hd.ho h0 (g0 zo)).mono ?_;rintro o H' n' ⟨rfl,rfl,cs,rfl,wz⟩;have wj:AD (hset H 2 (.box cs)) 0=some (.box (AL d)):=by rw[AA _ _ _ _ zd];exact h0
  simp only[z1 zo,z2 zo,z3 zo,ne_eq,ux,sG]at hS;cases hc:Av d.sh d.w d.h d.holes with
  |none=>
   have hs4:Oq d=130:=by unfold Oq;rw[hc]
   rw[hc]at hS;rw[hS,hs4];simp only[eZ,seval,rf,BV]
  |some cells=>
   have hs4:Oq d=0:=by unfold Oq;rw[hc]
   rw[hs4];simp only[eZ,seval,re,BV,e];refine .mk ⟨i+1,hset H 2 (.box cs),n'⟩ rfl ⟨c9,wj,λ_=>z1 zo,λ_=>z2 zo,λ_=>z3 zo,λh=>absurd h zp,λ_=>⟨cells,hc,by simp only[];rw[AC,wz cells hc],λh=>absurd h zp⟩,λh=>absurd h zp,λh=>absurd h zp⟩ zp
 ·have hg:TO[i]?=some (.fn (.func 217) [] [.ptr 0 0,.ptr 2 0]):=by rw[h8];rfl
  have hl7:i<TO.length:=c9;obtain⟨cells,hc,hg2,hr⟩:=z4 zo;simp only[eZ,seval,rZ,rr,ry,hlT,hlN,hg];refine(u5 (g:=⟨d.sh,d.w,d.h,d.holes,cells⟩) hd hc hd.ho h0 hg2).mono ?_;rintro o H' n' ⟨rfl,rfl,rfl⟩;simp only[z1 zo,z2 zo,z3 zo,hc,ne_eq,ux,sG]at hS;by_cases hz:DV cells d.regs=0
  ·rw[hz];simp only[eZ,seval,re,BV,e];exact .mk ⟨i+1,H',n'⟩ rfl ⟨c9,h0,λ_=>z1 zo,λ_=>z2 zo,λ_=>z3 zo,λh=>absurd h zp,λ_=>⟨cells,hc,hg2,λ_=>hz⟩,λh=>absurd h zp,λh=>absurd h zp⟩ zp
  ·rw[rt hz]at hS;rw[hS];simp only[eZ,seval,rf,BV,ri hz]
 ·have hg:TO[i]?=some (.fn (.func 219) [] [.ptr 0 0]):=by rw[h8];rfl
  have hl7:i<TO.length:=c9;obtain⟨cells,hc,hg2,hr⟩:=z4 zo;simp only[eZ,seval,rZ,rr,ry,hlT,hlN,hg];refine(u6 hd h0).mono ?_;rintro o H' n' ⟨rfl,rfl,rfl⟩;simp only[z1 zo,z2 zo,z3 zo,hc,hr zo,ne_eq,ux,sG]at hS;by_cases hz:Or d=0
  ·rw[hz];simp only[eZ,seval,re,BV,e];exact .mk ⟨i+1,H',n'⟩ rfl ⟨c9,h0,λ_=>z1 zo,λ_=>z2 zo,λ_=>z3 zo,λh=>absurd h zp,λ_=>⟨cells,hc,hg2,λ_=>hr zo⟩,λ_=>hz,λh=>absurd h zp⟩ zp
  ·rw[rt hz]at hS;rw[hS];simp only[eZ,seval,rf,BV,ri hz]
 ·have hg:TO[i]?=some (.fn (.func 221) [] [.ptr 0 0]):=by rw[h8];rfl
  have hl7:i<TO.length:=c9;obtain⟨cells,hc,hg2,hr⟩:=z4 zo;simp only[eZ,seval,rZ,rr,ry,hlT,hlN,hg];refine(u7 hd h0).mono ?_;rintro o H' n' ⟨rfl,rfl,rfl⟩;simp only[z1 zo,z2 zo,z3 zo,hc,hr zo,z6 zo,ne_eq,ux,sG]at hS;by_cases hz:RW d=0
  ·rw[hz];simp only[eZ,seval,re,BV,e];exact .mk ⟨i+1,H',n'⟩ rfl ⟨c9,h0,λ_=>z1 zo,λ_=>z2 zo,λ_=>z3 zo,λh=>absurd h zp,λ_=>⟨cells,hc,hg2,λ_=>hr zo⟩,λ_=>z6 zo,λ_=>hz⟩ zp
  ·rw[hS];simp only[eZ,seval,rf,BV,ri hz]
structure zx where
 d:xk
 g:v7
 nb:List (List Int)
 ls:List (List (List Int))
 deriving DecidableEq
def BE(x:xk)(cells:List Int):v7:=⟨x.sh,x.w,x.h,x.holes,cells⟩
def YO(x:xk)(cells:List Int):zx:=
 ⟨x,BE x cells,El x.sh (Aa x.sh x.w cells),((List.range 8).map λf=>FA x.sh x.w x.h (Aa x.sh x.w cells) f)++x.regs.map λr=>r.ls.map (Bk cells)⟩
def EY(d:xk):Except Int zx:=match CJ d with
 | .error e=>.error e
 | .ok x=>if D2 x≠0 then .error (D2 x)else match Av x.sh x.w x.h x.holes with
  |none=>.error 130
  |some cells=>.ok (YO x cells)
def JH(k:zx):Bool:=match EY k.d with
 | .ok x=>decide (k=x)
 | .error _=>false
def BM(k:zx):Int:=if JH k then 0 else 180
def RY{k:zx}(h:JH k=true):EY k.d= .ok k:=by grind [JH]
def RZ{x:xk}(h:D2 x=0):∃cells,Av x.sh x.w x.h x.holes=some cells:=by
 unfold D2 at h;split at h
 ·cases h
 ·split at h
  ·rename_i e he;have:=GQ he;exact absurd h this
  ·grind
def Ms{d:xk}{k:zx}(h:EY d= .ok k):∃x cells,CJ d= .ok x/\D2 x=0/\Av x.sh x.w x.h x.holes=some cells/\k=YO x cells:=by grind [EY]
def iY(a b:List Int)(ha:wide a):Aw prog 167 [Am a,Am b] (.bool (decide (a=b))):=by
 refine .mk ⟨AZ 0 _,AZ 0 _,zt⟩ zt (gG.a (AI AH.tnil (AJ ?_)));have wm:a.length<1125899906842624:=ha;by_cases hl:a.length=b.length;case neg=>
  have hR:decide (a=b)=false:=sa λq=>hl (by rw[q])
  have hq:((a.length:Int)=(b.length:Int))=False:=ri zo;rw[hR];simp only[eZ,seval,rf,r9,gG,hq]
 have hq:((a.length:Int)=(b.length:Int))=True:=ra zo;simp only[eZ,seval,re,r9,gG,hq];refine AO (λi:Nat=>⟨[(0,true,Am a),(1,true,Am b),(5,true,.int .i64 i)],Ai,0⟩) (λi=>i<=a.length/\a.take i=b.take i) (λi=>a.length-i) 0 rfl ⟨rm _,rfl⟩ ?_;rintro i ⟨hi,l5⟩;by_cases c9:i<a.length
 ·have hltb:i<b.length:=zo
  have hg:=rc c9;have hgb:=rc hltb;have e:=AK (k:=i) zo;have ta:a.take (i+1)=a.take i++[a[i]]:=by rw[sf,hg];rfl
  have tb:b.take (i+1)=b.take i++[b[i]]:=by rw[sf,hgb];rfl
  generalize a[i]=x at hg ta;generalize b[i]=y at hgb tb;by_cases hxy:x=y
  ·simp only[eZ,seval,re,eY,AN c9,AN hltb,hg,hgb,e,hxy];exact .mk (i+1) rfl ⟨c9,by rw[ta,tb,l5,hxy]⟩ zo
  ·have hR:decide (a=b)=false:=sa λq=>hxy (by rw[q]at hg;rw[hg]at hgb;exact Option.some.inj hgb)
   rw[hR];simp only[eZ,seval,rf,eY,AN c9,AN hltb,hg,hgb,A3 hxy]
 obtain rfl:i=a.length:=zo
 have hR:decide (a=b)=true:=sk (by rw[se,hl,se]at l5;exact l5);rw[hR];simp only[eZ,seval,r9,Ad c9]
def p167(a b:List Int)(ha:An a):Aw prog 167 [Am a,Am b] (.bool (decide (a=b))):=iY a b (Dz ha)
def p179(r:zj):Aw prog 179 [Br r] (.bool (IR r)):=by
 refine .mk ⟨BN 0 r,zt⟩ zt (pd.a (AI AH.tnil (AJ ?_)));simp only[eZ,seval,pd];rfl
def Tr7:Bc:=AG 179 (s1 Mk KR λr=>.bool (IR r)) tnil
def kN:AH prog Tr7:=AH.tnil.add (q1 λr _=>p179 r)
structure IUr(d:xk)(v:VU):Prop where
 hi:v.i<=d.ruls.length
 fr:AP v.H v.n
 hn:2<=v.n
 h0:AD v.H 0=some (.box (AL d))
 tok:DA 1 1 v.H v.tk
 es:v.tk.esz=1\/B0 (d.ruls.take v.i)=[]
def p123(d:xk)(hr:An d.ruls):Aw prog 123 [B5 d] (Am (B0 d.ruls)):=by
 refine .mk ⟨As 0 d,zt⟩ (AZ 0 _) (pe.a (AI kN (AJ ?_)));have hrl:d.ruls.length<1000000000:=hr;simp only[eE,eN,seval,pe];refine AO (λv:VU=>⟨[(1,true,.ptr 0 0),(3,true,.sl v.tk ((B0 (d.ruls.take v.i)).map eI)),(4,true,.int .i64 v.i)],v.H,v.n⟩) (IUr d) (λv=>d.ruls.length-v.i)
  ⟨0,.nil,hset Ai 0 (.box (AL d)),2⟩ rfl ⟨rm _,AP.nil.hset (m:=2) (rm 2) (show 0<2 by decide),rq _,rfl,.inl rfl,.inr rfl⟩ ?_
 rintro⟨i,tk,H,n⟩ ⟨hi,l7,hn,h0,l5,s5⟩;simp only at hi l7 hn h0 l5 s5;by_cases c9:i<d.ruls.length
 ·have hg:=rc c9;have e:=AK (k:=i) zo;have hu:=Ld c9;have hul:=Mp (d.ruls.take i);rw[sD]at hul;generalize d.ruls[i]=r at hg hu;cases hrr:IR r with
  |true=>
   rw[hrr,rt rfl,sE]at hu;simp only[eZ,seval,re,eY,AN c9,hg,Tr7,s1,CA,Bg,hrr,e,h0,AG];refine .mk ⟨i+1,tk,H,n⟩ ?_ ⟨c9,l7,hn,h0,l5,by simp only[hu];exact s5⟩ zp;simp only[hu]
  |false=>
   rw[hrr,rj zd]at hu;have q1:BH H 1 tk=True:=ra l5.app;have q2:((B0 (d.ruls.take i)).length<=35184372088831)=True:=ra zo;have q3:Al ((B0 (d.ruls.take i)).length+1) 8=True:=ra (Ac zo zd);simp only[eZ,seval,rf,eY,AN c9,hg,Bq l7,Tr7,s1,CA,Bg,hrr,e,h0,q1,q2,q3,AG];refine .mk ⟨i+1,.own (n+3) 1,hset (AU H tk) (n+3) .tok,n+5⟩ ?_ ⟨c9,(Ab l5 l7).hset (m:=n+5) zo zo,zp,?_,.inr (.inr ⟨n+3,rfl,zo,AC ..⟩),.inl rfl⟩ zp
   ·simp only[hu,rz];rfl
   ·simp only[];rw[AA _ _ _ _ zo,Af l5 (.inr ⟨_,h0⟩)];exact h0
 obtain rfl:i=d.ruls.length:=zo
 rw[se]at s5;simp only[eZ,seval,r9,Ad c9,se,h0];exact Wk.sl (s5.imp id λq=>by rw[q];rfl)
end Go.AM
