/-
  Names: each name's number put into a map; two elements with one name end the work · Names: a name's number, sets of symb.
  Conditions: none beyond those of its parts.
-/
import Derived.Test.YtbngedlokkndkaaGreatDoorB8
import Derived.Test.YtbngedlokkndkaaGreatDoorB6

set_option maxRecDepth 20000
set_option linter.all false
namespace Go.AM
open Go.Lib Go.Proofs Go.Proofs.Tryz
section
abbrev Wo(n:Int):Fs:=.ifc 39 (.int .i64 n)
abbrev Ia(l:List Bs):xq:=.map (G8 l 0) l.length
def Cu(H:AB)(n id:Nat)(pre ns:List Bs):xx->AB->Nat->Prop:=λo H' n'=>
 if Ak (pre++ns)=true then o= .tJ (Wo 161)/\H'=sA H id .dead/\n'=n else o= .ret (.mp id)/\H'=sA H id (Ia (pre++ns))/\n'=n
def HI(H:AB)(id:Nat)(pre ns:List Bs):xx->AB->Nat->Prop:=λo H' n'=>
 if Ak (pre++ns)=true then o= .tJ (Wo 161)/\(∃ob,AD H' id=some ob)/\Ci id H H' else(∃v,o= .ret v/\Wk v (.mp id))/\AD H' id=some (Ia (pre++ns))/\Ci id H H'
def Wp(n:Nat)(l:List Bs):(Ia l).under n:=by
 suffices h:∀(i n c:Nat),(xq.map (G8 l i) c).under n from h 0 n l.length
 induction l with
 |nil=>intro i n c;trivial
 |cons x r ih=>intro i n c;exact⟨zt,zt,ih (i+1) n c⟩
variable {H:AB} {f:Int} {pre:List Bs} {n id:Nat}
theorem Ow{H':AB}{ob ob1:xq}(hf:AU H n)(s5:id<n)(h1:AD H' id=some ob1)(hw:YR ob1 ob)(hu:ob.under n)(h2:Ci id H H'):Ha n H H' (sA H id ob):=by
 refine⟨λi o ho=>?_,λi hi=>?_⟩
 ·rw[AN]at ho;by_cases e:id=i
  ·subst e;rw[oE rfl]at ho;cases ho;exact⟨s5,⟨_,h1,hw⟩,.inl hu⟩
  ·rw[og e]at ho;exact⟨hf.lt ho,⟨o,h2 i o (Ne.symm e) ho,YR.refl _⟩,.inr ho⟩
 ·rw[AN];split
  ·exact λh=>by cases h
  ·exact hi
theorem Zf(ob:xq):YR ob .dead:=⟨λ_ _ _ _=>zt,λh=>by cases h⟩
theorem Cu.of{tF:FuncId}{args:List Fs}{ns:List Bs}(hc:CF prog tF)(hp:AD H id=some (Ia pre))(h:AU H n->id<n->AO prog tF args H n (HI H id pre ns)):AO prog tF args H n (Cu H n id pre ns):=by
 refine AO.fresh hc λhf=>?_
 have s5:=hf.lt hp;refine AO.forget (h hf s5) ?_;intro o H' n' q;unfold HI at q;by_cases ht:Ak (pre++ns)=true
 ·rw[oE ht]at q;obtain⟨rfl,⟨ob,h1⟩,h2⟩:=q;exact⟨.tJ (Wo 161),sA H id .dead,by unfold Cu;rw[oE ht];exact⟨rfl,rfl,rfl⟩,Ow hf s5 h1 (Zf _) zt h2,Wk.refl _,zt⟩
 ·rw[og ht]at q;obtain⟨⟨v,rfl,hw⟩,h1,h2⟩:=q;exact⟨.ret (.mp id),sA H id (Ia (pre++ns)),by unfold Cu;rw[og ht];exact⟨rfl,rfl,rfl⟩,Ow hf s5 h1 (YR.refl _) (Wp n _) h2,hw,s5⟩
structure VIx where
 i:Nat
 H:AB
 n:Nat
structure IIx(H:AB)(n id:Nat)(pre ns:List Bs)(v:VIx):Prop where
 hi:v.i<=ns.length
 hn:n<=v.n
 fr:AU v.H v.n
 hm:AD v.H id=some (Ia (pre++ns.take v.i))
 hk:Ci id H v.H
 tw:Ak (pre++ns.take v.i)=false
theorem Jy{ns:List Bs}{i:Nat}(h:i<ns.length)(w9:ns[i]∈pre++ns.take i):Ak (pre++ns)=true:=by
 have e:pre++ns=(pre++ns.take i)++ns[i]::ns.drop (i+1):=by
  rw[oT,<-oX h,qX]
 rw[e];exact Za w9
theorem Jz{l:List Bs}{s:Bs}(h:Ak l=false)(hs:s∉l):Ak (l++[s])=false:=Wi.2 ⟨h,hs⟩
theorem p124(x:xz):A6 prog 124 [Cb x] (.str x.nm):=by
 refine .mk ⟨LM 0 x,zt⟩ zt (c124.a (AE AG.sE (AF ?_)));simp only[eE,eN,seval,c124]
theorem p126(x:x9):A6 prog 126 [Fb x] (.str x.nm):=by
 refine .mk ⟨EA 0 x,zt⟩ zt (c126.a (AE AG.sE (AF ?_)));simp only[eE,eN,seval,c126]
theorem p131(x:x7):A6 prog 131 [BO x] (.str x.nm):=by
 refine .mk ⟨GI 0 x,zt⟩ zt (c131.a (AE AG.sE (AF ?_)));simp only[eE,eN,seval,c131]
theorem p135(x:zj):A6 prog 135 [Ao x] (.str x.nm):=by
 refine .mk ⟨BA 0 x,zt⟩ zt (c135.a (AE AG.sE (AF ?_)));simp only[eE,eN,seval,c135]
theorem p129(x:Bs):A6 prog 129 [.str x] (.str x):=by
 refine .mk ⟨zt,zt⟩ zt (c129.a (AE AG.sE (AF ?_)));simp only[eE,eN,seval,c129]
theorem p128:A6 prog 128 [] (Fw CL):=by
 refine .mk zt (Bo 0 _) (c128.a (AE AG.sE (AF ?_)));simp only[eE,eN,seval,c128];exact Wk.sl (.inl rfl)
def Tx1:Bk:=AJ 124 (s1 dSy I7 λx=>.str ((λx:xz=>x.nm) x)) sE
theorem mn:AG prog Tx1:=AG.sE.add (q1 λx _=>p124 x)
theorem Zg{l:List xz}(hl:sR l)(tj:pre.length<1000000000)(hf0:f=(pre.length:Int))(hp:AD H id=some (Ia pre))(hd:Ak pre=false):
  AO prog 123 [HP l,.int .i64 f,.fn (.func 124) [] [],.mp id] H n (Cu H n id pre (l.map (λx:xz=>x.nm))):=by
 subst hf0;refine Cu.of lg.l hp λhf s5=>lg.a (AE mn (AF ?_))
 have sk:l.length<1000000000:=hl;simp only[eE,eN,seval,o6,lg];refine AQ (λv:VIx=>⟨[(1,true,.int .i64 pre.length),(2,true,.fn (.func 124) [] []),(3,true,.mp id),(13,true,HP l),(14,true,.int .i64 l.length),(15,true,.int .i64 v.i)],v.H,v.n⟩) (IIx H n id pre (l.map (λx:xz=>x.nm))) (λv=>l.length-v.i)
  ⟨0,H,n⟩ rfl ⟨oq _,od _,hf,by rw[pZ,oR];exact hp,Ci.refl _,by rw[pZ,oR];exact hd⟩ ?_
 rintro⟨i,H1,n1⟩ hI;have hi:=hI.hi;have hn:=hI.hn;have l0:=hI.fr;have hm:=hI.hm;have hk:=hI.hk;have htw:=hI.tw;simp only[o6]at hi hn l0 hm hk htw;by_cases e9:i<l.length
 ·have hltm:i<(l.map (λx:xz=>x.nm)).length:=by rw[o6];exact e9
  have hg:=o8 e9;have hgm:(l.map (λx:xz=>x.nm))[i]=(λx:xz=>x.nm) l[i]:=rK ..;have e:=AI (k:=i) zo;have l6:(l.map (λx:xz=>x.nm)).take (i+1)=(l.map (λx:xz=>x.nm)).take i++[(λx:xz=>x.nm) l[i]]:=by rw[oG,o8 hltm,hgm];rfl
  have hpl2:(pre++(l.map (λx:xz=>x.nm)).take i).length=pre.length+i:=by rw[ou,oJ,o6];omega
  have ew:IntKind.wrap .i64 ((pre.length:Int)+(i:Int))=((pre.length+i:Nat):Int):=by rw[An zo zo];omega
  have y1:∀k,(n1+k=id)=False:=λk=>oA zo
  have y2:∀k,(id=n1+k)=False:=λk=>oA zo
  have w9:=λq=>Jy (pre:=pre) hltm (by rw[hgm];exact q)
  generalize hx:l[i]=x at hg hgm l6 w9;have hfi:=Fx (pre++(l.map (λx:xz=>x.nm)).take i) ((λx:xz=>x.nm) x);cases u9:BQ (pre++(l.map (λx:xz=>x.nm)).take i) ((λx:xz=>x.nm) x)with
  |some k=>
   have htt:Ak (pre++l.map (λx:xz=>x.nm))=true:=w9 (by
    apply Classical.byContradiction;intro q;rw[CU.2 q]at u9;cases u9)
   rw[u9,pr]at hfi;simp only[eZ,seval,xE,eY,Vw,AT e9,hg,Tx1,s1,Tf,P4,hm,hfi,Ez,KT.is,Cm,Bx l0,y1,AH,AJ];unfold HI;rw[oE htt];refine⟨rfl,⟨Ia (pre++(l.map (λx:xz=>x.nm)).take i),?_⟩,?_⟩
   ·rw[AA _ _ _ _ zo];exact hm
   ·exact hk.new hf zo
  |none=>
   rw[u9,qd]at hfi;have hms:=NI u9;rw[hpl2]at hms;simp only[eZ,seval,xE,eY,AT e9,hg,Tx1,s1,Tf,P4,hm,hfi,Ez,KT.is,Cm,Bx l0,y1,e,ew,hpl2,hms,AH,AJ];refine .mk ⟨i+1,sA (sA H1 (n1+3) (.box (Cb x).cells)) id (.map (G8 (pre++(l.map (λx:xz=>x.nm)).take i++[(λx:xz=>x.nm) x]) 0) (pre.length+(i+1))),n1+6⟩ rfl ⟨by simp only[o6];omega,zp,?_,?_,?_,?_⟩ zp
   ·exact(l0.sA (m:=n1+6) zo zo).sA (od (n1+6)) (show id<n1+6 by omega)
   ·simp only[];rw[AC,l6,<-oT,Ia,ou,hpl2];rfl
   ·exact(hk.new hf zo).set
   ·simp only[];rw[l6,<-oT];exact Jz htw (CU.1 u9)
 have v7:i=l.length:=zo
 subst v7;have hta:(l.map (λx:xz=>x.nm)).take l.length=l.map (λx:xz=>x.nm):=oY (by rw[o6];omega);rw[hta]at hm htw;simp only[eZ,seval,Ah e9];unfold HI;rw[htw,og zd];exact⟨⟨_,rfl,Wk.refl _⟩,hm,hk⟩
def Tx2:Bk:=AJ 126 (s1 ZS I7 λx=>.str ((λx:x9=>x.nm) x)) sE
theorem mo:AG prog Tx2:=AG.sE.add (q1 λx _=>p126 x)
theorem Zh{l:List x9}(hl:sR l)(tj:pre.length<1000000000)(hf0:f=(pre.length:Int))(hp:AD H id=some (Ia pre))(hd:Ak pre=false):
  AO prog 125 [GV l,.int .i64 f,.fn (.func 126) [] [],.mp id] H n (Cu H n id pre (l.map (λx:x9=>x.nm))):=by
 subst hf0;refine Cu.of lh.l hp λhf s5=>lh.a (AE mo (AF ?_))
 have sk:l.length<1000000000:=hl;simp only[eE,eN,seval,o6,lh];refine AQ (λv:VIx=>⟨[(1,true,.int .i64 pre.length),(2,true,.fn (.func 126) [] []),(3,true,.mp id),(13,true,GV l),(14,true,.int .i64 l.length),(15,true,.int .i64 v.i)],v.H,v.n⟩) (IIx H n id pre (l.map (λx:x9=>x.nm))) (λv=>l.length-v.i)
  ⟨0,H,n⟩ rfl ⟨oq _,od _,hf,by rw[pZ,oR];exact hp,Ci.refl _,by rw[pZ,oR];exact hd⟩ ?_
 rintro⟨i,H1,n1⟩ hI;have hi:=hI.hi;have hn:=hI.hn;have l0:=hI.fr;have hm:=hI.hm;have hk:=hI.hk;have htw:=hI.tw;simp only[o6]at hi hn l0 hm hk htw;by_cases e9:i<l.length
 ·have hltm:i<(l.map (λx:x9=>x.nm)).length:=by rw[o6];exact e9
  have hg:=o8 e9;have hgm:(l.map (λx:x9=>x.nm))[i]=(λx:x9=>x.nm) l[i]:=rK ..;have e:=AI (k:=i) zo;have l6:(l.map (λx:x9=>x.nm)).take (i+1)=(l.map (λx:x9=>x.nm)).take i++[(λx:x9=>x.nm) l[i]]:=by rw[oG,o8 hltm,hgm];rfl
  have hpl2:(pre++(l.map (λx:x9=>x.nm)).take i).length=pre.length+i:=by rw[ou,oJ,o6];omega
  have ew:IntKind.wrap .i64 ((pre.length:Int)+(i:Int))=((pre.length+i:Nat):Int):=by rw[An zo zo];omega
  have y1:∀k,(n1+k=id)=False:=λk=>oA zo
  have y2:∀k,(id=n1+k)=False:=λk=>oA zo
  have w9:=λq=>Jy (pre:=pre) hltm (by rw[hgm];exact q)
  generalize hx:l[i]=x at hg hgm l6 w9;have hfi:=Fx (pre++(l.map (λx:x9=>x.nm)).take i) ((λx:x9=>x.nm) x);cases u9:BQ (pre++(l.map (λx:x9=>x.nm)).take i) ((λx:x9=>x.nm) x)with
  |some k=>
   have htt:Ak (pre++l.map (λx:x9=>x.nm))=true:=w9 (by
    apply Classical.byContradiction;intro q;rw[CU.2 q]at u9;cases u9)
   rw[u9,pr]at hfi;simp only[eZ,seval,xE,eY,Vw,AT e9,hg,Tx2,s1,I9,G4,hm,hfi,Ez,KT.is,Cm,Bx l0,y1,AH,AJ];unfold HI;rw[oE htt];refine⟨rfl,⟨Ia (pre++(l.map (λx:x9=>x.nm)).take i),?_⟩,?_⟩
   ·rw[AA _ _ _ _ zo];exact hm
   ·exact hk.new hf zo
  |none=>
   rw[u9,qd]at hfi;have hms:=NI u9;rw[hpl2]at hms;simp only[eZ,seval,xE,eY,AT e9,hg,Tx2,s1,I9,G4,hm,hfi,Ez,KT.is,Cm,Bx l0,y1,e,ew,hpl2,hms,AH,AJ];refine .mk ⟨i+1,sA (sA H1 (n1+3) (.box (Fb x).cells)) id (.map (G8 (pre++(l.map (λx:x9=>x.nm)).take i++[(λx:x9=>x.nm) x]) 0) (pre.length+(i+1))),n1+6⟩ rfl ⟨by simp only[o6];omega,zp,?_,?_,?_,?_⟩ zp
   ·exact(l0.sA (m:=n1+6) zo zo).sA (od (n1+6)) (show id<n1+6 by omega)
   ·simp only[];rw[AC,l6,<-oT,Ia,ou,hpl2];rfl
   ·exact(hk.new hf zo).set
   ·simp only[];rw[l6,<-oT];exact Jz htw (CU.1 u9)
 have v7:i=l.length:=zo
 subst v7;have hta:(l.map (λx:x9=>x.nm)).take l.length=l.map (λx:x9=>x.nm):=oY (by rw[o6];omega);rw[hta]at hm htw;simp only[eZ,seval,Ah e9];unfold HI;rw[htw,og zd];exact⟨⟨_,rfl,Wk.refl _⟩,hm,hk⟩
def Tx3:Bk:=AJ 129 (s1 dS I7 λx=>.str ((λx:Bs=>x) x)) sE
theorem mq:AG prog Tx3:=AG.sE.add (q1 λx _=>p129 x)
theorem eK{l:List Bs}(hl:sR l)(tj:pre.length<1000000000)(hf0:f=(pre.length:Int))(hp:AD H id=some (Ia pre))(hd:Ak pre=false):
  AO prog 127 [Fw l,.int .i64 f,.fn (.func 129) [] [],.mp id] H n (Cu H n id pre (l.map (λx:Bs=>x))):=by
 subst hf0;refine Cu.of li.l hp λhf s5=>li.a (AE mq (AF ?_))
 have sk:l.length<1000000000:=hl;simp only[eE,eN,seval,o6,li];refine AQ (λv:VIx=>⟨[(1,true,.int .i64 pre.length),(2,true,.fn (.func 129) [] []),(3,true,.mp id),(13,true,Fw l),(14,true,.int .i64 l.length),(15,true,.int .i64 v.i)],v.H,v.n⟩) (IIx H n id pre (l.map (λx:Bs=>x))) (λv=>l.length-v.i)
  ⟨0,H,n⟩ rfl ⟨oq _,od _,hf,by rw[pZ,oR];exact hp,Ci.refl _,by rw[pZ,oR];exact hd⟩ ?_
 rintro⟨i,H1,n1⟩ hI;have hi:=hI.hi;have hn:=hI.hn;have l0:=hI.fr;have hm:=hI.hm;have hk:=hI.hk;have htw:=hI.tw;simp only[o6]at hi hn l0 hm hk htw;by_cases e9:i<l.length
 ·have hltm:i<(l.map (λx:Bs=>x)).length:=by rw[o6];exact e9
  have hg:=o8 e9;have hgm:(l.map (λx:Bs=>x))[i]=(λx:Bs=>x) l[i]:=rK ..;have e:=AI (k:=i) zo;have l6:(l.map (λx:Bs=>x)).take (i+1)=(l.map (λx:Bs=>x)).take i++[(λx:Bs=>x) l[i]]:=by rw[oG,o8 hltm,hgm];rfl
  have hpl2:(pre++(l.map (λx:Bs=>x)).take i).length=pre.length+i:=by rw[ou,oJ,o6];omega
  have ew:IntKind.wrap .i64 ((pre.length:Int)+(i:Int))=((pre.length+i:Nat):Int):=by rw[An zo zo];omega
  have y1:∀k,(n1+k=id)=False:=λk=>oA zo
  have y2:∀k,(id=n1+k)=False:=λk=>oA zo
  have w9:=λq=>Jy (pre:=pre) hltm (by rw[hgm];exact q)
  generalize hx:l[i]=x at hg hgm l6 w9;have hfi:=Fx (pre++(l.map (λx:Bs=>x)).take i) ((λx:Bs=>x) x);cases u9:BQ (pre++(l.map (λx:Bs=>x)).take i) ((λx:Bs=>x) x)with
  |some k=>
   have htt:Ak (pre++l.map (λx:Bs=>x))=true:=w9 (by
    apply Classical.byContradiction;intro q;rw[CU.2 q]at u9;cases u9)
   rw[u9,pr]at hfi;simp only[eZ,seval,xE,eY,Vw,AT e9,hg,Tx3,s1,Fc,Db,hm,hfi,Ez,KT.is,Cm,AJ];unfold HI;rw[oE htt];refine⟨rfl,⟨Ia (pre++(l.map (λx:Bs=>x)).take i),?_⟩,?_⟩
   ·exact hm
   ·exact hk
  |none=>
   rw[u9,qd]at hfi;have hms:=NI u9;rw[hpl2]at hms;simp only[eZ,seval,xE,eY,AT e9,hg,Tx3,s1,Fc,Db,hm,hfi,Ez,KT.is,Cm,e,ew,hpl2,hms,AJ];refine .mk ⟨i+1,sA H1 id (.map (G8 (pre++(l.map (λx:Bs=>x)).take i++[(λx:Bs=>x) x]) 0) (pre.length+(i+1))),n1⟩ rfl ⟨by simp only[o6];omega,zp,?_,?_,?_,?_⟩ zp
   ·exact l0.sA (m:=n1) (od _) zo
   ·simp only[];rw[AC,l6,<-oT,Ia,ou,hpl2];rfl
   ·exact hk.set
   ·simp only[];rw[l6,<-oT];exact Jz htw (CU.1 u9)
 have v7:i=l.length:=zo
 subst v7;have hta:(l.map (λx:Bs=>x)).take l.length=l.map (λx:Bs=>x):=oY (by rw[o6];omega);rw[hta]at hm htw;simp only[eZ,seval,Ah e9];unfold HI;rw[htw,og zd];exact⟨⟨_,rfl,Wk.refl _⟩,hm,hk⟩
def Tx4:Bk:=AJ 131 (s1 nr I7 λx=>.str ((λx:x7=>x.nm) x)) sE
theorem mr:AG prog Tx4:=AG.sE.add (q1 λx _=>p131 x)
theorem Zi{l:List x7}(hl:sR l)(tj:pre.length<1000000000)(hf0:f=(pre.length:Int))(hp:AD H id=some (Ia pre))(hd:Ak pre=false):
  AO prog 130 [EY l,.int .i64 f,.fn (.func 131) [] [],.mp id] H n (Cu H n id pre (l.map (λx:x7=>x.nm))):=by
 subst hf0;refine Cu.of lj.l hp λhf s5=>lj.a (AE mr (AF ?_))
 have sk:l.length<1000000000:=hl;simp only[eE,eN,seval,o6,lj];refine AQ (λv:VIx=>⟨[(1,true,.int .i64 pre.length),(2,true,.fn (.func 131) [] []),(3,true,.mp id),(13,true,EY l),(14,true,.int .i64 l.length),(15,true,.int .i64 v.i)],v.H,v.n⟩) (IIx H n id pre (l.map (λx:x7=>x.nm))) (λv=>l.length-v.i)
  ⟨0,H,n⟩ rfl ⟨oq _,od _,hf,by rw[pZ,oR];exact hp,Ci.refl _,by rw[pZ,oR];exact hd⟩ ?_
 rintro⟨i,H1,n1⟩ hI;have hi:=hI.hi;have hn:=hI.hn;have l0:=hI.fr;have hm:=hI.hm;have hk:=hI.hk;have htw:=hI.tw;simp only[o6]at hi hn l0 hm hk htw;by_cases e9:i<l.length
 ·have hltm:i<(l.map (λx:x7=>x.nm)).length:=by rw[o6];exact e9
  have hg:=o8 e9;have hgm:(l.map (λx:x7=>x.nm))[i]=(λx:x7=>x.nm) l[i]:=rK ..;have e:=AI (k:=i) zo;have l6:(l.map (λx:x7=>x.nm)).take (i+1)=(l.map (λx:x7=>x.nm)).take i++[(λx:x7=>x.nm) l[i]]:=by rw[oG,o8 hltm,hgm];rfl
  have hpl2:(pre++(l.map (λx:x7=>x.nm)).take i).length=pre.length+i:=by rw[ou,oJ,o6];omega
  have ew:IntKind.wrap .i64 ((pre.length:Int)+(i:Int))=((pre.length+i:Nat):Int):=by rw[An zo zo];omega
  have y1:∀k,(n1+k=id)=False:=λk=>oA zo
  have y2:∀k,(id=n1+k)=False:=λk=>oA zo
  have w9:=λq=>Jy (pre:=pre) hltm (by rw[hgm];exact q)
  generalize hx:l[i]=x at hg hgm l6 w9;have hfi:=Fx (pre++(l.map (λx:x7=>x.nm)).take i) ((λx:x7=>x.nm) x);cases u9:BQ (pre++(l.map (λx:x7=>x.nm)).take i) ((λx:x7=>x.nm) x)with
  |some k=>
   have htt:Ak (pre++l.map (λx:x7=>x.nm))=true:=w9 (by
    apply Classical.byContradiction;intro q;rw[CU.2 q]at u9;cases u9)
   rw[u9,pr]at hfi;simp only[eZ,seval,xE,eY,Vw,AT e9,hg,Tx4,s1,H8,GJ,hm,hfi,Ez,KT.is,Cm,Bx l0,y1,AH,AJ];unfold HI;rw[oE htt];refine⟨rfl,⟨Ia (pre++(l.map (λx:x7=>x.nm)).take i),?_⟩,?_⟩
   ·rw[AA _ _ _ _ zo];exact hm
   ·exact hk.new hf zo
  |none=>
   rw[u9,qd]at hfi;have hms:=NI u9;rw[hpl2]at hms;simp only[eZ,seval,xE,eY,AT e9,hg,Tx4,s1,H8,GJ,hm,hfi,Ez,KT.is,Cm,Bx l0,y1,e,ew,hpl2,hms,AH,AJ];refine .mk ⟨i+1,sA (sA H1 (n1+3) (.box (BO x).cells)) id (.map (G8 (pre++(l.map (λx:x7=>x.nm)).take i++[(λx:x7=>x.nm) x]) 0) (pre.length+(i+1))),n1+6⟩ rfl ⟨by simp only[o6];omega,zp,?_,?_,?_,?_⟩ zp
   ·exact(l0.sA (m:=n1+6) zo zo).sA (od (n1+6)) (show id<n1+6 by omega)
   ·simp only[];rw[AC,l6,<-oT,Ia,ou,hpl2];rfl
   ·exact(hk.new hf zo).set
   ·simp only[];rw[l6,<-oT];exact Jz htw (CU.1 u9)
 have v7:i=l.length:=zo
 subst v7;have hta:(l.map (λx:x7=>x.nm)).take l.length=l.map (λx:x7=>x.nm):=oY (by rw[o6];omega);rw[hta]at hm htw;simp only[eZ,seval,Ah e9];unfold HI;rw[htw,og zd];exact⟨⟨_,rfl,Wk.refl _⟩,hm,hk⟩
def Tx5:Bk:=AJ 135 (s1 Kj I7 λx=>.str ((λx:zj=>x.nm) x)) sE
theorem mu:AG prog Tx5:=AG.sE.add (q1 λx _=>p135 x)
theorem Zj{l:List zj}(hl:sR l)(tj:pre.length<1000000000)(hf0:f=(pre.length:Int))(hp:AD H id=some (Ia pre))(hd:Ak pre=false):
  AO prog 134 [DT l,.int .i64 f,.fn (.func 135) [] [],.mp id] H n (Cu H n id pre (l.map (λx:zj=>x.nm))):=by
 subst hf0;refine Cu.of ll.l hp λhf s5=>ll.a (AE mu (AF ?_))
 have sk:l.length<1000000000:=hl;simp only[eE,eN,seval,o6,ll];refine AQ (λv:VIx=>⟨[(1,true,.int .i64 pre.length),(2,true,.fn (.func 135) [] []),(3,true,.mp id),(13,true,DT l),(14,true,.int .i64 l.length),(15,true,.int .i64 v.i)],v.H,v.n⟩) (IIx H n id pre (l.map (λx:zj=>x.nm))) (λv=>l.length-v.i)
  ⟨0,H,n⟩ rfl ⟨oq _,od _,hf,by rw[pZ,oR];exact hp,Ci.refl _,by rw[pZ,oR];exact hd⟩ ?_
 rintro⟨i,H1,n1⟩ hI;have hi:=hI.hi;have hn:=hI.hn;have l0:=hI.fr;have hm:=hI.hm;have hk:=hI.hk;have htw:=hI.tw;simp only[o6]at hi hn l0 hm hk htw;by_cases e9:i<l.length
 ·have hltm:i<(l.map (λx:zj=>x.nm)).length:=by rw[o6];exact e9
  have hg:=o8 e9;have hgm:(l.map (λx:zj=>x.nm))[i]=(λx:zj=>x.nm) l[i]:=rK ..;have e:=AI (k:=i) zo;have l6:(l.map (λx:zj=>x.nm)).take (i+1)=(l.map (λx:zj=>x.nm)).take i++[(λx:zj=>x.nm) l[i]]:=by rw[oG,o8 hltm,hgm];rfl
  have hpl2:(pre++(l.map (λx:zj=>x.nm)).take i).length=pre.length+i:=by rw[ou,oJ,o6];omega
  have ew:IntKind.wrap .i64 ((pre.length:Int)+(i:Int))=((pre.length+i:Nat):Int):=by rw[An zo zo];omega
  have y1:∀k,(n1+k=id)=False:=λk=>oA zo
  have y2:∀k,(id=n1+k)=False:=λk=>oA zo
  have w9:=λq=>Jy (pre:=pre) hltm (by rw[hgm];exact q)
  generalize hx:l[i]=x at hg hgm l6 w9;have hfi:=Fx (pre++(l.map (λx:zj=>x.nm)).take i) ((λx:zj=>x.nm) x);cases u9:BQ (pre++(l.map (λx:zj=>x.nm)).take i) ((λx:zj=>x.nm) x)with
  |some k=>
   have htt:Ak (pre++l.map (λx:zj=>x.nm))=true:=w9 (by
    apply Classical.byContradiction;intro q;rw[CU.2 q]at u9;cases u9)
   rw[u9,pr]at hfi;simp only[eZ,seval,xE,eY,Vw,AT e9,hg,Tx5,s1,B0,BU,hm,hfi,Ez,KT.is,Cm,Bx l0,y1,AH,AJ];unfold HI;rw[oE htt];refine⟨rfl,⟨Ia (pre++(l.map (λx:zj=>x.nm)).take i),?_⟩,?_⟩
   ·rw[AA _ _ _ _ zo];exact hm
   ·exact hk.new hf zo
  |none=>
   rw[u9,qd]at hfi;have hms:=NI u9;rw[hpl2]at hms;simp only[eZ,seval,xE,eY,AT e9,hg,Tx5,s1,B0,BU,hm,hfi,Ez,KT.is,Cm,Bx l0,y1,e,ew,hpl2,hms,AH,AJ];refine .mk ⟨i+1,sA (sA H1 (n1+3) (.box (Ao x).cells)) id (.map (G8 (pre++(l.map (λx:zj=>x.nm)).take i++[(λx:zj=>x.nm) x]) 0) (pre.length+(i+1))),n1+6⟩ rfl ⟨by simp only[o6];omega,zp,?_,?_,?_,?_⟩ zp
   ·exact(l0.sA (m:=n1+6) zo zo).sA (od (n1+6)) (show id<n1+6 by omega)
   ·simp only[];rw[AC,l6,<-oT,Ia,ou,hpl2];rfl
   ·exact(hk.new hf zo).set
   ·simp only[];rw[l6,<-oT];exact Jz htw (CU.1 u9)
 have v7:i=l.length:=zo
 subst v7;have hta:(l.map (λx:zj=>x.nm)).take l.length=l.map (λx:zj=>x.nm):=oY (by rw[o6];omega);rw[hta]at hm htw;simp only[eZ,seval,Ah e9];unfold HI;rw[htw,og zd];exact⟨⟨_,rfl,Wk.refl _⟩,hm,hk⟩
end
section
def gO(H:AB)(n:Nat)(r:Option Int):xx->AB->Nat->Prop:=λo H' n'=>H'=H/\n'=n/\match r with
 |some k=>o= .ret (.int .i64 k)
 |none=>o= .tJ (Wo 160)
variable {l:List Bs}
theorem NK{H:AB}{n id:Nat}{s:Bs}(hp:AD H id=some (Ia l)):AO prog 133 [.mp id,.str s] H n (gO H n (BQ l s)):=by
 refine lr.a (AE AG.sE (AF ?_));have hf:=Fx l s;cases u9:BQ l s with
 |some k=>
  rw[u9,pr]at hf;simp only[eZ,seval,o9,xE,eY,lr,hp,hf,Ez,KT.is,Cm];exact⟨rfl,rfl,rfl⟩
 |none=>
  rw[u9,qd]at hf;simp only[eZ,seval,oh,xE,eY,Vw,lr,hp,hf,Ez,KT.is,Cm];exact⟨rfl,rfl,rfl⟩
theorem Zk{a b:Nat}(ha:a<65536)(hb:b<65536):F8 .or .i64 (a:Int) (b:Int)=((a|||b:Nat):Int):=by
 have hab:a|||b<65536:=Nat.or_lt_two_pow (n:=16) ha hb
 have e:∀x:Nat,BitVec.ofInt 64 (x:Int)=BitVec.ofNat 64 x:=λx=>by
  apply BitVec.eq_of_toNat_eq;simp [qW]
 show IntKind.wrap .i64 ((BitVec.ofInt 64 (a:Int)|||BitVec.ofInt 64 (b:Int)).toNat:Int)=_;rw[e,e,BitVec.toNat_or,qW,qW,qU zo,qU zo,An zo zo]
theorem U6{j:Nat}(h:j<16):C7 .shl .i64 1 (j:Int)=((1<<<j:Nat):Int):=by
 have h2:2^j<65536:=Nat.pow_lt_pow_right zd (show j<16 from h);show IntKind.wrap .i64 (1*2^(min (j:Int).toNat 64))=_;rw[Int.one_mul,oH,rr zo,Nat.shiftLeft_eq,Nat.one_mul];have e:((2:Int)^j)=((2^j:Nat):Int):=by rw[Int.natCast_pow];rfl
 rw[e];generalize 2^j=p at h2;exact An zo zo
theorem QA{j:Nat}(h:j<16):1<<<j<65536:=by
 rw[Nat.shiftLeft_eq,Nat.one_mul];exact Nat.pow_lt_pow_right zd (show j<16 from h)
def Fz(l:List Bs)(acc:Nat)(ss:List Bs):Option Int:=(CI l ss).map λk=>((acc|||k.toNat:Nat):Int)
theorem NL(l:List Bs)(acc:Nat):Fz l acc []=some (acc:Int):=by simp [Fz,CI]
theorem LP{acc:Nat}{s:Bs}{r:List Bs}:Fz l acc (s::r)=match BQ l s with
  |none=>none
  |some j=>Fz l (acc|||1<<<j.toNat) r:=by
 unfold Fz;rw[NE,BQ];cases l.findIdx? λx=>decide (x=s)with
 |none=>rfl
 |some i=>
  simp only[pr,oH];cases CI l r with
  |none=>rfl
  |some n=>
   simp only[pr,Option.some.injEq];congr 1;show acc|||(Int.ofNat (Nat.lor (1<<<i) n.toNat)).toNat=_
   rw[Nat.or_assoc];rfl
theorem R9(l ss:List Bs):Fz l 0 ss=CI l ss:=by
 unfold Fz;rw[Te];cases Ae (λs=>l.findIdx? λx=>decide (x=s)) ss with
 |none=>rfl
 |some is=>simp
theorem U7{H:AB}{n id sid:Nat}{ss:List Bs}(hl:l.length<=16)(hss:wide ss)(hs:AD H sid=some (.box [.mp id]))(hp:AD H id=some (Ia l)):AO prog 137 [Fw ss,.ptr sid 0] H n (gO H n (CI l ss)):=by
 refine c137.a (AE AG.sE (AF ?_));have hsl:ss.length<1125899906842624:=hss;rw[<-R9];simp only[eE,eN,seval,o6,c137];refine AQ (λv:Nat×Nat=>⟨[(1,true,.ptr sid 0),(3,true,.int .i64 v.2),(6,true,Fw ss),(7,true,.int .i64 ss.length),(8,true,.int .i64 v.1)],H,n⟩) (λv=>v.1<=ss.length/\v.2<65536/\Fz l 0 ss=Fz l v.2 (ss.drop v.1)) (λv=>ss.length-v.1) (0,0) rfl ⟨oq _,zd,rfl⟩ ?_;rintro⟨i,acc⟩ ⟨hi,hacc,heq⟩;simp only at hi hacc heq;by_cases e9:i<ss.length
 ·have hg:=o8 e9;have e:=AI (k:=i) zo;rw[oX e9,LP]at heq;generalize ss[i]=s at hg heq;simp only[eZ,seval,eY,AT e9,hg,hs];refine(NK hp).mono λo H' n' hq=>?_
  obtain⟨rfl,rfl,hq⟩:=hq;cases u9:BQ l s with
  |none=>
   rw[u9]at hq heq;subst hq;simp only at heq;rw[heq];simp only[eE,eN,BG];exact⟨rfl,rfl,rfl⟩
  |some k=>
   rw[u9]at hq heq;subst hq;simp only at heq;obtain⟨h0,h1⟩:=Oq u9;obtain⟨j,rfl⟩:∃j:Nat,k=j:=⟨k.toNat,zo⟩;rw[oH]at heq;simp only[eE,eN,seval,oS,BG,U6 (show j<16 by omega),Zk hacc (QA (show j<16 by omega)),e];exact .mk (i+1,acc|||1<<<j) rfl ⟨e9,Nat.or_lt_two_pow (n:=16) hacc (QA zo),heq⟩ zp
 obtain rfl:i=ss.length:=zo
 rw[pA,NL]at heq;rw[heq];simp only[eZ,seval,Ah e9];exact⟨rfl,rfl,rfl⟩
end
def LV(e:Nat)(v:Fs)(H:AB)(l:List Fs):Prop:=
 (l=[]/\∃t,v= .sl t []/\(t= .nil\/t= .exact e))\/(l≠[]/\∃id cap rest,v= .ref id e 0 l.length cap/\AD H id=some (.arr e (l++rest))/\l.length+rest.length=cap)
def Zl(e:Nat)(H:AB)(n:Nat)(l:List Fs):xx->AB->Nat->Prop:=λo H' n'=>
 (l=[]/\H'=H/\n<=n'/\∃t,o= .ret (.sl t [])/\(t= .nil\/t= .exact e))\/(l≠[]/\n'=n+4/\∃cap rest,o= .ret (.ref (n+2) e 0 l.length cap)/\H'=sA H (n+2) (.arr e (l++rest))/\l.length+rest.length=cap)
def AO.out{P:Program}{f:FuncId}{args:List Fs}{H:AB}{n:Nat}{R R':xx->AB->Nat->Prop}(h:AO P f args H n R)
  (hr:∀o H' n',R o H' n'->∃o2,R' o2 H' n'/\∀g w e,x6 g H' n' w->Vv g o e->Vv g o2 e):AO P f args H n R':=
 ⟨h.1,λg w vs r v=>(h.2 g w vs r v).mono λe w' ⟨g',out,H',n',q,he,hR,hn,ht⟩=>
  let ⟨o2,q2,hw⟩:=hr _ _ _ q;⟨g',o2,H',n',q2,hw _ _ _ hR he,hR,hn,ht⟩⟩
def AO.seal{P:Program}{f:FuncId}{args:List Fs}{H:AB}{n:Nat}{R R':xx->AB->Nat->Prop}(h:AO P f args H n R)
  (hr:∀o H' n',R o H' n'->R' o H' n'\/∃id e l,AD H' id=some (.arr e l)/\R' o (sA H' id (.frz e l)) n'):AO P f args H n R':=by
 refine⟨h.1,λg w vs r v=>(h.2 g w vs r v).mono ?_⟩;rintro e w' ⟨g',out,H',n',q,he,hR,hn,ht⟩;rcases hr _ _ _ q with q|⟨id,es,l,h0,q⟩
 ·exact⟨g',out,H',n',q,he,hR,hn,ht⟩
 ·obtain⟨σ',r1,t1⟩:=hR.freeze (m:=n) h0;refine⟨_,out,_,n',q,?_,r1,hn,ht.trans t1⟩;cases out<;>cases e<;>first|exact he.elim|skip
  ·exact AP.mono t1.le _ _ he
  ·obtain⟨v,hv,hr⟩:=he;exact⟨v,hv,AP.mono t1.le _ _ hr⟩
def LF(e:Nat)(v:Fs)(H:AB)(l:List Fs):Prop:=
 (l=[]/\∃t,v= .sl t []/\(t= .nil\/t= .exact e))\/(l≠[]/\∃id cap rest,v= .ref id e 0 l.length cap/\AD H id=some (.frz e (l++rest))/\l.length+rest.length=cap)
def Kq{e:Nat}{v:Fs}{H:AB}{l:List Fs}(h:LF e v H l){g:z8}{n:Nat}{w:World}{x:Value}(hR:x6 g H n w)(hv:AP g v x):AP g (.sl (.none e) l) x:=by
 rcases h with⟨rfl,t,rfl,ht⟩|⟨sZ,id,cap,rest,rfl,ho,hc⟩
 ·exact Wk.sl (.inr rfl) _ _ hv
 ·obtain⟨L,h1,h2,rfl⟩:=hv;obtain⟨L',j1,j2,j3⟩:=hR.obj id _ ho;rw[h1]at j1;cases j1;refine .inr ⟨zt,L.sO,0,cap,⟨none,zw,.inl rfl⟩,zo,?_,zt⟩;have:=sK.take l.length _ _ j3;rw[rU]at this;exact this
def Np{α:Type}(enc:α->Fs)(e lo:Nat)(H:AB)(lv:Fs)(qs:List α):Prop:=(lv= .sl .nil []/\qs=[])\/qs≠[]/\∃id rest,lv= .ref id e 0 qs.length (qs.length+rest.length)/\lo<=id/\AD H id=some (.arr e ((qs++rest).map enc))
section
variable {α:Type} {enc:α->Fs} {e lo:Nat}
theorem Ly{H:AB}{m b:Nat}{lv z v:Fs}{z0:α}{qs:List α}{q:α}{K:AB->Fs->Prop}(h:Np enc e lo H lv qs)(hv:v=enc q)(he:0<e)(hz:z.cells.length=e)(hz0:z=enc z0)(hb:small (qs.length+1) b)(hm:AD H m=none)(hm2:lo<=m)(hk:qs.length+1<=35184372088832)
  (hK:∀id (rest:List α),lo<=id->(id=m\/∃L,AD H id=some (.arr e L))->K (sA H id (.arr e (((qs++[q])++rest).map enc))) (.ref id e 0 (qs++[q]).length ((qs++[q]).length+rest.length))):Jr H m e b z K lv (some [v]):=by
 subst hv;subst hz0;have el:(qs++[q]).length=qs.length+1:=zw
 rcases h with⟨rfl,rfl⟩|⟨-,id,rest,rfl,h2,h3⟩
 ·rw[DJ];refine⟨hm,he,hz,.inl rfl,hb,zw,(λe=>by cases e),λ_ cap hcap=>?_⟩;have:=hK m (List.replicate (cap-1) z0) hm2 (.inl rfl);simp only[oW,oL,oI,pd,pf,pp,rn]at this hcap⊢;rw[show 0+1+(cap-1)=cap by omega]at this;exact this
 ·rw[Kb h3];refine⟨hm,he,hz,rfl,rfl,hb,hk,rfl,zw,zo,λhr=>?_,λhr uT hc=>?_⟩
  ·have:=hK id (rest.drop 1) h2 (.inr ⟨_,h3⟩);simp only[oI,pd]at hr⊢;have e1:List.take qs.length ((qs++rest).map enc)=qs.map enc:=by rw[oD,pL zw,oY zw]
   have e2:List.drop (qs.length+(0+1)) ((qs++rest).map enc)=(rest.drop 1).map enc:=by rw[oD,rJ,qS zw];simp
   rw[e1,e2];rw[el,oD,oD,pi,show qs.length+1+(rest.length-1)=qs.length+rest.length by omega]at this;exact this
  ·have:=hK m (List.replicate (uT-(qs.length+1)) z0) hm2 (.inl rfl);simp only[oI,pd]at hr hc⊢;have e1:List.take qs.length ((qs++rest).map enc)=qs.map enc:=by rw[oD,pL zw,oY zw]
   rw[e1];rw[el,oD,oD,rn,pf,show qs.length+1+(uT-(qs.length+1))=uT by omega]at this;exact this
end
structure VF where
 i:Nat
 H:AB
 n:Nat
def G9{P:Program}{T:Bk}{b:Nat}{cx:Nat->Fs}{rx:List (Nat×xj)}{kp:List Nat}{k:List Item}{Q:x5->AS->Prop}{s:AS}{d:Option Nat}{sz:Nat}{a x:zx}:BI P T b cx ((0,⟨d,none,.st sz a x⟩)::rx) kp k Q s=((lk s.env a).1=true/\(lk s.env x).1=true/\nT (AV s.env x)/\(AV s.env x).cells.length=sz/\(Pr s.H sz (AV s.env x) (AV s.env a)).1/\BI P T b cx rx kp k Q ({s with H:=(Pr s.H sz (AV s.env x) (AV s.env a)).2}.put d true (.sH []))):=by
 rw[TQ,Lr,M5];simp only[Be,pT,Bg,pR];rfl
def eL{H:AB}{n:Nat}(l:List x7)(hl:sR l):AO prog 132 [EY l] H n (Zl 6 H n (l.map BO)):=by
 refine AO.fresh dZ.l λhf=>dZ.a (AE AG.sE (AF ?_))
 have sk:l.length<1000000000:=hl;cases l with
 |nil=>
  simp only[eZ,seval,dZ];refine⟨?_,?_⟩
  ·simp only[eZ,seval,DJ,Dy,Bx hf,small,qR,oq];exact .inl ⟨rfl,rfl,py _ _,.exact 6,rfl,.inr rfl⟩
  ·simp only[eZ,seval,oh];exact .inl ⟨rfl,rfl,od _,.nil,rfl,.inl rfl⟩
 |cons x r=>
  rw[oI]at sk;simp only[eZ,seval,o6,dZ,EY,DJ,Dy,Bx hf];refine⟨AY zo zd,zo,λcap hcap=>.inr ⟨zw,rfl,cap,List.replicate (cap-(r.length+1)) (.agg [.str [],.str [],.int .i64 0,.int .i64 0,.int .i64 0,.int .i64 0]),?_,?_,?_⟩⟩
  ·simp
  ·simp
  ·simp;omega
def eM{H:AB}{n:Nat}(l:List zj)(hl:sR l):AO prog 136 [DT l] H n (Zl 12 H n (l.map Ao)):=by
 refine AO.fresh da.l λhf=>da.a (AE AG.sE (AF ?_))
 have sk:l.length<1000000000:=hl;cases l with
 |nil=>
  simp only[eZ,seval,da];refine⟨?_,?_⟩
  ·simp only[eZ,seval,DJ,Dy,Bx hf,small,qR,oq];exact .inl ⟨rfl,rfl,py _ _,.exact 12,rfl,.inr rfl⟩
  ·simp only[eZ,seval,oh];exact .inl ⟨rfl,rfl,od _,.nil,rfl,.inl rfl⟩
 |cons x r=>
  rw[oI]at sk;simp only[eZ,seval,o6,da,DT,DJ,Dy,Bx hf];refine⟨AY zo zd,zo,λcap hcap=>.inr ⟨zw,rfl,cap,List.replicate (cap-(r.length+1)) (.agg [.str [],.str [],.int .i64 0,.int .i64 0,.sl .nil [],.sl .nil [],.int .i64 0,.int .i64 0,.int .i64 0,.int .i64 0,.str [],.int .i64 0]),?_,?_,?_⟩⟩
  ·simp
  ·simp
  ·simp;omega
abbrev Iq:List Fs:=[.str [],.int .i64 0,.int .i64 0,.int .i64 0,.int .i64 0,.sl .nil [],.sl .nil [],.sl .nil [],.sl .nil [],.sl .nil []]
def d_rn{H:AB}{n i0 i1:Nat}:C8 prog 122 [.ptr i0 0,.ptr i1 0] .tA H n (λH' n'=>H'=H/\n'=n):=by
 refine a122 (AE AG.sE (AF ?_));simp only[eZ,seval,o9,xE,dd]
def d_rp{H:AB}{n:Nat}{xs:List Fs}{y:Fs}{p:Int}(h0:AD H 1=some (.box xs))(hx:xs.length=10)(h1:AD H 2=some (.box [y])):
  C8 prog 122 [.ptr 1 0,.ptr 2 0] (Wo p) H n (λH' n'=>AD H' 1=some (.box Iq)/\AD H' 2=some (.box [.int .i64 p])):=by
 refine a122 (AE AG.sE (AF ?_));obtain⟨a,b,c,d,e,f,g,h,i,j,rfl⟩:∃a b c d e f g h i j,xs=[a,b,c,d,e,f,g,h,i,j]:=by
  match xs,hx with
  |[a,b,c,d,e,f,g,h,i,j],_=>exact⟨a,b,c,d,e,f,g,h,i,j,rfl⟩
 simp only[eZ,seval,xE,dd,h0,h1]
section
def CV(d:x8):Fs:=match B3 d with
 | .error e=>.sH [Ba G6,.int .i64 e]
 | .ok x=>.sH [Ba x,.int .i64 0]
abbrev Bi(d:x8)(vc vr:Fs):List Fs:=[.str d.nm,.int .i64 d.uw,.int .i64 d.sh,.int .i64 d.w,.int .i64 d.h,BY d.sB,HP d.sI,GV d.sJ,vc,vr]
def RR(d:x8):xx->AB->Nat->Prop:=λo H' n'=>match B3 d with
 | .error e=>∃v,o= .ret v/\Wk v (.sH [Ba G6,.int .i64 e])
 | .ok x=>∃vc vr,o= .ret (.sH [.agg (Bi d vc vr),.int .i64 0])/\LV 6 vc H' (x.sD.map BO)/\LV 12 vr H' (x.sC.map Ao)/\(∀i a b c e j f g h k,vc= .ref i a b c e->vr= .ref j f g h k->i≠j)
def Tnr:Bk:=AJ 128 (λa _=>match a with
 |[]=>(True,Fw CL)
 |_=>(False,.sH [])) sE
def Zm:AG prog Tnr:=AG.sE.add λargs H n h=>by
 cases args with
 |nil=>exact p128.quiet H n
 |cons _ _=>exact h.elim
abbrev rsR:List RC:=[.c 2 10 true,.c 3 1 false]
abbrev envR:List (Nat×Bool×Fs):=[(1,true,.ptr 0 0),(2,true,.ptr 1 0),(3,true,.ptr 2 0)]
abbrev argsR:List Fs:=[.ptr 1 0,.ptr 2 0]
def Ig:q9->q9
 | .seq a _=>a
 |c=>c
def F2:q9->q9
 | .seq _ b=>b
 |c=>c
def DN:Nat->q9->q9
 |0,c=>c
 |k+1,c=>DN k (F2 c)
abbrev QR(d:x8):x5->AS->Prop:=Un prog 122 argsR rsR envR (RR d)
variable {xs:List Fs}
theorem ten(h:xs.length=10):∃a b c d e f g h i j,xs=[a,b,c,d,e,f,g,h,i,j]:=by
 match xs,h with
 |[a,b,c,d,e,f,g,h,i,j],_=>exact⟨a,b,c,d,e,f,g,h,i,j,rfl⟩
theorem Dp{d:x8}{H:AB}{m:Nat}{y:Fs}{p:Int}(h1:AD H 1=some (.box xs))(hx:xs.length=10)(h2:AD H 2=some (.box [y]))(hr:B3 d= .error p):QR d (.tJ (Wo p)) ⟨[],H,m⟩:=by
 refine C8.mono (d_rp h1 hx h2) ?_;rintro H2 n2 ⟨k1,k2⟩;unfold TL;simp only[eE,seval,Au,k1,k2];unfold RR;rw[hr];exact⟨_,rfl,Wk.sH (.cons (Wk.agg (.cons (Wk.refl _) (.cons (Wk.refl _) (.cons (Wk.refl _) (.cons (Wk.refl _) (.cons (Wk.refl _) (.cons (Wk.sl (.inr rfl)) (.cons (Wk.sl (.inr rfl)) (.cons (Wk.sl (.inr rfl)) (.cons (Wk.sl (.inr rfl)) (.cons (Wk.sl (.inr rfl)) .nil))))))))))) (.cons (Wk.refl _) .nil))⟩
theorem U8{d:x8}{env:List (Nat×Bool×Fs)}{H:AB}{m:Nat}{y:Fs}(h1:AD H 1=some (.box xs))(hx:xs.length=10)(h2:AD H 2=some (.box [y]))(hr:RR d (.ret (.sH [.agg xs,y])) H m):QR d .ret ⟨env,H,m⟩:=by
 refine C8.mono d_rn ?_;rintro H2 n2 ⟨rfl,rfl⟩;obtain⟨a,b,c,d,e,f,g,h,i,j,rfl⟩:=ten hx;unfold TL;simp only[eE,seval,Au,h1,h2];exact hr
end
section
structure NM(d:x8)(vc vr:Fs)(H:AB):Prop where
 h0:AD H 0=some (.box (Bi d vc vr))
 h1:AD H 1=some (.box Iq)
 h2:AD H 2=some (.box [.int .i64 0])
 h5:AD H 5=some (Ia (d.sI.map λx:xz=>x.nm))
 h7:AD H 7=some (.box [.mp 5])
 h12:AD H 12=some (Ia (Bd d))
 h18:AD H 18=some (Ia (d.sD.map λx:x7=>x.nm))
def mw(i:Nat):Prop:=i≠0/\i≠1/\i≠2/\i≠5/\i≠7/\i≠12/\i≠18
variable {H:AB} {vc vr:Fs} {d:x8} {i e:Nat}
theorem NM.set{ob:xq}(h:NM d vc vr H)(hi:mw i):NM d vc vr (sA H i ob):=by
 obtain⟨a,b,c,e,f,g,k⟩:=hi;exact⟨by rw[AA _ _ _ _ a];exact h.h0,by rw[AA _ _ _ _ b];exact h.h1,by rw[AA _ _ _ _ c];exact h.h2,by rw[AA _ _ _ _ e];exact h.h5,by rw[AA _ _ _ _ f];exact h.h7,by rw[AA _ _ _ _ g];exact h.h12,by rw[AA _ _ _ _ k];exact h.h18⟩
theorem NM.put{vc' vr':Fs}(h:NM d vc vr H):NM d vc' vr' (sA H 0 (.box (Bi d vc' vr'))):=
 ⟨AC ..,by rw[AA _ _ _ _ zd];exact h.h1,by rw[AA _ _ _ _ zd];exact h.h2,by rw[AA _ _ _ _ zd];exact h.h5,by rw[AA _ _ _ _ zd];exact h.h7,by rw[AA _ _ _ _ zd];exact h.h12,by rw[AA _ _ _ _ zd];exact h.h18⟩
theorem NM.ne{id:Nat}{A:List Fs}(hnm:NM d vc vr H)(ho:AD H id=some (.arr e A)):mw id:=by
 refine⟨?_,?_,?_,?_,?_,?_,?_⟩<;>rintro rfl
 ·rw[hnm.h0]at ho;cases ho
 ·rw[hnm.h1]at ho;cases ho
 ·rw[hnm.h2]at ho;cases ho
 ·rw[hnm.h5]at ho;cases ho
 ·rw[hnm.h7]at ho;cases ho
 ·rw[hnm.h12]at ho;cases ho
 ·rw[hnm.h18]at ho;cases ho
theorem QB(h:21<=i):mw i:=⟨zo,zo,zo,zo,zo,zo,zo⟩
theorem EZ{α β:Type}(f:α->Option β)(x:α)(r:List α):Ae f (x::r)=(match f x with
  |some y=>(Ae f r).map λs=>y::s
  |none=>none):=by
 simp only[Ae];cases f x with
 |none=>rfl
 |some y=>cases Ae f r<;>rfl
structure VRl where
 i:Nat
 dn:List zj
 H:AB
structure IRl(d:x8)(cs:List x7)(vc vr:Fs)(n:Nat)(v:VRl):Prop where
 hi:v.i<=d.sC.length
 ln:v.dn.length=v.i
 fr:AU v.H n
 nm:NM d vc vr v.H
 lc:LV 6 vc v.H (cs.map BO)
 lv:LV 12 vr v.H ((v.dn++d.sC.drop v.i).map Ao)
 eq:Ae (BJ d) d.sC=(Ae (BJ d) (d.sC.drop v.i)).map λr=>v.dn++r
section
variable {a b c d e f g h i j k l v:Fs}
theorem mz(hv:v.cells=[v]):Bw (.agg [a,b,c,d,e,f,g,h,i,j,k,l]) 3 1 12 v=(True,.agg [a,b,c,v,e,f,g,h,i,j,k,l]):=by
 rw[CO zd];simp [sQ,hv]
theorem eO(hv:v.cells=[v]):Bw (.agg [a,b,c,d,e,f,g,h,i,j,k,l]) 6 1 12 v=(True,.agg [a,b,c,d,e,f,v,h,i,j,k,l]):=by
 rw[CO zd];simp [sQ,hv]
theorem eP(hv:v.cells=[v]):Bw (.agg [a,b,c,d,e,f,g,h,i,j,k,l]) 7 1 12 v=(True,.agg [a,b,c,d,e,f,g,v,i,j,k,l]):=by
 rw[CO zd];simp [sQ,hv]
theorem U9(hv:v.cells=[v]):Bw (.agg [a,b,c,d,e,f,g,h,i,j,k,l]) 11 1 12 v=(True,.agg [a,b,c,d,e,f,g,h,i,j,k,v]):=by
 rw[CO zd];simp [sQ,hv]
end
theorem LV.set{v:Fs}{l:List Fs}{id:Nat}{ob:xq}(h:LV e v H l)(sZ:∀a b c x,v≠ .ref id a b c x):LV e v (sA H id ob) l:=by
 rcases h with h|⟨h0,i,cap,rest,rfl,ho,hc⟩
 ·exact .inl h
 ·exact .inr ⟨h0,i,cap,rest,rfl,by rw[AA _ _ _ _ (λq=>sZ _ _ _ _ (by rw[q]))];exact ho,hc⟩
theorem LV.no{l:List Fs}{a b c x:Nat}(h:LV e (.ref i a b c x) H l)(hn:∀e' A,AD H i≠some (.arr e' A)):False:=by
 rcases h with⟨-,t,h,-⟩|⟨-,id,cap,rest,h,ho,-⟩
 ·cases h
 ·cases h;exact hn _ _ ho
theorem Zn(d:x8)(hd:zy d)(h16:¬16<d.sI.length)(v9:Ak (d.sI.map λx:xz=>x.nm)=false)(y9:Ak (Bd d)=false)(ht3:Ak (d.sD.map λx:x7=>x.nm)=false){cs:List x7}(hcs:Ae (Bq d) d.sD=some cs)(ht4:Ak (d.sC.map λx:zj=>x.nm)=false)
  {n:Nat} (hf:AU H n) (hm:NM d vc vr H) (hvc:LV 6 vc H (cs.map BO)) (hvr:LV 12 vr H (d.sC.map Ao)) (hdj:∀i a b c e j f g h k,vc= .ref i a b c e->vr= .ref j f g h k->i≠j):
  Fi prog Tnr (F2 (Ig (DN 9 aD))) [.c (F2 (DN 9 aD))] (QR d) ⟨[(1,true,.ptr 0 0),(2,true,.ptr 1 0),(3,true,.ptr 2 0),(5,true,.mp 12),(6,true,.mp 18),(8,true,.fn (.func 137) [] [.ptr 7 0]),(66,true,.int .i64 d.sC.length),(67,true,.int .i64 0)],H,n⟩:=by
 have ua:d.sC.length<1000000000:=hd.ru;have hbase:∀x,Ae (BJ d) d.sC=x->B3 d=(match x with|none=>.error 160|some rs=>.ok {d with sD:=cs,sC:=rs}):=λx hx=>by
  unfold B3;rw[og h16,v9,y9,ht3,hcs];simp only[oP,pb];rw[ht4,hx];rfl
 simp only[eE,DN,F2,Ig,aD];refine AQ (λv:VRl=>⟨[(1,true,.ptr 0 0),(2,true,.ptr 1 0),(3,true,.ptr 2 0),(5,true,.mp 12),(6,true,.mp 18),(8,true,.fn (.func 137) [] [.ptr 7 0]),(66,true,.int .i64 d.sC.length),(67,true,.int .i64 v.i)],v.H,n⟩) (IRl d cs vc vr n) (λv=>d.sC.length-v.i)
  ⟨0,[],H⟩ rfl ⟨oq _,rfl,hf,hm,hvc,hvr,by rw[qC];cases Ae (BJ d) d.sC<;>rfl⟩ ?_
 rintro⟨i,dn,H1⟩ hI;have hi:=hI.hi;have uz:=hI.ln;have l0:=hI.fr;have hnm:=hI.nm;have hlc:=hI.lc;have ut:=hI.lv;have heq:=hI.eq;clear hI hf hm hvc hvr;simp only at hi uz l0 hnm hlc ut heq;by_cases e9:i<d.sC.length;case neg=>
  obtain rfl:i=d.sC.length:=zo
  rw[pA]at heq ut;rw[oR]at ut;have hr:=hbase _ heq;simp only[Ae,pr,oR]at hr;simp only[eZ,seval,Ah e9,hnm.h0,Bi,hnm.h1,hnm.h2];refine U8 (xs:=Bi d vc vr) (y:=.int .i64 0) ?_ rfl ?_ ?_
  ·simp only[AN];rfl
  ·simp only[AN];rfl
  unfold RR;rw[hr];have w7:∀a b c x,vc≠ .ref 1 a b c x/\vc≠ .ref 2 a b c x/\vr≠ .ref 1 a b c x/\vr≠ .ref 2 a b c x:=by
   intro a b c x;refine⟨?_,?_,?_,?_⟩<;>rintro rfl
   ·exact hlc.no (by rw[hnm.h1];simp)
   ·exact hlc.no (by rw[hnm.h2];simp)
   ·exact ut.no (by rw[hnm.h1];simp)
   ·exact ut.no (by rw[hnm.h2];simp)
  exact⟨vc,vr,rfl,(hlc.set λa b c x=>(w7 a b c x).1).set λa b c x=>(w7 a b c x).2.1,(ut.set λa b c x=>(w7 a b c x).2.2.1).set λa b c x=>(w7 a b c x).2.2.2,hdj⟩
 have hrx:=(hd.rus _ (oK e9));rw[oX e9]at heq ut;rw[EZ]at heq;generalize d.sC[i]=r at heq ut hrx;have sk:((dn++r::d.sC.drop (i+1)).map Ao).length=d.sC.length:=by simp;omega
 rcases ut with⟨h0,-⟩|⟨-,id,cap,rest,hvr,ho,hcr⟩
 ·simp at h0
 rw[sk]at hvr hcr;subst hvr;have e:=AI (k:=i) zo;have s5:id<n:=l0.lt ho;have sZ:=hnm.ne ho;have h0:=hnm.h0;have hgi:((dn++r::d.sC.drop (i+1)).map Ao++rest)[i]?=some (Ao r):=by
  rw[oD,oT,pB (by simp;omega)];simp [uz]
 have hil:i<((dn++r::d.sC.drop (i+1)).map Ao++rest).length:=by rw[ou,sk];omega
 have hse:∀r':zj,((dn++r::d.sC.drop (i+1)).map Ao++rest).set i (Ao r')=((dn++[r'])++d.sC.drop (i+1)).map Ao++rest:=λr'=>by
  rw[oD,oT,qG _ _ (by simp;omega)];simp [uz]
 generalize hA:(dn++r::d.sC.drop (i+1)).map Ao++rest=A at ho hgi hil hse;have hls:∀x,(i<(A.set i x).length)=True:=λx=>o7 (by rw[qN];exact hil)
 have hgs:∀x,(A.set i x)[i]?=some x:=λx=>rQ hil
 have hss:∀x y,(A.set i x).set i y=A.set i y:=λx y=>List.set_set ..
 have z0':(id=0)=False:=oA sZ.1;have z5':(id=5)=False:=oA sZ.2.2.2.1;have z7':(id=7)=False:=oA sZ.2.2.2.2.1;have z12':(id=12)=False:=oA sZ.2.2.2.2.2.1;have z18':(id=18)=False:=oA sZ.2.2.2.2.2.2;have h7:=hnm.h7;have h5:=hnm.h5;have w8:BJ d r=none->B3 d= .error 160:=λq=>by
  rw[q]at heq;exact hbase _ heq
 have tZ:∀ob,NM d vc (.ref id 12 0 d.sC.length cap) (sA H1 id ob):=λob=>hnm.set sZ
 have hvn:∀a b c x,vc≠ .ref id a b c x:=λa b c x q=>hdj _ _ _ _ _ _ _ _ _ _ q rfl rfl
 have fin:∀(F a b c:Int),BJ d r=some {r with tQ:=F,set:=a,sU:=b,sM:=c}->ZA (λv:VRl=>⟨[(1,true,.ptr 0 0),(2,true,.ptr 1 0),(3,true,.ptr 2 0),(5,true,.mp 12),(6,true,.mp 18),(8,true,.fn (.func 137) [] [.ptr 7 0]),(66,true,.int .i64 d.sC.length),(67,true,.int .i64 v.i)],v.H,n⟩) (IRl d cs vc (.ref id 12 0 d.sC.length cap) n) (λv=>d.sC.length-v.i) ⟨i,dn,H1⟩
   ⟨[(1,true,.ptr 0 0),(2,true,.ptr 1 0),(3,true,.ptr 2 0),(5,true,.mp 12),(6,true,.mp 18),(8,true,.fn (.func 137) [] [.ptr 7 0]),(66,true,.int .i64 d.sC.length),(67,true,.int .i64 ((i+1:Nat):Int))],sA H1 id (.arr 12 (A.set i (.agg [.str r.nm,.str r.on,.int .i64 r.kind,.int .i64 F,Fw r.ns,Fw r.os,.int .i64 a,.int .i64 b,.int .i64 r.op,.int .i64 r.n,.str r.tY,.int .i64 c]))),n⟩:=λF a b c tv=>by
  rw[tv]at heq;have hse2:=hse {r with tQ:=F,set:=a,sU:=b,sM:=c};refine .mk ⟨i+1,dn++[{r with tQ:=F,set:=a,sU:=b,sM:=c}],sA H1 id (.arr 12 (A.set i (Ao {r with tQ:=F,set:=a,sU:=b,sM:=c})))⟩ rfl ⟨e9,by simp [uz],l0.sA (od _) s5,tZ _,hlc.set hvn,.inr ⟨zw,id,cap,rest,?_,?_,?_⟩,?_⟩ zp
  ·simp only[o6,ou,oI,pd,pi,uz];congr 1;omega
  ·simp only[];rw[AC,hse2]
  ·simp only[o6,ou,oI,pd,pi,uz];omega
  ·simp only[];rw[heq];cases Ae (BJ d) (d.sC.drop (i+1))<;>simp
 by_cases hon:r.on=[]
 ·have hb:scmp .neq r.on []=false:=by rw[Ay,hon];rfl
  simp only[eZ,eX,seval,oQ,oH,oS,QG,OF,Ga,AT e9,h0,Bi,ho,hgi,o7 hil,EF,o7 s5,hls,hgs,hss,Ao,BT,mz,U9,AH,hb];refine(U7 (by rw[o6];omega) hrx.1 (tZ _).h7 (tZ _).h5).mono λo H' n' hq=>?_
  obtain⟨rfl,rfl,hq⟩:=hq;cases uJ:CI (d.sI.map λx:xz=>x.nm) r.ns with
  |none=>
   rw[uJ]at hq;subst hq;simp only[eE,eN,EW];exact Dp (tZ _).h1 rfl (tZ _).h2 (w8 (by unfold BJ;rw[oE hon,uJ]))
  |some a=>
   rw[uJ]at hq;subst hq;simp only[eE,eC,eX,seval,EW];refine(U7 (by rw[o6];omega) hrx.2 (tZ _).h7 (tZ _).h5).mono λo H' n' hq=>?_
   obtain⟨rfl,rfl,hq⟩:=hq;cases hs2:CI (d.sI.map λx:xz=>x.nm) r.os with
   |none=>
    rw[hs2]at hq;subst hq;simp only[eE,eN,EW];exact Dp (tZ _).h1 rfl (tZ _).h2 (w8 (by unfold BJ;rw[oE hon,uJ,hs2]))
   |some b=>
    rw[hs2]at hq;subst hq;by_cases hby:r.tY=[]
    ·have am:scmp .neq r.tY []=false:=by rw[Ay,hby];rfl
     simp only[eZ,eX,seval,oQ,EW,am,G9,hls,hgs,hss,eO,eP,AH,e];exact fin 0 a b (-1) (by unfold BJ;rw[oE hon,uJ,hs2,oE hby])
    ·have am:scmp .neq r.tY []=true:=by rw[Ay,A5 hby];rfl
     simp only[eZ,eX,seval,oQ,EW,am,G9,hls,hgs,hss,eO,eP,AH];refine(NK (tZ _).h18).mono λo H' n' hq=>?_
     obtain⟨rfl,rfl,hq⟩:=hq;cases hnb:BQ (d.sD.map λx:x7=>x.nm) r.tY with
     |none=>
      rw[hnb]at hq;subst hq;simp only[eE,eN,BG];exact Dp (tZ _).h1 rfl (tZ _).h2 (w8 (by unfold BJ;rw[oE hon,uJ,hs2,og hby,hnb]))
     |some c=>
      rw[hnb]at hq;subst hq;simp only[eE,eN,seval,oQ,BG,hls,hgs,hss,U9,AH,e];exact fin 0 a b c (by unfold BJ;rw[oE hon,uJ,hs2,og hby,hnb])
 ·have hb:scmp .neq r.on []=true:=by rw[Ay,A5 hon];rfl
  simp only[eZ,seval,oQ,oH,oS,AT e9,h0,Bi,ho,hgi,o7 hil,hls,hgs,hss,Ao,BT,mz,U9,AH,hb];refine(NK (tZ _).h12).mono λo H' n' hq=>?_
  obtain⟨rfl,rfl,hq⟩:=hq;cases u9:BQ (Bd d) r.on with
  |none=>
   rw[u9]at hq;subst hq;simp only[eE,eN,BG];exact Dp (tZ _).h1 rfl (tZ _).h2 (w8 (by unfold BJ;rw[og hon,u9]))
  |some F=>
   rw[u9]at hq;subst hq;simp only[eE,eN,eX,seval,oQ,QG,OF,Ga,BG,EF,o7 s5,hls,hgs,hss,mz,AH];refine(U7 (by rw[o6];omega) hrx.1 (tZ _).h7 (tZ _).h5).mono λo H' n' hq=>?_
   obtain⟨rfl,rfl,hq⟩:=hq;cases uJ:CI (d.sI.map λx:xz=>x.nm) r.ns with
   |none=>
    rw[uJ]at hq;subst hq;simp only[eE,eN,EW];exact Dp (tZ _).h1 rfl (tZ _).h2 (w8 (by unfold BJ;rw[og hon,u9,uJ]))
   |some a=>
    rw[uJ]at hq;subst hq;simp only[eE,eC,eX,seval,EW];refine(U7 (by rw[o6];omega) hrx.2 (tZ _).h7 (tZ _).h5).mono λo H' n' hq=>?_
    obtain⟨rfl,rfl,hq⟩:=hq;cases hs2:CI (d.sI.map λx:xz=>x.nm) r.os with
    |none=>
     rw[hs2]at hq;subst hq;simp only[eE,eN,EW];exact Dp (tZ _).h1 rfl (tZ _).h2 (w8 (by unfold BJ;rw[og hon,u9,uJ,hs2]))
    |some b=>
     rw[hs2]at hq;subst hq;by_cases hby:r.tY=[]
     ·have am:scmp .neq r.tY []=false:=by rw[Ay,hby];rfl
      simp only[eZ,eX,seval,oQ,EW,am,G9,hls,hgs,hss,eO,eP,AH,e];exact fin F a b (-1) (by unfold BJ;rw[og hon,u9,uJ,hs2,oE hby])
     ·have am:scmp .neq r.tY []=true:=by rw[Ay,A5 hby];rfl
      simp only[eZ,eX,seval,oQ,EW,am,G9,hls,hgs,hss,eO,eP,AH];refine(NK (tZ _).h18).mono λo H' n' hq=>?_
      obtain⟨rfl,rfl,hq⟩:=hq;cases hnb:BQ (d.sD.map λx:x7=>x.nm) r.tY with
      |none=>
       rw[hnb]at hq;subst hq;simp only[eE,eN,BG];exact Dp (tZ _).h1 rfl (tZ _).h2 (w8 (by unfold BJ;rw[og hon,u9,uJ,hs2,og hby,hnb]))
      |some c=>
       rw[hnb]at hq;subst hq;simp only[eE,eN,seval,oQ,BG,hls,hgs,hss,U9,AH,e];exact fin F a b c (by unfold BJ;rw[og hon,u9,uJ,hs2,og hby,hnb])
end
structure VCl where
 i:Nat
 dn:List x7
 H:AB
structure ICl(d:x8)(vc:Fs)(n:Nat)(v:VCl):Prop where
 hi:v.i<=d.sD.length
 ln:v.dn.length=v.i
 fr:AU v.H n
 nm:NM d vc (DT d.sC) v.H
 lv:LV 6 vc v.H ((v.dn++d.sD.drop v.i).map BO)
 eq:Ae (Bq d) d.sD=(Ae (Bq d) (d.sD.drop v.i)).map λr=>v.dn++r
def apS2{a b c d e f v:Fs}(h:v.cells=[v]):Bw (.agg [a,b,c,d,e,f]) 2 1 6 v=(True,.agg [a,b,v,d,e,f]):=by
 rw[CO zd];simp [sQ,h]
theorem Zo(d:x8)(hd:zy d)(h16:¬16<d.sI.length)(v9:Ak (d.sI.map λx:xz=>x.nm)=false)(y9:Ak (Bd d)=false)(ht3:Ak (d.sD.map λx:x7=>x.nm)=false)
  {vc:Fs} {H:AB} {n:Nat} {ml:Int} (hml:ml=(d.sD.length:Int)) (hn:21<=n) (hf:AU H n) (hm:NM d vc (DT d.sC) H) (hv:LV 6 vc H (d.sD.map BO)):
  Fi prog Tnr (F2 (Ig (DN 5 aD))) [.c (F2 (DN 5 aD))] (QR d) ⟨[(1,true,.ptr 0 0),(2,true,.ptr 1 0),(3,true,.ptr 2 0),(4,true,.ptr 7 0),(5,true,.mp 12),(6,true,.mp 18),(37,true,.int .i64 ml),(38,true,.int .i64 0)],H,n⟩:=by
 subst hml;have hcl:d.sD.length<1000000000:=hd.cl;simp only[eE,DN,F2,Ig,aD];refine AQ (λv:VCl=>⟨[(1,true,.ptr 0 0),(2,true,.ptr 1 0),(3,true,.ptr 2 0),(4,true,.ptr 7 0),(5,true,.mp 12),(6,true,.mp 18),(37,true,.int .i64 d.sD.length),(38,true,.int .i64 v.i)],v.H,n⟩) (ICl d vc n) (λv=>d.sD.length-v.i)
  ⟨0,[],H⟩ rfl ⟨oq _,rfl,hf,hm,hv,by rw[qC];cases Ae (Bq d) d.sD<;>rfl⟩ ?_
 rintro⟨i,dn,H1⟩ hI;have hi:=hI.hi;have uz:=hI.ln;have l0:=hI.fr;have hnm:=hI.nm;have ut:=hI.lv;have heq:=hI.eq;simp only at hi uz l0 hnm ut heq;by_cases e9:i<d.sD.length
 ·rw[oX e9]at heq ut;rw[EZ]at heq;generalize d.sD[i]=c at heq ut;have sk:((dn++c::d.sD.drop (i+1)).map BO).length=d.sD.length:=by simp;omega
  rcases ut with⟨h0,-⟩|⟨-,id,cap,rest,hvc,ho,hcr⟩
  ·simp at h0
  rw[sk]at hvc hcr;subst hvc;have e:=AI (k:=i) zo;have s5:id<n:=l0.lt ho;have h0:=hnm.h0;have hgi:((dn++c::d.sD.drop (i+1)).map BO++rest)[i]?=some (.agg [.str c.nm,.str c.on,.int .i64 c.tQ,.int .i64 c.ty,.int .i64 c.lo,.int .i64 c.hi]):=by
   rw[oD,oT,pB (by simp;omega)];simp [uz]
  have hil:(i<((dn++c::d.sD.drop (i+1)).map BO++rest).length)=True:=o7 (by rw[ou,sk];omega);have hse:∀c':x7,((dn++c::d.sD.drop (i+1)).map BO++rest).set i (BO c')=((dn++[c'])++d.sD.drop (i+1)).map BO++rest:=λc'=>by
   rw[oD,oT,qG _ _ (by simp;omega)];simp [uz]
  have sZ:=hnm.ne ho;generalize hA:(dn++c::d.sD.drop (i+1)).map BO++rest=A at ho hgi hil hse;simp only[eZ,eX,seval,oQ,oH,oS,QG,OF,Ga,AT e9,h0,Bi,ho,hgi,hil,EF,o7 s5];refine(NK hnm.h12).mono λo H' n' hq=>?_
  obtain⟨rfl,rfl,hq⟩:=hq;cases u9:BQ (Bd d) c.on with
  |none=>
   rw[u9]at hq;subst hq;have hrc:Bq d c=none:=by unfold Bq;rw[u9];rfl
   rw[hrc]at heq;have hr:B3 d= .error 160:=by unfold B3;rw[og h16,v9,y9,ht3,heq];rfl
   simp only[eE,eN,EW];exact Dp hnm.h1 rfl hnm.h2 hr
  |some k=>
   rw[u9]at hq;subst hq;have hrc:Bq d c=some {c with tQ:=k}:=by unfold Bq;rw[u9];rfl
   rw[hrc]at heq;have hs2:=hse {c with tQ:=k};simp only[eZ,eX,seval,oQ,oH,oS,EW,G9,ho,hgi,hil,apS2 (v:=.int .i64 k) rfl,e];refine⟨zo,.mk ⟨i+1,dn++[{c with tQ:=k}],sA H' id (.arr 6 (A.set i (BO {c with tQ:=k})))⟩ rfl ⟨e9,by simp [uz],l0.sA (od _) s5,hnm.set sZ,.inr ⟨zw,id,cap,rest,?_,?_,?_⟩,?_⟩ zp⟩
   ·simp only[o6,ou,oI,pd,pi,uz];congr 1;omega
   ·simp only[];rw[AC,hs2]
   ·simp only[o6,ou,oI,pd,pi,uz];omega
   ·simp only[];rw[heq];cases Ae (Bq d) (d.sD.drop (i+1))<;>simp
 obtain rfl:i=d.sD.length:=zo
 rw[pA]at heq ut;rw[oR]at ut;have hcs:Ae (Bq d) d.sD=some dn:=by rw[heq];simp [Ae]
 have h0:=hnm.h0;have y0:∀k,(n+k=0)=False:=λk=>oA zo
 simp only[eZ,seval,xE,Ah e9,h0,Bi,Bx l0];refine(Zj (pre:=[]) hd.ru zd rfl (AC ..) rfl).mono λo H' n' hq=>?_
 unfold Cu at hq;rw[oW]at hq;have tZ:∀a b,NM d vc (DT d.sC) (sA (sA H1 (n+2) a) (n+2) b):=λa b=>(hnm.set (QB zo)).set (QB zo)
 cases ht4:Ak (d.sC.map λx:zj=>x.nm)with
 |true=>
  rw[ht4,oE rfl]at hq;obtain⟨rfl,rfl,rfl⟩:=hq;have hr:B3 d= .error 161:=by
   unfold B3;rw[og h16,v9,y9,ht3,hcs];simp only[oP,pb];rw[ht4];rfl
  simp only[eE,eN,BG];exact Dp (tZ _ _).h1 rfl (tZ _ _).h2 hr
 |false=>
 rw[ht4,og zd]at hq;obtain⟨rfl,rfl,rfl⟩:=hq;have hH:=tZ (Ia []) (Ia (d.sC.map λx:zj=>x.nm));have hlc:LV 6 vc (sA (sA H1 (n+2) (Ia [])) (n+2) (Ia (d.sC.map λx:zj=>x.nm))) (dn.map BO):=by
  have hv2:∀a b c x,vc≠ .ref (n+2) a b c x:=by
   rintro a b c x rfl;exact ut.no (by rw[l0 _ zo];simp)
  exact(ut.set hv2).set hv2
 have hf2:AU (sA (sA H1 (n+2) (Ia [])) (n+2) (Ia (d.sC.map λx:zj=>x.nm))) (n+4):=(l0.sA (m:=n+4) zo zo).sA (od _) zo;generalize sA (sA H1 (n+2) (Ia [])) (n+2) (Ia (d.sC.map λx:zj=>x.nm))=H2 at hH hlc hf2;have h02:=hH.h0;simp only[eE,eN,seval,BG,h02,Bi];refine(eM d.sC hd.ru).mono λo H' n' hq=>?_
 rcases hq with⟨h0',rfl,hn',t,rfl,l6⟩|⟨h0',rfl,cap,rest,rfl,rfl,hcr⟩
 ·have ua:d.sC.length=0:=by have:=congrArg List.length h0';simpa using this
  simp only[eE,seval,BG,h02,Bi];rw[DK];simp only[eE,seval];rw[DK];simp only[eE,seval,c0];rw[DK];have hc0:∀a b c x,vc≠ .ref 0 a b c x:=by
   rintro a b c x rfl;exact hlc.no (by rw[h02];simp)
  have:=Zn d hd h16 v9 y9 ht3 hcs ht4 (vr:=.sl t []) (hf2.sA (id:=0) (m:=n') zo zo) hH.put (hlc.set hc0) (.inl ⟨h0',t,rfl,l6⟩) (λi a b c e j f g h k _ q=>by cases q);rw[ua]at this;exact this
 ·have y4:∀k,(n+4+k=0)=False:=λk=>oA zo
  simp only[eE,seval,BG,h02,Bi,y0];rw[DK];simp only[eE,seval];rw[DK];simp only[eE,seval,o6];rw[DK];have hc0:∀a b c x,vc≠ .ref 0 a b c x:=by
   rintro a b c x rfl;exact hlc.no (by rw[h02];simp)
  have hc6:∀a b c x,vc≠ .ref (n+6) a b c x:=by
   rintro a b c x rfl;exact hlc.no (by rw[hf2 _ zo];simp)
  refine Zn d hd h16 v9 y9 ht3 hcs ht4 (vr:=.ref (n+6) 12 0 d.sC.length cap) (((hf2.sA (m:=n+8) zo zo).sA (od _) zo)) (hH.set (QB zo)).put ((hlc.set hc6).set hc0) (.inr ⟨h0',n+6,cap,rest,by rw[o6],?_,hcr⟩) (λi a b c e j f g h k q1 q2=>?_)
  ·rw[AA _ _ _ _ zo];exact AC ..
  ·cases q2;rintro rfl;exact hc6 _ _ _ _ q1
def Wq(d:x8)(hd:zy d):AO prog 84 [Ba d] Ac 0 (RR d):=by
 refine a84 (AE Zm (AF ?_));simp only[eE,eN,seval,ZB,Fu,LI,AX,Ba];refine⟨_,_,rfl,AE Zm (AF ?_)⟩;generalize hE:List.filter (λ(e:Nat×Bool×Fs)=>Nat.blt e.1 4) _=E;have hE':E=envR:=by rw[<-hE];rfl
 subst hE';clear hE;rw[oW];by_cases h16:16<d.sI.length
 ·have hr:B3 d= .error 2:=by unfold B3;rw[oE h16]
  simp only[eZ,seval,o6,aD,o7 (show(16:Int)<(d.sI.length:Int)by omega),AL];refine U8 (xs:=Iq) rfl rfl rfl ?_;unfold RR;rw[hr];exact⟨_,rfl,Wk.sH (.cons (Wk.agg (.cons (Wk.refl _) (.cons (Wk.refl _) (.cons (Wk.refl _) (.cons (Wk.refl _) (.cons (Wk.refl _) (.cons (Wk.sl (.inr rfl)) (.cons (Wk.sl (.inr rfl)) (.cons (Wk.sl (.inr rfl)) (.cons (Wk.sl (.inr rfl)) (.cons (Wk.sl (.inr rfl)) .nil))))))))))) (.cons (Wk.refl _) .nil))⟩
 simp only[eZ,seval,xE,o6,aD,oA (show ¬(16:Int)<(d.sI.length:Int)by omega),AL];refine(Zg (pre:=[]) hd.sy zd rfl rfl rfl).mono λo H' n' hq=>?_
 unfold Cu at hq;rw[oW]at hq;cases v9:Ak (d.sI.map λx:xz=>x.nm)with
 |true=>
  rw[v9,oE rfl]at hq;obtain⟨rfl,rfl,rfl⟩:=hq;have hr:B3 d= .error 161:=by unfold B3;rw[og h16,v9];rfl
  simp only[eE,eN,BG];exact Dp (xs:=Iq) rfl rfl rfl hr
 |false=>
 rw[v9,og zd]at hq;obtain⟨rfl,rfl,rfl⟩:=hq;simp only[eZ,eX,seval,xE,BG,Tnr,EF,AJ];refine⟨⟨zt,Bo 0 _⟩,(eK (pre:=[]) zd zd rfl rfl rfl).mono λo H' n' hq=>?_⟩;unfold Cu at hq;rw[oW,show Ak (CL.map λx:Bs=>x)=false by decide,og zd]at hq;obtain⟨rfl,rfl,rfl⟩:=hq;simp only[eE,eX,seval,EW];refine(Zh (pre:=CL) hd.rg zd rfl rfl zd).mono λo H' n' hq=>?_
 unfold Cu at hq;cases y9:Ak (Bd d)with
 |true=>
  rw[show CL++d.sJ.map (λx:x9=>x.nm)=Bd d from rfl,y9,oE rfl]at hq;obtain⟨rfl,rfl,rfl⟩:=hq;have hr:B3 d= .error 161:=by unfold B3;rw[og h16,v9,y9];rfl
  simp only[eE,eN,EW];exact Dp (xs:=Iq) rfl rfl rfl hr
 |false=>
 rw[show CL++d.sJ.map (λx:x9=>x.nm)=Bd d from rfl,y9,og zd]at hq;obtain⟨rfl,rfl,rfl⟩:=hq;simp only[eE,eN,eX,seval,xE,EW];refine(Zi (pre:=[]) hd.cl zd rfl rfl rfl).mono λo H' n' hq=>?_
 unfold Cu at hq;rw[oW]at hq;cases ht3:Ak (d.sD.map λx:x7=>x.nm)with
 |true=>
  rw[ht3,oE rfl]at hq;obtain⟨rfl,rfl,rfl⟩:=hq;have hr:B3 d= .error 161:=by unfold B3;rw[og h16,v9,y9,ht3];rfl
  simp only[eE,eN,BG];exact Dp (xs:=Iq) rfl rfl rfl hr
 |false=>
 rw[ht3,og zd]at hq;obtain⟨rfl,rfl,rfl⟩:=hq;simp only[eE,eN,seval,BG];refine(eL d.sD hd.cl).mono λo H' n' hq=>?_
 rcases hq with⟨h0,rfl,hn,t,rfl,l6⟩|⟨h0,rfl,cap,rest,rfl,rfl,hcr⟩
 ·have hcl:d.sD.length=0:=by have:=congrArg List.length h0;simpa using this
  simp only[eE,seval,BG];rw[DK];simp only[eE,seval,c0];rw[DK];refine Zo d hd h16 v9 y9 ht3 (vc:=.sl t []) (by rw[hcl];rfl) hn (λid s5=>?_) (NM.mk (d:=d) (vr:=DT d.sC) rfl rfl rfl rfl rfl rfl rfl) (.inl ⟨h0,t,rfl,l6⟩);simp only[AN];repeat rw[og zo]
  rfl
 ·simp only[eE,seval,BG];rw[DK];simp only[eE,seval,o6];rw[DK];refine Zo d hd h16 v9 y9 ht3 (vc:=.ref 23 6 0 d.sD.length cap) rfl zo (λid s5=>?_) (NM.mk (d:=d) (vr:=DT d.sC) rfl rfl rfl rfl rfl rfl rfl) (.inr ⟨h0,23,cap,rest,by rw[o6],rfl,hcr⟩);simp only[AN];repeat rw[og zo]
  rfl
def RS(d:x8):xx->AB->Nat->Prop:=λo H' n'=>match B3 d with
 | .error e=>∃v,o= .ret v/\Wk v (.sH [Ba G6,.int .i64 e])
 | .ok x=>∃vc vr,o= .ret (.sH [.agg (Bi d vc vr),.int .i64 0])/\LF 6 vc H' (x.sD.map BO)/\LV 12 vr H' (x.sC.map Ao)
def RT(d:x8):xx->AB->Nat->Prop:=λo H' n'=>match B3 d with
 | .error e=>∃v,o= .ret v/\Wk v (.sH [Ba G6,.int .i64 e])
 | .ok x=>∃vc vr,o= .ret (.sH [.agg (Bi d vc vr),.int .i64 0])/\LF 6 vc H' (x.sD.map BO)/\LF 12 vr H' (x.sC.map Ao)
def p84(d:x8)(hd:zy d):A6 prog 84 [Ba d] (CV d):=by
 refine .mk ⟨Ag 0 d,zt⟩ (by unfold CV;split<;>exact⟨Ag 0 _,zt,zt⟩) ?_;refine AO.out (R:=RT d) (AO.seal (R:=RS d) (AO.seal (R:=RR d) (Wq d hd) ?_) ?_) ?_
 ·intro o H' n' h;unfold RR at h;unfold RS;split at h
  ·rename_i e he;try rw[he]
   exact .inl h
  ·rename_i x hx;try rw[hx]
   obtain⟨vc,vr,rfl,h1,h2,h3⟩:=h;rcases h1 with h1|⟨h0,id,cap,rest,rfl,ho,hc⟩
   ·exact .inl ⟨vc,vr,rfl,.inl h1,h2⟩
   ·refine .inr ⟨id,_,_,ho,_,vr,rfl,.inr ⟨h0,id,cap,rest,rfl,AC ..,hc⟩,h2.set λa b c x=>?_⟩;rintro rfl;exact h3 _ _ _ _ _ _ _ _ _ _ rfl rfl rfl
 ·intro o H' n' h;unfold RS at h;unfold RT;split at h
  ·rename_i e he;try rw[he]
   exact .inl h
  ·rename_i x hx;try rw[hx]
   obtain⟨vc,vr,rfl,h1,h2⟩:=h;rcases h2 with h2|⟨h0,id,cap,rest,rfl,ho,hc⟩
   ·exact .inl ⟨vc,vr,rfl,h1,.inl h2⟩
   ·refine .inr ⟨id,_,_,ho,vc,_,rfl,?_,.inr ⟨h0,id,cap,rest,rfl,AC ..,hc⟩⟩;rcases h1 with h1|⟨q0,i2,c2,r2,rfl,o2,uj⟩
    ·exact .inl h1
    ·refine .inr ⟨q0,i2,c2,r2,rfl,?_,uj⟩;rw[AA _ _ _ _ (by rintro rfl;rw[ho]at o2;cases o2)];exact o2
 ·intro o H' n' h;unfold RT at h;unfold CV;split at h
  ·rename_i e he;try rw[he]
   obtain⟨v,rfl,hw⟩:=h;exact⟨.ret v,⟨v,rfl,hw⟩,λg w e _ q=>q⟩
  ·rename_i x hx;try rw[hx]
   obtain⟨vc,vr,rfl,h1,h2⟩:=h;refine⟨.ret (.sH [Ba x,.int .i64 0]),⟨_,rfl,Wk.refl _⟩,λg w e hR q=>?_⟩;obtain⟨e1,e2,e3,e4,e5,e6,e7,e8⟩:=Rt hx;cases e with
   |panicked c=>exact q.elim
   |outgrown=>exact q.elim
   |returned y=>
    obtain⟨vs,rfl,y1,r1,q1,q2,q3⟩:=q;refine⟨vs,rfl,y1,r1,q1,?_,q3⟩;obtain⟨us,rfl,p1,p2⟩:=q2;refine⟨us,rfl,?_,p2⟩;obtain⟨a1,b1,f1,g1,a2,b2,f2,g2,a3,b3,f3,g3,a4,b4,f4,g4,a5,b5,f5,g5,a6,b6,f6,g6,a7,b7,f7,g7,a8,b8,f8,g8,a9,b9,f9,g9,a10,b10,f10,g10,g11⟩:=p1;rw[<-e1]at g1;rw[<-e2]at g2;rw[<-e3]at g3;rw[<-e4]at g4;rw[<-e5]at g5;rw[<-e6]at g6;rw[<-e7]at g7;rw[<-e8]at g8;exact⟨a1,b1,f1,g1,a2,b2,f2,g2,a3,b3,f3,g3,a4,b4,f4,g4,a5,b5,f5,g5,a6,b6,f6,g6,a7,b7,f7,g7,a8,b8,f8,g8,a9,b9,f9,Kq h1 hR g9,a10,b10,f10,Kq h2 hR g10,g11⟩
abbrev Lf(f:FormD):Fs:=.agg [.bool f.on,.bool f.set,.bool f.sU,.bool f.sS,.bool f.num,.bool f.rdb,.bool f.knw,.int .i64 f.sM]
def Ox{k:Int}(h:k<0\/14<=k):C0 k={}:=by
 unfold C0;repeat rw[og zo]
def p227(k:Int):A6 prog 227 [.int .i64 k] (Lf (C0 k)):=by
 refine .mk ⟨zt,zt⟩ ⟨zt,zt,zt,zt,zt,zt,zt,zt,zt⟩ (lu.a (AE AG.sE (AF ?_)));by_cases hk:k<0\/14<=k
 ·have hb:(decide (k<0)||decide (14<=k))=true:=by simpa using hk
  rw[Ox hk];simp only[eZ,seval,Au,lu,hb];exact Wk.refl _
 ·have hb:(decide (k<0)||decide (14<=k))=false:=by simp;omega
  simp only[eZ,seval,Au,lu,hb];have uR:k=0\/k=1\/k=2\/k=3\/k=4\/k=5\/k=6\/k=7\/k=8\/k=9\/k=10\/k=11\/k=12\/k=13:=zo
  rcases uR with rfl|rfl|rfl|rfl|rfl|rfl|rfl|rfl|rfl|rfl|rfl|rfl|rfl|rfl<;>exact⟨zd,zd,rfl,rfl,Wk.refl _⟩
def p191(c:x7):A6 prog 191 [BO c] (.bool (Dl c)):=by
 refine .mk ⟨GI 0 c,zt⟩ zt (ZC.a (AE AG.sE (AF ?_)));unfold Dl;by_cases h1:c.ty=1
 ·simp only[eZ,seval,ZC,h1]
 by_cases h2:c.ty=2
 ·simp only[eZ,seval,ZC,h2]
 by_cases h3:c.ty=3
 ·simp only[eZ,seval,ZC,h3]
 simp only[eZ,seval,ZC,h1,h2,h3]
def p139(b:Bool)(e:Int):A6 prog 139 [.bool b,.int .i64 e] (.int .i64 (if b=true then 0 else e)):=by
 refine .mk ⟨zt,zt,zt⟩ zt (c139.a (AE AG.sE (AF ?_)));cases b<;>simp only[eZ,seval,c139]
def Zp:Bk:=AJ 227 (s1 dI I7 λk=>Lf (C0 k)) sE
def Zq:AG prog Zp:=AG.sE.add (q1 λk _=>p227 k)
def eQ(k:Int):(C0 k).rdb=(decide (1<=k)&&decide (k<=11)):=by
 by_cases hk:k<0\/14<=k
 ·rw[Ox hk];symm;simp;omega
 ·have uR:k=0\/k=1\/k=2\/k=3\/k=4\/k=5\/k=6\/k=7\/k=8\/k=9\/k=10\/k=11\/k=12\/k=13:=zo
  rcases uR with rfl|rfl|rfl|rfl|rfl|rfl|rfl|rfl|rfl|rfl|rfl|rfl|rfl|rfl<;>rfl
def p192(r:zj):A6 prog 192 [Ao r] (.bool (Hy r)):=by
 refine .mk ⟨BA 0 r,zt⟩ zt (c192.a (AE Zq (AF ?_)));simp only[eE,eN,seval,c192,Zp,s1,BR,Ax,Lf,AJ];exact eQ r.kind
abbrev m0(r:zj)(on set sU:Bool):Bool:=on !=scmp .neq r.on []||set != !decide (r.set=0)||sU != !decide (r.sU=0)|| !on&& !decide (r.tQ=0)|| !set&&decide ((0:Int)<(r.ns.length:Int))|| !sU&&decide ((0:Int)<(r.os.length:Int))
abbrev m4(r:zj)(sS:Bool):Bool:=sS !=(decide (1<=r.op)&&decide (r.op<=3))|| !sS&& !decide (r.op=0)||decide (r.n<0)||decide (65536<r.n)
abbrev m5(r:zj)(sS num:Bool):Bool:=!(num||sS&&scmp .eql r.tY [])&& !decide (r.n=0)
def Zr{cl:List x7}{r:zj}{on set sU sS num rdb:Bool}{sM:Int}(hf:C0 r.kind=⟨on,set,sU,sS,num,rdb,true,sM⟩):
  DW cl r=if m0 r on set sU=true then false else if m4 r sS=true then false else if m5 r sS num=true then false else
   if(if(sS&&scmp .neq r.tY [])=true then 2 else sM)=0 then decide (r.tY=[])&&decide (r.sM= -1)else Kh cl r (if(sS&&scmp .neq r.tY [])=true then 2 else sM):=by
 unfold DW;rw[hf];have e1:∀(l:List Bs),decide ((0:Int)<(l.length:Int))=decide (0<l.length):=λl=>by
  rw[oZ,oC,oC];omega
 simp only[m0,m4,m5,Ay,BS,e1,ne_eq,decide_not,Bool.true_eq_false,pb];rfl
def p190(d:x8)(r:zj):A6 prog 190 [Ba d,Ao r] (.bool (DW d.sD r)):=by
 refine .mk ⟨Ag 0 d,BA 0 r,zt⟩ zt (No.a (AE Zq (AF ?_)));cases hf:(C0 r.kind)with
 |mk on set sU sS num rdb knw sM=>
 cases knw with
 |false=>
  have hR:DW d.sD r=false:=by unfold DW;rw[hf];rfl
  rw[hR];simp only[eZ,seval,oh,No,Zp,s1,BR,Ax,hf,Lf,AJ]
 |true=>
 rw[Zr hf];cases h1:m0 r on set sU with
 |true=>
  rw[oE rfl];simp only[eZ,seval,o9,o6,No,Zp,s1,BR,Ax,hf,Lf,h1,AJ]
 |false=>
 rw[og zd];cases h2:m4 r sS with
 |true=>
  rw[oE rfl];simp only[eZ,seval,o9,o6,No,Zp,s1,BR,Ax,hf,Lf,h1,h2,AJ]
 |false=>
 rw[og zd];cases h3:m5 r sS num with
 |true=>
  rw[oE rfl];simp only[eZ,seval,o9,o6,No,Zp,s1,BR,Ax,hf,Lf,h1,h2,h3,AJ]
 |false=>
 rw[og zd];cases h4:(sS&&scmp .neq r.tY [])with
 |true=>
  simp only[pG];rw[og zd];by_cases hc:r.sM<0\/(d.sD.length:Int)<=r.sM
  ·have hcb:(decide (r.sM<0)||decide ((d.sD.length:Int)<=r.sM))=true:=by simpa using hc
   have hP:Kh d.sD r 2=false:=by unfold Kh;rw[oE hc]
   rw[hP];simp only[eZ,seval,o9,o6,No,Zp,s1,BR,Ax,hf,Lf,h1,h2,h3,h4,hcb,AJ]
  ·have hcb:(decide (r.sM<0)||decide ((d.sD.length:Int)<=r.sM))=false:=by simp;omega
   obtain⟨j,hj⟩:∃j:Nat,r.sM=(j:Int):=⟨r.sM.toNat,zo⟩;have tz:j<d.sD.length:=zo
   have hg:=o8 tz;generalize d.sD[j]=c at hg;have hP:Kh d.sD r 2=(decide (c.ty=2)&&(decide (2=1)||decide (c.tQ=r.tQ))):=by
    unfold Kh;(rw[og hc,hj,oH,hg])<;>rfl
   rw[hP];rw[hj]at hcb;simp only[eZ,seval,o9,eY,No,Zp,s1,BR,Ax,hf,Lf,h1,h2,h3,h4,hj,hcb,AT tz,hg,AJ]
 |false=>
  simp only[oP,pb];by_cases h5:sM=0
  ·rw[oE h5];subst h5;simp only[eZ,seval,o9,o6,No,Zp,s1,BR,Ax,hf,Lf,h1,h2,h3,h4,AJ];rw[BS]
  ·rw[og h5];by_cases hc:r.sM<0\/(d.sD.length:Int)<=r.sM
   ·have hcb:(decide (r.sM<0)||decide ((d.sD.length:Int)<=r.sM))=true:=by simpa using hc
    have hP:Kh d.sD r sM=false:=by unfold Kh;rw[oE hc]
    rw[hP];simp only[eZ,seval,o9,o6,No,Zp,s1,BR,Ax,hf,Lf,h1,h2,h3,h4,A5 h5,hcb,AJ]
   ·have hcb:(decide (r.sM<0)||decide ((d.sD.length:Int)<=r.sM))=false:=by simp;omega
    obtain⟨j,hj⟩:∃j:Nat,r.sM=(j:Int):=⟨r.sM.toNat,zo⟩;have tz:j<d.sD.length:=zo
    have hg:=o8 tz;generalize d.sD[j]=c at hg;have hP:Kh d.sD r sM=(decide (c.ty=sM)&&(decide (sM=1)||decide (c.tQ=r.tQ))):=by
     unfold Kh;(rw[og hc,hj,oH,hg])<;>rfl
    rw[hP];rw[hj]at hcb;simp only[eZ,seval,o9,eY,No,Zp,s1,BR,Ax,hf,Lf,h1,h2,h3,h4,A5 h5,hj,hcb,AT tz,hg,AJ]
def Trd:Bk:=AJ 192 (s1 Kj I7 λr=>.bool (Hy r)) sE
def m6:AG prog Trd:=AG.sE.add (q1 λr _=>p192 r)
structure VU where
 i:Nat
 tk:xv
 H:AB
 n:Nat
structure IU(rs:List zj)(v:VU):Prop where
 hi:v.i<=rs.length
 fr:AU v.H v.n
 hn:2<=v.n
 tok:EG 1 1 v.H v.tk
 es:v.tk.esz=1\/Bl (rs.take v.i)=[]
def NN(rs:List zj):(Bl rs).length<=rs.length:=by
 unfold Bl;rw[o6];exact pu (qa ..) zw
def LQ{rs:List zj}{i:Nat}(h:i<rs.length):Bl (rs.take (i+1))=Bl (rs.take i)++(if Hy rs[i]=true then[]else[(i:Int)]):=by
 rw[oG,o8 h];show Bl (rs.take i++[rs[i]])=_;rw[Tc,oJ,rr zo]
def p148(d:x8)(hr:sR d.sC):A6 prog 148 [Ba d] (BY (Bl d.sC)):=by
 refine .mk ⟨Ag 0 d,zt⟩ (Av 0 _) (c148.a (AE m6 (AF ?_)));have ua:d.sC.length<1000000000:=hr;simp only[eE,eN,seval,o6,c148];refine AQ (λv:VU=>⟨[(2,true,.sl v.tk ((Bl (d.sC.take v.i)).map eI)),(6,true,DT d.sC),(7,true,.int .i64 d.sC.length),(8,true,.int .i64 v.i)],v.H,v.n⟩) (IU d.sC) (λv=>d.sC.length-v.i)
  ⟨0,.nil,sA Ac 0 (.box (AL d)),2⟩ rfl ⟨oq _,AU.nil.sA (m:=2) (oq 2) (show 0<2 by decide),od _,.inl rfl,.inr rfl⟩ ?_
 rintro⟨i,tk,H,n⟩ ⟨hi,l0,hn,l6,s9⟩;simp only at hi l0 hn l6 s9;by_cases e9:i<d.sC.length
 ·have hg:=o8 e9;have e:=AI (k:=i) zo;have hu:=LQ e9;have hul:=NN (d.sC.take i);rw[oJ]at hul;generalize d.sC[i]=r at hg hu;cases tv:Hy r with
  |true=>
   rw[tv,oE rfl,oR]at hu;simp only[eZ,seval,o9,eY,AT e9,hg,Bx l0,Trd,s1,B0,BU,tv,e,AH,AJ];refine .mk ⟨i+1,tk,sA H (n+3) (.box (BT r)),n+6⟩ ?_ ⟨e9,l0.sA (m:=n+6) zo zo,zp,l6.set (.inr (.inr (l0 _ zo))),by simp only[hu];exact s9⟩ zp;simp only[hu]
  |false=>
   rw[tv,og zd]at hu;have gt:EG 1 1 (sA H (n+3) (.box (BT r))) tk:=l6.set (.inr (.inr (l0 _ zo)));have gf:AU (sA H (n+3) (.box (BT r))) (n+6):=l0.sA (m:=n+6) zo zo;have q1:At (sA H (n+3) (.box (BT r))) 1 tk=True:=o7 gt.app;have q2:((Bl (d.sC.take i)).length<=35184372088831)=True:=o7 zo;have q3:small ((Bl (d.sC.take i)).length+1) 8=True:=o7 (AY zo zd);simp only[eZ,seval,oh,eY,AT e9,hg,Bx l0,Trd,s1,B0,BU,tv,e,AH,q1,q2,q3,AJ];refine .mk ⟨i+1,.own (n+9) 1,sA (AR (sA H (n+3) (.box (BT r))) tk) (n+9) .tok,n+11⟩ ?_ ⟨e9,(AZ gt gf).sA (m:=n+11) zo zo,zp,.inr (.inr ⟨n+9,rfl,zo,AC ..⟩),.inl rfl⟩ zp;simp only[hu,oD];rfl
 obtain rfl:i=d.sC.length:=zo
 rw[oF]at s9;simp only[eZ,seval,Ah e9,oF];exact Wk.sl (s9.imp id λq=>by rw[q];rfl)
def nw:Bk:=AJ 190 (s2 dD Kj Wg λd r=>.bool (DW d.sD r)) (AJ 191 (s1 nr I7 λc=>.bool (Dl c)) sE)
def m7:AG prog nw:=(AG.sE.add (q1 λc _=>p191 c)).add (q2 λd r _=>p190 d r)
structure VM2 where
 i:Nat
 es:List (Fs×Fs×Nat)
 c:Nat
 H:AB
 n:Nat
structure IM2(d:x8)(id:Nat)(v:VM2):Prop where
 hi:v.i<=d.sC.length
 fr:AU v.H v.n
 hn:id<v.n
 h0:AD v.H 0=some (.box (AL d))
 hm:AD v.H id=some (.map v.es v.c)
 ct:NJ (d.sC.take v.i) v.es
 ok:d.sC.all (DW d.sD)=(d.sC.drop v.i).all (DW d.sD)
def NJ.nil:NJ [] []:=⟨zt,λz=>rfl⟩
def p146(d:x8)(hd:zy d):A6 prog 146 [Ba d] (.bool (Bv d)):=by
 refine .mk ⟨Ag 0 d,zt⟩ zt (c146.a (AE m7 (AF ?_)));have hsl:d.sI.length<1000000000:=hd.sy;have ua:d.sC.length<1000000000:=hd.ru;have hcl:d.sD.length<1000000000:=hd.cl;simp only[eE,eN,seval,o6,c146];refine AQ (λv:VF=>⟨[(1,true,.ptr 0 0),(11,true,HP d.sI),(12,true,.int .i64 d.sI.length),(13,true,.int .i64 v.i)],v.H,v.n⟩) (λv=>v.i<=d.sI.length/\AU v.H v.n/\2<=v.n/\AD v.H 0=some (.box (AL d))/\(d.sI.all λs=>decide (0<=s.v)&&decide (s.v<=99))=((d.sI.drop v.i).all λs=>decide (0<=s.v)&&decide (s.v<=99))) (λv=>d.sI.length-v.i)
  ⟨0,sA Ac 0 (.box (AL d)),2⟩ rfl ⟨oq _,AU.nil.sA (m:=2) (oq 2) (show 0<2 by decide),od _,rfl,rfl⟩ ?_
 rintro⟨i,H,n⟩ ⟨hi,l0,hn,h0,sX⟩;simp only at hi l0 hn h0 sX;by_cases e9:i<d.sI.length
 ·have hg:=o8 e9;have e:=AI (k:=i) zo;rw[oX e9,qJ]at sX;generalize d.sI[i]=s at hg sX;by_cases hs:0<=s.v/\s.v<=99
  ·have hb:(decide (s.v<0)||decide (99<s.v))=false:=by simp;omega
   simp only[eZ,seval,eY,AT e9,hg,Bx l0,e,AH,hb];refine .mk ⟨i+1,sA H (n+2) (.box [.str s.nm,.int .i64 s.v]),n+4⟩ rfl ⟨e9,l0.sA (m:=n+4) zo zo,zp,by simp only[];rw[AA _ _ _ _ zo];exact h0,?_⟩ zp;simp only[];rw[sX,BL hs.1,BL hs.2];rfl
  ·have hb:(decide (s.v<0)||decide (99<s.v))=true:=by simp;omega
   have hR:Bv d=false:=by
    unfold Bv;rw[sX,show(decide (0<=s.v)&&decide (s.v<=99))=false by simp;omega];rfl
   rw[hR];simp only[eZ,seval,eY,AT e9,hg,Bx l0,AH,hb]
 obtain rfl:i=d.sI.length:=zo
 rw[pA]at sX;have y0:(n=0)=False:=oA zo;simp only[eZ,seval,xE,o6,Ah e9,h0,W0 l0,y0];refine AQ (λv:VM2=>⟨[(1,true,.ptr 0 0),(5,true,.mp n),(28,true,DT d.sC),(29,true,.int .i64 d.sC.length),(30,true,.int .i64 v.i)],v.H,v.n⟩) (IM2 d n) (λv=>d.sC.length-v.i)
  ⟨0,[],0,sA H n (.map [] 0),n+2⟩ rfl ⟨oq _,l0.sA (m:=n+2) zo zo,zp,by simp only[];rw[AA _ _ _ _ zo];exact h0,AC ..,NJ.nil,rfl⟩ ?_
 rintro⟨k,es,c,H1,n1⟩ hI;have hk:=hI.hi;have hfr1:=hI.fr;have w7:=hI.hn;have z9:=hI.h0;have hm:=hI.hm;have uf:=hI.ct;have t9:=hI.ok;simp only at hk hfr1 w7 z9 hm uf t9;by_cases hlk:k<d.sC.length
 ·have hg:=o8 hlk;have e:=AI (k:=k) zo;have l6:d.sC.take (k+1)=d.sC.take k++[d.sC[k]]:=by rw[oG,o8 hlk];rfl
  rw[oX hlk,qJ]at t9;have y1:∀q,(n1+q=n)=False:=λq=>oA zo
  have y2:∀q,(n=n1+q)=False:=λq=>oA zo
  have y3:∀q,(n1+q=0)=False:=λq=>oA zo
  have y4:∀q,(0=n1+q)=False:=λq=>oA zo
  generalize d.sC[k]=r at hg t9 l6;cases hr:DW d.sD r with
  |false=>
   have hR:Bv d=false:=by
    unfold Bv;rw[t9,hr];simp
   rw[hR];simp only[eZ,seval,oh,eY,AT hlk,hg,nw,s2,Az,Ap,B0,BU,hr,z9,Bx hfr1,y3,AH,AJ]
  |true=>
  rw[hr,qK]at t9;have hcl:=Zc (d.sC.take k) r.sM;rw[oJ]at hcl;have ew:=AI (k:=JB (d.sC.take k) r.sM) zo;have hq:=uf.2 r.sM;simp only[eZ,seval,o9,xE,eY,AT hlk,hg,nw,s2,Az,Ap,B0,BU,hr,z9,Bx hfr1,y1,y3,AH,hm,uf.1,KT.is,Cm,hq,e,ew,AJ];refine .mk ⟨k+1,EE (.int .i64 r.sM) (.int .i64 ((JB (d.sC.take k) r.sM+1:Nat):Int)) c es,(if(BZ (Fs.int IntKind.i64 r.sM) es).isSome=true then c else c+1),sA (sA H1 (n1+2) (.box (BT r))) n (.map (EE (.int .i64 r.sM) (.int .i64 ((JB (d.sC.take k) r.sM+1:Nat):Int)) c es) (if(BZ (Fs.int IntKind.i64 r.sM) es).isSome=true then c else c+1)),n1+4⟩ rfl
   ⟨hlk,(hfr1.sA (m:=n1+4) zo zo).sA (od (n1+4)) (show n<n1+4 by omega),zp,?_,AC ..,by simp only[];rw[l6];exact uf.next,t9⟩ zp
  simp only[];rw[AA _ _ _ _ zo,AA _ _ _ _ zo];exact z9
 obtain rfl:k=d.sC.length:=zo
 rw[pA]at t9;rw[oF]at uf;simp only[eZ,seval,o6,Ah hlk,z9];refine AQ (λv:VF=>⟨[(5,true,.mp n),(45,true,EY d.sD),(46,true,.int .i64 d.sD.length),(47,true,.int .i64 v.i)],v.H,v.n⟩) (λv=>v.i<=d.sD.length/\AU v.H v.n/\n<v.n/\AD v.H n=some (.map es c)/\∀j (h:j<d.sD.length),j<v.i->DX d.sC j=1/\Dl d.sD[j]=true) (λv=>d.sD.length-v.i)
  ⟨0,H1,n1⟩ rfl ⟨oq _,hfr1,w7,hm,λj h q=>absurd q (pD _)⟩ ?_
 rintro⟨j,H2,n2⟩ ⟨hj,hfr2,hn2,hm2,me⟩;simp only at hj hfr2 hn2 hm2 me;by_cases t8:j<d.sD.length
 ·have hg:=o8 t8;have e:=AI (k:=j) zo;have y1:∀q,(n2+q=n)=False:=λq=>oA zo
  have y2:∀q,(n=n2+q)=False:=λq=>oA zo
  have hq:=uf.2 (j:Int);rw[R6]at hq;have w8:¬(DX d.sC j=1/\Dl d.sD[j]=true)->Bv d=false:=λq=>by
   unfold Bv;rw[sX,t9];cases q1:((List.range d.sD.length).all λi=>decide (DX d.sC i=1))with
   |false=>rfl
   |true=>
   cases q2:d.sD.all Dl with
   |false=>rfl
   |true=>exact absurd ⟨pg (oM.1 q1 j (px.2 t8)),oM.1 q2 _ (oK t8)⟩ q
  have su:DX d.sC j=1/\Dl d.sD[j]=true->∀q (h:q<d.sD.length),q<j+1->DX d.sC q=1/\Dl d.sD[q]=true:=λz q h hq=>by
   by_cases w:q=j
   ·subst w;exact z
   ·exact me q h zo
  generalize hx:d.sD[j]=x at hg w8 su;by_cases hmc:DX d.sC j=1
  ·have hmb:(((DX d.sC j:Nat):Int)=1)=True:=o7 zo;cases hc:Dl x with
   |false=>
    rw[w8 (by rw[hc];simp)];simp only[eZ,seval,o9,oh,xE,eY,AT t8,hg,nw,s1,H8,GJ,hc,Bx hfr2,y1,AH,hm2,uf.1,KT.is,Cm,hq,hmb,AJ]
   |true=>
    simp only[eZ,seval,o9,xE,eY,AT t8,hg,nw,s1,H8,GJ,hc,Bx hfr2,y1,AH,hm2,uf.1,KT.is,Cm,hq,e,hmb,AJ];refine .mk ⟨j+1,sA H2 (n2+3) (.box (BO x).cells),n2+6⟩ rfl ⟨t8,hfr2.sA (m:=n2+6) zo zo,zp,?_,su ⟨hmc,hc⟩⟩ zp;simp only[];rw[AA _ _ _ _ zo];exact hm2
  ·have hmb:(((DX d.sC j:Nat):Int)=1)=False:=oA zo;rw[w8 (λq=>hmc q.1)];simp only[eZ,seval,o9,oh,xE,eY,AT t8,hg,nw,s1,H8,GJ,Bx hfr2,y1,AH,hm2,uf.1,KT.is,Cm,hq,hmb,AJ]
 obtain rfl:j=d.sD.length:=zo
 have hR:Bv d=true:=by
  have z2:d.sD.all Dl=true:=oM.2 λq hq=>by
   obtain⟨m,hm,rfl⟩:=pP.1 hq;exact(me m hm hm).2
  unfold Bv;rw[sX,t9,oM.2 λq hq=>pk (me q (px.1 hq) (px.1 hq)).1,z2];rfl
 rw[hR];simp only[eZ,seval,Ah t8]
section
abbrev clV(q:Nat):Fs:=.fn (.func 225) [] [.ptr q 0]
abbrev m8(q c:Nat):List (Nat×Bool×Fs):=[(2,true,.ptr c 0),(4,true,.sl .nil []),(6,true,clV q)]
structure AppF(q c L l':Nat)(H0:AB)(n0:Nat)(qs:List Int)(H:AB)(m:Nat):Prop where
 fr:AU H m
 lc:n0<=c
 cl:c<L
 lm:L<m
 hc:∃lv,AD H c=some (.box [lv])/\Np eI 1 (L+1) H lv qs
 hL:AD H L=some (.lp ⟨l',.ready,none,13,m8 q c, #[7],GF,GG⟩)
 kp:∀id ob,id<n0->AD H0 id=some ob->AD H id=some ob
variable {H:AB} {l:List Int} {q n:Nat}
theorem y_app{c L l':Nat}{H0:AB}{n0:Nat}{qs:List Int}{m:Nat}(F:AppF q c L l' H0 n0 qs H m)(x:Int)(hs:qs.length<1000000000){R:Bool->AB->Nat->Prop}
  (hR:∀H' m',AppF q c L l' H0 n0 (qs++[x]) H' m'->R true H' m'):Cf prog l' [eI x] H m R:=by
 obtain⟨fr,lc,cl,lm,⟨lv,hc,ut⟩,hL,kp⟩:=F;refine ZF hL rfl (AE AG.sE (AF ?_));simp only[eE,eN,seval,Lx,Hp,rm,rA,qc,rT];refine⟨_,hL,rfl,AE AG.sE (AF ?_)⟩;have y1:∀k,(L=m+k)=False:=λk=>oA zo
 have y2:(L=c)=False:=oA zo;have y3:(c=L)=False:=oA zo;simp only[eE,seval,Lw,hc,y2];have g1:∀k,AD (sA H L (.lp ⟨l',.busy,none,13,m8 q c, #[7],GF,GG⟩)) (m+k)=none:=λk=>by rw[AA _ _ _ _ zo];exact Bx fr k
 refine Ly (enc:=eI) (lo:=L+1) (qs:=qs) (z0:=0) ?_ rfl zd rfl rfl (AY zo zd) (g1 3) zo zo ?_
 ·rcases ut with h|⟨sZ,id,rest,h1,h2,h3⟩
  ·exact .inl h
  ·exact .inr ⟨sZ,id,rest,h1,h2,by rw[AA _ _ _ _ zo];exact h3⟩
 intro id rest vf s5;have hidm:id<m+5:=by
  rcases s5 with rfl|⟨Z,h⟩
  ·omega
  ·apply Classical.byContradiction;intro z;obtain⟨k,rfl⟩:∃k,id=m+k:=⟨id-m,zo⟩;rw[g1]at h;cases h
 have z1:(id=L)=False:=oA zo;have z2:(id=c)=False:=oA zo;have z3:(L=id)=False:=oA zo;have z4:(c=id)=False:=oA zo;have hidn:¬id<n0:=zo
 simp only[eE,eN,seval,Dy,z2,y2,hc];refine⟨⟨l',.busy,none,13,m8 q c, #[7],GF,GG⟩,by simp only[AN,y3,z1,pb,pG],hR _ _ ⟨?_,lc,cl,zp,⟨_,by simp only[AN,y2,pb,pG],.inr ⟨zw,id,rest,rfl,vf,by simp only[AN,z3,z4,pb,pG]⟩⟩,by simp only[AN,pG],?_⟩⟩
 ·intro j hj;have ul:m+5<=j:=hj;simp only[AN];repeat rw[og zo]
  exact fr j zo
 ·intro j ob hj h0;simp only[AN];repeat rw[og zo]
  exact kp j ob hj h0
theorem Zs(hf:AU H n)(hq:AD H q=some (.box [BY l]))(hl:sR l):
  AO prog 253 [.sl .nil [],clV q] H n λo H' n'=>∃lv,o= .ret lv/\Np eI 1 (n+3) H' lv l/\AU H' n'/\n<=n'/\∀id ob,id<n->AD H id=some ob->AD H' id=some ob:=by
 have sk:l.length<1000000000:=hl;have hqn:=hf.lt hq;refine a253 (AE AG.sE (AF ?_));simp only[eE,eN,seval,ly,W0 hf,Gc];intro l';generalize hH1:sA (sA H n (.box [.sl .nil []])) (n+2) _=H1;have hq1:AD H1 q=some (.box [BY l]):=by
  subst hH1;simp only[AN];repeat rw[og zo]
  exact hq
 have F0:AppF q n (n+2) l' H n [] H1 (n+3):=by
  subst hH1;refine⟨λj hj=>?_,od _,zo,zo,⟨.sl .nil [],?_,.inl ⟨rfl,rfl⟩⟩,AC ..,λj ob hj h0=>?_⟩
  ·simp only[AN];repeat rw[og zo]
   exact hf j zo
  ·simp only[AN];rw[og zo,oE zt]
  ·simp only[AN];repeat rw[og zo]
   exact h0
 clear hH1;refine c225.a (AE AG.sE (AF ?_));simp only[eE,eN,seval,o6,c225,hq1];refine AQ (λv:VF=>⟨[(0,true,.fn (.yield l') [] []),(5,true,BY l),(6,true,.int .i64 l.length),(7,true,.int .i64 v.i)],v.H,v.n⟩) (λv=>v.i<=l.length/\n+3<=v.n/\AppF q n (n+2) l' H n (l.take v.i) v.H v.n) (λv=>l.length-v.i)
  ⟨0,H1,n+3⟩ rfl ⟨oq _,od _,F0⟩ ?_
 rintro⟨i,H2,m⟩ ⟨hi,hm,F⟩;simp only at hi hm F;by_cases e9:i<l.length
 ·have hg:=o8 e9;have e:=AI (k:=i) zo;have l6:l.take (i+1)=l.take i++[l[i]]:=by rw[oG,o8 e9];rfl
  generalize l[i]=x at hg l6;simp only[eZ,seval,eY,AT e9,hg];refine y_app F x (by rw[oJ];omega) λH' m' F'=>?_
  simp only[eZ,seval,o9,TO,e];exact .mk ⟨i+1,H',m'⟩ rfl ⟨e9,by have:=F'.lm;simp only[];omega,by simp only[];rw[l6];exact F'⟩ zp
 obtain rfl:i=l.length:=zo
 rw[oF]at F;obtain⟨fr,lc,cl,lm,⟨lv,hc,ut⟩,hL,kp⟩:=F;have y1:(n+2=n)=False:=oA zo;simp only[eZ,seval,Ah e9,Hf,hL,hc,y1];refine⟨lv,rfl,?_,fr.sA (od m) (show n+2<m by omega),zo,λid ob s5 h0=>by rw[og zo];exact kp id ob s5 h0⟩;rcases ut with h|⟨sZ,id,rest,h1,h2,h3⟩
 ·exact .inl h
 ·exact .inr ⟨sZ,id,rest,h1,h2,by rw[AA _ _ _ _ zo];exact h3⟩
theorem m9(hf:AU H n)(hq:AD H q=some (.box [BY l]))(hl:sR l):
  AO prog 224 [clV q] H n λo H' n'=>∃lv,o= .ret lv/\Np eI 1 (n+3) H' lv l/\AU H' n'/\n<=n'/\∀id ob,id<n->AD H id=some ob->AD H' id=some ob:=by
 refine dg.a (AE AG.sE (AF ?_));simp only[eE,eN,seval,dg];refine(Zs hf hq hl).mono ?_;rintro o H' n' ⟨lv,rfl,h1,h2,h3,h4⟩;simp only[eE,eN,seval,BG];exact⟨lv,rfl,h1,h2,h3,h4⟩
theorem QC:AO prog 153 [.sl .nil []] H n λo H' n'=>o= .ret (.sH [])/\H'=H/\n'=n:=by
 refine⟨gN,λg w vs hR hv=>?_⟩;obtain⟨v,r,rfl,k1,k2⟩:=hv;have k2':r=[]:=k2;subst k2';have hv:∃p cap,v= .slice p 0 cap:=by
  rcases k1 with⟨-,rfl,-⟩|⟨-,b,o,cap,⟨sp,rfl,uE⟩,hc,sY,-⟩
  ·exact⟨_,_,rfl⟩
  ·exact⟨_,_,rfl⟩
 obtain⟨p,cap,rfl⟩:=hv;refine(slices_Sort_int_none p cap w).mono ?_;rintro e w' ⟨rfl,rfl⟩;exact⟨g,.ret (.sH []),H,n,⟨rfl,rfl,rfl⟩,⟨_,rfl,rfl⟩,hR,od _,q8.refl _ _ _ _⟩
def SrA(ob:List Fs->xq)(H:AB)(l:List Int):xx->AB->Nat->Prop:=λo H' n'=>
 Cr H H'/\((l=[]/\o= .ret (.sl .nil []))\/l≠[]/\∃id rest,o= .ret (.ref id 1 0 l.length (l.length+rest.length))/\AD H id=none/\AD H' id=some (ob ((l.mergeSort Fa++rest).map eI)))
theorem E4(l:List Int):(l.mergeSort Fa).length=l.length:=List.length_mergeSort ..
theorem nA(hf:AU H n)(hq:AD H q=some (.box [BY l]))(hl:sR l):
  AO prog 186 [clV q] H n (Wb H (BY (l.mergeSort Fa))):=by
 have sk:l.length<1000000000:=hl;refine AO.out (AO.seal (R:=SrA (.arr 1) H l) (R':=SrA (.frz 1) H l) (Wc.a (AE AG.sE (AF ?_))) ?_) ?_
 ·simp only[eE,eN,seval,Wc];refine(m9 hf hq hl).mono ?_;rintro o H1 n1 ⟨lv,rfl,ut,t7,w7,hk⟩;simp only[eE,eN,seval,BG];have hK:Cr H H1:=λid ob h0=>hk id ob (hf.lt h0) h0
  rcases ut with⟨rfl,rfl⟩|⟨sZ,id,rest,rfl,h2,h3⟩
  ·refine QC.mono ?_;rintro o H2 n2 ⟨rfl,rfl,rfl⟩;simp only[eE,eN,seval,BG];exact⟨hK,.inl ⟨rfl,rfl⟩⟩
  ·refine(P8 h3 zw sk).mono ?_;rintro o H2 n2 ⟨rfl,rfl,rfl⟩;rw[rU,List.drop_left];simp only[eE,eN,seval,BG];refine⟨λi ob h0=>?_,.inr ⟨sZ,id,rest,rfl,hf _ zo,AC ..⟩⟩;rw[AA _ _ _ _ (λe=>by subst e;rw[hf _ zo]at h0;cases h0)];exact hK i ob h0
 ·rintro o H' n' ⟨hK,h⟩;rcases h with h|⟨sZ,id,rest,h1,h2,h3⟩
  ·exact .inl ⟨hK,.inl h⟩
  ·refine .inr ⟨id,1,_,h3,λi ob h0=>?_,.inr ⟨sZ,id,rest,h1,h2,AC ..⟩⟩;rw[AA _ _ _ _ (λe=>by subst e;rw[h2]at h0;cases h0)];exact hK i ob h0
 ·rintro o H' n' ⟨hK,h⟩;refine⟨.ret (BY (l.mergeSort Fa)),⟨⟨_,rfl,Wk.refl _⟩,hK⟩,λg w e hR he=>?_⟩;have hL:∃lv,o= .ret lv/\LF 1 lv H' ((l.mergeSort Fa).map eI):=by
   rcases h with⟨rfl,rfl⟩|⟨hz,id,rest,rfl,h2,h3⟩
   ·exact⟨_,rfl,.inl ⟨zw,_,rfl,.inl rfl⟩⟩
   ·refine⟨_,rfl,?_⟩;have hl2:=E4 l;refine .inr ⟨λq=>hz (by rw[List.map_eq_nil_iff]at q;rw[q]at hl2;exact qb.1 hl2.symm),id,l.length+rest.length,rest.map eI,by rw[o6,hl2],by rw[h3,oD],by simp [hl2]⟩
  obtain⟨lv,rfl,hL⟩:=hL;cases e with
  |returned v=>exact Kq hL hR he
  |panicked c=>exact he.elim
  |outgrown=>exact he.elim
theorem nC(hf:AU H n):AO prog 187 [BY l] H n λo H' n'=>o= .ret (clV n)/\H'=sA H n (.box [BY l])/\n'=n+2:=by
 refine c187.a (AE AG.sE (AF ?_));simp only[eE,eN,seval,c187,W0 hf]
end
section
abbrev SA(l:List Int):List Int:=l.mergeSort Fa
def J0(ls:List (List Int))(j:Nat)(x:List Int):Bool:=((ls.take j).map SA).contains (SA x)
def Zt{ls:List (List Int)}(hn:∀l∈ls,l.Nodup){j:Nat}(hj:j<ls.length)(h:J0 ls j ls[j]=true):CX ls=true:=by
 unfold J0 at h;rw[pF,pz]at h;obtain⟨y,hy,e⟩:=h;obtain⟨b,hb,rfl⟩:=pP.1 hy;rw[oJ]at hb;rw[List.getElem_take]at e;refine IA.2 ⟨j,b,hj,zo,zo,?_⟩;rw[ND (hn _ (oK _)) (hn _ (oK _)),oC];exact e.symm
def Wr{ls:List (List Int)}(hn:∀l∈ls,l.Nodup)(h:∀j (hj:j<ls.length),J0 ls j ls[j]=false):CX ls=false:=by
 cases q:CX ls with
 |false=>rfl
 |true=>
  obtain⟨a,b,ha,hb,hab,h2⟩:=IA.1 q;rw[ND (hn _ (oK _)) (hn _ (oK _)),oC]at h2;have:=h a ha;unfold J0 at this;rw[<-Bool.not_eq_true,pF,pz]at this;exact absurd ⟨ls[b],pP.2 ⟨b,by rw[oJ];omega,by rw[List.getElem_take]⟩,h2.symm⟩ this
def VA(o:Option xq):Prop:=∃x:List Int,sR x/\o=some (.box [BY x])
def QD:Option xq->List Int
 |some (.box [.sl _ L])=>L.map BV
 |_=>[]
variable {x:List Int}
theorem HB(h:sR x):VA (some (.box [BY x]))=True:=o7 ⟨x,h,rfl⟩
theorem FK(x:List Int):QD (some (.box [BY x]))=x:=Ew x
def ny:List Fs->AB->Prop×Fs:=λa H=>match a with
 |[.fn (.func f) [] [.ptr q 0]]=>(f=225/\VA (AD H q),BY (SA (QD (AD H q))))
 |_=>(False,.sH [])
theorem qSr:∀args H n,(ny args H).1->Ad prog 186 args H n (ny args H).2:=by
 intro args H n hh;unfold ny at hh⊢;split at hh
 ·rename_i f q;obtain⟨rfl,x,hx,h0⟩:=hh;simp only[h0,FK];exact Ad.of Wc.l (Av n _) λhf=>nA hf h0 hx
 ·exact hh.elim
def nz:List Fs->AB->Prop×Fs:=λa H=>match a with
 |[y,.ptr q 0]=>(Cj.ok y/\wide (Cj.dec y)/\VA (AD H q),.bool (decide (QD (AD H q)=Cj.dec y)))
 |_=>(False,.sH [])
def Teq:Bk:=AJ 28 (s2 Cj Cj (λ_ b=>wide b) (λa b=>.bool (decide (a=b)))) sE
theorem nD:AG prog Teq:=AG.sE.add (q2 nu)
theorem qR1:∀args H n,(nz args H).1->Ad prog 189 args H n (nz args H).2:=by
 intro args H n hh;unfold nz at hh⊢;split at hh
 ·rename_i y q;obtain⟨h1,h2,x,hx,h0⟩:=hh;simp only[h0,FK];refine Ad.of lz.l zt λhf=>lz.a (AE nD (AF ?_))
  simp only[eE,eN,seval,lz,h0,Teq,s2,As,Al,o7 h1,o7 h2,AJ];exact λ_ _ h=>h
 ·exact hh.elim
abbrev clR(q:Nat):Fs:=.fn (.func 189) [] [.ptr q 0]
def Tr1:Bk:=AJ 189 nz sE
theorem nE:AG prog Tr1:=AG.sE.add qR1
def SB(met:List (List Int))(x:List Int):Int:=match met.findIdx? (λy=>decide (x=y))with
 |some k=>(k:Int)
 |none=>-1
theorem nF{H:AB}{n q:Nat}{met:List (List Int)}(hm:B4 met)(hx:sR x)(h0:AD H q=some (.box [BY x])):Ad prog 226 [Bm met,clR q] H n (.int .i64 (SB met x)):=by
 refine Ad.of mA.l zt λhf=>mA.a (AE nE (AF ?_))
 have hml:met.length<1000000000:=hm.1;simp only[eE,eN,seval,o6,mA];refine AQ (λi:Nat=>⟨[(0,true,Bm met),(1,true,clR q),(7,true,.int .i64 met.length),(8,true,.int .i64 i)],H,n⟩) (λi=>i<=met.length/\∀j (h:j<met.length),j<i->¬x=met[j]) (λi=>met.length-i)
  0 rfl ⟨oq _,λj _ h=>absurd h (pD _)⟩ ?_
 rintro i ⟨hi,hb⟩;by_cases e9:i<met.length
 ·have hg:=o8 e9;have e:=AI (k:=i) zo;have hyf:=hm.2 _ (oK e9);generalize hy:met[i]=y at hg hyf;by_cases u0:x=y
  ·have hR:SB met x=i:=by
    unfold SB;rw[qk.2 ⟨e9,by simpa [hy]using u0,λj hj=>by simpa using hb j zo hj⟩]
   rw[hR];simp only[eZ,seval,eY,AT e9,hg,Tr1,nz,h0,HB hx,FK,As,Al,o7 hyf,BL u0,AJ];exact λ_ _ h=>h
  ·simp only[eZ,seval,eY,AT e9,hg,e,Tr1,nz,h0,HB hx,FK,As,Al,o7 hyf,A5 u0,AJ];refine .mk (i+1) rfl ⟨e9,λj hj h=>?_⟩ zo;by_cases z:j=i
   ·subst z;rw[hy];exact u0
   ·exact hb j hj zo
 obtain rfl:i=met.length:=zo
 have hR:SB met x= -1:=by
  unfold SB;rw[rG.2 λy hy=>by
   obtain⟨j,hj,rfl⟩:=pP.1 hy;simpa using hb j hj hj]
 rw[hR];simp only[eZ,seval,Ah e9];exact λ_ _ h=>h
theorem nG(met:List (List Int))(x:List Int):decide (0<=SB met x)=met.contains x:=by
 rw[oZ,oC,pF];unfold SB;cases h:met.findIdx? (λy=>decide (x=y))with
 |none=>
  rw[rG]at h;constructor
  ·intro q;simp at q
  ·intro q;have:=h x q;simp at this
 |some k=>
  obtain⟨h1,h2,-⟩:=qk.1 h;constructor
  ·intro _;have:=pg h2;rw[this];exact oK _
  ·intro _;simp
def gP(f:List (List Int)->List Int->Fs):List Fs->AB->Prop×Fs:=λa H=>match a with
 |[y,.fn (.func g) [] [.ptr q 0]]=>(Le.ok y/\B4 (Le.dec y)/\g=189/\VA (AD H q),f (Le.dec y) (QD (AD H q)))
 |_=>(False,.sH [])
theorem gQ{f:List (List Int)->List Int->Fs}{tF:FuncId}(h:∀{H:AB} {n q:Nat} {met:List (List Int)} {x:List Int},B4 met->sR x->AD H q=some (.box [BY x])->Ad prog tF [Bm met,clR q] H n (f met x)):∀args H n,(gP f args H).1->Ad prog tF args H n (gP f args H).2:=by
 intro args H n hh;unfold gP at hh⊢;split at hh
 ·rename_i y g q;obtain⟨h1,h2,rfl,x,hx,h0⟩:=hh;simp only[h0,FK];refine AO.args (h (n:=n) h2 hx h0) ?_;rintro g vs ⟨v,r,rfl,k1,k2⟩;exact⟨v,_,rfl,Le.wk _ h1 _ _ k1,k2⟩
 ·exact hh.elim
abbrev fIf(met:List (List Int))(x:List Int):Fs:=.int .i64 (SB met x)
abbrev fCf(met:List (List Int))(x:List Int):Fs:=.bool (met.contains x)
def Tr2:Bk:=AJ 226 (gP fIf) sE
theorem nH:AG prog Tr2:=AG.sE.add (gQ λh1 h2 h3=>nF h1 h2 h3)
theorem VC{t:xv}{l:List (List Int)}(ht:t.esz=1\/l=[]):Le.ok (.sl t (l.map BY))=True:=JA Fj ht
theorem SC{t:xv}(l:List (List Int)):Le.dec (.sl t (l.map BY))=l:=G5 Fj
theorem nI{H:AB}{n q:Nat}{met:List (List Int)}(hm:B4 met)(hx:sR x)(h0:AD H q=some (.box [BY x])):Ad prog 188 [Bm met,clR q] H n (fCf met x):=by
 refine Ad.of mB.l zt λhf=>mB.a (AE nH (AF ?_))
 simp only[eE,eN,seval,mB,Tr2,gP,h0,HB hx,FK,Cp,CC,o7 hm,nG,AJ];exact λ_ _ h=>h
def Trg:Bk:=AJ 89 (s2 DD Le (λg l=>Aq g.sh g.w g.h g.sB=some g.cells/\sR g.sB/\B4 l) λg l=>D2 g.cells l) (AJ 188 (gP fCf) (AJ 186 ny sE))
theorem nJ:AG prog Trg:=((AG.sE.add qSr).add (gQ λh1 h2 h3=>nI h1 h2 h3)).add (q2 λg l h=>p89 g l h.1 h.2.1 h.2.2)
structure VRm where
 j:Nat
 tk:xv
 H:AB
 n:Nat
structure IRm(g:xk)(r:x9)(v:VRm):Prop where
 hj:v.j<=r.ls.length
 fr:AU v.H v.n
 hn:3<=v.n
 h1:AD v.H 1=some (.box (AK g.sh g.w g.h g.sB g.cells))
 tok:EG 1 2 v.H v.tk
 es:v.tk.esz=1\/(r.ls.take v.j).map SA=[]
 no:∀k (hk:k<r.ls.length),k<v.j->J0 r.ls k r.ls[k]=false
theorem p144(d:x8)(g:xk)(hd:zy d)(hG:Aq g.sh g.w g.h g.sB=some g.cells)(hh:sR g.sB):A6 prog 144 [Ba d,B9 g] (.int .i64 (DA g.cells d.sJ)):=by
 refine .mk ⟨Ag 0 d,BF 0 ..,zt⟩ zt (c144.a (AE nJ (AF ?_)));have ua:d.sJ.length<1000000000:=hd.rg;simp only[eE,eN,seval,o6,c144];refine AQ (λv:VF=>⟨[(3,true,.ptr 1 0),(14,true,GV d.sJ),(15,true,.int .i64 d.sJ.length),(16,true,.int .i64 v.i)],v.H,v.n⟩) (λv=>v.i<=d.sJ.length/\AU v.H v.n/\3<=v.n/\AD v.H 1=some (.box (AK g.sh g.w g.h g.sB g.cells))/\DA g.cells d.sJ=DA g.cells (d.sJ.drop v.i)) (λv=>d.sJ.length-v.i)
  ⟨0,sA (sA Ac 0 (.box (AL d))) 1 (.box (AK g.sh g.w g.h g.sB g.cells)),3⟩ rfl ⟨oq _,(AU.nil.sA (m:=3) (oq 3) (show 0<3 by decide)).sA (od 3) (show 1<3 by decide),od _,rfl,rfl⟩ ?_
 rintro⟨i,H,n⟩ ⟨hi,l0,hn,h1,heq⟩;simp only at hi l0 hn h1 heq;by_cases e9:i<d.sJ.length;case neg=>
  obtain rfl:i=d.sJ.length:=zo
  rw[pA]at heq;rw[heq];simp only[eZ,seval,Ah e9];rfl
 have hg:=o8 e9;have e:=AI (k:=i) zo;have hrf:NG d.sJ[i]:=hd.rgs _ (oK e9);rw[Ou _ _ _ e9]at heq;generalize d.sJ[i]=r at hg hrf heq;have y1:∀q,(n+q=1)=False:=λq=>oA zo
 have hc:=o7 (⟨hG,hh,hrf⟩:Aq g.sh g.w g.h g.sB=some g.cells/\sR g.sB/\B4 r.ls);by_cases hb:(decide (r.ls.length<=64)&&r.ls.all (EX g.cells))=true;case neg=>
  have hv:D2 g.cells r.ls= .sH [Bm [],.int .i64 130]:=og hb;have hE:Ke g.cells r=130:=oE (by simpa using hb);rw[hE,og zd]at heq;rw[heq];simp only[eZ,seval,oh,eY,AT e9,hg,Bx l0,h1,y1,Trg,s2,Fd,Dd,Cp,CC,hc,hv,AJ]
 have hv:D2 g.cells r.ls= .sH [Bm (r.ls.map (Bb g.cells)),.int .i64 0]:=oE hb;obtain⟨hb1,am⟩:=(oo _ _).mp hb;have hb1:=pg hb1;have sg:∀l∈r.ls,l.Nodup:=λl hl=>(G7 (oM.1 am l hl)).1
 have hregE:Ke g.cells r=if CX r.ls=true then 161 else 0:=by unfold Ke;rw[hb,og zd]
 simp only[eZ,seval,o9,eY,AT e9,hg,Bx l0,h1,y1,Trg,s2,Fd,Dd,Cp,CC,hc,hv,AH,AJ];refine AQ (λv:VRm=>⟨[(3,true,.ptr 1 0),(9,true,.sl v.tk (((r.ls.take v.j).map SA).map BY)),(14,true,GV d.sJ),(15,true,.int .i64 d.sJ.length),(16,true,.int .i64 i),(31,true,Bm r.ls),(32,true,.int .i64 r.ls.length),(33,true,.int .i64 v.j)],v.H,v.n⟩) (IRm g r) (λv=>r.ls.length-v.j)
  ⟨0,.nil,sA H (n+2) (.box [.str r.nm,Bm r.ls]),n+4⟩ rfl ⟨oq _,l0.sA (m:=n+4) zo zo,zp,by simp only[];rw[AA _ _ _ _ zo];exact h1,.inl rfl,.inr rfl,λk _ h=>absurd h (pD _)⟩ ?_
 rintro⟨j,tk,H1,n1⟩ hI;have hj:=hI.hj;have t7:=hI.fr;have w7:=hI.hn;have h11:=hI.h1;have l6:=hI.tok;have s9:=hI.es;have u9:=hI.no;simp only at hj t7 w7 h11 l6 s9 u9;by_cases t8:j<r.ls.length
 ·have to:=o8 t8;have ej:=AI (k:=j) zo;have hlf:sR r.ls[j]:=by
   obtain⟨q1,-,q3⟩:=G7 (oM.1 am _ (oK t8));have h1:=Jx q1 q3;have h2:=(BP hG).2.1;show r.ls[j].length<_;omega
  have sw:=map_take (f:=SA) t8;have hhit:=λq=>Zt sg t8 q
  have hnx:J0 r.ls j r.ls[j]=false->∀k (hk:k<r.ls.length),k<j+1->J0 r.ls k r.ls[k]=false:=λq k hk h=>by
   by_cases z:k=j
   ·subst z;exact q
   ·exact u9 k hk zo
  generalize r.ls[j]=l at to hlf sw hhit hnx;have hmf:B4 ((r.ls.take j).map SA):=⟨show((r.ls.take j).map SA).length<_ by rw[o6,oJ];omega,λx hx=>by
   obtain⟨y,hy,rfl⟩:=pz.1 hx;show(SA y).length<_;rw[E4];exact hrf.2 _ (rD hy)⟩
  have hsf:sR (SA l):=show(SA l).length<_ by rw[E4];exact hlf
  have z1:∀q,(n1+q=1)=False:=λq=>oA zo
  have hmb:((r.ls.take j).map SA).contains (SA l)=J0 r.ls j l:=rfl;simp only[eZ,seval,eY,AT t8,to];refine(nC (n:=n1+5) λj hj=>t7 j zo).mono ?_;rintro o H2 n2 ⟨rfl,rfl,rfl⟩;cases hb3:J0 r.ls j l with
  |true=>
   rw[hregE,hhit hb3,oE rfl,og zd]at heq;rw[heq];simp only[eZ,seval,BG,Trg,ny,HB hlf,FK,Bx t7,gP,HB hsf,VC s9,SC,o7 hmf,hmb,hb3,AH,AJ]
  |false=>
   have gt:EG 1 2 (sA (sA H1 (n1+5) (.box [BY l])) (n1+3) (.box [BY (SA l)])) tk:=(l6.set (.inr (.inr (Bx t7 5)))).set (.inr (.inr (by rw[AA _ _ _ _ zo];exact Bx t7 3)));have gf:AU (sA (sA H1 (n1+5) (.box [BY l])) (n1+3) (.box [BY (SA l)])) (n1+12):=(t7.sA (m:=n1+12) zo zo).sA (m:=n1+12) zo zo;have q1:At (sA (sA H1 (n1+5) (.box [BY l])) (n1+3) (.box [BY (SA l)])) 1 tk=True:=o7 gt.app;have q2:((r.ls.take j).length<=35184372088831)=True:=o7 (by rw[oJ];omega);have q3:small ((r.ls.take j).length+1) 24=True:=o7 (AY (by rw[oJ];omega) zd);simp only[eZ,seval,o6,BG,Trg,ny,HB hlf,FK,Bx t7,gP,HB hsf,VC s9,SC,o7 hmf,hmb,hb3,AH,q2,q3,q1,ej,AJ];refine .mk ⟨j+1,.own (n1+10) 1,sA (AR (sA (sA H1 (n1+5) (.box [BY l])) (n1+3) (.box [BY (SA l)])) tk) (n1+10) .tok,n1+12⟩ ?_ ⟨t8,(AZ gt gf).sA (od _) (show n1+10<n1+12 by omega),zp,?_,.inr (.inr ⟨n1+10,rfl,zo,AC ..⟩),.inl rfl,hnx hb3⟩ zp
   ·simp only[sw,oD];rfl
   ·simp only[];rw[AA _ _ _ _ zo,Ai gt (.inl zo),AA _ _ _ _ zo,AA _ _ _ _ zo];exact h11
 obtain rfl:j=r.ls.length:=zo
 rw[hregE,Wr sg λj hj=>u9 j hj hj]at heq;simp only[eZ,seval,Ah t8,e];exact .mk ⟨i+1,H1,n1⟩ rfl ⟨e9,t7,w7,h11,heq⟩ zp
end
section
def Zu(b:Bool)(e:Int):Int:=if b=true then 0 else e
def Oy(d:x8):Int:=Zu (If d) 2
def NO(d:x8):Int:=match B3 d with
 | .error e=>e
 | .ok x=>Zu (decide (x=d)) 170
def Oz(d:x8):Int:=Zu (decide (1<=d.uw)&&decide (d.uw<=255)) 170
def O0(d:x8):Int:=match Aq d.sh d.w d.h d.sB with
 |some _=>0
 |none=>130
def O1(d:x8):Int:=Zu (Bv d) 170
def SD(d:x8):Int:=Zu (decide (Bl d.sC=[])) 171
def GL{d:x8}{e:Int}(h:B3 d= .error e):e≠0:=by
 unfold B3 at h
 rintro rfl
 repeat' split at h
 all_goals simp at h
def dB:Dc Bool:=⟨.bool,FZ,λv=>match v with| .bool _=>True|_=>False,λv h=>by
 cases v<;>first|exact Wk.refl _|exact h.elim⟩
theorem SE(b:Bool):dB.ok (.bool b)=True:=rfl
theorem NP(b:Bool):dB.dec (.bool b)=b:=rfl
def gR:Bk:=AJ 139 (s2 dB dI Wg λb e=>.int .i64 (Zu b e)) (AJ 84 (s1 dD zy CV) (AJ 29 (s2 dD dD (λ_ b=>zy b) λa b=>.bool (decide (a=b))) (AJ 146 (s1 dD zy λd=>.bool (Bv d)) (AJ 148 (s1 dD zy λd=>BY (Bl d.sC)) (AJ 144 (s2 dD DD (λd g=>zy d/\Aq g.sh g.w g.h g.sB=some g.cells/\sR g.sB) λd g=>.int .i64 (DA g.cells d.sJ)) sE)))))
def Kr:AG prog gR:=(((((AG.sE.add (q2 λd g h=>p144 d g h.1 h.2.1 h.2.2)).add (q1 λd h=>p148 d h.ru)).add (q1 λd h=>p146 d h)).add (q2 λa b h=>p29 a b h)).add (q1 λd h=>p84 d h)).add (q2 λb e _=>p139 b e)
def Zv{H:AB}{n i:Nat}(hf:AU H n)(hi:n<=i)(a b:xq):Cr H (sA (sA H i a) i b):=λid ob h=>by
 have:=hf.lt h;rw[AA _ _ _ _ zo,AA _ _ _ _ zo];exact h
def Zw(d:x8):(decide ((0:Int)<d.sI.length)&&decide ((d.sI.length:Int)<=16)&&decide ((d.sJ.length:Int)<=4)&&decide ((d.sD.length:Int)<=4)&&decide ((d.sC.length:Int)<=16))=If d:=by
 rw[oZ];simp [If];omega
def eR(l:List Int):decide ((l.length:Int)=0)=decide (l=[]):=by
 cases l<;>simp;omega
variable {d:x8} {H:AB} {n q:Nat}
theorem u1(hd:zy d)(h0:AD H q=some (.box (AL d))):Ad prog 138 [.ptr q 0] H n (.int .i64 (Oy d)):=by
 refine Ad.of mC.l zt λhf=>mC.a (AE Kr (AF ?_))
 simp only[eZ,seval,o6,mC,h0,gR,s2,SE,NP,BR,Ax,Zw,AJ];exact⟨rfl,λ_ _ h=>h⟩
theorem u2(hd:zy d)(h0:AD H q=some (.box (AL d))):Ad prog 140 [.ptr q 0] H n (.int .i64 (NO d)):=by
 refine Ad.of dh.l zt λhf=>dh.a (AE Kr (AF ?_))
 have hq:=hf.lt h0;have y1:∀k,(n+k=q)=False:=λk=>oA zo
 unfold NO;cases hr:B3 d with
 |error e=>
  have hv:CV d= .sH [Ba G6,.int .i64 e]:=by unfold CV;rw[hr]
  have he:(e=0)=False:=oA (GL hr);simp only[eZ,seval,oh,eY,dh,h0,gR,s1,Az,Ap,o7 hd,hv,Bx hf,he,AJ];exact Zv hf zo _ _
 |ok x=>
  have hv:CV d= .sH [Ba x,.int .i64 0]:=by unfold CV;rw[hr]
  simp only[eZ,seval,o9,eY,dh,h0,gR,s1,s2,Az,Ap,o7 hd,hv,Bx hf,y1,SE,NP,BR,Ax,AJ];exact Zv hf zo _ _
theorem u3(h0:AD H q=some (.box (AL d))):Ad prog 141 [.ptr q 0] H n (.int .i64 (Oz d)):=by
 refine Ad.of mD.l zt λhf=>mD.a (AE Kr (AF ?_))
 simp only[eZ,seval,mD,h0,gR,s2,SE,NP,BR,Ax,AJ];exact⟨rfl,λ_ _ h=>h⟩
theorem u6(hd:zy d)(h0:AD H q=some (.box (AL d))):Ad prog 145 [.ptr q 0] H n (.int .i64 (O1 d)):=by
 refine Ad.of mG.l zt λhf=>mG.a (AE Kr (AF ?_))
 simp only[eE,eN,seval,mG,h0,gR,s1,s2,SE,NP,BR,Ax,Az,Ap,o7 hd,AJ];exact⟨rfl,λ_ _ h=>h⟩
theorem u7(hd:zy d)(h0:AD H q=some (.box (AL d))):Ad prog 147 [.ptr q 0] H n (.int .i64 (SD d)):=by
 refine Ad.of mH.l zt λhf=>mH.a (AE Kr (AF ?_))
 simp only[eE,eN,seval,o6,mH,h0,gR,s1,s2,SE,NP,BR,Ax,Az,Ap,o7 hd,eR,AJ];exact⟨rfl,λ_ _ h=>h⟩
theorem u5{g:xk}{q':Nat}(hd:zy d)(hG:Aq g.sh g.w g.h g.sB=some g.cells)(hh:sR g.sB)(h0:AD H q=some (.box (AL d)))(h1:AD H q'=some (.box (AK g.sh g.w g.h g.sB g.cells))):Ad prog 143 [.ptr q 0,.ptr q' 0] H n (.int .i64 (DA g.cells d.sJ)):=by
 refine Ad.of mF.l zt λhf=>mF.a (AE Kr (AF ?_))
 simp only[eE,eN,seval,mF,h0,h1,gR,s2,Fd,Dd,Az,Ap,o7 hd,hG,o7 hh,AJ];exact λ_ _ h=>h
abbrev gr0:List Fs:=[.int .i64 0,.int .i64 0,.int .i64 0,.sl .nil [],.sl .nil []]
def Tmc:Bk:=AJ 86 (λa H=>match a with
 |[.int .i64 sh,.int .i64 w,.int .i64 h,x]=>(Cj.ok x/\sR (Cj.dec x),BX sh w h (Cj.dec x))
 |_=>(False,.sH [])) sE
theorem nK:AG prog Tmc:=AG.sE.add Zd
theorem u4{q':Nat}(sZ:q≠q')(hh:sR d.sB)(h0:AD H q=some (.box (AL d)))(h1:AD H q'=some (.box gr0)):
  AO prog 142 [.ptr q 0,.ptr q' 0] H n λo H' n'=>o= .ret (.int .i64 (O0 d))/\n'=n/\∃cs,H'=sA H q' (.box cs)/\∀cells,Aq d.sh d.w d.h d.sB=some cells->cs=AK d.sh d.w d.h d.sB cells:=by
 refine mE.a (AE nK (AF ?_));unfold O0;cases hc:Aq d.sh d.w d.h d.sB with
 |none=>
  have hv:BX d.sh d.w d.h d.sB= .sH [Ec 0 0 0 [] [],.int .i64 130]:=by unfold BX;rw[hc]
  simp only[eE,eN,seval,eY,mE,h0,h1,Tmc,As,Al,o7 hh,hv,AJ];exact⟨_,rfl⟩
 |some cells=>
  have hv:BX d.sh d.w d.h d.sB= .sH [Ec d.sh d.w d.h d.sB cells,.int .i64 0]:=by unfold BX;rw[hc]
  simp only[eE,eN,seval,eY,mE,h0,h1,Tmc,As,Al,o7 hh,hv,AJ];exact⟨_,rfl,λc h=>by cases h;rfl⟩
end
section
def CE(m:Nat)(p:Nat->Bool):List Int:=((List.range m).filter p).map λ(i:Nat)=>(i:Int)
variable {x sh n:Int} {m:Nat} {p:Nat->Bool}
theorem IC:x∈CE m p↔∃i:Nat,i<m/\p i=true/\x=(i:Int):=by grind [CE]
theorem NQ{i:Nat}:(i:Int)∈CE m p↔i<m/\p i=true:=by grind [IC]
theorem Kt(m:Nat)(p:Nat->Bool):List.Pairwise (λx y=>x<y) (CE m p):=by
 unfold CE;rw[rB];exact(rj.sublist rM).imp λq=>zo
theorem EB(m:Nat)(p:Nat->Bool):CE (m+1) p=if p m=true then CE m p++[(m:Int)]else CE m p:=by grind [CE,List.range_succ]
theorem Cc(m:Nat)(p:Nat->Bool):(CE m p).length<=m:=by grind [CE]
theorem D4{q:Nat->Bool}(h:∀i,i<m->p i=q i):CE m p=CE m q:=by grind [CE,List.filter_congr]
theorem SF(m:Nat):CE m (λ_=>true)=(List.range m).map λ(i:Nat)=>(i:Int):=by
 unfold CE;rw[rL.2 λ_ _=>rfl]
abbrev A7:=Int×Int
def DC(sh w p:Int):A7:=(if sh=2 then p.tmod w-(p.tdiv w).tdiv 2 else p.tmod w,p.tdiv w)
def AW(sh w:Int)(cells:List Int):List A7:=cells.map (DC sh w)
def FX(sh:Int):List A7:=(([(1,0),(-1,0),(0,1),(0,-1),(1,-1),(-1,1)]:List A7)).take (if sh=1 then 4 else 6)
def Ih(s d:A7):A7:=(s.1+d.1,s.2+d.2)
def Eh(S:List A7)(s:A7):Option Int:=(S.findIdx? λx=>decide (x=s)).map λ(i:Nat)=>(i:Int)
def HC(sh:Int)(S:List A7)(s:A7):List Int:=CE S.length λb=>(FX sh).any λd=>decide (S[b]?=some (Ih s d))
def Ed(sh:Int)(S:List A7):List (List Int):=S.map (HC sh S)
def CA(S:List A7)(f:A7->Option Int)(n:Int):List Int:=CE S.length λc=>decide (S[c]?.bind f=some n)
def J1:List Int:=(List.range 49).map λ(k:Nat)=>(k:Int)-16
def CB(S:List A7)(f:A7->Option Int):List (List Int):=(J1.map (CA S f)).filter λl=>!l.isEmpty
def LR(w:Int)(S:List A7):List (List Int):=
 let a:=CA S (λs=>if s.1=s.2 then some 0 else none) 0
 let b:=CA S (λs=>if s.1+s.2=w-1 then some 0 else none) 0
 (if a.isEmpty then[]else[a])++(if b.isEmpty||decide (a=b)then[]else[b])
def E5(sh w h:Int)(S:List A7)(f:Nat):List (List Int):=
 if f=0 then(CE S.length λ_=>true).map λc=>[c]
 else if f=1 then CB S λs=>some s.2
 else if f=2 then CB S λs=>some s.1
 else if f=3 then(if sh=2 then CB S λs=>some (s.1+s.2)else if w=h then LR w S else[])
 else if f=4 then Ed sh S
 else if f=5 then(List.range S.length).map λ(c:Nat)=>CE S.length λb=>decide (b=c)||((FX sh).any λd=>decide (S[b]?=(S[c]?).map λs=>Ih s d))
 else if f=6 then(List.range S.length).flatMap λ(c:Nat)=>(((Ed sh S)[c]?.getD []).filter λb=>decide ((c:Int)<b)).map λb=>[(c:Int),b]
 else[(CE S.length λ_=>true)]
theorem HD{S:List A7}(hd:S.Nodup){s:A7}{i:Nat}:Eh S s=some (i:Int)↔S[i]?=some s:=by
 unfold Eh;constructor
 ·intro h;obtain⟨j,h1,h2⟩:=pY.1 h;have:j=i:=zo
  subst this;obtain⟨hl,h3,-⟩:=qk.1 h1;rw[o8 hl,pg h3]
 ·intro h;obtain⟨hl,h1⟩:=pK.1 h;have:S.findIdx? (λx=>decide (x=s))=some i:=by
   rw[qk];refine⟨hl,by simp [h1],λj hj=>?_⟩;simp only[oC];intro h2;have:=(pW.1 hd) j i zo hl hj;exact this (h2.trans h1.symm)
  rw[this];rfl
theorem O2{S:List A7}{s:A7}(h:Eh S s=some x):∃i:Nat,x=(i:Int):=by
 unfold Eh at h;obtain⟨j,-,h2⟩:=pY.1 h;exact⟨j,h2.symm⟩
theorem NR{S:List A7}{s:A7}:Eh S s=none↔s∉S:=by grind [Eh,Option.map_eq_none_iff,List.findIdx?_eq_none_iff,decide_eq_false_iff_not]
def ID(sh:Int)(S:List A7)(s:A7):List Int:=(FX sh).filterMap λd=>Eh S (Ih s d)
theorem SG(sh:Int):(FX sh).Nodup:=by
 unfold FX;split<;>decide
theorem eS{s a b:A7}(h:Ih s a=Ih s b):a=b:=by grind [Ih,Prod.mk.injEq]
theorem SH(sh:Int){S:List A7}(hd:S.Nodup)(s:A7):(ID sh S s).Nodup:=by
 unfold ID;have h:=SG sh;generalize FX sh=L at h;induction L with
 |nil=>simp
 |cons d r ih=>
  obtain⟨h1,h2⟩:=qO.1 h;rw[List.filterMap_cons];cases he:Eh S (Ih s d)with
  |none=>exact ih h2
  |some x=>
   refine qO.2 ⟨λhm=>?_,ih h2⟩;obtain⟨e,he1,he2⟩:=List.mem_filterMap.1 hm;obtain⟨i,rfl⟩:=O2 he;have a:=(HD hd).1 he;have b:=(HD hd).1 he2;rw[a]at b;have:=eS (Option.some.inj b);subst this;exact h1 he1
theorem Ws{S:List A7}(hd:S.Nodup){s:A7}:x∈ID sh S s↔x∈HC sh S s:=by
 unfold ID HC;rw[List.mem_filterMap,IC];constructor
 ·rintro⟨d,hm,he⟩;obtain⟨i,rfl⟩:=O2 he;have h:=(HD hd).1 he;exact⟨i,(pK.1 h).1,List.any_eq_true.2 ⟨d,hm,by simp [h]⟩,rfl⟩
 ·rintro⟨i,hi,ha,rfl⟩;obtain⟨d,hm,he⟩:=List.any_eq_true.1 ha;exact⟨d,hm,(HD hd).2 (pg he)⟩
theorem Ku{l m:List Int}(hd:l.Nodup)(hm:List.Pairwise (λx y=>x<y) m)(h:∀x,x∈l↔x∈m):l.mergeSort Fa=m:=by
 refine NH ?_ hm λx=>?_
 ·have h1:=Hz l;have h2:(l.mergeSort Fa).Nodup:=(qE l Fa).nodup_iff.2 hd;rw[pW]at h1⊢;intro i j hi hj hij;have a:=h1 i j hi hj hij;have b:=pW.1 h2 i j hi hj hij;have b':¬(l.mergeSort Fa)[i]=(l.mergeSort Fa)[j]:=b;omega
 ·rw[(qE l Fa).mem_iff];exact h x
theorem Tk(sh:Int){S:List A7}(hd:S.Nodup)(s:A7):(ID sh S s).mergeSort Fa=HC sh S s:=Ku (SH sh hd s) (Kt ..) λx=>Ws hd
theorem SI{S:List A7}{f:A7->Option Int}{c:Nat}:(c:Int)∈CA S f n↔∃s,S[c]?=some s/\f s=some n:=by
 unfold CA;rw[NQ];simp only[oC,Option.bind_eq_some_iff];constructor
 ·exact λh=>h.2
 ·grind
theorem QE{S:List A7}{f:A7->Option Int}:(CA S f n).isEmpty=false↔∃s∈S,f s=some n:=by
 rw[List.isEmpty_eq_false_iff_exists_mem];constructor
 ·rintro⟨x,hx⟩;obtain⟨i,-,-,rfl⟩:=IC.1 hx;obtain⟨s,h1,h2⟩:=SI.1 hx;exact⟨s,qZ h1,h2⟩
 ·rintro⟨s,h1,h2⟩;obtain⟨i,hi,h3⟩:=pP.1 h1;exact⟨(i:Int),SI.2 ⟨s,by rw[o8 hi,h3],h2⟩⟩
theorem Wt:List.Pairwise (λx y=>x<y) J1:=by
 unfold J1;rw[rB];exact rj.imp λq=>zo
theorem Zx:n∈J1↔ -16<=n/\n<=32:=by
 unfold J1;rw[pz];constructor
 ·rintro⟨k,hk,rfl⟩;have:=px.1 hk;omega
 ·intro h;exact⟨(n+16).toNat,px.2 zo,zo⟩
theorem Zy{S:List A7}{f:A7->Option Int}{K:List Int}(hn:K.Nodup)(hk:∀n,n∈K↔∃s∈S,f s=some n)(hb:∀s∈S,∀n,f s=some n-> -16<=n/\n<=32):(K.mergeSort Fa).map (CA S f)=CB S f:=by
 have h:K.mergeSort Fa=J1.filter λn=>!(CA S f n).isEmpty:=by
  refine Ku hn (Wt.sublist rM) λn=>?_
  rw[hk,qn,Zx,qM,QE];exact⟨λq=>let ⟨s,h1,h2⟩:=q;⟨hb s h1 n h2,q⟩,λq=>q.2⟩
 rw[h,CB,List.filter_map];rfl
theorem Zz{w p q:Int}(hw:1<=w)(hp:0<=p)(hq:0<=q)(h:DC sh w p=DC sh w q):p=q:=by
 unfold DC at h;simp only[Prod.mk.injEq]at h;obtain⟨h1,h2⟩:=h;have e1:=Int.tmod_add_mul_tdiv p w;have e2:=Int.tmod_add_mul_tdiv q w;rw[h2]at h1 e1;split at h1<;>omega
theorem LS{w:Int}{cells:List Int}(hw:1<=w)(hr:List.Pairwise (λx y=>x<y) cells)(h0:∀p∈cells,0<=p):(AW sh w cells).Nodup:=by
 unfold AW;rw[List.Nodup,rB,pW];intro i j hi hj hij e;have:=Zz hw (h0 _ (oK hi)) (h0 _ (oK hj)) e;have:=pW.1 hr i j hi hj hij;omega
end
structure uV where
 d:x8
 g:xk
 nb:List (List Int)
 ls:List (List (List Int))
 deriving DecidableEq
def A8(x:x8)(cells:List Int):xk:=⟨x.sh,x.w,x.h,x.sB,cells⟩
def Z0(x:x8)(cells:List Int):uV:=
 ⟨x,A8 x cells,Ed x.sh (AW x.sh x.w cells),((List.range 8).map λf=>E5 x.sh x.w x.h (AW x.sh x.w cells) f)++x.sJ.map λr=>r.ls.map (Bb cells)⟩
def Ck(d:x8):Except Int uV:=match B3 d with
 | .error e=>.error e
 | .ok x=>if EH x≠0 then .error (EH x)else match Aq x.sh x.w x.h x.sB with
  |none=>.error 130
  |some cells=>.ok (Z0 x cells)
def Tl(k:uV):Bool:=match Ck k.d with
 | .ok x=>decide (k=x)
 | .error _=>false
def Cq(k:uV):Int:=if Tl k then 0 else 180
def SJ{x:x8}(h:EH x=0):∃cells,Aq x.sh x.w x.h x.sB=some cells:=by
 unfold EH at h;split at h
 ·cases h
 ·split at h
  ·rename_i e he;have:=GL he;exact absurd h this
  ·grind
def Z1{d:x8}{k:uV}(h:Ck d= .ok k):∃x cells,B3 d= .ok x/\EH x=0/\Aq x.sh x.w x.h x.sB=some cells/\k=Z0 x cells:=by grind [Ck]
abbrev NS(ls:List (List (List Int))):Fs:=.sl (.none 1) (ls.map Bm)
abbrev Ab(k:uV):List Fs:=AL k.d++(AK k.g.sh k.g.w k.g.h k.g.sB k.g.cells++[Bm k.nb,NS k.ls])
abbrev BM(k:uV):Fs:=.agg (Ab k)
def Tm:Fs->List (List (List Int))
 | .sl _ L=>L.map Ot
 |_=>[]
def gS:Fs->uV
 | .agg [nm,v,sh,w,h,ho,sy,rg,cl,ru,gs,gw,gh,gho,gce,nb,ls]=>⟨ZR (.agg [nm,v,sh,w,h,ho,sy,rg,cl,ru]),R7 (.agg [gs,gw,gh,gho,gce]),Ot nb,Tm ls⟩
 |_=>⟨G6,⟨0,0,0,[],[]⟩,[],[]⟩
def F3(n:Nat)(l:List (List (List Int))):(NS l).under n:=⟨zt,Af (A0 n) _⟩
def Bp(n:Nat)(k:uV):(BM k).under n:=⟨zt,zt,zt,zt,zt,Av n _,G3 n _,Ex n _,Ey n _,DM n _,zt,zt,zt,Av n _,Av n _,A0 n _,F3 n _,zt⟩
def Tn(l:List (List (List Int))):Tm (NS l)=l:=GH Gi l
def O3(k:uV):gS (BM k)=k:=by
 have h1:=NF k.d;have h2:=Kp k.g;show uV.mk (ZR (Ba k.d)) (R7 (B9 k.g)) (Ot (Bm k.nb)) (Tm (NS k.ls))=k;rw[h1,h2,Gi,Tn]
def Wu:Dc (List (List (List Int))):=gM 1 Bm Ot
def eT(l:List (List (List Int))):Wu.ok (NS l)=True:=JA Gi (.inl rfl)
def Z2(l:List (List (List Int))):Wu.dec (NS l)=l:=G5 Gi
def DO:Dc uV:=d9 BM gS
def FY(x:uV):DO.ok (BM x)=True:=I8 O3 x
def Dq(x:uV):DO.dec (BM x)=x:=O3 x
def p30(a b:List (List Int))(hb:B4 b):A6 prog 30 [Bm a,Bm b] (.bool (decide (a=b))):=by
 refine .mk ⟨A0 0 a,A0 0 b,zt⟩ zt (c30.a (AE ZW (AF ?_)));simp only[eE,eN,seval,c30,Tcl,W1,Cp,CC,o7 hb,AJ]
def Tke:Bk:=AJ 30 (s2 Le Le (λ_ b=>B4 b) λa b=>.bool (decide (a=b))) sE
def Z3:AG prog Tke:=AG.sE.add (q2 p30)
def p31(a b:List (List (List Int)))(hb:sR b)(hx:∀x∈b,B4 x):A6 prog 31 [NS a,NS b,.fn (.func 30) [] []] (.bool (decide (a=b))):=by
 refine .mk ⟨F3 0 a,F3 0 b,by simp [Fs.under,sN],zt⟩ zt (c31.a (AE Z3 (AF ?_)));by_cases hl:a.length=b.length;case neg=>
  simp only[eZ,seval,oh,o6,c31,Hw hl,oh];exact(oN λe=>hl (by rw[e])).symm
 simp only[eZ,seval,o9,o6,c31,Hx hl];refine AQ (λi:Nat=>⟨[(1,true,NS b),(2,true,.fn (.func 30) [] []),(15,true,NS a),(16,true,.int .i64 a.length),(17,true,.int .i64 i)],Ac,0⟩) (λi=>i<=a.length/\∀j,j<i->a[j]?=b[j]?) (λi=>a.length-i) 0 rfl ⟨oq _,λj hj=>zo⟩ ?_;rintro i ⟨hi,sX⟩;by_cases e9:i<a.length;case neg=>
  simp only[eZ,seval,Ah e9];exact(pk (FJ hl λj hj=>sX j zo)).symm
 have l7:i<b.length:=zo
 have uH:=o8 e9;have s6:=o8 l7;have e:=AI (k:=i) (by have:b.length<1000000000:=hb;omega);have hf:=hx _ (oK l7);by_cases hs:a[i]=b[i]
 ·simp only[eZ,seval,o9,oQ,oH,oS,o6,oO,AT e9,AT l7,uH,s6,e,Tke,s2,Cp,CC,o7 hf,BL hs,AJ];refine ZA.drop (i+1) rfl rfl rfl rfl AU.nil (λ_ _ h=>by cases h) ⟨F3 0 b,by simp [Fs.under,sN],F3 0 a,zt,zt,zt⟩ ⟨e9,λj h=>?_⟩ zo;by_cases q:j=i
  ·subst q;rw[uH,s6,hs]
  ·exact sX j zo
 ·simp only[eZ,seval,oh,oQ,oH,oS,o6,oO,AT e9,AT l7,uH,s6,Tke,s2,Cp,CC,o7 hf,A5 hs,AJ];exact(oN λq=>hs (by simp [q])).symm
structure uL(k:uV):Prop where
 d:zy k.d
 ho:wide k.g.sB
 ce:wide k.g.cells
 nb:B4 k.nb
 ls:sR k.ls
 lx:∀x∈k.ls,B4 x
def Tks:Bk:=AJ 28 (s2 Cj Cj (λ_ b=>wide b) λa b=>.bool (decide (a=b))) (AJ 29 (s2 dD dD (λ_ b=>zy b) λa b=>.bool (decide (a=b))) (AJ 31 (W1 30 Wu Wu (λ_ b=>sR b/\∀x∈b,B4 x) λa b=>.bool (decide (a=b))) Tke))
def nL:AG prog Tks:=((Z3.add (q2f λa b h=>p31 a b h.1 h.2)).add (q2 p29)).add (q2 nu)
theorem Tks_i(a:List Fs)(H:AB):Tks 28 a H=s2 Cj Cj (λ_ b=>wide b) (λa b=>.bool (decide (a=b))) a H:=rfl
theorem Tks_s(a:List Fs)(H:AB):Tks 29 a H=s2 dD dD (λ_ b=>zy b) (λa b=>.bool (decide (a=b))) a H:=rfl
theorem Tks_f(a:List Fs)(H:AB):Tks 31 a H=W1 30 Wu Wu (λ_ b=>sR b/\∀x∈b,B4 x) (λa b=>.bool (decide (a=b))) a H:=rfl
theorem Tks_e(a:List Fs)(H:AB):Tks 30 a H=s2 Le Le (λ_ b=>B4 b) (λa b=>.bool (decide (a=b))) a H:=rfl
def eU{a b:uV}:a=b↔(((((((a.g.sh=b.g.sh/\a.g.w=b.g.w)/\a.g.h=b.g.h)/\a.g.sB=b.g.sB)/\a.g.cells=b.g.cells)/\a.d=b.d)/\a.nb=b.nb)/\a.ls=b.ls):=by
 obtain⟨ad,⟨a1,a2,a3,a4,a5⟩,an,al⟩:=a;obtain⟨bd,⟨b1,b2,b3,b4,b5⟩,bn,bl⟩:=b;simp only[uV.mk.injEq,xk.mk.injEq];constructor
 ·simp_all
 ·simp_all
def p12(a b:uV)(hb:uL b):A6 prog 12 [BM a,BM b] (.bool (decide (a=b))):=by
 refine .mk ⟨Bp 0 a,Bp 0 b,zt⟩ zt (c12.a (AE nL (AF ?_)));have e1:dD.ok (.agg (AL a.d))=True:=Az a.d;have e2:dD.dec (.agg (AL a.d))=a.d:=Ap a.d;have e3:dD.ok (.agg (AL b.d))=True:=Az b.d;have e4:dD.dec (.agg (AL b.d))=b.d:=Ap b.d;simp only[AL]at e1 e2 e3 e4;simp only[eZ,seval,c12,Ab,AK,AL,Tks_i,Tks_s,Tks_f,Tks_e,s2,W1,As,Al,Cp,CC,eT,Z2,e1,e2,e3,e4,o7 hb.d,o7 hb.ho,o7 hb.ce,o7 hb.nb,o7 hb.ls,o7 hb.lx];rw[oZ];simp only[oo,oC,eU]
theorem Wv(d:x8):EH d=if Oy d≠0 then Oy d else if NO d≠0 then NO d else if Oz d≠0 then Oz d else match Aq d.sh d.w d.h d.sB with
  |none=>130
  |some cells=>if DA cells d.sJ≠0 then DA cells d.sJ else if O1 d≠0 then O1 d else SD d:=by
 unfold EH Oy NO Oz O1 SD;cases If d with
 |false=>rfl
 |true=>
 cases hr:B3 d with
 |error e=>simp [Zu,GL hr]
 |ok x=>
 by_cases hx:x=d
 ·by_cases hv:d.uw<1\/255<d.uw
  ·have:(decide (1<=d.uw)&&decide (d.uw<=255))=false:=by simp;omega
   simp [Zu,hx,hv,this]
  ·have:(decide (1<=d.uw)&&decide (d.uw<=255))=true:=by simp;omega
   cases hc:Aq d.sh d.w d.h d.sB with
   |none=>simp [Zu,hx,hv,this]
   |some cells=>
    cases Bv d<;>by_cases hu:Bl d.sC=[]<;>simp [Zu,hx,hv,this,hu]
 ·simp [Zu,hx]
abbrev To:List Fs:=[.fn (.func 138) [] [.ptr 0 0],.fn (.func 140) [] [.ptr 0 0],.fn (.func 141) [] [.ptr 0 0],.fn (.func 142) [] [.ptr 0 0,.ptr 2 0],.fn (.func 143) [] [.ptr 0 0,.ptr 2 0],.fn (.func 145) [] [.ptr 0 0],.fn (.func 147) [] [.ptr 0 0]]
structure IChk(d:x8)(v:VF):Prop where
 hi:v.i<=7
 h0:AD v.H 0=some (.box (AL d))
 z1:0<v.i->Oy d=0
 z2:1<v.i->NO d=0
 z3:2<v.i->Oz d=0
 g0:v.i<=3->AD v.H 2=some (.box gr0)
 z4:3<v.i->∃cells,Aq d.sh d.w d.h d.sB=some cells/\AD v.H 2=some (.box (AK d.sh d.w d.h d.sB cells))/\(4<v.i->DA cells d.sJ=0)
 z6:5<v.i->O1 d=0
 z7:6<v.i->SD d=0
def p85(d:x8)(hd:zy d):A6 prog 85 [Ba d] (.int .i64 (EH d)):=by
 refine .mk ⟨Ag 0 d,zt⟩ zt (c85.a (AE AG.sE (AF ?_)));simp only[eE,eN,seval,c85];have h7:((7:Nat):Int)=7:=rfl;refine AQ (λv:VF=>⟨[(14,true,.sl (.exact 1) To),(15,true,.int .i64 7),(16,true,.int .i64 v.i)],v.H,v.n⟩) (IChk d) (λv=>7-v.i)
  ⟨0,sA (sA Ac 0 (.box (AL d))) 2 (.box gr0),3⟩ rfl ⟨oq _,rfl,λh=>absurd h (pD _),λh=>absurd h (pD _),λh=>absurd h (pD _),λ_=>rfl,λh=>absurd h (pD _),λh=>absurd h (pD _),λh=>absurd h (pD _)⟩ ?_
 rintro⟨i,H,n⟩ hI;obtain⟨hi,h0,z1,z2,z3,g0,z4,z6,z7⟩:=hI;simp only at hi h0 z1 z2 z3 g0 z4 z6 z7;have hS:=Wv d;by_cases e9:i<7;case neg=>
  obtain⟨cells,hc,-,hr⟩:=z4 zo;have hlF:((i:Int)<7)=False:=oA zo;simp only[z1 zo,z2 zo,z3 zo,hc,hr zo,z6 zo,z7 zo,ne_eq,ra,pb]at hS;rw[hS];simp only[eZ,seval,hlF]
 have hlT:((i:Int)<7)=True:=o7 zo;have hlN:((i:Int)<((7:Nat):Int))=True:=hlT;have e:=AI (k:=i) zo;have h8:i=0\/i=1\/i=2\/i=3\/i=4\/i=5\/i=6:=zo
 rcases h8 with h8|h8|h8|h8|h8|h8|h8
 ·have hg:To[i]?=some (.fn (.func 138) [] [.ptr 0 0]):=by rw[h8];rfl
  have hl7:i<To.length:=e9;simp only[eZ,seval,oQ,oH,oS,hlT,hlN,hg];refine(u1 hd h0).mono ?_;rintro o H' n' ⟨rfl,rfl,rfl⟩;by_cases hz:Oy d=0
  ·rw[hz];simp only[eZ,seval,o9,BG,e];exact .mk ⟨i+1,H',n'⟩ rfl ⟨e9,h0,λ_=>hz,λh=>absurd h zp,λh=>absurd h zp,λ_=>g0 zo,λh=>absurd h zp,λh=>absurd h zp,λh=>absurd h zp⟩ zp
  ·rw[oE hz]at hS;rw[hS];simp only[eZ,seval,oh,BG,oA hz]
 ·have hg:To[i]?=some (.fn (.func 140) [] [.ptr 0 0]):=by rw[h8];rfl
  have hl7:i<To.length:=e9;simp only[eZ,seval,oQ,oH,oS,hlT,hlN,hg];refine(u2 hd h0).mono ?_;rintro o H' n' ⟨rfl,rfl,rfl⟩;simp only[z1 zo,ne_eq,ra,pb]at hS;by_cases hz:NO d=0
  ·rw[hz];simp only[eZ,seval,o9,BG,e];exact .mk ⟨i+1,H',n'⟩ rfl ⟨e9,h0,λ_=>z1 zo,λ_=>hz,λh=>absurd h zp,λ_=>g0 zo,λh=>absurd h zp,λh=>absurd h zp,λh=>absurd h zp⟩ zp
  ·rw[oE hz]at hS;rw[hS];simp only[eZ,seval,oh,BG,oA hz]
 ·have hg:To[i]?=some (.fn (.func 141) [] [.ptr 0 0]):=by rw[h8];rfl
  have hl7:i<To.length:=e9;simp only[eZ,seval,oQ,oH,oS,hlT,hlN,hg];refine(u3 h0).mono ?_;rintro o H' n' ⟨rfl,rfl,rfl⟩;simp only[z1 zo,z2 zo,ne_eq,ra,pb]at hS;by_cases hz:Oz d=0
  ·rw[hz];simp only[eZ,seval,o9,BG,e];exact .mk ⟨i+1,H',n'⟩ rfl ⟨e9,h0,λ_=>z1 zo,λ_=>z2 zo,λ_=>hz,λ_=>g0 zo,λh=>absurd h zp,λh=>absurd h zp,λh=>absurd h zp⟩ zp
  ·rw[oE hz]at hS;rw[hS];simp only[eZ,seval,oh,BG,oA hz]
 ·have hg:To[i]?=some (.fn (.func 142) [] [.ptr 0 0,.ptr 2 0]):=by rw[h8];rfl
  have hl7:i<To.length:=e9;simp only[eZ,seval,oQ,oH,oS,hlT,hlN,hg];refine(u4 zd hd.ho h0 (g0 zo)).mono ?_;rintro o H' n' ⟨rfl,rfl,cs,rfl,hcs⟩;have h0':AD (sA H 2 (.box cs)) 0=some (.box (AL d)):=by rw[AA _ _ _ _ zd];exact h0
  simp only[z1 zo,z2 zo,z3 zo,ne_eq,ra,pb]at hS;cases hc:Aq d.sh d.w d.h d.sB with
  |none=>
   have hs4:O0 d=130:=by unfold O0;rw[hc]
   rw[hc]at hS;rw[hS,hs4];simp only[eZ,seval,oh,BG]
  |some cells=>
   have hs4:O0 d=0:=by unfold O0;rw[hc]
   rw[hs4];simp only[eZ,seval,o9,BG,e];refine .mk ⟨i+1,sA H 2 (.box cs),n'⟩ rfl ⟨e9,h0',λ_=>z1 zo,λ_=>z2 zo,λ_=>z3 zo,λh=>absurd h zp,λ_=>⟨cells,hc,by simp only[];rw[AC,hcs cells hc],λh=>absurd h zp⟩,λh=>absurd h zp,λh=>absurd h zp⟩ zp
 ·have hg:To[i]?=some (.fn (.func 143) [] [.ptr 0 0,.ptr 2 0]):=by rw[h8];rfl
  have hl7:i<To.length:=e9;obtain⟨cells,hc,hg2,hr⟩:=z4 zo;simp only[eZ,seval,oQ,oH,oS,hlT,hlN,hg];refine(u5 (g:=⟨d.sh,d.w,d.h,d.sB,cells⟩) hd hc hd.ho h0 hg2).mono ?_;rintro o H' n' ⟨rfl,rfl,rfl⟩;simp only[z1 zo,z2 zo,z3 zo,hc,ne_eq,ra,pb]at hS;by_cases hz:DA cells d.sJ=0
  ·rw[hz];simp only[eZ,seval,o9,BG,e];exact .mk ⟨i+1,H',n'⟩ rfl ⟨e9,h0,λ_=>z1 zo,λ_=>z2 zo,λ_=>z3 zo,λh=>absurd h zp,λ_=>⟨cells,hc,hg2,λ_=>hz⟩,λh=>absurd h zp,λh=>absurd h zp⟩ zp
  ·rw[oE hz]at hS;rw[hS];simp only[eZ,seval,oh,BG,oA hz]
 ·have hg:To[i]?=some (.fn (.func 145) [] [.ptr 0 0]):=by rw[h8];rfl
  have hl7:i<To.length:=e9;obtain⟨cells,hc,hg2,hr⟩:=z4 zo;simp only[eZ,seval,oQ,oH,oS,hlT,hlN,hg];refine(u6 hd h0).mono ?_;rintro o H' n' ⟨rfl,rfl,rfl⟩;simp only[z1 zo,z2 zo,z3 zo,hc,hr zo,ne_eq,ra,pb]at hS;by_cases hz:O1 d=0
  ·rw[hz];simp only[eZ,seval,o9,BG,e];exact .mk ⟨i+1,H',n'⟩ rfl ⟨e9,h0,λ_=>z1 zo,λ_=>z2 zo,λ_=>z3 zo,λh=>absurd h zp,λ_=>⟨cells,hc,hg2,λ_=>hr zo⟩,λ_=>hz,λh=>absurd h zp⟩ zp
  ·rw[oE hz]at hS;rw[hS];simp only[eZ,seval,oh,BG,oA hz]
 ·have hg:To[i]?=some (.fn (.func 147) [] [.ptr 0 0]):=by rw[h8];rfl
  have hl7:i<To.length:=e9;obtain⟨cells,hc,hg2,hr⟩:=z4 zo;simp only[eZ,seval,oQ,oH,oS,hlT,hlN,hg];refine(u7 hd h0).mono ?_;rintro o H' n' ⟨rfl,rfl,rfl⟩;simp only[z1 zo,z2 zo,z3 zo,hc,hr zo,z6 zo,ne_eq,ra,pb]at hS;by_cases hz:SD d=0
  ·rw[hz];simp only[eZ,seval,o9,BG,e];exact .mk ⟨i+1,H',n'⟩ rfl ⟨e9,h0,λ_=>z1 zo,λ_=>z2 zo,λ_=>z3 zo,λh=>absurd h zp,λ_=>⟨cells,hc,hg2,λ_=>hr zo⟩,λ_=>z6 zo,λ_=>hz⟩ zp
  ·rw[hS];simp only[eZ,seval,oh,BG,oA hz]
end Go.AM
