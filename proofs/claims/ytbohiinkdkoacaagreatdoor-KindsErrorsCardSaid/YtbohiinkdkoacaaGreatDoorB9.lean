/-
  Parts of the proof. Conditions: none.
-/
import Derived.Test.YtbohiinkdkoacaaGreatDoorB8
set_option maxRecDepth 20000
set_option linter.all false
namespace Go.AM
open Go.Lib Go.Proofs Go.Proofs.Tryz
section
abbrev errV(n:Int):Fs:=.ifc 37 (.int .i64 n)
abbrev nmO(l:List Bs):Z7:=.map (nmEs l 0) l.length
def CH(H:AC)(n id:Nat)(pre ns:List Bs):Zb->AC->Nat->Prop:=λo H' n'=>
 if Ad (pre++ns)=true then o= .pan (errV 161)/\H'=hset H id .dead/\n'=n else o= .ret (.mp id)/\H'=hset H id (nmO (pre++ns))/\n'=n
def GQ(H:AC)(id:Nat)(pre ns:List Bs):Zb->AC->Nat->Prop:=λo H' n'=>
 if Ad (pre++ns)=true then o= .pan (errV 161)/\(∃ob,hget H' id=some ob)/\B3 id H H' else(∃v,o= .ret v/\Wk v (.mp id))/\hget H' id=some (nmO (pre++ns))/\B3 id H H'
def Qw(n:Nat)(l:List Bs):(nmO l).under n:=by
 suffices h:∀(i n c:Nat),(Z7.map (nmEs l i) c).under n from h 0 n l.length
 induction l with
 |nil=>intro i n c;trivial
 |cons x r ih=>intro i n c;exact⟨trivial,trivial,ih (i+1) n c⟩
variable {H:AC} {f:Int} {pre:List Bs} {n id:Nat}
theorem Kd{H':AC}{ob ob1:Z7}(hf:AR H n)(d7:id<n)(h1:hget H' id=some ob1)(hw:OWk ob1 ob)(hu:ob.under n)(h2:B3 id H H'):FQ n H H' (hset H id ob):=by
 refine⟨λi o ho=>?_,λi hi=>?_⟩
 ·rw[AJ]at ho;by_cases e:id=i
  ·subst e;rw[Vv rfl]at ho;cases ho;exact⟨d7,⟨_,h1,hw⟩,.inl hu⟩
  ·rw[V5 e]at ho;exact⟨hf.lt ho,⟨o,h2 i o (Ne.symm e) ho,OWk.refl _⟩,.inr ho⟩
 ·rw[AJ];split
  ·exact λh=>by cases h
  ·exact hi
theorem SY(ob:Z7):OWk ob .dead:=⟨λ_ _ _ _=>trivial,λh=>by cases h⟩
theorem CH.of{fid:FuncId}{args:List Fs}{ns:List Bs}(hc:BW prog fid)(hp:hget H id=some (nmO pre))(h:AR H n->id<n->AN prog fid args H n (GQ H id pre ns)):AN prog fid args H n (CH H n id pre ns):=by
 refine AN.fresh hc λhf=>?_
 have d7:=hf.lt hp;refine AN.forget (h hf d7) ?_;intro o H' n' q;unfold GQ at q;by_cases ht:Ad (pre++ns)=true
 ·rw[Vv ht]at q;obtain⟨rfl,⟨ob,h1⟩,h2⟩:=q;exact⟨.pan (errV 161),hset H id .dead,by unfold CH;rw[Vv ht];exact⟨rfl,rfl,rfl⟩,Kd hf d7 h1 (SY _) trivial h2,Wk.refl _,trivial⟩
 ·rw[V5 ht]at q;obtain⟨⟨v,rfl,hw⟩,h1,h2⟩:=q;exact⟨.ret (.mp id),hset H id (nmO (pre++ns)),by unfold CH;rw[V5 ht];exact⟨rfl,rfl,rfl⟩,Kd hf d7 h1 (OWk.refl _) (Qw n _) h2,hw,d7⟩
structure VIx where
 i:Nat
 H:AC
 n:Nat
structure IIx(H:AC)(n id:Nat)(pre ns:List Bs)(v:VIx):Prop where
 hi:v.i<=ns.length
 hn:n<=v.n
 fr:AR v.H v.n
 hm:hget v.H id=some (nmO (pre++ns.take v.i))
 hk:B3 id H v.H
 tw:Ad (pre++ns.take v.i)=false
theorem HX{ns:List Bs}{i:Nat}(h:i<ns.length)(j8:ns[i]∈pre++ns.take i):Ad (pre++ns)=true:=by
 have e:pre++ns=(pre++ns.take i)++ns[i]::ns.drop (i+1):=by
  rw[Wb,<-Wm h,XT]
 rw[e];exact SW j8
theorem HY{l:List Bs}{s:Bs}(h:Ad l=false)(hs:s∉l):Ad (l++[s])=false:=QY.2 ⟨h,hs⟩
theorem p50(x:Za):Pur prog 50 [HK x] (.str x.nm):=by
 refine .mk ⟨HL 0 x,trivial⟩ trivial (c50.a (AE AI.tnil (AF ?_)));simp only[eE,eN,seval,c50]
theorem p52(x:Z6):Pur prog 52 [FF x] (.str x.nm):=by
 refine .mk ⟨CV 0 x,trivial⟩ trivial (c52.a (AE AI.tnil (AF ?_)));simp only[eE,eN,seval,c52]
theorem p57(x:Z5):Pur prog 57 [B0 x] (.str x.nm):=by
 refine .mk ⟨D4 0 x,trivial⟩ trivial (c57.a (AE AI.tnil (AF ?_)));simp only[eE,eN,seval,c57]
theorem p61(x:Yz):Pur prog 61 [BQ x] (.str x.nm):=by
 refine .mk ⟨Ao 0 x,trivial⟩ trivial (c61.a (AE AI.tnil (AF ?_)));simp only[eE,eN,seval,c61]
theorem p55(x:Bs):Pur prog 55 [.str x] (.str x):=by
 refine .mk ⟨trivial,trivial⟩ trivial (c55.a (AE AI.tnil (AF ?_)));simp only[eE,eN,seval,c55]
theorem p54:Pur prog 54 [] (eSs Bo):=by
 refine .mk trivial (BK 0 _) (c54.a (AE AI.tnil (AF ?_)));simp only[eE,eN,seval,c54];exact Wk.sl (.inl rfl)
def Tx1:Tab:=tadd 50 (s1 dSy any1 λx=>.str ((λx:Za=>x.nm) x)) tnil
theorem Tx1_ok:AI prog Tx1:=AI.tnil.add (q1 λx _=>p50 x)
theorem SZ{l:List Za}(hl:few l)(r9:pre.length<1000000000)(hf0:f=(pre.length:Int))(hp:hget H id=some (nmO pre))(hd:Ad pre=false):
  AN prog 49 [eSys l,.int .i64 f,.fn (.func 50) [] [],.mp id] H n (CH H n id pre (l.map (λx:Za=>x.nm))):=by
 subst hf0;refine CH.of c49.l hp λhf d7=>c49.a (AE Tx1_ok (AF ?_))
 have m6:l.length<1000000000:=hl;simp only[eE,eN,seval,V0,c49];refine AO (λv:VIx=>⟨[(1,true,.int .i64 pre.length),(2,true,.fn (.func 50) [] []),(3,true,.mp id),(13,true,eSys l),(14,true,.int .i64 l.length),(15,true,.int .i64 v.i)],v.H,v.n⟩) (IIx H n id pre (l.map (λx:Za=>x.nm))) (λv=>l.length-v.i)
  ⟨0,H,n⟩ rfl ⟨V8 _,V4 _,hf,by rw[WZ,W9];exact hp,B3.refl _,by rw[WZ,W9];exact hd⟩ ?_
 rintro⟨i,H1,n1⟩ hI;have hi:=hI.hi;have hn:=hI.hn;have d5:=hI.fr;have hm:=hI.hm;have hk:=hI.hk;have htw:=hI.tw;simp only[V0]at hi hn d5 hm hk htw;by_cases c6:i<l.length
 ·have hltm:i<(l.map (λx:Za=>x.nm)).length:=by rw[V0];exact c6
  have hg:=V2 c6;have hgm:(l.map (λx:Za=>x.nm))[i]=(λx:Za=>x.nm) l[i]:=Yc ..;have e:=AG (k:=i) zo;have c7:(l.map (λx:Za=>x.nm)).take (i+1)=(l.map (λx:Za=>x.nm)).take i++[(λx:Za=>x.nm) l[i]]:=by rw[Vx,V2 hltm,hgm];rfl
  have hpl2:(pre++(l.map (λx:Za=>x.nm)).take i).length=pre.length+i:=by rw[V9,W0,V0];omega
  have ew:IntKind.wrap .i64 ((pre.length:Int)+(i:Int))=((pre.length+i:Nat):Int):=by rw[Ae zo zo];omega
  have y1:∀k,(n1+k=id)=False:=λk=>Vs zo
  have y2:∀k,(id=n1+k)=False:=λk=>Vs zo
  have j8:=λq=>HX (pre:=pre) hltm (by rw[hgm];exact q)
  generalize hx:l[i]=x at hg hgm c7 j8;have hfi:=D5 (pre++(l.map (λx:Za=>x.nm)).take i) ((λx:Za=>x.nm) x);cases i7:BG (pre++(l.map (λx:Za=>x.nm)).take i) ((λx:Za=>x.nm) x)with
  |some k=>
   have htt:Ad (pre++l.map (λx:Za=>x.nm))=true:=j8 (by
    apply Classical.byContradiction;intro q;rw[BZ.2 q]at i7;cases i7)
   rw[i7,Wt]at hfi;simp only[eZ,seval,xE,eY,isF,lt_T c6,hg,Tx1,s1,Qj,Lq,hm,hfi,Dm,KT.is,CQ,fr1 d5,y1,AD,tadd];unfold GQ;rw[Vv htt];refine⟨rfl,⟨nmO (pre++(l.map (λx:Za=>x.nm)).take i),?_⟩,?_⟩
   ·rw[AA _ _ _ _ zo];exact hm
   ·exact hk.new hf zo
  |none=>
   rw[i7,X4]at hfi;have hms:=KZ i7;rw[hpl2]at hms;simp only[eZ,seval,xE,eY,lt_T c6,hg,Tx1,s1,Qj,Lq,hm,hfi,Dm,KT.is,CQ,fr1 d5,y1,e,ew,hpl2,hms,AD,tadd];refine .mk ⟨i+1,hset (hset H1 (n1+3) (.box (HK x).cells)) id (.map (nmEs (pre++(l.map (λx:Za=>x.nm)).take i++[(λx:Za=>x.nm) x]) 0) (pre.length+(i+1))),n1+6⟩ rfl ⟨by simp only[V0];omega,zp,?_,?_,?_,?_⟩ zp
   ·exact(d5.hset (m:=n1+6) zo zo).hset (V4 (n1+6)) (show id<n1+6 by omega)
   ·simp only[];rw[AB,c7,<-Wb,nmO,V9,hpl2];rfl
   ·exact(hk.new hf zo).set
   ·simp only[];rw[c7,<-Wb];exact HY htw (BZ.1 i7)
 have i8:i=l.length:=zo
 subst i8;have hta:(l.map (λx:Za=>x.nm)).take l.length=l.map (λx:Za=>x.nm):=We (by rw[V0];omega);rw[hta]at hm htw;simp only[eZ,seval,lt_F c6];unfold GQ;rw[htw,V5 zd];exact⟨⟨_,rfl,Wk.refl _⟩,hm,hk⟩
def Tx2:Tab:=tadd 52 (s1 dRg any1 λx=>.str ((λx:Z6=>x.nm) x)) tnil
theorem Tx2_ok:AI prog Tx2:=AI.tnil.add (q1 λx _=>p52 x)
theorem Sa{l:List Z6}(hl:few l)(r9:pre.length<1000000000)(hf0:f=(pre.length:Int))(hp:hget H id=some (nmO pre))(hd:Ad pre=false):
  AN prog 51 [eRgs l,.int .i64 f,.fn (.func 52) [] [],.mp id] H n (CH H n id pre (l.map (λx:Z6=>x.nm))):=by
 subst hf0;refine CH.of c51.l hp λhf d7=>c51.a (AE Tx2_ok (AF ?_))
 have m6:l.length<1000000000:=hl;simp only[eE,eN,seval,V0,c51];refine AO (λv:VIx=>⟨[(1,true,.int .i64 pre.length),(2,true,.fn (.func 52) [] []),(3,true,.mp id),(13,true,eRgs l),(14,true,.int .i64 l.length),(15,true,.int .i64 v.i)],v.H,v.n⟩) (IIx H n id pre (l.map (λx:Z6=>x.nm))) (λv=>l.length-v.i)
  ⟨0,H,n⟩ rfl ⟨V8 _,V4 _,hf,by rw[WZ,W9];exact hp,B3.refl _,by rw[WZ,W9];exact hd⟩ ?_
 rintro⟨i,H1,n1⟩ hI;have hi:=hI.hi;have hn:=hI.hn;have d5:=hI.fr;have hm:=hI.hm;have hk:=hI.hk;have htw:=hI.tw;simp only[V0]at hi hn d5 hm hk htw;by_cases c6:i<l.length
 ·have hltm:i<(l.map (λx:Z6=>x.nm)).length:=by rw[V0];exact c6
  have hg:=V2 c6;have hgm:(l.map (λx:Z6=>x.nm))[i]=(λx:Z6=>x.nm) l[i]:=Yc ..;have e:=AG (k:=i) zo;have c7:(l.map (λx:Z6=>x.nm)).take (i+1)=(l.map (λx:Z6=>x.nm)).take i++[(λx:Z6=>x.nm) l[i]]:=by rw[Vx,V2 hltm,hgm];rfl
  have hpl2:(pre++(l.map (λx:Z6=>x.nm)).take i).length=pre.length+i:=by rw[V9,W0,V0];omega
  have ew:IntKind.wrap .i64 ((pre.length:Int)+(i:Int))=((pre.length+i:Nat):Int):=by rw[Ae zo zo];omega
  have y1:∀k,(n1+k=id)=False:=λk=>Vs zo
  have y2:∀k,(id=n1+k)=False:=λk=>Vs zo
  have j8:=λq=>HX (pre:=pre) hltm (by rw[hgm];exact q)
  generalize hx:l[i]=x at hg hgm c7 j8;have hfi:=D5 (pre++(l.map (λx:Z6=>x.nm)).take i) ((λx:Z6=>x.nm) x);cases i7:BG (pre++(l.map (λx:Z6=>x.nm)).take i) ((λx:Z6=>x.nm) x)with
  |some k=>
   have htt:Ad (pre++l.map (λx:Z6=>x.nm))=true:=j8 (by
    apply Classical.byContradiction;intro q;rw[BZ.2 q]at i7;cases i7)
   rw[i7,Wt]at hfi;simp only[eZ,seval,xE,eY,isF,lt_T c6,hg,Tx2,s1,HN,FG,hm,hfi,Dm,KT.is,CQ,fr1 d5,y1,AD,tadd];unfold GQ;rw[Vv htt];refine⟨rfl,⟨nmO (pre++(l.map (λx:Z6=>x.nm)).take i),?_⟩,?_⟩
   ·rw[AA _ _ _ _ zo];exact hm
   ·exact hk.new hf zo
  |none=>
   rw[i7,X4]at hfi;have hms:=KZ i7;rw[hpl2]at hms;simp only[eZ,seval,xE,eY,lt_T c6,hg,Tx2,s1,HN,FG,hm,hfi,Dm,KT.is,CQ,fr1 d5,y1,e,ew,hpl2,hms,AD,tadd];refine .mk ⟨i+1,hset (hset H1 (n1+3) (.box (FF x).cells)) id (.map (nmEs (pre++(l.map (λx:Z6=>x.nm)).take i++[(λx:Z6=>x.nm) x]) 0) (pre.length+(i+1))),n1+6⟩ rfl ⟨by simp only[V0];omega,zp,?_,?_,?_,?_⟩ zp
   ·exact(d5.hset (m:=n1+6) zo zo).hset (V4 (n1+6)) (show id<n1+6 by omega)
   ·simp only[];rw[AB,c7,<-Wb,nmO,V9,hpl2];rfl
   ·exact(hk.new hf zo).set
   ·simp only[];rw[c7,<-Wb];exact HY htw (BZ.1 i7)
 have i8:i=l.length:=zo
 subst i8;have hta:(l.map (λx:Z6=>x.nm)).take l.length=l.map (λx:Z6=>x.nm):=We (by rw[V0];omega);rw[hta]at hm htw;simp only[eZ,seval,lt_F c6];unfold GQ;rw[htw,V5 zd];exact⟨⟨_,rfl,Wk.refl _⟩,hm,hk⟩
def Tx3:Tab:=tadd 55 (s1 dS any1 λx=>.str ((λx:Bs=>x) x)) tnil
theorem Tx3_ok:AI prog Tx3:=AI.tnil.add (q1 λx _=>p55 x)
theorem Vk{l:List Bs}(hl:few l)(r9:pre.length<1000000000)(hf0:f=(pre.length:Int))(hp:hget H id=some (nmO pre))(hd:Ad pre=false):
  AN prog 53 [eSs l,.int .i64 f,.fn (.func 55) [] [],.mp id] H n (CH H n id pre (l.map (λx:Bs=>x))):=by
 subst hf0;refine CH.of c53.l hp λhf d7=>c53.a (AE Tx3_ok (AF ?_))
 have m6:l.length<1000000000:=hl;simp only[eE,eN,seval,V0,c53];refine AO (λv:VIx=>⟨[(1,true,.int .i64 pre.length),(2,true,.fn (.func 55) [] []),(3,true,.mp id),(13,true,eSs l),(14,true,.int .i64 l.length),(15,true,.int .i64 v.i)],v.H,v.n⟩) (IIx H n id pre (l.map (λx:Bs=>x))) (λv=>l.length-v.i)
  ⟨0,H,n⟩ rfl ⟨V8 _,V4 _,hf,by rw[WZ,W9];exact hp,B3.refl _,by rw[WZ,W9];exact hd⟩ ?_
 rintro⟨i,H1,n1⟩ hI;have hi:=hI.hi;have hn:=hI.hn;have d5:=hI.fr;have hm:=hI.hm;have hk:=hI.hk;have htw:=hI.tw;simp only[V0]at hi hn d5 hm hk htw;by_cases c6:i<l.length
 ·have hltm:i<(l.map (λx:Bs=>x)).length:=by rw[V0];exact c6
  have hg:=V2 c6;have hgm:(l.map (λx:Bs=>x))[i]=(λx:Bs=>x) l[i]:=Yc ..;have e:=AG (k:=i) zo;have c7:(l.map (λx:Bs=>x)).take (i+1)=(l.map (λx:Bs=>x)).take i++[(λx:Bs=>x) l[i]]:=by rw[Vx,V2 hltm,hgm];rfl
  have hpl2:(pre++(l.map (λx:Bs=>x)).take i).length=pre.length+i:=by rw[V9,W0,V0];omega
  have ew:IntKind.wrap .i64 ((pre.length:Int)+(i:Int))=((pre.length+i:Nat):Int):=by rw[Ae zo zo];omega
  have y1:∀k,(n1+k=id)=False:=λk=>Vs zo
  have y2:∀k,(id=n1+k)=False:=λk=>Vs zo
  have j8:=λq=>HX (pre:=pre) hltm (by rw[hgm];exact q)
  generalize hx:l[i]=x at hg hgm c7 j8;have hfi:=D5 (pre++(l.map (λx:Bs=>x)).take i) ((λx:Bs=>x) x);cases i7:BG (pre++(l.map (λx:Bs=>x)).take i) ((λx:Bs=>x) x)with
  |some k=>
   have htt:Ad (pre++l.map (λx:Bs=>x))=true:=j8 (by
    apply Classical.byContradiction;intro q;rw[BZ.2 q]at i7;cases i7)
   rw[i7,Wt]at hfi;simp only[eZ,seval,xE,eY,isF,lt_T c6,hg,Tx3,s1,FI,DH,hm,hfi,Dm,KT.is,CQ,tadd];unfold GQ;rw[Vv htt];refine⟨rfl,⟨nmO (pre++(l.map (λx:Bs=>x)).take i),?_⟩,?_⟩
   ·exact hm
   ·exact hk
  |none=>
   rw[i7,X4]at hfi;have hms:=KZ i7;rw[hpl2]at hms;simp only[eZ,seval,xE,eY,lt_T c6,hg,Tx3,s1,FI,DH,hm,hfi,Dm,KT.is,CQ,e,ew,hpl2,hms,tadd];refine .mk ⟨i+1,hset H1 id (.map (nmEs (pre++(l.map (λx:Bs=>x)).take i++[(λx:Bs=>x) x]) 0) (pre.length+(i+1))),n1⟩ rfl ⟨by simp only[V0];omega,zp,?_,?_,?_,?_⟩ zp
   ·exact d5.hset (m:=n1) (V4 _) zo
   ·simp only[];rw[AB,c7,<-Wb,nmO,V9,hpl2];rfl
   ·exact hk.set
   ·simp only[];rw[c7,<-Wb];exact HY htw (BZ.1 i7)
 have i8:i=l.length:=zo
 subst i8;have hta:(l.map (λx:Bs=>x)).take l.length=l.map (λx:Bs=>x):=We (by rw[V0];omega);rw[hta]at hm htw;simp only[eZ,seval,lt_F c6];unfold GQ;rw[htw,V5 zd];exact⟨⟨_,rfl,Wk.refl _⟩,hm,hk⟩
def Tx4:Tab:=tadd 57 (s1 dCl any1 λx=>.str ((λx:Z5=>x.nm) x)) tnil
theorem Tx4_ok:AI prog Tx4:=AI.tnil.add (q1 λx _=>p57 x)
theorem Sb{l:List Z5}(hl:few l)(r9:pre.length<1000000000)(hf0:f=(pre.length:Int))(hp:hget H id=some (nmO pre))(hd:Ad pre=false):
  AN prog 56 [eCls l,.int .i64 f,.fn (.func 57) [] [],.mp id] H n (CH H n id pre (l.map (λx:Z5=>x.nm))):=by
 subst hf0;refine CH.of c56.l hp λhf d7=>c56.a (AE Tx4_ok (AF ?_))
 have m6:l.length<1000000000:=hl;simp only[eE,eN,seval,V0,c56];refine AO (λv:VIx=>⟨[(1,true,.int .i64 pre.length),(2,true,.fn (.func 57) [] []),(3,true,.mp id),(13,true,eCls l),(14,true,.int .i64 l.length),(15,true,.int .i64 v.i)],v.H,v.n⟩) (IIx H n id pre (l.map (λx:Z5=>x.nm))) (λv=>l.length-v.i)
  ⟨0,H,n⟩ rfl ⟨V8 _,V4 _,hf,by rw[WZ,W9];exact hp,B3.refl _,by rw[WZ,W9];exact hd⟩ ?_
 rintro⟨i,H1,n1⟩ hI;have hi:=hI.hi;have hn:=hI.hn;have d5:=hI.fr;have hm:=hI.hm;have hk:=hI.hk;have htw:=hI.tw;simp only[V0]at hi hn d5 hm hk htw;by_cases c6:i<l.length
 ·have hltm:i<(l.map (λx:Z5=>x.nm)).length:=by rw[V0];exact c6
  have hg:=V2 c6;have hgm:(l.map (λx:Z5=>x.nm))[i]=(λx:Z5=>x.nm) l[i]:=Yc ..;have e:=AG (k:=i) zo;have c7:(l.map (λx:Z5=>x.nm)).take (i+1)=(l.map (λx:Z5=>x.nm)).take i++[(λx:Z5=>x.nm) l[i]]:=by rw[Vx,V2 hltm,hgm];rfl
  have hpl2:(pre++(l.map (λx:Z5=>x.nm)).take i).length=pre.length+i:=by rw[V9,W0,V0];omega
  have ew:IntKind.wrap .i64 ((pre.length:Int)+(i:Int))=((pre.length+i:Nat):Int):=by rw[Ae zo zo];omega
  have y1:∀k,(n1+k=id)=False:=λk=>Vs zo
  have y2:∀k,(id=n1+k)=False:=λk=>Vs zo
  have j8:=λq=>HX (pre:=pre) hltm (by rw[hgm];exact q)
  generalize hx:l[i]=x at hg hgm c7 j8;have hfi:=D5 (pre++(l.map (λx:Z5=>x.nm)).take i) ((λx:Z5=>x.nm) x);cases i7:BG (pre++(l.map (λx:Z5=>x.nm)).take i) ((λx:Z5=>x.nm) x)with
  |some k=>
   have htt:Ad (pre++l.map (λx:Z5=>x.nm))=true:=j8 (by
    apply Classical.byContradiction;intro q;rw[BZ.2 q]at i7;cases i7)
   rw[i7,Wt]at hfi;simp only[eZ,seval,xE,eY,isF,lt_T c6,hg,Tx4,s1,GH,Ec,hm,hfi,Dm,KT.is,CQ,fr1 d5,y1,AD,tadd];unfold GQ;rw[Vv htt];refine⟨rfl,⟨nmO (pre++(l.map (λx:Z5=>x.nm)).take i),?_⟩,?_⟩
   ·rw[AA _ _ _ _ zo];exact hm
   ·exact hk.new hf zo
  |none=>
   rw[i7,X4]at hfi;have hms:=KZ i7;rw[hpl2]at hms;simp only[eZ,seval,xE,eY,lt_T c6,hg,Tx4,s1,GH,Ec,hm,hfi,Dm,KT.is,CQ,fr1 d5,y1,e,ew,hpl2,hms,AD,tadd];refine .mk ⟨i+1,hset (hset H1 (n1+3) (.box (B0 x).cells)) id (.map (nmEs (pre++(l.map (λx:Z5=>x.nm)).take i++[(λx:Z5=>x.nm) x]) 0) (pre.length+(i+1))),n1+6⟩ rfl ⟨by simp only[V0];omega,zp,?_,?_,?_,?_⟩ zp
   ·exact(d5.hset (m:=n1+6) zo zo).hset (V4 (n1+6)) (show id<n1+6 by omega)
   ·simp only[];rw[AB,c7,<-Wb,nmO,V9,hpl2];rfl
   ·exact(hk.new hf zo).set
   ·simp only[];rw[c7,<-Wb];exact HY htw (BZ.1 i7)
 have i8:i=l.length:=zo
 subst i8;have hta:(l.map (λx:Z5=>x.nm)).take l.length=l.map (λx:Z5=>x.nm):=We (by rw[V0];omega);rw[hta]at hm htw;simp only[eZ,seval,lt_F c6];unfold GQ;rw[htw,V5 zd];exact⟨⟨_,rfl,Wk.refl _⟩,hm,hk⟩
def Tx5:Tab:=tadd 61 (s1 dRu any1 λx=>.str ((λx:Yz=>x.nm) x)) tnil
theorem Tx5_ok:AI prog Tx5:=AI.tnil.add (q1 λx _=>p61 x)
theorem Sc{l:List Yz}(hl:few l)(r9:pre.length<1000000000)(hf0:f=(pre.length:Int))(hp:hget H id=some (nmO pre))(hd:Ad pre=false):
  AN prog 60 [eRus l,.int .i64 f,.fn (.func 61) [] [],.mp id] H n (CH H n id pre (l.map (λx:Yz=>x.nm))):=by
 subst hf0;refine CH.of c60.l hp λhf d7=>c60.a (AE Tx5_ok (AF ?_))
 have m6:l.length<1000000000:=hl;simp only[eE,eN,seval,V0,c60];refine AO (λv:VIx=>⟨[(1,true,.int .i64 pre.length),(2,true,.fn (.func 61) [] []),(3,true,.mp id),(13,true,eRus l),(14,true,.int .i64 l.length),(15,true,.int .i64 v.i)],v.H,v.n⟩) (IIx H n id pre (l.map (λx:Yz=>x.nm))) (λv=>l.length-v.i)
  ⟨0,H,n⟩ rfl ⟨V8 _,V4 _,hf,by rw[WZ,W9];exact hp,B3.refl _,by rw[WZ,W9];exact hd⟩ ?_
 rintro⟨i,H1,n1⟩ hI;have hi:=hI.hi;have hn:=hI.hn;have d5:=hI.fr;have hm:=hI.hm;have hk:=hI.hk;have htw:=hI.tw;simp only[V0]at hi hn d5 hm hk htw;by_cases c6:i<l.length
 ·have hltm:i<(l.map (λx:Yz=>x.nm)).length:=by rw[V0];exact c6
  have hg:=V2 c6;have hgm:(l.map (λx:Yz=>x.nm))[i]=(λx:Yz=>x.nm) l[i]:=Yc ..;have e:=AG (k:=i) zo;have c7:(l.map (λx:Yz=>x.nm)).take (i+1)=(l.map (λx:Yz=>x.nm)).take i++[(λx:Yz=>x.nm) l[i]]:=by rw[Vx,V2 hltm,hgm];rfl
  have hpl2:(pre++(l.map (λx:Yz=>x.nm)).take i).length=pre.length+i:=by rw[V9,W0,V0];omega
  have ew:IntKind.wrap .i64 ((pre.length:Int)+(i:Int))=((pre.length+i:Nat):Int):=by rw[Ae zo zo];omega
  have y1:∀k,(n1+k=id)=False:=λk=>Vs zo
  have y2:∀k,(id=n1+k)=False:=λk=>Vs zo
  have j8:=λq=>HX (pre:=pre) hltm (by rw[hgm];exact q)
  generalize hx:l[i]=x at hg hgm c7 j8;have hfi:=D5 (pre++(l.map (λx:Yz=>x.nm)).take i) ((λx:Yz=>x.nm) x);cases i7:BG (pre++(l.map (λx:Yz=>x.nm)).take i) ((λx:Yz=>x.nm) x)with
  |some k=>
   have htt:Ad (pre++l.map (λx:Yz=>x.nm))=true:=j8 (by
    apply Classical.byContradiction;intro q;rw[BZ.2 q]at i7;cases i7)
   rw[i7,Wt]at hfi;simp only[eZ,seval,xE,eY,isF,lt_T c6,hg,Tx5,s1,BV,A7,hm,hfi,Dm,KT.is,CQ,fr1 d5,y1,AD,tadd];unfold GQ;rw[Vv htt];refine⟨rfl,⟨nmO (pre++(l.map (λx:Yz=>x.nm)).take i),?_⟩,?_⟩
   ·rw[AA _ _ _ _ zo];exact hm
   ·exact hk.new hf zo
  |none=>
   rw[i7,X4]at hfi;have hms:=KZ i7;rw[hpl2]at hms;simp only[eZ,seval,xE,eY,lt_T c6,hg,Tx5,s1,BV,A7,hm,hfi,Dm,KT.is,CQ,fr1 d5,y1,e,ew,hpl2,hms,AD,tadd];refine .mk ⟨i+1,hset (hset H1 (n1+3) (.box (BQ x).cells)) id (.map (nmEs (pre++(l.map (λx:Yz=>x.nm)).take i++[(λx:Yz=>x.nm) x]) 0) (pre.length+(i+1))),n1+6⟩ rfl ⟨by simp only[V0];omega,zp,?_,?_,?_,?_⟩ zp
   ·exact(d5.hset (m:=n1+6) zo zo).hset (V4 (n1+6)) (show id<n1+6 by omega)
   ·simp only[];rw[AB,c7,<-Wb,nmO,V9,hpl2];rfl
   ·exact(hk.new hf zo).set
   ·simp only[];rw[c7,<-Wb];exact HY htw (BZ.1 i7)
 have i8:i=l.length:=zo
 subst i8;have hta:(l.map (λx:Yz=>x.nm)).take l.length=l.map (λx:Yz=>x.nm):=We (by rw[V0];omega);rw[hta]at hm htw;simp only[eZ,seval,lt_F c6];unfold GQ;rw[htw,V5 zd];exact⟨⟨_,rfl,Wk.refl _⟩,hm,hk⟩
end
section
def NPost(H:AC)(n:Nat)(r:Option Int):Zb->AC->Nat->Prop:=λo H' n'=>H'=H/\n'=n/\match r with
 |some k=>o= .ret (.int .i64 k)
 |none=>o= .pan (errV 160)
variable {l:List Bs}
theorem Ke{H:AC}{n id:Nat}{s:Bs}(hp:hget H id=some (nmO l)):AN prog 59 [.mp id,.str s] H n (NPost H n (BG l s)):=by
 refine c59.a (AE AI.tnil (AF ?_));have hf:=D5 l s;cases i7:BG l s with
 |some k=>
  rw[i7,Wt]at hf;simp only[eZ,seval,V3,xE,eY,c59,hp,hf,Dm,KT.is,CQ];exact⟨rfl,rfl,rfl⟩
 |none=>
  rw[i7,X4]at hf;simp only[eZ,seval,V6,xE,eY,isF,c59,hp,hf,Dm,KT.is,CQ];exact⟨rfl,rfl,rfl⟩
theorem Ta{a b:Nat}(ha:a<65536)(hb:b<65536):FT .or .i64 (a:Int) (b:Int)=((a|||b:Nat):Int):=by
 have hab:a|||b<65536:=Nat.or_lt_two_pow (n:=16) ha hb
 have e:∀x:Nat,BitVec.ofInt 64 (x:Int)=BitVec.ofNat 64 x:=λx=>by
  apply BitVec.eq_of_toNat_eq;simp [XA]
 show IntKind.wrap .i64 ((BitVec.ofInt 64 (a:Int)|||BitVec.ofInt 64 (b:Int)).toNat:Int)=_;rw[e,e,BitVec.toNat_or,XA,XA,Xy zo,Xy zo,Ae zo zo]
theorem Qx{j:Nat}(h:j<16):CK .shl .i64 1 (j:Int)=((1<<<j:Nat):Int):=by
 have h2:2^j<65536:=Nat.pow_lt_pow_right zd (show j<16 from h);show IntKind.wrap .i64 (1*2^(min (j:Int).toNat 64))=_;rw[Int.one_mul,Vy,XR zo,Nat.shiftLeft_eq,Nat.one_mul];have e:((2:Int)^j)=((2^j:Nat):Int):=by rw[Int.natCast_pow];rfl
 rw[e];generalize 2^j=p at h2;exact Ae zo zo
theorem M8{j:Nat}(h:j<16):1<<<j<65536:=by
 rw[Nat.shiftLeft_eq,Nat.one_mul];exact Nat.pow_lt_pow_right zd (show j<16 from h)
def Ef(l:List Bs)(acc:Nat)(ss:List Bs):Option Int:=(CG l ss).map λk=>((acc|||k.toNat:Nat):Int)
theorem Id(l:List Bs)(acc:Nat):Ef l acc []=some (acc:Int):=by simp [Ef,CG]
theorem HZ{acc:Nat}{s:Bs}{r:List Bs}:Ef l acc (s::r)=match BG l s with
  |none=>none
  |some j=>Ef l (acc|||1<<<j.toNat) r:=by
 unfold Ef;rw[Ia,BG];cases l.findIdx? λx=>decide (x=s)with
 |none=>rfl
 |some i=>
  simp only[Wt,Vy];cases CG l r with
  |none=>rfl
  |some n=>
   simp only[Wt,Option.some.injEq];congr 1;show acc|||(Int.ofNat (Nat.lor (1<<<i) n.toNat)).toNat=_
   rw[Nat.or_assoc];rfl
theorem M9(l ss:List Bs):Ef l 0 ss=CG l ss:=by
 unfold Ef;rw[N8];cases Ag (λs=>l.findIdx? λx=>decide (x=s)) ss with
 |none=>rfl
 |some is=>simp
theorem Sd{H:AC}{n id sid:Nat}{ss:List Bs}(hl:l.length<=16)(hss:wide ss)(hs:hget H sid=some (.box [.mp id]))(hp:hget H id=some (nmO l)):AN prog 63 [eSs ss,.ptr sid 0] H n (NPost H n (CG l ss)):=by
 refine c63.a (AE AI.tnil (AF ?_));have hsl:ss.length<1125899906842624:=hss;rw[<-M9];simp only[eE,eN,seval,V0,c63];refine AO (λv:Nat×Nat=>⟨[(1,true,.ptr sid 0),(3,true,.int .i64 v.2),(6,true,eSs ss),(7,true,.int .i64 ss.length),(8,true,.int .i64 v.1)],H,n⟩) (λv=>v.1<=ss.length/\v.2<65536/\Ef l 0 ss=Ef l v.2 (ss.drop v.1)) (λv=>ss.length-v.1) (0,0) rfl ⟨V8 _,zd,rfl⟩ ?_;rintro⟨i,acc⟩ ⟨hi,hacc,heq⟩;simp only at hi hacc heq;by_cases c6:i<ss.length
 ·have hg:=V2 c6;have e:=AG (k:=i) zo;rw[Wm c6,HZ]at heq;generalize ss[i]=s at hg heq;simp only[eZ,seval,eY,lt_T c6,hg,hs];refine(Ke hp).mono λo H' n' hq=>?_
  obtain⟨rfl,rfl,hq⟩:=hq;cases i7:BG l s with
  |none=>
   rw[i7]at hq heq;subst hq;simp only at heq;rw[heq];simp only[eE,eN,retK];exact⟨rfl,rfl,rfl⟩
  |some k=>
   rw[i7]at hq heq;subst hq;simp only at heq;obtain⟨h0,h1⟩:=KV i7;obtain⟨j,rfl⟩:∃j:Nat,k=j:=⟨k.toNat,zo⟩;rw[Vy]at heq;simp only[eE,eN,seval,Wa,retK,Qx (show j<16 by omega),Ta hacc (M8 (show j<16 by omega)),e];exact .mk (i+1,acc|||1<<<j) rfl ⟨c6,Nat.or_lt_two_pow (n:=16) hacc (M8 zo),heq⟩ zp
 obtain rfl:i=ss.length:=zo
 rw[WC,Id]at heq;rw[heq];simp only[eZ,seval,lt_F c6];exact⟨rfl,rfl,rfl⟩
end
def LV(e:Nat)(v:Fs)(H:AC)(l:List Fs):Prop:=
 (l=[]/\∃t,v= .sl t []/\(t= .nil\/t= .exact e))\/(l≠[]/\∃id cap rest,v= .ref id e 0 l.length cap/\hget H id=some (.arr e (l++rest))/\l.length+rest.length=cap)
def Tb(e:Nat)(H:AC)(n:Nat)(l:List Fs):Zb->AC->Nat->Prop:=λo H' n'=>
 (l=[]/\H'=H/\n<=n'/\∃t,o= .ret (.sl t [])/\(t= .nil\/t= .exact e))\/(l≠[]/\n'=n+4/\∃cap rest,o= .ret (.ref (n+2) e 0 l.length cap)/\H'=hset H (n+2) (.arr e (l++rest))/\l.length+rest.length=cap)
def AN.out{P:Program}{f:FuncId}{args:List Fs}{H:AC}{n:Nat}{R R':Zb->AC->Nat->Prop}(h:AN P f args H n R)
  (hr:∀o H' n',R o H' n'->∃o2,R' o2 H' n'/\∀g w e,Z2 g H' n' w->ERel g o e->ERel g o2 e):AN P f args H n R':=
 ⟨h.1,λg w vs r v=>(h.2 g w vs r v).mono λe w' ⟨g',out,H',n',q,he,hR,hn,ht⟩=>
  let ⟨o2,q2,hw⟩:=hr _ _ _ q;⟨g',o2,H',n',q2,hw _ _ _ hR he,hR,hn,ht⟩⟩
def AN.seal{P:Program}{f:FuncId}{args:List Fs}{H:AC}{n:Nat}{R R':Zb->AC->Nat->Prop}(h:AN P f args H n R)
  (hr:∀o H' n',R o H' n'->R' o H' n'\/∃id e l,hget H' id=some (.arr e l)/\R' o (hset H' id (.frz e l)) n'):AN P f args H n R':=by
 refine⟨h.1,λg w vs r v=>(h.2 g w vs r v).mono ?_⟩;rintro e w' ⟨g',out,H',n',q,he,hR,hn,ht⟩;rcases hr _ _ _ q with q|⟨id,es,l,h0,q⟩
 ·exact⟨g',out,H',n',q,he,hR,hn,ht⟩
 ·obtain⟨σ',r1,t1⟩:=hR.freeze (m:=n) h0;refine⟨_,out,_,n',q,?_,r1,hn,ht.trans t1⟩;cases out<;>cases e<;>first|exact he.elim|skip
  ·exact VRel.mono t1.le _ _ he
  ·obtain⟨v,hv,hr⟩:=he;exact⟨v,hv,VRel.mono t1.le _ _ hr⟩
def LF(e:Nat)(v:Fs)(H:AC)(l:List Fs):Prop:=
 (l=[]/\∃t,v= .sl t []/\(t= .nil\/t= .exact e))\/(l≠[]/\∃id cap rest,v= .ref id e 0 l.length cap/\hget H id=some (.frz e (l++rest))/\l.length+rest.length=cap)
def Ie{e:Nat}{v:Fs}{H:AC}{l:List Fs}(h:LF e v H l){g:Yx}{n:Nat}{w:World}{x:Value}(hR:Z2 g H n w)(hv:VRel g v x):VRel g (.sl (.none e) l) x:=by
 rcases h with⟨rfl,t,rfl,ht⟩|⟨hne,id,cap,rest,rfl,ho,hc⟩
 ·exact Wk.sl (.inr rfl) _ _ hv
 ·obtain⟨L,h1,h2,rfl⟩:=hv;obtain⟨L',j1,j2,j3⟩:=hR.obj id _ ho;rw[h1]at j1;cases j1;refine .inr ⟨trivial,L.blk,0,cap,⟨none,zw,.inl rfl⟩,zo,?_,trivial⟩;have:=Stab.take l.length _ _ j3;rw[Yl]at this;exact this
def LvG{α:Type}(enc:α->Fs)(e lo:Nat)(H:AC)(lv:Fs)(qs:List α):Prop:=(lv= .sl .nil []/\qs=[])\/qs≠[]/\∃id rest,lv= .ref id e 0 qs.length (qs.length+rest.length)/\lo<=id/\hget H id=some (.arr e ((qs++rest).map enc))
section
variable {α:Type} {enc:α->Fs} {e lo:Nat}
theorem JK{H:AC}{m b:Nat}{lv z v:Fs}{z0:α}{qs:List α}{q:α}{K:AC->Fs->Prop}(h:LvG enc e lo H lv qs)(hv:v=enc q)(he:0<e)(hz:z.cells.length=e)(hz0:z=enc z0)(hb:small (qs.length+1) b)(hm:hget H m=none)(hm2:lo<=m)(hk:qs.length+1<=35184372088832)
  (hK:∀id (rest:List α),lo<=id->(id=m\/∃L,hget H id=some (.arr e L))->K (hset H id (.arr e (((qs++[q])++rest).map enc))) (.ref id e 0 (qs++[q]).length ((qs++[q]).length+rest.length))):KQ H m e b z K lv (some [v]):=by
 subst hv;subst hz0;have el:(qs++[q]).length=qs.length+1:=zw
 rcases h with⟨rfl,rfl⟩|⟨-,id,rest,rfl,h2,h3⟩
 ·rw[CZ];refine⟨hm,he,hz,.inl rfl,hb,zw,(λe=>by cases e),λ_ cap hcap=>?_⟩;have:=hK m (List.replicate (cap-1) z0) hm2 (.inl rfl);simp only[Wi,W6,Vz,Wq,Wj,Ww,XO]at this hcap⊢;rw[show 0+1+(cap-1)=cap by omega]at this;exact this
 ·rw[HB h3];refine⟨hm,he,hz,rfl,rfl,hb,hk,rfl,zw,zo,λhr=>?_,λhr cap' hc=>?_⟩
  ·have:=hK id (rest.drop 1) h2 (.inr ⟨_,h3⟩);simp only[Vz,Wq]at hr⊢;have e1:List.take qs.length ((qs++rest).map enc)=qs.map enc:=by rw[Vt,WK zw,We zw]
   have e2:List.drop (qs.length+(0+1)) ((qs++rest).map enc)=(rest.drop 1).map enc:=by rw[Vt,Yb,Yh zw];simp
   rw[e1,e2];rw[el,Vt,Vt,Wl,show qs.length+1+(rest.length-1)=qs.length+rest.length by omega]at this;exact this
  ·have:=hK m (List.replicate (cap'-(qs.length+1)) z0) hm2 (.inl rfl);simp only[Vz,Wq]at hr hc⊢;have e1:List.take qs.length ((qs++rest).map enc)=qs.map enc:=by rw[Vt,WK zw,We zw]
   rw[e1];rw[el,Vt,Vt,XO,Wj,show qs.length+1+(cap'-(qs.length+1))=cap' by omega]at this;exact this
end
structure VF where
 i:Nat
 H:AC
 n:Nat
def If{P:Program}{T:Tab}{b:Nat}{cx:Nat->Fs}{rx:List (Nat×Z9)}{kp:List Nat}{k:List Item}{Q:Z3->AS->Prop}{s:AS}{d:Option Nat}{sz:Nat}{a x:Yy}:A9 P T b cx ((0,⟨d,none,.st sz a x⟩)::rx) kp k Q s=((lk s.env a).1=true/\(lk s.env x).1=true/\nT (lkv s.env x)/\(lkv s.env x).cells.length=sz/\(stE s.H sz (lkv s.env x) (lkv s.env a)).1/\A9 P T b cx rx kp k Q ({s with H:=(stE s.H sz (lkv s.env x) (lkv s.env a)).2}.put d true (.tup []))):=by
 rw[QK,I0,KP];simp only[gvb,WS,BS,WQ];rfl
def Vl{H:AC}{n:Nat}(l:List Z5)(hl:few l):AN prog 58 [eCls l] H n (Tb 6 H n (l.map B0)):=by
 refine AN.fresh c58.l λhf=>c58.a (AE AI.tnil (AF ?_))
 have m6:l.length<1000000000:=hl;cases l with
 |nil=>
  simp only[eZ,seval,c58];refine⟨?_,?_⟩
  ·simp only[eZ,seval,CZ,DF,fr1 hf,small,XD,V8];exact .inl ⟨rfl,rfl,Wx _ _,.exact 6,rfl,.inr rfl⟩
  ·simp only[eZ,seval,V6];exact .inl ⟨rfl,rfl,V4 _,.nil,rfl,.inl rfl⟩
 |cons x r=>
  rw[Vz]at m6;simp only[eZ,seval,V0,c58,eCls,CZ,DF,fr1 hf];refine⟨AP zo zd,zo,λcap hcap=>.inr ⟨zw,rfl,cap,List.replicate (cap-(r.length+1)) (.agg [.str [],.str [],.int .i64 0,.int .i64 0,.int .i64 0,.int .i64 0]),?_,?_,?_⟩⟩
  ·simp
  ·simp
  ·simp;omega
def Vm{H:AC}{n:Nat}(l:List Yz)(hl:few l):AN prog 62 [eRus l] H n (Tb 12 H n (l.map BQ)):=by
 refine AN.fresh c62.l λhf=>c62.a (AE AI.tnil (AF ?_))
 have m6:l.length<1000000000:=hl;cases l with
 |nil=>
  simp only[eZ,seval,c62];refine⟨?_,?_⟩
  ·simp only[eZ,seval,CZ,DF,fr1 hf,small,XD,V8];exact .inl ⟨rfl,rfl,Wx _ _,.exact 12,rfl,.inr rfl⟩
  ·simp only[eZ,seval,V6];exact .inl ⟨rfl,rfl,V4 _,.nil,rfl,.inl rfl⟩
 |cons x r=>
  rw[Vz]at m6;simp only[eZ,seval,V0,c62,eRus,CZ,DF,fr1 hf];refine⟨AP zo zd,zo,λcap hcap=>.inr ⟨zw,rfl,cap,List.replicate (cap-(r.length+1)) (.agg [.str [],.str [],.int .i64 0,.int .i64 0,.sl .nil [],.sl .nil [],.int .i64 0,.int .i64 0,.int .i64 0,.int .i64 0,.str [],.int .i64 0]),?_,?_,?_⟩⟩
  ·simp
  ·simp
  ·simp;omega
abbrev Hn:List Fs:=[.str [],.int .i64 0,.int .i64 0,.int .i64 0,.int .i64 0,.sl .nil [],.sl .nil [],.sl .nil [],.sl .nil [],.sl .nil []]
def d_rn{H:AC}{n i0 i1:Nat}:CL prog 48 [.ptr i0 0,.ptr i1 0] .nilifc H n (λH' n'=>H'=H/\n'=n):=by
 refine a48 (AE AI.tnil (AF ?_));simp only[eZ,seval,V3,xE,c48]
def d_rp{H:AC}{n:Nat}{xs:List Fs}{y:Fs}{p:Int}(h0:hget H 1=some (.box xs))(hx:xs.length=10)(h1:hget H 2=some (.box [y])):
  CL prog 48 [.ptr 1 0,.ptr 2 0] (errV p) H n (λH' n'=>hget H' 1=some (.box Hn)/\hget H' 2=some (.box [.int .i64 p])):=by
 refine a48 (AE AI.tnil (AF ?_));obtain⟨a,b,c,d,e,f,g,h,i,j,rfl⟩:∃a b c d e f g h i j,xs=[a,b,c,d,e,f,g,h,i,j]:=by
  match xs,hx with
  |[a,b,c,d,e,f,g,h,i,j],_=>exact⟨a,b,c,d,e,f,g,h,i,j,rfl⟩
 simp only[eZ,seval,xE,c48,h0,h1]
section
def Bh(d:Z8):Fs:=match resD d with
 | .error e=>.tup [encD dcl0,.int .i64 e]
 | .ok x=>.tup [encD x,.int .i64 0]
abbrev CI(d:Z8)(vc vr:Fs):List Fs:=[.str d.nm,.int .i64 d.ver,.int .i64 d.sh,.int .i64 d.w,.int .i64 d.h,eIs d.holes,eSys d.syms,eRgs d.regs,vc,vr]
def RR(d:Z8):Zb->AC->Nat->Prop:=λo H' n'=>match resD d with
 | .error e=>∃v,o= .ret v/\Wk v (.tup [encD dcl0,.int .i64 e])
 | .ok x=>∃vc vr,o= .ret (.tup [.agg (CI d vc vr),.int .i64 0])/\LV 6 vc H' (x.clus.map B0)/\LV 12 vr H' (x.ruls.map BQ)/\(∀i a b c e j f g h k,vc= .ref i a b c e->vr= .ref j f g h k->i≠j)
def Tnr:Tab:=tadd 54 (λa _=>match a with
 |[]=>(True,eSs Bo)
 |_=>(False,.tup [])) tnil
def Tc:AI prog Tnr:=AI.tnil.add λargs H n h=>by
 cases args with
 |nil=>exact p54.quiet H n
 |cons _ _=>exact h.elim
abbrev rsR:List RC:=[.c 2 10 true,.c 3 1 false]
abbrev envR:List (Nat×Bool×Fs):=[(1,true,.ptr 0 0),(2,true,.ptr 1 0),(3,true,.ptr 2 0)]
abbrev argsR:List Fs:=[.ptr 1 0,.ptr 2 0]
def afst:Yw->Yw
 | .seq a _=>a
 |c=>c
def asnd:Yw->Yw
 | .seq _ b=>b
 |c=>c
def Lv:Nat->Yw->Yw
 |0,c=>c
 |k+1,c=>Lv k (asnd c)
abbrev QR(d:Z8):Z3->AS->Prop:=SF prog 48 argsR rsR envR (RR d)
variable {xs:List Fs}
theorem ten(h:xs.length=10):∃a b c d e f g h i j,xs=[a,b,c,d,e,f,g,h,i,j]:=by
 match xs,h with
 |[a,b,c,d,e,f,g,h,i,j],_=>exact⟨a,b,c,d,e,f,g,h,i,j,rfl⟩
theorem Cn{d:Z8}{H:AC}{m:Nat}{y:Fs}{p:Int}(h1:hget H 1=some (.box xs))(hx:xs.length=10)(h2:hget H 2=some (.box [y]))(hr:resD d= .error p):QR d (.pan (errV p)) ⟨[],H,m⟩:=by
 refine CL.mono (d_rp h1 hx h2) ?_;rintro H2 n2 ⟨k1,k2⟩;unfold RcOf;simp only[eE,seval,Au,k1,k2];unfold RR;rw[hr];exact⟨_,rfl,Wk.tup (.cons (Wk.agg (.cons (Wk.refl _) (.cons (Wk.refl _) (.cons (Wk.refl _) (.cons (Wk.refl _) (.cons (Wk.refl _) (.cons (Wk.sl (.inr rfl)) (.cons (Wk.sl (.inr rfl)) (.cons (Wk.sl (.inr rfl)) (.cons (Wk.sl (.inr rfl)) (.cons (Wk.sl (.inr rfl)) .nil))))))))))) (.cons (Wk.refl _) .nil))⟩
theorem Qy{d:Z8}{env:List (Nat×Bool×Fs)}{H:AC}{m:Nat}{y:Fs}(h1:hget H 1=some (.box xs))(hx:xs.length=10)(h2:hget H 2=some (.box [y]))(hr:RR d (.ret (.tup [.agg xs,y])) H m):QR d .ret ⟨env,H,m⟩:=by
 refine CL.mono d_rn ?_;rintro H2 n2 ⟨rfl,rfl⟩;obtain⟨a,b,c,d,e,f,g,h,i,j,rfl⟩:=ten hx;unfold RcOf;simp only[eE,seval,Au,h1,h2];exact hr
end
section
structure NM(d:Z8)(vc vr:Fs)(H:AC):Prop where
 h0:hget H 0=some (.box (CI d vc vr))
 h1:hget H 1=some (.box Hn)
 h2:hget H 2=some (.box [.int .i64 0])
 h5:hget H 5=some (nmO (d.syms.map λx:Za=>x.nm))
 h7:hget H 7=some (.box [.mp 5])
 h12:hget H 12=some (nmO (Be d))
 h18:hget H 18=some (nmO (d.clus.map λx:Z5=>x.nm))
def notM(i:Nat):Prop:=i≠0/\i≠1/\i≠2/\i≠5/\i≠7/\i≠12/\i≠18
variable {H:AC} {vc vr:Fs} {d:Z8} {i e:Nat}
theorem NM.set{ob:Z7}(h:NM d vc vr H)(hi:notM i):NM d vc vr (hset H i ob):=by
 obtain⟨a,b,c,e,f,g,k⟩:=hi;exact⟨by rw[AA _ _ _ _ a];exact h.h0,by rw[AA _ _ _ _ b];exact h.h1,by rw[AA _ _ _ _ c];exact h.h2,by rw[AA _ _ _ _ e];exact h.h5,by rw[AA _ _ _ _ f];exact h.h7,by rw[AA _ _ _ _ g];exact h.h12,by rw[AA _ _ _ _ k];exact h.h18⟩
theorem NM.put{vc' vr':Fs}(h:NM d vc vr H):NM d vc' vr' (hset H 0 (.box (CI d vc' vr'))):=
 ⟨AB ..,by rw[AA _ _ _ _ zd];exact h.h1,by rw[AA _ _ _ _ zd];exact h.h2,by rw[AA _ _ _ _ zd];exact h.h5,by rw[AA _ _ _ _ zd];exact h.h7,by rw[AA _ _ _ _ zd];exact h.h12,by rw[AA _ _ _ _ zd];exact h.h18⟩
theorem NM.ne{id:Nat}{A:List Fs}(hnm:NM d vc vr H)(ho:hget H id=some (.arr e A)):notM id:=by
 refine⟨?_,?_,?_,?_,?_,?_,?_⟩<;>rintro rfl
 ·rw[hnm.h0]at ho;cases ho
 ·rw[hnm.h1]at ho;cases ho
 ·rw[hnm.h2]at ho;cases ho
 ·rw[hnm.h5]at ho;cases ho
 ·rw[hnm.h7]at ho;cases ho
 ·rw[hnm.h12]at ho;cases ho
 ·rw[hnm.h18]at ho;cases ho
theorem Lw(h:21<=i):notM i:=⟨zo,zo,zo,zo,zo,zo,zo⟩
theorem Cg{α β:Type}(f:α->Option β)(x:α)(r:List α):Ag f (x::r)=(match f x with
  |some y=>(Ag f r).map λs=>y::s
  |none=>none):=by
 simp only[Ag];cases f x with
 |none=>rfl
 |some y=>cases Ag f r<;>rfl
structure VRl where
 i:Nat
 dn:List Yz
 H:AC
structure IRl(d:Z8)(cs:List Z5)(vc vr:Fs)(n:Nat)(v:VRl):Prop where
 hi:v.i<=d.ruls.length
 ln:v.dn.length=v.i
 fr:AR v.H n
 nm:NM d vc vr v.H
 lc:LV 6 vc v.H (cs.map B0)
 lv:LV 12 vr v.H ((v.dn++d.ruls.drop v.i).map BQ)
 eq:Ag (BE d) d.ruls=(Ag (BE d) (d.ruls.drop v.i)).map λr=>v.dn++r
section
variable {a b c d e f g h i j k l v:Fs}
theorem apR3(hv:v.cells=[v]):DL (.agg [a,b,c,d,e,f,g,h,i,j,k,l]) 3 1 12 v=(True,.agg [a,b,c,v,e,f,g,h,i,j,k,l]):=by
 rw[EI zd];simp [splice,hv]
theorem apR6(hv:v.cells=[v]):DL (.agg [a,b,c,d,e,f,g,h,i,j,k,l]) 6 1 12 v=(True,.agg [a,b,c,d,e,f,v,h,i,j,k,l]):=by
 rw[EI zd];simp [splice,hv]
theorem apR7(hv:v.cells=[v]):DL (.agg [a,b,c,d,e,f,g,h,i,j,k,l]) 7 1 12 v=(True,.agg [a,b,c,d,e,f,g,v,i,j,k,l]):=by
 rw[EI zd];simp [splice,hv]
theorem Se(hv:v.cells=[v]):DL (.agg [a,b,c,d,e,f,g,h,i,j,k,l]) 11 1 12 v=(True,.agg [a,b,c,d,e,f,g,h,i,j,k,v]):=by
 rw[EI zd];simp [splice,hv]
end
theorem LV.set{v:Fs}{l:List Fs}{id:Nat}{ob:Z7}(h:LV e v H l)(hne:∀a b c x,v≠ .ref id a b c x):LV e v (hset H id ob) l:=by
 rcases h with h|⟨h0,i,cap,rest,rfl,ho,hc⟩
 ·exact .inl h
 ·exact .inr ⟨h0,i,cap,rest,rfl,by rw[AA _ _ _ _ (λq=>hne _ _ _ _ (by rw[q]))];exact ho,hc⟩
theorem LV.no{l:List Fs}{a b c x:Nat}(h:LV e (.ref i a b c x) H l)(hn:∀e' A,hget H i≠some (.arr e' A)):False:=by
 rcases h with⟨-,t,h,-⟩|⟨-,id,cap,rest,h,ho,-⟩
 ·cases h
 ·cases h;exact hn _ _ ho
theorem Td(d:Z8)(hd:Z4 d)(h16:¬16<d.syms.length)(j0:Ad (d.syms.map λx:Za=>x.nm)=false)(k9:Ad (Be d)=false)(ht3:Ad (d.clus.map λx:Z5=>x.nm)=false){cs:List Z5}(hcs:Ag (Bf d) d.clus=some cs)(ht4:Ad (d.ruls.map λx:Yz=>x.nm)=false)
  {n:Nat} (hf:AR H n) (hm:NM d vc vr H) (hvc:LV 6 vc H (cs.map B0)) (hvr:LV 12 vr H (d.ruls.map BQ)) (hdj:∀i a b c e j f g h k,vc= .ref i a b c e->vr= .ref j f g h k->i≠j):
  evK prog Tnr (asnd (afst (Lv 9 c19))) [.c (asnd (Lv 9 c19))] (QR d) ⟨[(1,true,.ptr 0 0),(2,true,.ptr 1 0),(3,true,.ptr 2 0),(5,true,.mp 12),(6,true,.mp 18),(8,true,.fn (.func 63) [] [.ptr 7 0]),(66,true,.int .i64 d.ruls.length),(67,true,.int .i64 0)],H,n⟩:=by
 have v7:d.ruls.length<1000000000:=hd.ru;have hbase:∀x,Ag (BE d) d.ruls=x->resD d=(match x with|none=>.error 160|some rs=>.ok {d with clus:=cs,ruls:=rs}):=λx hx=>by
  unfold resD;rw[V5 h16,j0,k9,ht3,hcs];simp only[W5,Wf];rw[ht4,hx];rfl
 simp only[eE,Lv,asnd,afst,c19];refine AO (λv:VRl=>⟨[(1,true,.ptr 0 0),(2,true,.ptr 1 0),(3,true,.ptr 2 0),(5,true,.mp 12),(6,true,.mp 18),(8,true,.fn (.func 63) [] [.ptr 7 0]),(66,true,.int .i64 d.ruls.length),(67,true,.int .i64 v.i)],v.H,n⟩) (IRl d cs vc vr n) (λv=>d.ruls.length-v.i)
  ⟨0,[],H⟩ rfl ⟨V8 _,rfl,hf,hm,hvc,hvr,by rw[Xt];cases Ag (BE d) d.ruls<;>rfl⟩ ?_
 rintro⟨i,dn,H1⟩ hI;have hi:=hI.hi;have hln:=hI.ln;have d5:=hI.fr;have hnm:=hI.nm;have hlc:=hI.lc;have hlv:=hI.lv;have heq:=hI.eq;clear hI hf hm hvc hvr;simp only at hi hln d5 hnm hlc hlv heq;by_cases c6:i<d.ruls.length;case neg=>
  obtain rfl:i=d.ruls.length:=zo
  rw[WC]at heq hlv;rw[W9]at hlv;have hr:=hbase _ heq;simp only[Ag,Wt,W9]at hr;simp only[eZ,seval,lt_F c6,hnm.h0,CI,hnm.h1,hnm.h2];refine Qy (xs:=CI d vc vr) (y:=.int .i64 0) ?_ rfl ?_ ?_
  ·simp only[AJ];rfl
  ·simp only[AJ];rfl
  unfold RR;rw[hr];have j9:∀a b c x,vc≠ .ref 1 a b c x/\vc≠ .ref 2 a b c x/\vr≠ .ref 1 a b c x/\vr≠ .ref 2 a b c x:=by
   intro a b c x;refine⟨?_,?_,?_,?_⟩<;>rintro rfl
   ·exact hlc.no (by rw[hnm.h1];simp)
   ·exact hlc.no (by rw[hnm.h2];simp)
   ·exact hlv.no (by rw[hnm.h1];simp)
   ·exact hlv.no (by rw[hnm.h2];simp)
  exact⟨vc,vr,rfl,(hlc.set λa b c x=>(j9 a b c x).1).set λa b c x=>(j9 a b c x).2.1,(hlv.set λa b c x=>(j9 a b c x).2.2.1).set λa b c x=>(j9 a b c x).2.2.2,hdj⟩
 have hrx:=(hd.rus _ (W1 c6));rw[Wm c6]at heq hlv;rw[Cg]at heq;generalize d.ruls[i]=r at heq hlv hrx;have m6:((dn++r::d.ruls.drop (i+1)).map BQ).length=d.ruls.length:=by simp;omega
 rcases hlv with⟨h0,-⟩|⟨-,id,cap,rest,hvr,ho,hcr⟩
 ·simp at h0
 rw[m6]at hvr hcr;subst hvr;have e:=AG (k:=i) zo;have d7:id<n:=d5.lt ho;have hne:=hnm.ne ho;have h0:=hnm.h0;have hgi:((dn++r::d.ruls.drop (i+1)).map BQ++rest)[i]?=some (BQ r):=by
  rw[Vt,Wb,WF (by simp;omega)];simp [hln]
 have hil:i<((dn++r::d.ruls.drop (i+1)).map BQ++rest).length:=by rw[V9,m6];omega
 have hse:∀r':Yz,((dn++r::d.ruls.drop (i+1)).map BQ++rest).set i (BQ r')=((dn++[r'])++d.ruls.drop (i+1)).map BQ++rest:=λr'=>by
  rw[Vt,Wb,XB _ _ (by simp;omega)];simp [hln]
 generalize hA:(dn++r::d.ruls.drop (i+1)).map BQ++rest=A at ho hgi hil hse;have hls:∀x,(i<(A.set i x).length)=True:=λx=>V1 (by rw[XQ];exact hil)
 have hgs:∀x,(A.set i x)[i]?=some x:=λx=>List.getElem?_set_self hil
 have hss:∀x y,(A.set i x).set i y=A.set i y:=λx y=>List.set_set ..
 have z0':(id=0)=False:=Vs hne.1;have z5':(id=5)=False:=Vs hne.2.2.2.1;have z7':(id=7)=False:=Vs hne.2.2.2.2.1;have z12':(id=12)=False:=Vs hne.2.2.2.2.2.1;have z18':(id=18)=False:=Vs hne.2.2.2.2.2.2;have h7:=hnm.h7;have h5:=hnm.h5;have j7:BE d r=none->resD d= .error 160:=λq=>by
  rw[q]at heq;exact hbase _ heq
 have hnv:∀ob,NM d vc (.ref id 12 0 d.ruls.length cap) (hset H1 id ob):=λob=>hnm.set hne
 have hvn:∀a b c x,vc≠ .ref id a b c x:=λa b c x q=>hdj _ _ _ _ _ _ _ _ _ _ q rfl rfl
 have fin:∀(F a b c:Int),BE d r=some {r with fam:=F,set:=a,oth:=b,clue:=c}->lpN (λv:VRl=>⟨[(1,true,.ptr 0 0),(2,true,.ptr 1 0),(3,true,.ptr 2 0),(5,true,.mp 12),(6,true,.mp 18),(8,true,.fn (.func 63) [] [.ptr 7 0]),(66,true,.int .i64 d.ruls.length),(67,true,.int .i64 v.i)],v.H,n⟩) (IRl d cs vc (.ref id 12 0 d.ruls.length cap) n) (λv=>d.ruls.length-v.i) ⟨i,dn,H1⟩
   ⟨[(1,true,.ptr 0 0),(2,true,.ptr 1 0),(3,true,.ptr 2 0),(5,true,.mp 12),(6,true,.mp 18),(8,true,.fn (.func 63) [] [.ptr 7 0]),(66,true,.int .i64 d.ruls.length),(67,true,.int .i64 ((i+1:Nat):Int))],hset H1 id (.arr 12 (A.set i (.agg [.str r.nm,.str r.on,.int .i64 r.kind,.int .i64 F,eSs r.ns,eSs r.os,.int .i64 a,.int .i64 b,.int .i64 r.op,.int .i64 r.n,.str r.byN,.int .i64 c]))),n⟩:=λF a b c u0=>by
  rw[u0]at heq;have hse2:=hse {r with fam:=F,set:=a,oth:=b,clue:=c};refine .mk ⟨i+1,dn++[{r with fam:=F,set:=a,oth:=b,clue:=c}],hset H1 id (.arr 12 (A.set i (BQ {r with fam:=F,set:=a,oth:=b,clue:=c})))⟩ rfl ⟨c6,by simp [hln],d5.hset (V4 _) d7,hnv _,hlc.set hvn,.inr ⟨zw,id,cap,rest,?_,?_,?_⟩,?_⟩ zp
  ·simp only[V0,V9,Vz,Wq,Wl,hln];congr 1;omega
  ·simp only[];rw[AB,hse2]
  ·simp only[V0,V9,Vz,Wq,Wl,hln];omega
  ·simp only[];rw[heq];cases Ag (BE d) (d.ruls.drop (i+1))<;>simp
 by_cases hon:r.on=[]
 ·have hb:scmp .neq r.on []=false:=by rw[Ap,hon];rfl
  simp only[eZ,eX,seval,W7,Vy,Wa,atN,atK,Fu,lt_T c6,h0,CI,ho,hgi,V1 hil,addr,V1 d7,hls,hgs,hss,BQ,A6,apR3,Se,AD,hb];refine(Sd (by rw[V0];omega) hrx.1 (hnv _).h7 (hnv _).h5).mono λo H' n' hq=>?_
  obtain⟨rfl,rfl,hq⟩:=hq;cases hs1:CG (d.syms.map λx:Za=>x.nm) r.ns with
  |none=>
   rw[hs1]at hq;subst hq;simp only[eE,eN,Dz];exact Cn (hnv _).h1 rfl (hnv _).h2 (j7 (by unfold BE;rw[Vv hon,hs1]))
  |some a=>
   rw[hs1]at hq;subst hq;simp only[eE,eC,eX,seval,Dz];refine(Sd (by rw[V0];omega) hrx.2 (hnv _).h7 (hnv _).h5).mono λo H' n' hq=>?_
   obtain⟨rfl,rfl,hq⟩:=hq;cases hs2:CG (d.syms.map λx:Za=>x.nm) r.os with
   |none=>
    rw[hs2]at hq;subst hq;simp only[eE,eN,Dz];exact Cn (hnv _).h1 rfl (hnv _).h2 (j7 (by unfold BE;rw[Vv hon,hs1,hs2]))
   |some b=>
    rw[hs2]at hq;subst hq;by_cases hby:r.byN=[]
    ·have l5:scmp .neq r.byN []=false:=by rw[Ap,hby];rfl
     simp only[eZ,eX,seval,W7,Dz,l5,If,hls,hgs,hss,apR6,apR7,AD,e];exact fin 0 a b (-1) (by unfold BE;rw[Vv hon,hs1,hs2,Vv hby])
    ·have l5:scmp .neq r.byN []=true:=by rw[Ap,Az hby];rfl
     simp only[eZ,eX,seval,W7,Dz,l5,If,hls,hgs,hss,apR6,apR7,AD];refine(Ke (hnv _).h18).mono λo H' n' hq=>?_
     obtain⟨rfl,rfl,hq⟩:=hq;cases hnb:BG (d.clus.map λx:Z5=>x.nm) r.byN with
     |none=>
      rw[hnb]at hq;subst hq;simp only[eE,eN,retK];exact Cn (hnv _).h1 rfl (hnv _).h2 (j7 (by unfold BE;rw[Vv hon,hs1,hs2,V5 hby,hnb]))
     |some c=>
      rw[hnb]at hq;subst hq;simp only[eE,eN,seval,W7,retK,hls,hgs,hss,Se,AD,e];exact fin 0 a b c (by unfold BE;rw[Vv hon,hs1,hs2,V5 hby,hnb])
 ·have hb:scmp .neq r.on []=true:=by rw[Ap,Az hon];rfl
  simp only[eZ,seval,W7,Vy,Wa,lt_T c6,h0,CI,ho,hgi,V1 hil,hls,hgs,hss,BQ,A6,apR3,Se,AD,hb];refine(Ke (hnv _).h12).mono λo H' n' hq=>?_
  obtain⟨rfl,rfl,hq⟩:=hq;cases i7:BG (Be d) r.on with
  |none=>
   rw[i7]at hq;subst hq;simp only[eE,eN,retK];exact Cn (hnv _).h1 rfl (hnv _).h2 (j7 (by unfold BE;rw[V5 hon,i7]))
  |some F=>
   rw[i7]at hq;subst hq;simp only[eE,eN,eX,seval,W7,atN,atK,Fu,retK,addr,V1 d7,hls,hgs,hss,apR3,AD];refine(Sd (by rw[V0];omega) hrx.1 (hnv _).h7 (hnv _).h5).mono λo H' n' hq=>?_
   obtain⟨rfl,rfl,hq⟩:=hq;cases hs1:CG (d.syms.map λx:Za=>x.nm) r.ns with
   |none=>
    rw[hs1]at hq;subst hq;simp only[eE,eN,Dz];exact Cn (hnv _).h1 rfl (hnv _).h2 (j7 (by unfold BE;rw[V5 hon,i7,hs1]))
   |some a=>
    rw[hs1]at hq;subst hq;simp only[eE,eC,eX,seval,Dz];refine(Sd (by rw[V0];omega) hrx.2 (hnv _).h7 (hnv _).h5).mono λo H' n' hq=>?_
    obtain⟨rfl,rfl,hq⟩:=hq;cases hs2:CG (d.syms.map λx:Za=>x.nm) r.os with
    |none=>
     rw[hs2]at hq;subst hq;simp only[eE,eN,Dz];exact Cn (hnv _).h1 rfl (hnv _).h2 (j7 (by unfold BE;rw[V5 hon,i7,hs1,hs2]))
    |some b=>
     rw[hs2]at hq;subst hq;by_cases hby:r.byN=[]
     ·have l5:scmp .neq r.byN []=false:=by rw[Ap,hby];rfl
      simp only[eZ,eX,seval,W7,Dz,l5,If,hls,hgs,hss,apR6,apR7,AD,e];exact fin F a b (-1) (by unfold BE;rw[V5 hon,i7,hs1,hs2,Vv hby])
     ·have l5:scmp .neq r.byN []=true:=by rw[Ap,Az hby];rfl
      simp only[eZ,eX,seval,W7,Dz,l5,If,hls,hgs,hss,apR6,apR7,AD];refine(Ke (hnv _).h18).mono λo H' n' hq=>?_
      obtain⟨rfl,rfl,hq⟩:=hq;cases hnb:BG (d.clus.map λx:Z5=>x.nm) r.byN with
      |none=>
       rw[hnb]at hq;subst hq;simp only[eE,eN,retK];exact Cn (hnv _).h1 rfl (hnv _).h2 (j7 (by unfold BE;rw[V5 hon,i7,hs1,hs2,V5 hby,hnb]))
      |some c=>
       rw[hnb]at hq;subst hq;simp only[eE,eN,seval,W7,retK,hls,hgs,hss,Se,AD,e];exact fin F a b c (by unfold BE;rw[V5 hon,i7,hs1,hs2,V5 hby,hnb])
end
structure VCl where
 i:Nat
 dn:List Z5
 H:AC
structure ICl(d:Z8)(vc:Fs)(n:Nat)(v:VCl):Prop where
 hi:v.i<=d.clus.length
 ln:v.dn.length=v.i
 fr:AR v.H n
 nm:NM d vc (eRus d.ruls) v.H
 lv:LV 6 vc v.H ((v.dn++d.clus.drop v.i).map B0)
 eq:Ag (Bf d) d.clus=(Ag (Bf d) (d.clus.drop v.i)).map λr=>v.dn++r
def apS2{a b c d e f v:Fs}(h:v.cells=[v]):DL (.agg [a,b,c,d,e,f]) 2 1 6 v=(True,.agg [a,b,v,d,e,f]):=by
 rw[EI zd];simp [splice,h]
theorem Te(d:Z8)(hd:Z4 d)(h16:¬16<d.syms.length)(j0:Ad (d.syms.map λx:Za=>x.nm)=false)(k9:Ad (Be d)=false)(ht3:Ad (d.clus.map λx:Z5=>x.nm)=false)
  {vc:Fs} {H:AC} {n:Nat} {ml:Int} (hml:ml=(d.clus.length:Int)) (hn:21<=n) (hf:AR H n) (hm:NM d vc (eRus d.ruls) H) (hv:LV 6 vc H (d.clus.map B0)):
  evK prog Tnr (asnd (afst (Lv 5 c19))) [.c (asnd (Lv 5 c19))] (QR d) ⟨[(1,true,.ptr 0 0),(2,true,.ptr 1 0),(3,true,.ptr 2 0),(4,true,.ptr 7 0),(5,true,.mp 12),(6,true,.mp 18),(37,true,.int .i64 ml),(38,true,.int .i64 0)],H,n⟩:=by
 subst hml;have hcl:d.clus.length<1000000000:=hd.cl;simp only[eE,Lv,asnd,afst,c19];refine AO (λv:VCl=>⟨[(1,true,.ptr 0 0),(2,true,.ptr 1 0),(3,true,.ptr 2 0),(4,true,.ptr 7 0),(5,true,.mp 12),(6,true,.mp 18),(37,true,.int .i64 d.clus.length),(38,true,.int .i64 v.i)],v.H,n⟩) (ICl d vc n) (λv=>d.clus.length-v.i)
  ⟨0,[],H⟩ rfl ⟨V8 _,rfl,hf,hm,hv,by rw[Xt];cases Ag (Bf d) d.clus<;>rfl⟩ ?_
 rintro⟨i,dn,H1⟩ hI;have hi:=hI.hi;have hln:=hI.ln;have d5:=hI.fr;have hnm:=hI.nm;have hlv:=hI.lv;have heq:=hI.eq;simp only at hi hln d5 hnm hlv heq;by_cases c6:i<d.clus.length
 ·rw[Wm c6]at heq hlv;rw[Cg]at heq;generalize d.clus[i]=c at heq hlv;have m6:((dn++c::d.clus.drop (i+1)).map B0).length=d.clus.length:=by simp;omega
  rcases hlv with⟨h0,-⟩|⟨-,id,cap,rest,hvc,ho,hcr⟩
  ·simp at h0
  rw[m6]at hvc hcr;subst hvc;have e:=AG (k:=i) zo;have d7:id<n:=d5.lt ho;have h0:=hnm.h0;have hgi:((dn++c::d.clus.drop (i+1)).map B0++rest)[i]?=some (.agg [.str c.nm,.str c.on,.int .i64 c.fam,.int .i64 c.ty,.int .i64 c.lo,.int .i64 c.hi]):=by
   rw[Vt,Wb,WF (by simp;omega)];simp [hln]
  have hil:(i<((dn++c::d.clus.drop (i+1)).map B0++rest).length)=True:=V1 (by rw[V9,m6];omega);have hse:∀c':Z5,((dn++c::d.clus.drop (i+1)).map B0++rest).set i (B0 c')=((dn++[c'])++d.clus.drop (i+1)).map B0++rest:=λc'=>by
   rw[Vt,Wb,XB _ _ (by simp;omega)];simp [hln]
  have hne:=hnm.ne ho;generalize hA:(dn++c::d.clus.drop (i+1)).map B0++rest=A at ho hgi hil hse;simp only[eZ,eX,seval,W7,Vy,Wa,atN,atK,Fu,lt_T c6,h0,CI,ho,hgi,hil,addr,V1 d7];refine(Ke hnm.h12).mono λo H' n' hq=>?_
  obtain⟨rfl,rfl,hq⟩:=hq;cases i7:BG (Be d) c.on with
  |none=>
   rw[i7]at hq;subst hq;have hrc:Bf d c=none:=by unfold Bf;rw[i7];rfl
   rw[hrc]at heq;have hr:resD d= .error 160:=by unfold resD;rw[V5 h16,j0,k9,ht3,heq];rfl
   simp only[eE,eN,Dz];exact Cn hnm.h1 rfl hnm.h2 hr
  |some k=>
   rw[i7]at hq;subst hq;have hrc:Bf d c=some {c with fam:=k}:=by unfold Bf;rw[i7];rfl
   rw[hrc]at heq;have hs2:=hse {c with fam:=k};simp only[eZ,eX,seval,W7,Vy,Wa,Dz,If,ho,hgi,hil,apS2 (v:=.int .i64 k) rfl,e];refine⟨zo,.mk ⟨i+1,dn++[{c with fam:=k}],hset H' id (.arr 6 (A.set i (B0 {c with fam:=k})))⟩ rfl ⟨c6,by simp [hln],d5.hset (V4 _) d7,hnm.set hne,.inr ⟨zw,id,cap,rest,?_,?_,?_⟩,?_⟩ zp⟩
   ·simp only[V0,V9,Vz,Wq,Wl,hln];congr 1;omega
   ·simp only[];rw[AB,hs2]
   ·simp only[V0,V9,Vz,Wq,Wl,hln];omega
   ·simp only[];rw[heq];cases Ag (Bf d) (d.clus.drop (i+1))<;>simp
 obtain rfl:i=d.clus.length:=zo
 rw[WC]at heq hlv;rw[W9]at hlv;have hcs:Ag (Bf d) d.clus=some dn:=by rw[heq];simp [Ag]
 have h0:=hnm.h0;have y0:∀k,(n+k=0)=False:=λk=>Vs zo
 simp only[eZ,seval,xE,lt_F c6,h0,CI,fr1 d5];refine(Sc (pre:=[]) hd.ru zd rfl (AB ..) rfl).mono λo H' n' hq=>?_
 unfold CH at hq;rw[Wi]at hq;have hnv:∀a b,NM d vc (eRus d.ruls) (hset (hset H1 (n+2) a) (n+2) b):=λa b=>(hnm.set (Lw zo)).set (Lw zo)
 cases ht4:Ad (d.ruls.map λx:Yz=>x.nm)with
 |true=>
  rw[ht4,Vv rfl]at hq;obtain⟨rfl,rfl,rfl⟩:=hq;have hr:resD d= .error 161:=by
   unfold resD;rw[V5 h16,j0,k9,ht3,hcs];simp only[W5,Wf];rw[ht4];rfl
  simp only[eE,eN,retK];exact Cn (hnv _ _).h1 rfl (hnv _ _).h2 hr
 |false=>
 rw[ht4,V5 zd]at hq;obtain⟨rfl,rfl,rfl⟩:=hq;have hH:=hnv (nmO []) (nmO (d.ruls.map λx:Yz=>x.nm));have hlc:LV 6 vc (hset (hset H1 (n+2) (nmO [])) (n+2) (nmO (d.ruls.map λx:Yz=>x.nm))) (dn.map B0):=by
  have hv2:∀a b c x,vc≠ .ref (n+2) a b c x:=by
   rintro a b c x rfl;exact hlv.no (by rw[d5 _ zo];simp)
  exact(hlv.set hv2).set hv2
 have hf2:AR (hset (hset H1 (n+2) (nmO [])) (n+2) (nmO (d.ruls.map λx:Yz=>x.nm))) (n+4):=(d5.hset (m:=n+4) zo zo).hset (V4 _) zo;generalize hset (hset H1 (n+2) (nmO [])) (n+2) (nmO (d.ruls.map λx:Yz=>x.nm))=H2 at hH hlc hf2;have h02:=hH.h0;simp only[eE,eN,seval,retK,h02,CI];refine(Vm d.ruls hd.ru).mono λo H' n' hq=>?_
 rcases hq with⟨h0',rfl,hn',t,rfl,c7⟩|⟨h0',rfl,cap,rest,rfl,rfl,hcr⟩
 ·have v7:d.ruls.length=0:=by have:=congrArg List.length h0';simpa using this
  simp only[eE,seval,retK,h02,CI];rw[ER];simp only[eE,seval];rw[ER];simp only[eE,seval,c0];rw[ER];have hc0:∀a b c x,vc≠ .ref 0 a b c x:=by
   rintro a b c x rfl;exact hlc.no (by rw[h02];simp)
  have:=Td d hd h16 j0 k9 ht3 hcs ht4 (vr:=.sl t []) (hf2.hset (id:=0) (m:=n') zo zo) hH.put (hlc.set hc0) (.inl ⟨h0',t,rfl,c7⟩) (λi a b c e j f g h k _ q=>by cases q);rw[v7]at this;exact this
 ·have y4:∀k,(n+4+k=0)=False:=λk=>Vs zo
  simp only[eE,seval,retK,h02,CI,y0];rw[ER];simp only[eE,seval];rw[ER];simp only[eE,seval,V0];rw[ER];have hc0:∀a b c x,vc≠ .ref 0 a b c x:=by
   rintro a b c x rfl;exact hlc.no (by rw[h02];simp)
  have hc6:∀a b c x,vc≠ .ref (n+6) a b c x:=by
   rintro a b c x rfl;exact hlc.no (by rw[hf2 _ zo];simp)
  refine Td d hd h16 j0 k9 ht3 hcs ht4 (vr:=.ref (n+6) 12 0 d.ruls.length cap) (((hf2.hset (m:=n+8) zo zo).hset (V4 _) zo)) (hH.set (Lw zo)).put ((hlc.set hc6).set hc0) (.inr ⟨h0',n+6,cap,rest,by rw[V0],?_,hcr⟩) (λi a b c e j f g h k q1 q2=>?_)
  ·rw[AA _ _ _ _ zo];exact AB ..
  ·cases q2;rintro rfl;exact hc6 _ _ _ _ q1
def Qz(d:Z8)(hd:Z4 d):AN prog 19 [encD d] hnil 0 (RR d):=by
 refine a19 (AE Tc (AF ?_));simp only[eE,eN,seval,VT,EQ,KL,AU,encD];refine⟨_,_,rfl,AE Tc (AF ?_)⟩;generalize hE:List.filter (λ(e:Nat×Bool×Fs)=>Nat.blt e.1 4) _=E;have hE':E=envR:=by rw[<-hE];rfl
 subst hE';clear hE;rw[Wi];by_cases h16:16<d.syms.length
 ·have hr:resD d= .error 2:=by unfold resD;rw[Vv h16]
  simp only[eZ,seval,V0,c19,V1 (show(16:Int)<(d.syms.length:Int)by omega),AK];refine Qy (xs:=Hn) rfl rfl rfl ?_;unfold RR;rw[hr];exact⟨_,rfl,Wk.tup (.cons (Wk.agg (.cons (Wk.refl _) (.cons (Wk.refl _) (.cons (Wk.refl _) (.cons (Wk.refl _) (.cons (Wk.refl _) (.cons (Wk.sl (.inr rfl)) (.cons (Wk.sl (.inr rfl)) (.cons (Wk.sl (.inr rfl)) (.cons (Wk.sl (.inr rfl)) (.cons (Wk.sl (.inr rfl)) .nil))))))))))) (.cons (Wk.refl _) .nil))⟩
 simp only[eZ,seval,xE,V0,c19,Vs (show ¬(16:Int)<(d.syms.length:Int)by omega),AK];refine(SZ (pre:=[]) hd.sy zd rfl rfl rfl).mono λo H' n' hq=>?_
 unfold CH at hq;rw[Wi]at hq;cases j0:Ad (d.syms.map λx:Za=>x.nm)with
 |true=>
  rw[j0,Vv rfl]at hq;obtain⟨rfl,rfl,rfl⟩:=hq;have hr:resD d= .error 161:=by unfold resD;rw[V5 h16,j0];rfl
  simp only[eE,eN,retK];exact Cn (xs:=Hn) rfl rfl rfl hr
 |false=>
 rw[j0,V5 zd]at hq;obtain⟨rfl,rfl,rfl⟩:=hq;simp only[eZ,eX,seval,xE,retK,Tnr,addr,tadd];refine⟨⟨trivial,BK 0 _⟩,(Vk (pre:=[]) zd zd rfl rfl rfl).mono λo H' n' hq=>?_⟩;unfold CH at hq;rw[Wi,show Ad (Bo.map λx:Bs=>x)=false by decide,V5 zd]at hq;obtain⟨rfl,rfl,rfl⟩:=hq;simp only[eE,eX,seval,Dz];refine(Sa (pre:=Bo) hd.rg zd rfl rfl zd).mono λo H' n' hq=>?_
 unfold CH at hq;cases k9:Ad (Be d)with
 |true=>
  rw[show Bo++d.regs.map (λx:Z6=>x.nm)=Be d from rfl,k9,Vv rfl]at hq;obtain⟨rfl,rfl,rfl⟩:=hq;have hr:resD d= .error 161:=by unfold resD;rw[V5 h16,j0,k9];rfl
  simp only[eE,eN,Dz];exact Cn (xs:=Hn) rfl rfl rfl hr
 |false=>
 rw[show Bo++d.regs.map (λx:Z6=>x.nm)=Be d from rfl,k9,V5 zd]at hq;obtain⟨rfl,rfl,rfl⟩:=hq;simp only[eE,eN,eX,seval,xE,Dz];refine(Sb (pre:=[]) hd.cl zd rfl rfl rfl).mono λo H' n' hq=>?_
 unfold CH at hq;rw[Wi]at hq;cases ht3:Ad (d.clus.map λx:Z5=>x.nm)with
 |true=>
  rw[ht3,Vv rfl]at hq;obtain⟨rfl,rfl,rfl⟩:=hq;have hr:resD d= .error 161:=by unfold resD;rw[V5 h16,j0,k9,ht3];rfl
  simp only[eE,eN,retK];exact Cn (xs:=Hn) rfl rfl rfl hr
 |false=>
 rw[ht3,V5 zd]at hq;obtain⟨rfl,rfl,rfl⟩:=hq;simp only[eE,eN,seval,retK];refine(Vl d.clus hd.cl).mono λo H' n' hq=>?_
 rcases hq with⟨h0,rfl,hn,t,rfl,c7⟩|⟨h0,rfl,cap,rest,rfl,rfl,hcr⟩
 ·have hcl:d.clus.length=0:=by have:=congrArg List.length h0;simpa using this
  simp only[eE,seval,retK];rw[ER];simp only[eE,seval,c0];rw[ER];refine Te d hd h16 j0 k9 ht3 (vc:=.sl t []) (by rw[hcl];rfl) hn (λid d7=>?_) (NM.mk (d:=d) (vr:=eRus d.ruls) rfl rfl rfl rfl rfl rfl rfl) (.inl ⟨h0,t,rfl,c7⟩);simp only[AJ];repeat rw[V5 zo]
  rfl
 ·simp only[eE,seval,retK];rw[ER];simp only[eE,seval,V0];rw[ER];refine Te d hd h16 j0 k9 ht3 (vc:=.ref 23 6 0 d.clus.length cap) rfl zo (λid d7=>?_) (NM.mk (d:=d) (vr:=eRus d.ruls) rfl rfl rfl rfl rfl rfl rfl) (.inr ⟨h0,23,cap,rest,by rw[V0],rfl,hcr⟩);simp only[AJ];repeat rw[V5 zo]
  rfl
def RS(d:Z8):Zb->AC->Nat->Prop:=λo H' n'=>match resD d with
 | .error e=>∃v,o= .ret v/\Wk v (.tup [encD dcl0,.int .i64 e])
 | .ok x=>∃vc vr,o= .ret (.tup [.agg (CI d vc vr),.int .i64 0])/\LF 6 vc H' (x.clus.map B0)/\LV 12 vr H' (x.ruls.map BQ)
def RT(d:Z8):Zb->AC->Nat->Prop:=λo H' n'=>match resD d with
 | .error e=>∃v,o= .ret v/\Wk v (.tup [encD dcl0,.int .i64 e])
 | .ok x=>∃vc vr,o= .ret (.tup [.agg (CI d vc vr),.int .i64 0])/\LF 6 vc H' (x.clus.map B0)/\LF 12 vr H' (x.ruls.map BQ)
def p19(d:Z8)(hd:Z4 d):Pur prog 19 [encD d] (Bh d):=by
 refine .mk ⟨AW 0 d,trivial⟩ (by unfold Bh;split<;>exact⟨AW 0 _,trivial,trivial⟩) ?_;refine AN.out (R:=RT d) (AN.seal (R:=RS d) (AN.seal (R:=RR d) (Qz d hd) ?_) ?_) ?_
 ·intro o H' n' h;unfold RR at h;unfold RS;split at h
  ·rename_i e he;try rw[he]
   exact .inl h
  ·rename_i x hx;try rw[hx]
   obtain⟨vc,vr,rfl,h1,h2,h3⟩:=h;rcases h1 with h1|⟨h0,id,cap,rest,rfl,ho,hc⟩
   ·exact .inl ⟨vc,vr,rfl,.inl h1,h2⟩
   ·refine .inr ⟨id,_,_,ho,_,vr,rfl,.inr ⟨h0,id,cap,rest,rfl,AB ..,hc⟩,h2.set λa b c x=>?_⟩;rintro rfl;exact h3 _ _ _ _ _ _ _ _ _ _ rfl rfl rfl
 ·intro o H' n' h;unfold RS at h;unfold RT;split at h
  ·rename_i e he;try rw[he]
   exact .inl h
  ·rename_i x hx;try rw[hx]
   obtain⟨vc,vr,rfl,h1,h2⟩:=h;rcases h2 with h2|⟨h0,id,cap,rest,rfl,ho,hc⟩
   ·exact .inl ⟨vc,vr,rfl,h1,.inl h2⟩
   ·refine .inr ⟨id,_,_,ho,vc,_,rfl,?_,.inr ⟨h0,id,cap,rest,rfl,AB ..,hc⟩⟩;rcases h1 with h1|⟨q0,i2,c2,r2,rfl,o2,x5⟩
    ·exact .inl h1
    ·refine .inr ⟨q0,i2,c2,r2,rfl,?_,x5⟩;rw[AA _ _ _ _ (by rintro rfl;rw[ho]at o2;cases o2)];exact o2
 ·intro o H' n' h;unfold RT at h;unfold Bh;split at h
  ·rename_i e he;try rw[he]
   obtain⟨v,rfl,hw⟩:=h;exact⟨.ret v,⟨v,rfl,hw⟩,λg w e _ q=>q⟩
  ·rename_i x hx;try rw[hx]
   obtain⟨vc,vr,rfl,h1,h2⟩:=h;refine⟨.ret (.tup [encD x,.int .i64 0]),⟨_,rfl,Wk.refl _⟩,λg w e hR q=>?_⟩;obtain⟨e1,e2,e3,e4,e5,e6,e7,e8⟩:=Mz hx;cases e with
   |panicked c=>exact q.elim
   |outgrown=>exact q.elim
   |returned y=>
    obtain⟨vs,rfl,y1,r1,q1,q2,q3⟩:=q;refine⟨vs,rfl,y1,r1,q1,?_,q3⟩;obtain⟨us,rfl,p1,p2⟩:=q2;refine⟨us,rfl,?_,p2⟩;obtain⟨a1,b1,f1,g1,a2,b2,f2,g2,a3,b3,f3,g3,a4,b4,f4,g4,a5,b5,f5,g5,a6,b6,f6,g6,a7,b7,f7,g7,a8,b8,f8,g8,a9,b9,f9,g9,a10,b10,f10,g10,g11⟩:=p1;rw[<-e1]at g1;rw[<-e2]at g2;rw[<-e3]at g3;rw[<-e4]at g4;rw[<-e5]at g5;rw[<-e6]at g6;rw[<-e7]at g7;rw[<-e8]at g8;exact⟨a1,b1,f1,g1,a2,b2,f2,g2,a3,b3,f3,g3,a4,b4,f4,g4,a5,b5,f5,g5,a6,b6,f6,g6,a7,b7,f7,g7,a8,b8,f8,g8,a9,b9,f9,Ie h1 hR g9,a10,b10,f10,Ie h2 hR g10,g11⟩
abbrev encF(f:FormD):Fs:=.agg [.bool f.on,.bool f.set,.bool f.oth,.bool f.bnd,.bool f.num,.bool f.rdb,.bool f.knw,.int .i64 f.clue]
def Kh{k:Int}(h:k<0\/14<=k):Cm k={}:=by
 unfold Cm;repeat rw[V5 zo]
def p185(k:Int):Pur prog 185 [.int .i64 k] (encF (Cm k)):=by
 refine .mk ⟨trivial,trivial⟩ ⟨trivial,trivial,trivial,trivial,trivial,trivial,trivial,trivial,trivial⟩ (c185.a (AE AI.tnil (AF ?_)));by_cases hk:k<0\/14<=k
 ·have hb:(decide (k<0)||decide (14<=k))=true:=by simpa using hk
  rw[Kh hk];simp only[eZ,seval,Au,c185,hb];exact Wk.refl _
 ·have hb:(decide (k<0)||decide (14<=k))=false:=by simp;omega
  simp only[eZ,seval,Au,c185,hb];have hk2:k=0\/k=1\/k=2\/k=3\/k=4\/k=5\/k=6\/k=7\/k=8\/k=9\/k=10\/k=11\/k=12\/k=13:=zo
  rcases hk2 with rfl|rfl|rfl|rfl|rfl|rfl|rfl|rfl|rfl|rfl|rfl|rfl|rfl|rfl<;>exact⟨zd,zd,rfl,rfl,Wk.refl _⟩
def p140(c:Z5):Pur prog 140 [B0 c] (.bool (Db c)):=by
 refine .mk ⟨D4 0 c,trivial⟩ trivial (c140.a (AE AI.tnil (AF ?_)));unfold Db;by_cases h1:c.ty=1
 ·simp only[eZ,seval,c140,h1]
 by_cases h2:c.ty=2
 ·simp only[eZ,seval,c140,h2]
 by_cases h3:c.ty=3
 ·simp only[eZ,seval,c140,h3]
 simp only[eZ,seval,c140,h1,h2,h3]
def p65(b:Bool)(e:Int):Pur prog 65 [.bool b,.int .i64 e] (.int .i64 (if b=true then 0 else e)):=by
 refine .mk ⟨trivial,trivial,trivial⟩ trivial (c65.a (AE AI.tnil (AF ?_)));cases b<;>simp only[eZ,seval,c65]
def Tsh:Tab:=tadd 185 (s1 dI any1 λk=>encF (Cm k)) tnil
def Tf:AI prog Tsh:=AI.tnil.add (q1 λk _=>p185 k)
def Vn(k:Int):(Cm k).rdb=(decide (1<=k)&&decide (k<=11)):=by
 by_cases hk:k<0\/14<=k
 ·rw[Kh hk];symm;simp;omega
 ·have hk2:k=0\/k=1\/k=2\/k=3\/k=4\/k=5\/k=6\/k=7\/k=8\/k=9\/k=10\/k=11\/k=12\/k=13:=zo
  rcases hk2 with rfl|rfl|rfl|rfl|rfl|rfl|rfl|rfl|rfl|rfl|rfl|rfl|rfl|rfl<;>rfl
def p141(r:Yz):Pur prog 141 [BQ r] (.bool (HJ r)):=by
 refine .mk ⟨Ao 0 r,trivial⟩ trivial (c141.a (AE Tf (AF ?_)));simp only[eE,eN,seval,c141,Tsh,s1,BH,As,encF,tadd];exact Vn r.kind
abbrev ruE1(r:Yz)(on set oth:Bool):Bool:=on !=scmp .neq r.on []||set != !decide (r.set=0)||oth != !decide (r.oth=0)|| !on&& !decide (r.fam=0)|| !set&&decide ((0:Int)<(r.ns.length:Int))|| !oth&&decide ((0:Int)<(r.os.length:Int))
abbrev ruE2(r:Yz)(bnd:Bool):Bool:=bnd !=(decide (1<=r.op)&&decide (r.op<=3))|| !bnd&& !decide (r.op=0)||decide (r.n<0)||decide (65536<r.n)
abbrev ruE3(r:Yz)(bnd num:Bool):Bool:=!(num||bnd&&scmp .eql r.byN [])&& !decide (r.n=0)
def Sf{cl:List Z5}{r:Yz}{on set oth bnd num rdb:Bool}{clue:Int}(hf:Cm r.kind=⟨on,set,oth,bnd,num,rdb,true,clue⟩):
  EY cl r=if ruE1 r on set oth=true then false else if ruE2 r bnd=true then false else if ruE3 r bnd num=true then false else
   if(if(bnd&&scmp .neq r.byN [])=true then 2 else clue)=0 then decide (r.byN=[])&&decide (r.clue= -1)else cluP cl r (if(bnd&&scmp .neq r.byN [])=true then 2 else clue):=by
 unfold EY;rw[hf];have e1:∀(l:List Bs),decide ((0:Int)<(l.length:Int))=decide (0<l.length):=λl=>by
  rw[Wg,Vu,Vu];omega
 simp only[ruE1,ruE2,ruE3,Ap,A4,e1,ne_eq,decide_not,Bool.true_eq_false,Wf];rfl
def p139(d:Z8)(r:Yz):Pur prog 139 [encD d,BQ r] (.bool (EY d.clus r)):=by
 refine .mk ⟨AW 0 d,Ao 0 r,trivial⟩ trivial (c139.a (AE Tf (AF ?_)));cases hf:(Cm r.kind)with
 |mk on set oth bnd num rdb knw clue=>
 cases knw with
 |false=>
  have hR:EY d.clus r=false:=by unfold EY;rw[hf];rfl
  rw[hR];simp only[eZ,seval,V6,c139,Tsh,s1,BH,As,hf,encF,tadd]
 |true=>
 rw[Sf hf];cases h1:ruE1 r on set oth with
 |true=>
  rw[Vv rfl];simp only[eZ,seval,V3,V0,c139,Tsh,s1,BH,As,hf,encF,h1,tadd]
 |false=>
 rw[V5 zd];cases h2:ruE2 r bnd with
 |true=>
  rw[Vv rfl];simp only[eZ,seval,V3,V0,c139,Tsh,s1,BH,As,hf,encF,h1,h2,tadd]
 |false=>
 rw[V5 zd];cases h3:ruE3 r bnd num with
 |true=>
  rw[Vv rfl];simp only[eZ,seval,V3,V0,c139,Tsh,s1,BH,As,hf,encF,h1,h2,h3,tadd]
 |false=>
 rw[V5 zd];cases h4:(bnd&&scmp .neq r.byN [])with
 |true=>
  simp only[WB];rw[V5 zd];by_cases hc:r.clue<0\/(d.clus.length:Int)<=r.clue
  ·have hcb:(decide (r.clue<0)||decide ((d.clus.length:Int)<=r.clue))=true:=by simpa using hc
   have hP:cluP d.clus r 2=false:=by unfold cluP;rw[Vv hc]
   rw[hP];simp only[eZ,seval,V3,V0,c139,Tsh,s1,BH,As,hf,encF,h1,h2,h3,h4,hcb,tadd]
  ·have hcb:(decide (r.clue<0)||decide ((d.clus.length:Int)<=r.clue))=false:=by simp;omega
   obtain⟨j,hj⟩:∃j:Nat,r.clue=(j:Int):=⟨r.clue.toNat,zo⟩;have u9:j<d.clus.length:=zo
   have hg:=V2 u9;generalize d.clus[j]=c at hg;have hP:cluP d.clus r 2=(decide (c.ty=2)&&(decide (2=1)||decide (c.fam=r.fam))):=by
    unfold cluP;(rw[V5 hc,hj,Vy,hg])<;>rfl
   rw[hP];rw[hj]at hcb;simp only[eZ,seval,V3,eY,c139,Tsh,s1,BH,As,hf,encF,h1,h2,h3,h4,hj,hcb,lt_T u9,hg,tadd]
 |false=>
  simp only[W5,Wf];by_cases h5:clue=0
  ·rw[Vv h5];subst h5;simp only[eZ,seval,V3,V0,c139,Tsh,s1,BH,As,hf,encF,h1,h2,h3,h4,tadd];rw[A4]
  ·rw[V5 h5];by_cases hc:r.clue<0\/(d.clus.length:Int)<=r.clue
   ·have hcb:(decide (r.clue<0)||decide ((d.clus.length:Int)<=r.clue))=true:=by simpa using hc
    have hP:cluP d.clus r clue=false:=by unfold cluP;rw[Vv hc]
    rw[hP];simp only[eZ,seval,V3,V0,c139,Tsh,s1,BH,As,hf,encF,h1,h2,h3,h4,Az h5,hcb,tadd]
   ·have hcb:(decide (r.clue<0)||decide ((d.clus.length:Int)<=r.clue))=false:=by simp;omega
    obtain⟨j,hj⟩:∃j:Nat,r.clue=(j:Int):=⟨r.clue.toNat,zo⟩;have u9:j<d.clus.length:=zo
    have hg:=V2 u9;generalize d.clus[j]=c at hg;have hP:cluP d.clus r clue=(decide (c.ty=clue)&&(decide (clue=1)||decide (c.fam=r.fam))):=by
     unfold cluP;(rw[V5 hc,hj,Vy,hg])<;>rfl
    rw[hP];rw[hj]at hcb;simp only[eZ,seval,V3,eY,c139,Tsh,s1,BH,As,hf,encF,h1,h2,h3,h4,Az h5,hj,hcb,lt_T u9,hg,tadd]
def Trd:Tab:=tadd 141 (s1 dRu any1 λr=>.bool (HJ r)) tnil
def Trd_ok:AI prog Trd:=AI.tnil.add (q1 λr _=>p141 r)
structure VU where
 i:Nat
 tk:Zd
 H:AC
 n:Nat
structure IU(rs:List Yz)(v:VU):Prop where
 hi:v.i<=rs.length
 fr:AR v.H v.n
 hn:2<=v.n
 tok:tkG 1 1 v.H v.tk
 es:v.tk.esz=1\/Bc (rs.take v.i)=[]
def Ig(rs:List Yz):(Bc rs).length<=rs.length:=by
 unfold Bc;rw[V0];exact WD (X0 ..) zw
def Ha{rs:List Yz}{i:Nat}(h:i<rs.length):Bc (rs.take (i+1))=Bc (rs.take i)++(if HJ rs[i]=true then[]else[(i:Int)]):=by
 rw[Vx,V2 h];show Bc (rs.take i++[rs[i]])=_;rw[N7,W0,XR zo]
def p75(d:Z8)(hr:few d.ruls):Pur prog 75 [encD d] (eIs (Bc d.ruls)):=by
 refine .mk ⟨AW 0 d,trivial⟩ (Ai 0 _) (c75.a (AE Trd_ok (AF ?_)));have v7:d.ruls.length<1000000000:=hr;simp only[eE,eN,seval,V0,c75];refine AO (λv:VU=>⟨[(2,true,.sl v.tk ((Bc (d.ruls.take v.i)).map eI)),(6,true,eRus d.ruls),(7,true,.int .i64 d.ruls.length),(8,true,.int .i64 v.i)],v.H,v.n⟩) (IU d.ruls) (λv=>d.ruls.length-v.i)
  ⟨0,.nil,hset hnil 0 (.box (AK d)),2⟩ rfl ⟨V8 _,AR.nil.hset (m:=2) (V8 2) (show 0<2 by decide),V4 _,.inl rfl,.inr rfl⟩ ?_
 rintro⟨i,tk,H,n⟩ ⟨hi,d5,hn,c7,d9⟩;simp only at hi d5 hn c7 d9;by_cases c6:i<d.ruls.length
 ·have hg:=V2 c6;have e:=AG (k:=i) zo;have hu:=Ha c6;have hul:=Ig (d.ruls.take i);rw[W0]at hul;generalize d.ruls[i]=r at hg hu;cases u0:HJ r with
  |true=>
   rw[u0,Vv rfl,W9]at hu;simp only[eZ,seval,V3,eY,lt_T c6,hg,fr1 d5,Trd,s1,BV,A7,u0,e,AD,tadd];refine .mk ⟨i+1,tk,hset H (n+3) (.box (A6 r)),n+6⟩ ?_ ⟨c6,d5.hset (m:=n+6) zo zo,zp,c7.set (.inr (.inr (d5 _ zo))),by simp only[hu];exact d9⟩ zp;simp only[hu]
  |false=>
   rw[u0,V5 zd]at hu;have gt:tkG 1 1 (hset H (n+3) (.box (A6 r))) tk:=c7.set (.inr (.inr (d5 _ zo)));have gf:AR (hset H (n+3) (.box (A6 r))) (n+6):=d5.hset (m:=n+6) zo zo;have q1:At (hset H (n+3) (.box (A6 r))) 1 tk=True:=V1 gt.app;have q2:((Bc (d.ruls.take i)).length<=35184372088831)=True:=V1 zo;have q3:small ((Bc (d.ruls.take i)).length+1) 8=True:=V1 (AP zo zd);simp only[eZ,seval,V6,eY,lt_T c6,hg,fr1 d5,Trd,s1,BV,A7,u0,e,AD,q1,q2,q3,tadd];refine .mk ⟨i+1,.own (n+9) 1,hset (AL (hset H (n+3) (.box (A6 r))) tk) (n+9) .tok,n+11⟩ ?_ ⟨c6,(AT gt gf).hset (m:=n+11) zo zo,zp,.inr (.inr ⟨n+9,rfl,zo,AB ..⟩),.inl rfl⟩ zp;simp only[hu,Vt];rfl
 obtain rfl:i=d.ruls.length:=zo
 rw[Vw]at d9;simp only[eZ,seval,lt_F c6,Vw];exact Wk.sl (d9.imp id λq=>by rw[q];rfl)
def Tfm:Tab:=tadd 139 (s2 dD dRu any2 λd r=>.bool (EY d.clus r)) (tadd 140 (s1 dCl any1 λc=>.bool (Db c)) tnil)
def Tfm_ok:AI prog Tfm:=(AI.tnil.add (q1 λc _=>p140 c)).add (q2 λd r _=>p139 d r)
structure VM2 where
 i:Nat
 es:List (Fs×Fs×Nat)
 c:Nat
 H:AC
 n:Nat
structure IM2(d:Z8)(id:Nat)(v:VM2):Prop where
 hi:v.i<=d.ruls.length
 fr:AR v.H v.n
 hn:id<v.n
 h0:hget v.H 0=some (.box (AK d))
 hm:hget v.H id=some (.map v.es v.c)
 ct:Lu (d.ruls.take v.i) v.es
 ok:d.ruls.all (EY d.clus)=(d.ruls.drop v.i).all (EY d.clus)
def Lu.nil:Lu [] []:=⟨trivial,λz=>rfl⟩
def p73(d:Z8)(hd:Z4 d):Pur prog 73 [encD d] (.bool (Bb d)):=by
 refine .mk ⟨AW 0 d,trivial⟩ trivial (c73.a (AE Tfm_ok (AF ?_)));have hsl:d.syms.length<1000000000:=hd.sy;have v7:d.ruls.length<1000000000:=hd.ru;have hcl:d.clus.length<1000000000:=hd.cl;simp only[eE,eN,seval,V0,c73];refine AO (λv:VF=>⟨[(1,true,.ptr 0 0),(11,true,eSys d.syms),(12,true,.int .i64 d.syms.length),(13,true,.int .i64 v.i)],v.H,v.n⟩) (λv=>v.i<=d.syms.length/\AR v.H v.n/\2<=v.n/\hget v.H 0=some (.box (AK d))/\(d.syms.all λs=>decide (0<=s.v)&&decide (s.v<=99))=((d.syms.drop v.i).all λs=>decide (0<=s.v)&&decide (s.v<=99))) (λv=>d.syms.length-v.i)
  ⟨0,hset hnil 0 (.box (AK d)),2⟩ rfl ⟨V8 _,AR.nil.hset (m:=2) (V8 2) (show 0<2 by decide),V4 _,rfl,rfl⟩ ?_
 rintro⟨i,H,n⟩ ⟨hi,d5,hn,h0,hall⟩;simp only at hi d5 hn h0 hall;by_cases c6:i<d.syms.length
 ·have hg:=V2 c6;have e:=AG (k:=i) zo;rw[Wm c6,Xr]at hall;generalize d.syms[i]=s at hg hall;by_cases hs:0<=s.v/\s.v<=99
  ·have hb:(decide (s.v<0)||decide (99<s.v))=false:=by simp;omega
   simp only[eZ,seval,eY,lt_T c6,hg,fr1 d5,e,AD,hb];refine .mk ⟨i+1,hset H (n+2) (.box [.str s.nm,.int .i64 s.v]),n+4⟩ rfl ⟨c6,d5.hset (m:=n+4) zo zo,zp,by simp only[];rw[AA _ _ _ _ zo];exact h0,?_⟩ zp;simp only[];rw[hall,BA hs.1,BA hs.2];rfl
  ·have hb:(decide (s.v<0)||decide (99<s.v))=true:=by simp;omega
   have hR:Bb d=false:=by
    unfold Bb;rw[hall,show(decide (0<=s.v)&&decide (s.v<=99))=false by simp;omega];rfl
   rw[hR];simp only[eZ,seval,eY,lt_T c6,hg,fr1 d5,AD,hb]
 obtain rfl:i=d.syms.length:=zo
 rw[WC]at hall;have y0:(n=0)=False:=Vs zo;simp only[eZ,seval,xE,V0,lt_F c6,h0,fr0 d5,y0];refine AO (λv:VM2=>⟨[(1,true,.ptr 0 0),(5,true,.mp n),(28,true,eRus d.ruls),(29,true,.int .i64 d.ruls.length),(30,true,.int .i64 v.i)],v.H,v.n⟩) (IM2 d n) (λv=>d.ruls.length-v.i)
  ⟨0,[],0,hset H n (.map [] 0),n+2⟩ rfl ⟨V8 _,d5.hset (m:=n+2) zo zo,zp,by simp only[];rw[AA _ _ _ _ zo];exact h0,AB ..,Lu.nil,rfl⟩ ?_
 rintro⟨k,es,c,H1,n1⟩ hI;have hk:=hI.hi;have hfr1:=hI.fr;have j9:=hI.hn;have l0:=hI.h0;have hm:=hI.hm;have w9:=hI.ct;have i5:=hI.ok;simp only at hk hfr1 j9 l0 hm w9 i5;by_cases hlk:k<d.ruls.length
 ·have hg:=V2 hlk;have e:=AG (k:=k) zo;have c7:d.ruls.take (k+1)=d.ruls.take k++[d.ruls[k]]:=by rw[Vx,V2 hlk];rfl
  rw[Wm hlk,Xr]at i5;have y1:∀q,(n1+q=n)=False:=λq=>Vs zo
  have y2:∀q,(n=n1+q)=False:=λq=>Vs zo
  have y3:∀q,(n1+q=0)=False:=λq=>Vs zo
  have y4:∀q,(0=n1+q)=False:=λq=>Vs zo
  generalize d.ruls[k]=r at hg i5 c7;cases hr:EY d.clus r with
  |false=>
   have hR:Bb d=false:=by
    unfold Bb;rw[i5,hr];simp
   rw[hR];simp only[eZ,seval,V6,eY,lt_T hlk,hg,Tfm,s2,A0,Aj,BV,A7,hr,l0,fr1 hfr1,y3,AD,tadd]
  |true=>
  rw[hr,Xs]at i5;have hcl:=TY (d.ruls.take k) r.clue;rw[W0]at hcl;have ew:=AG (k:=cntZ (d.ruls.take k) r.clue) zo;have hq:=w9.2 r.clue;simp only[eZ,seval,V3,xE,eY,lt_T hlk,hg,Tfm,s2,A0,Aj,BV,A7,hr,l0,fr1 hfr1,y1,y3,AD,hm,w9.1,KT.is,CQ,hq,e,ew,tadd];refine .mk ⟨k+1,mset (.int .i64 r.clue) (.int .i64 ((cntZ (d.ruls.take k) r.clue+1:Nat):Int)) c es,(if(BN (Fs.int IntKind.i64 r.clue) es).isSome=true then c else c+1),hset (hset H1 (n1+2) (.box (A6 r))) n (.map (mset (.int .i64 r.clue) (.int .i64 ((cntZ (d.ruls.take k) r.clue+1:Nat):Int)) c es) (if(BN (Fs.int IntKind.i64 r.clue) es).isSome=true then c else c+1)),n1+4⟩ rfl
   ⟨hlk,(hfr1.hset (m:=n1+4) zo zo).hset (V4 (n1+4)) (show n<n1+4 by omega),zp,?_,AB ..,by simp only[];rw[c7];exact w9.next,i5⟩ zp
  simp only[];rw[AA _ _ _ _ zo,AA _ _ _ _ zo];exact l0
 obtain rfl:k=d.ruls.length:=zo
 rw[WC]at i5;rw[Vw]at w9;simp only[eZ,seval,V0,lt_F hlk,l0];refine AO (λv:VF=>⟨[(5,true,.mp n),(45,true,eCls d.clus),(46,true,.int .i64 d.clus.length),(47,true,.int .i64 v.i)],v.H,v.n⟩) (λv=>v.i<=d.clus.length/\AR v.H v.n/\n<v.n/\hget v.H n=some (.map es c)/\∀j (h:j<d.clus.length),j<v.i->D2 d.ruls j=1/\Db d.clus[j]=true) (λv=>d.clus.length-v.i)
  ⟨0,H1,n1⟩ rfl ⟨V8 _,hfr1,j9,hm,λj h q=>absurd q (WE _)⟩ ?_
 rintro⟨j,H2,n2⟩ ⟨hj,hfr2,hn2,hm2,l6⟩;simp only at hj hfr2 hn2 hm2 l6;by_cases i4:j<d.clus.length
 ·have hg:=V2 i4;have e:=AG (k:=j) zo;have y1:∀q,(n2+q=n)=False:=λq=>Vs zo
  have y2:∀q,(n=n2+q)=False:=λq=>Vs zo
  have hq:=w9.2 (j:Int);rw[M5]at hq;have j7:¬(D2 d.ruls j=1/\Db d.clus[j]=true)->Bb d=false:=λq=>by
   unfold Bb;rw[hall,i5];cases q1:((List.range d.clus.length).all λi=>decide (D2 d.ruls i=1))with
   |false=>rfl
   |true=>
   cases q2:d.clus.all Db with
   |false=>rfl
   |true=>exact absurd ⟨Wn (W4.1 q1 j (Wy.2 i4)),W4.1 q2 _ (W1 i4)⟩ q
  have o6:D2 d.ruls j=1/\Db d.clus[j]=true->∀q (h:q<d.clus.length),q<j+1->D2 d.ruls q=1/\Db d.clus[q]=true:=λz q h hq=>by
   by_cases w:q=j
   ·subst w;exact z
   ·exact l6 q h zo
  generalize hx:d.clus[j]=x at hg j7 o6;by_cases hmc:D2 d.ruls j=1
  ·have hmb:(((D2 d.ruls j:Nat):Int)=1)=True:=V1 zo;cases hc:Db x with
   |false=>
    rw[j7 (by rw[hc];simp)];simp only[eZ,seval,V3,V6,xE,eY,lt_T i4,hg,Tfm,s1,GH,Ec,hc,fr1 hfr2,y1,AD,hm2,w9.1,KT.is,CQ,hq,hmb,tadd]
   |true=>
    simp only[eZ,seval,V3,xE,eY,lt_T i4,hg,Tfm,s1,GH,Ec,hc,fr1 hfr2,y1,AD,hm2,w9.1,KT.is,CQ,hq,e,hmb,tadd];refine .mk ⟨j+1,hset H2 (n2+3) (.box (B0 x).cells),n2+6⟩ rfl ⟨i4,hfr2.hset (m:=n2+6) zo zo,zp,?_,o6 ⟨hmc,hc⟩⟩ zp;simp only[];rw[AA _ _ _ _ zo];exact hm2
  ·have hmb:(((D2 d.ruls j:Nat):Int)=1)=False:=Vs zo;rw[j7 (λq=>hmc q.1)];simp only[eZ,seval,V3,V6,xE,eY,lt_T i4,hg,Tfm,s1,GH,Ec,fr1 hfr2,y1,AD,hm2,w9.1,KT.is,CQ,hq,hmb,tadd]
 obtain rfl:j=d.clus.length:=zo
 have hR:Bb d=true:=by
  have z2:d.clus.all Db=true:=W4.2 λq hq=>by
   obtain⟨m,hm,rfl⟩:=WP.1 hq;exact(l6 m hm hm).2
  unfold Bb;rw[hall,i5,W4.2 λq hq=>Wo (l6 q (Wy.1 hq) (Wy.1 hq)).1,z2];rfl
 rw[hR];simp only[eZ,seval,lt_F i4]
section
abbrev clV(q:Nat):Fs:=.fn (.func 183) [] [.ptr q 0]
abbrev eApp(q c:Nat):List (Nat×Bool×Fs):=[(2,true,.ptr c 0),(4,true,.sl .nil []),(6,true,clV q)]
structure AppF(q c L l':Nat)(H0:AC)(n0:Nat)(qs:List Int)(H:AC)(m:Nat):Prop where
 fr:AR H m
 lc:n0<=c
 cl:c<L
 lm:L<m
 hc:∃lv,hget H c=some (.box [lv])/\LvG eI 1 (L+1) H lv qs
 hL:hget H L=some (.lp ⟨l',.ready,none,13,eApp q c, #[7],EV,EW⟩)
 kp:∀id ob,id<n0->hget H0 id=some ob->hget H id=some ob
variable {H:AC} {l:List Int} {q n:Nat}
theorem y_app{c L l':Nat}{H0:AC}{n0:Nat}{qs:List Int}{m:Nat}(F:AppF q c L l' H0 n0 qs H m)(x:Int)(hs:qs.length<1000000000){R:Bool->AC->Nat->Prop}
  (hR:∀H' m',AppF q c L l' H0 n0 (qs++[x]) H' m'->R true H' m'):B2 prog l' [eI x] H m R:=by
 obtain⟨fr,lc,cl,lm,⟨lv,hc,hlv⟩,hL,kp⟩:=F;refine TQ hL rfl (AE AI.tnil (AF ?_));simp only[eE,eN,seval,JH,renv,XN,XY,X3,Yk];refine⟨_,hL,rfl,AE AI.tnil (AF ?_)⟩;have y1:∀k,(L=m+k)=False:=λk=>Vs zo
 have y2:(L=c)=False:=Vs zo;have y3:(c=L)=False:=Vs zo;simp only[eE,seval,JG,hc,y2];have g1:∀k,hget (hset H L (.lp ⟨l',.busy,none,13,eApp q c, #[7],EV,EW⟩)) (m+k)=none:=λk=>by rw[AA _ _ _ _ zo];exact fr1 fr k
 refine JK (enc:=eI) (lo:=L+1) (qs:=qs) (z0:=0) ?_ rfl zd rfl rfl (AP zo zd) (g1 3) zo zo ?_
 ·rcases hlv with h|⟨hne,id,rest,h1,h2,h3⟩
  ·exact .inl h
  ·exact .inr ⟨hne,id,rest,h1,h2,by rw[AA _ _ _ _ zo];exact h3⟩
 intro id rest hlo d7;have hidm:id<m+5:=by
  rcases d7 with rfl|⟨Z,h⟩
  ·omega
  ·apply Classical.byContradiction;intro z;obtain⟨k,rfl⟩:∃k,id=m+k:=⟨id-m,zo⟩;rw[g1]at h;cases h
 have z1:(id=L)=False:=Vs zo;have z2:(id=c)=False:=Vs zo;have z3:(L=id)=False:=Vs zo;have z4:(c=id)=False:=Vs zo;have hidn:¬id<n0:=zo
 simp only[eE,eN,seval,DF,z2,y2,hc];refine⟨⟨l',.busy,none,13,eApp q c, #[7],EV,EW⟩,by simp only[AJ,y3,z1,Wf,WB],hR _ _ ⟨?_,lc,cl,zp,⟨_,by simp only[AJ,y2,Wf,WB],.inr ⟨zw,id,rest,rfl,hlo,by simp only[AJ,z3,z4,Wf,WB]⟩⟩,by simp only[AJ,WB],?_⟩⟩
 ·intro j hj;have x7:m+5<=j:=hj;simp only[AJ];repeat rw[V5 zo]
  exact fr j zo
 ·intro j ob hj h0;simp only[AJ];repeat rw[V5 zo]
  exact kp j ob hj h0
theorem Sg(hf:AR H n)(hq:hget H q=some (.box [eIs l]))(hl:few l):
  AN prog 214 [.sl .nil [],clV q] H n λo H' n'=>∃lv,o= .ret lv/\LvG eI 1 (n+3) H' lv l/\AR H' n'/\n<=n'/\∀id ob,id<n->hget H id=some ob->hget H' id=some ob:=by
 have m6:l.length<1000000000:=hl;have hqn:=hf.lt hq;refine a214 (AE AI.tnil (AF ?_));simp only[eE,eN,seval,c214,fr0 hf,Fw];intro l';generalize hH1:hset (hset H n (.box [.sl .nil []])) (n+2) _=H1;have hq1:hget H1 q=some (.box [eIs l]):=by
  subst hH1;simp only[AJ];repeat rw[V5 zo]
  exact hq
 have F0:AppF q n (n+2) l' H n [] H1 (n+3):=by
  subst hH1;refine⟨λj hj=>?_,V4 _,zo,zo,⟨.sl .nil [],?_,.inl ⟨rfl,rfl⟩⟩,AB ..,λj ob hj h0=>?_⟩
  ·simp only[AJ];repeat rw[V5 zo]
   exact hf j zo
  ·simp only[AJ];rw[V5 zo,Vv trivial]
  ·simp only[AJ];repeat rw[V5 zo]
   exact h0
 clear hH1;refine c183.a (AE AI.tnil (AF ?_));simp only[eE,eN,seval,V0,c183,hq1];refine AO (λv:VF=>⟨[(0,true,.fn (.yield l') [] []),(5,true,eIs l),(6,true,.int .i64 l.length),(7,true,.int .i64 v.i)],v.H,v.n⟩) (λv=>v.i<=l.length/\n+3<=v.n/\AppF q n (n+2) l' H n (l.take v.i) v.H v.n) (λv=>l.length-v.i)
  ⟨0,H1,n+3⟩ rfl ⟨V8 _,V4 _,F0⟩ ?_
 rintro⟨i,H2,m⟩ ⟨hi,hm,F⟩;simp only at hi hm F;by_cases c6:i<l.length
 ·have hg:=V2 c6;have e:=AG (k:=i) zo;have c7:l.take (i+1)=l.take i++[l[i]]:=by rw[Vx,V2 c6];rfl
  generalize l[i]=x at hg c7;simp only[eZ,seval,eY,lt_T c6,hg];refine y_app F x (by rw[W0];omega) λH' m' F'=>?_
  simp only[eZ,seval,V3,yldK,e];exact .mk ⟨i+1,H',m'⟩ rfl ⟨c6,by have:=F'.lm;simp only[];omega,by simp only[];rw[c7];exact F'⟩ zp
 obtain rfl:i=l.length:=zo
 rw[Vw]at F;obtain⟨fr,lc,cl,lm,⟨lv,hc,hlv⟩,hL,kp⟩:=F;have y1:(n+2=n)=False:=Vs zo;simp only[eZ,seval,lt_F c6,Gl,hL,hc,y1];refine⟨lv,rfl,?_,fr.hset (V4 m) (show n+2<m by omega),zo,λid ob d7 h0=>by rw[V5 zo];exact kp id ob d7 h0⟩;rcases hlv with h|⟨hne,id,rest,h1,h2,h3⟩
 ·exact .inl h
 ·exact .inr ⟨hne,id,rest,h1,h2,by rw[AA _ _ _ _ zo];exact h3⟩
theorem t_coll(hf:AR H n)(hq:hget H q=some (.box [eIs l]))(hl:few l):
  AN prog 182 [clV q] H n λo H' n'=>∃lv,o= .ret lv/\LvG eI 1 (n+3) H' lv l/\AR H' n'/\n<=n'/\∀id ob,id<n->hget H id=some ob->hget H' id=some ob:=by
 refine c182.a (AE AI.tnil (AF ?_));simp only[eE,eN,seval,c182];refine(Sg hf hq hl).mono ?_;rintro o H' n' ⟨lv,rfl,h1,h2,h3,h4⟩;simp only[eE,eN,seval,retK];exact⟨lv,rfl,h1,h2,h3,h4⟩
theorem Lx:AN prog 146 [.sl .nil []] H n λo H' n'=>o= .ret (.tup [])/\H'=H/\n'=n:=by
 refine⟨lSort,λg w vs hR hv=>?_⟩;obtain⟨v,r,rfl,k1,k2⟩:=hv;have k2':r=[]:=k2;subst k2';have hv:∃p cap,v= .slice p 0 cap:=by
  rcases k1 with⟨-,rfl,-⟩|⟨-,b,o,cap,⟨sp,rfl,hsp⟩,hc,hst,-⟩
  ·exact⟨_,_,rfl⟩
  ·exact⟨_,_,rfl⟩
 obtain⟨p,cap,rfl⟩:=hv;refine(slices_Sort_int_none p cap w).mono ?_;rintro e w' ⟨rfl,rfl⟩;exact⟨g,.ret (.tup []),H,n,⟨rfl,rfl,rfl⟩,⟨_,rfl,rfl⟩,hR,V4 _,Yv.refl _ _ _ _⟩
def SrA(ob:List Fs->Z7)(H:AC)(l:List Int):Zb->AC->Nat->Prop:=λo H' n'=>
 Ce H H'/\((l=[]/\o= .ret (.sl .nil []))\/l≠[]/\∃id rest,o= .ret (.ref id 1 0 l.length (l.length+rest.length))/\hget H id=none/\hget H' id=some (ob ((l.mergeSort leI++rest).map eI)))
theorem DJ(l:List Int):(l.mergeSort leI).length=l.length:=List.length_mergeSort ..
theorem t_srtd(hf:AR H n)(hq:hget H q=some (.box [eIs l]))(hl:few l):
  AN prog 135 [clV q] H n (QRet H (eIs (l.mergeSort leI))):=by
 have m6:l.length<1000000000:=hl;refine AN.out (AN.seal (R:=SrA (.arr 1) H l) (R':=SrA (.frz 1) H l) (c135.a (AE AI.tnil (AF ?_))) ?_) ?_
 ·simp only[eE,eN,seval,c135];refine(t_coll hf hq hl).mono ?_;rintro o H1 n1 ⟨lv,rfl,hlv,e9,j9,hk⟩;simp only[eE,eN,seval,retK];have hK:Ce H H1:=λid ob h0=>hk id ob (hf.lt h0) h0
  rcases hlv with⟨rfl,rfl⟩|⟨hne,id,rest,rfl,h2,h3⟩
  ·refine Lx.mono ?_;rintro o H2 n2 ⟨rfl,rfl,rfl⟩;simp only[eE,eN,seval,retK];exact⟨hK,.inl ⟨rfl,rfl⟩⟩
  ·refine(M6 h3 zw m6).mono ?_;rintro o H2 n2 ⟨rfl,rfl,rfl⟩;rw[Yl,List.drop_left];simp only[eE,eN,seval,retK];refine⟨λi ob h0=>?_,.inr ⟨hne,id,rest,rfl,hf _ zo,AB ..⟩⟩;rw[AA _ _ _ _ (λe=>by subst e;rw[hf _ zo]at h0;cases h0)];exact hK i ob h0
 ·rintro o H' n' ⟨hK,h⟩;rcases h with h|⟨hne,id,rest,h1,h2,h3⟩
  ·exact .inl ⟨hK,.inl h⟩
  ·refine .inr ⟨id,1,_,h3,λi ob h0=>?_,.inr ⟨hne,id,rest,h1,h2,AB ..⟩⟩;rw[AA _ _ _ _ (λe=>by subst e;rw[h2]at h0;cases h0)];exact hK i ob h0
 ·rintro o H' n' ⟨hK,h⟩;refine⟨.ret (eIs (l.mergeSort leI)),⟨⟨_,rfl,Wk.refl _⟩,hK⟩,λg w e hR he=>?_⟩;have hL:∃lv,o= .ret lv/\LF 1 lv H' ((l.mergeSort leI).map eI):=by
   rcases h with⟨rfl,rfl⟩|⟨hz,id,rest,rfl,h2,h3⟩
   ·exact⟨_,rfl,.inl ⟨zw,_,rfl,.inl rfl⟩⟩
   ·refine⟨_,rfl,?_⟩;have hl2:=DJ l;refine .inr ⟨λq=>hz (by rw[List.map_eq_nil_iff]at q;rw[q]at hl2;exact X1.1 hl2.symm),id,l.length+rest.length,rest.map eI,by rw[V0,hl2],by rw[h3,Vt],by simp [hl2]⟩
  obtain⟨lv,rfl,hL⟩:=hL;cases e with
  |returned v=>exact Ie hL hR he
  |panicked c=>exact he.elim
  |outgrown=>exact he.elim
theorem t_vals(hf:AR H n):AN prog 136 [eIs l] H n λo H' n'=>o= .ret (clV n)/\H'=hset H n (.box [eIs l])/\n'=n+2:=by
 refine c136.a (AE AI.tnil (AF ?_));simp only[eE,eN,seval,c136,fr0 hf]
end
section
abbrev srt(l:List Int):List Int:=l.mergeSort leI
def JL(ls:List (List Int))(j:Nat)(x:List Int):Bool:=((ls.take j).map srt).contains (srt x)
def Si{ls:List (List Int)}(hn:∀l∈ls,l.Nodup){j:Nat}(hj:j<ls.length)(h:JL ls j ls[j]=true):Bg ls=true:=by
 unfold JL at h;rw[WA,WL]at h;obtain⟨y,hy,e⟩:=h;obtain⟨b,hb,rfl⟩:=WP.1 hy;rw[W0]at hb;rw[List.getElem_take]at e;refine Fk.2 ⟨j,b,hj,zo,zo,?_⟩;rw[IY (hn _ (W1 _)) (hn _ (W1 _)),Vu];exact e.symm
def Q0{ls:List (List Int)}(hn:∀l∈ls,l.Nodup)(h:∀j (hj:j<ls.length),JL ls j ls[j]=false):Bg ls=false:=by
 cases q:Bg ls with
 |false=>rfl
 |true=>
  obtain⟨a,b,ha,hb,hab,h2⟩:=Fk.1 q;rw[IY (hn _ (W1 _)) (hn _ (W1 _)),Vu]at h2;have:=h a ha;unfold JL at this;rw[<-Bool.not_eq_true,WA,WL]at this;exact absurd ⟨ls[b],WP.2 ⟨b,by rw[W0];omega,by rw[List.getElem_take]⟩,h2.symm⟩ this
def Sj(o:Option Z7):Prop:=∃x:List Int,few x/\o=some (.box [eIs x])
def NA:Option Z7->List Int
 |some (.box [.sl _ L])=>L.map toI
 |_=>[]
variable {x:List Int}
theorem FJ(h:few x):Sj (some (.box [eIs x]))=True:=V1 ⟨x,h,rfl⟩
theorem DV(x:List Int):NA (some (.box [eIs x]))=x:=Dk x
def sSr:List Fs->AC->Prop×Fs:=λa H=>match a with
 |[.fn (.func f) [] [.ptr q 0]]=>(f=183/\Sj (hget H q),eIs (srt (NA (hget H q))))
 |_=>(False,.tup [])
theorem qSr:∀args H n,(sSr args H).1->Ab prog 135 args H n (sSr args H).2:=by
 intro args H n hh;unfold sSr at hh⊢;split at hh
 ·rename_i f q;obtain⟨rfl,x,hx,h0⟩:=hh;simp only[h0,DV];exact Ab.of c135.l (Ai n _) λhf=>t_srtd hf h0 hx
 ·exact hh.elim
def sR1:List Fs->AC->Prop×Fs:=λa H=>match a with
 |[y,.ptr q 0]=>(dIs.ok y/\wide (dIs.dec y)/\Sj (hget H q),.bool (decide (NA (hget H q)=dIs.dec y)))
 |_=>(False,.tup [])
def Teq:Tab:=tadd 45 (s2 dIs dIs (λ_ b=>wide b) (λa b=>.bool (decide (a=b)))) tnil
theorem Teq_ok:AI prog Teq:=AI.tnil.add (q2 p45)
theorem qR1:∀args H n,(sR1 args H).1->Ab prog 138 args H n (sR1 args H).2:=by
 intro args H n hh;unfold sR1 at hh⊢;split at hh
 ·rename_i y q;obtain⟨h1,h2,x,hx,h0⟩:=hh;simp only[h0,DV];refine Ab.of c138.l trivial λhf=>c138.a (AE Teq_ok (AF ?_))
  simp only[eE,eN,seval,c138,h0,Teq,s2,Al,AZ,V1 h1,V1 h2,tadd];exact λ_ _ h=>h
 ·exact hh.elim
abbrev clR(q:Nat):Fs:=.fn (.func 138) [] [.ptr q 0]
def Tr1:Tab:=tadd 138 sR1 tnil
theorem Tr1_ok:AI prog Tr1:=AI.tnil.add qR1
def idxL(met:List (List Int))(x:List Int):Int:=match met.findIdx? (λy=>decide (x=y))with
 |some k=>(k:Int)
 |none=>-1
theorem q_ifLi{H:AC}{n q:Nat}{met:List (List Int)}(hm:Bm met)(hx:few x)(h0:hget H q=some (.box [eIs x])):Ab prog 184 [eLl met,clR q] H n (.int .i64 (idxL met x)):=by
 refine Ab.of c184.l trivial λhf=>c184.a (AE Tr1_ok (AF ?_))
 have hml:met.length<1000000000:=hm.1;simp only[eE,eN,seval,V0,c184];refine AO (λi:Nat=>⟨[(0,true,eLl met),(1,true,clR q),(7,true,.int .i64 met.length),(8,true,.int .i64 i)],H,n⟩) (λi=>i<=met.length/\∀j (h:j<met.length),j<i->¬x=met[j]) (λi=>met.length-i)
  0 rfl ⟨V8 _,λj _ h=>absurd h (WE _)⟩ ?_
 rintro i ⟨hi,hb⟩;by_cases c6:i<met.length
 ·have hg:=V2 c6;have e:=AG (k:=i) zo;have hyf:=hm.2 _ (W1 c6);generalize hy:met[i]=y at hg hyf;by_cases i6:x=y
  ·have hR:idxL met x=i:=by
    unfold idxL;rw[X9.2 ⟨c6,by simpa [hy]using i6,λj hj=>by simpa using hb j zo hj⟩]
   rw[hR];simp only[eZ,seval,eY,lt_T c6,hg,Tr1,sR1,h0,FJ hx,DV,Al,AZ,V1 hyf,BA i6,tadd];exact λ_ _ h=>h
  ·simp only[eZ,seval,eY,lt_T c6,hg,e,Tr1,sR1,h0,FJ hx,DV,Al,AZ,V1 hyf,Az i6,tadd];refine .mk (i+1) rfl ⟨c6,λj hj h=>?_⟩ zo;by_cases z:j=i
   ·subst z;rw[hy];exact i6
   ·exact hb j hj zo
 obtain rfl:i=met.length:=zo
 have hR:idxL met x= -1:=by
  unfold idxL;rw[Y5.2 λy hy=>by
   obtain⟨j,hj,rfl⟩:=WP.1 hy;simpa using hb j hj hj]
 rw[hR];simp only[eZ,seval,lt_F c6];exact λ_ _ h=>h
theorem idx_in(met:List (List Int))(x:List Int):decide (0<=idxL met x)=met.contains x:=by
 rw[Wg,Vu,WA];unfold idxL;cases h:met.findIdx? (λy=>decide (x=y))with
 |none=>
  rw[Y5]at h;constructor
  ·intro q;simp at q
  ·intro q;have:=h x q;simp at this
 |some k=>
  obtain⟨h1,h2,-⟩:=X9.1 h;constructor
  ·intro _;have:=Wn h2;rw[this];exact W1 _
  ·intro _;simp
def sIf(f:List (List Int)->List Int->Fs):List Fs->AC->Prop×Fs:=λa H=>match a with
 |[y,.fn (.func g) [] [.ptr q 0]]=>(dLl.ok y/\Bm (dLl.dec y)/\g=138/\Sj (hget H q),f (dLl.dec y) (NA (hget H q)))
 |_=>(False,.tup [])
theorem q_sIf{f:List (List Int)->List Int->Fs}{fid:FuncId}(h:∀{H:AC} {n q:Nat} {met:List (List Int)} {x:List Int},Bm met->few x->hget H q=some (.box [eIs x])->Ab prog fid [eLl met,clR q] H n (f met x)):∀args H n,(sIf f args H).1->Ab prog fid args H n (sIf f args H).2:=by
 intro args H n hh;unfold sIf at hh⊢;split at hh
 ·rename_i y g q;obtain⟨h1,h2,rfl,x,hx,h0⟩:=hh;simp only[h0,DV];refine AN.args (h (n:=n) h2 hx h0) ?_;rintro g vs ⟨v,r,rfl,k1,k2⟩;exact⟨v,_,rfl,dLl.wk _ h1 _ _ k1,k2⟩
 ·exact hh.elim
abbrev fIf(met:List (List Int))(x:List Int):Fs:=.int .i64 (idxL met x)
abbrev fCf(met:List (List Int))(x:List Int):Fs:=.bool (met.contains x)
def Tr2:Tab:=tadd 184 (sIf fIf) tnil
theorem Tr2_ok:AI prog Tr2:=AI.tnil.add (q_sIf λh1 h2 h3=>q_ifLi h1 h2 h3)
theorem Q1{t:Zd}{l:List (List Int)}(ht:t.esz=1\/l=[]):dLl.ok (.sl t (l.map eIs))=True:=HO Dl ht
theorem NC{t:Zd}(l:List (List Int)):dLl.dec (.sl t (l.map eIs))=l:=FH Dl
theorem q_cfLi{H:AC}{n q:Nat}{met:List (List Int)}(hm:Bm met)(hx:few x)(h0:hget H q=some (.box [eIs x])):Ab prog 137 [eLl met,clR q] H n (fCf met x):=by
 refine Ab.of c137.l trivial λhf=>c137.a (AE Tr2_ok (AF ?_))
 simp only[eE,eN,seval,c137,Tr2,sIf,h0,FJ hx,DV,CM,Bl,V1 hm,idx_in,tadd];exact λ_ _ h=>h
def Trg:Tab:=tadd 88 (s2 dGd dLl (λg l=>Ak g.sh g.w g.h g.holes=some g.cells/\few g.holes/\Bm l) λg l=>rgsV g.cells l) (tadd 137 (sIf fCf) (tadd 135 sSr tnil))
theorem Trg_ok:AI prog Trg:=((AI.tnil.add qSr).add (q_sIf λh1 h2 h3=>q_cfLi h1 h2 h3)).add (q2 λg l h=>p88 g l h.1 h.2.1 h.2.2)
structure VRm where
 j:Nat
 tk:Zd
 H:AC
 n:Nat
structure IRm(g:Zc)(r:Z6)(v:VRm):Prop where
 hj:v.j<=r.ls.length
 fr:AR v.H v.n
 hn:3<=v.n
 h1:hget v.H 1=some (.box (AH g.sh g.w g.h g.holes g.cells))
 tok:tkG 1 2 v.H v.tk
 es:v.tk.esz=1\/(r.ls.take v.j).map srt=[]
 no:∀k (hk:k<r.ls.length),k<v.j->JL r.ls k r.ls[k]=false
theorem p71(d:Z8)(g:Zc)(hd:Z4 d)(hG:Ak g.sh g.w g.h g.holes=some g.cells)(hh:few g.holes):Pur prog 71 [encD d,Bu g] (.int .i64 (Cx g.cells d.regs)):=by
 refine .mk ⟨AW 0 d,Ar 0 ..,trivial⟩ trivial (c71.a (AE Trg_ok (AF ?_)));have v7:d.regs.length<1000000000:=hd.rg;simp only[eE,eN,seval,V0,c71];refine AO (λv:VF=>⟨[(3,true,.ptr 1 0),(14,true,eRgs d.regs),(15,true,.int .i64 d.regs.length),(16,true,.int .i64 v.i)],v.H,v.n⟩) (λv=>v.i<=d.regs.length/\AR v.H v.n/\3<=v.n/\hget v.H 1=some (.box (AH g.sh g.w g.h g.holes g.cells))/\Cx g.cells d.regs=Cx g.cells (d.regs.drop v.i)) (λv=>d.regs.length-v.i)
  ⟨0,hset (hset hnil 0 (.box (AK d))) 1 (.box (AH g.sh g.w g.h g.holes g.cells)),3⟩ rfl ⟨V8 _,(AR.nil.hset (m:=3) (V8 3) (show 0<3 by decide)).hset (V4 3) (show 1<3 by decide),V4 _,rfl,rfl⟩ ?_
 rintro⟨i,H,n⟩ ⟨hi,d5,hn,h1,heq⟩;simp only at hi d5 hn h1 heq;by_cases c6:i<d.regs.length;case neg=>
  obtain rfl:i=d.regs.length:=zo
  rw[WC]at heq;rw[heq];simp only[eZ,seval,lt_F c6];rfl
 have hg:=V2 c6;have e:=AG (k:=i) zo;have hrf:Lr d.regs[i]:=hd.rgs _ (W1 c6);rw[KY _ _ _ c6]at heq;generalize d.regs[i]=r at hg hrf heq;have y1:∀q,(n+q=1)=False:=λq=>Vs zo
 have hc:=V1 (⟨hG,hh,hrf⟩:Ak g.sh g.w g.h g.holes=some g.cells/\few g.holes/\Bm r.ls);by_cases hb:(decide (r.ls.length<=64)&&r.ls.all (DU g.cells))=true;case neg=>
  have hv:rgsV g.cells r.ls= .tup [eLl [],.int .i64 130]:=V5 hb;have hE:regE g.cells r=130:=Vv (by simpa using hb);rw[hE,V5 zd]at heq;rw[heq];simp only[eZ,seval,V6,eY,lt_T c6,hg,fr1 d5,h1,y1,Trg,s2,Es,Co,CM,Bl,hc,hv,tadd]
 have hv:rgsV g.cells r.ls= .tup [eLl (r.ls.map (BO g.cells)),.int .i64 0]:=Vv hb;obtain⟨hb1,l5⟩:=(V7 _ _).mp hb;have hb1:=Wn hb1;have m0:∀l∈r.ls,l.Nodup:=λl hl=>(Ee (W4.1 l5 l hl)).1
 have hregE:regE g.cells r=if Bg r.ls=true then 161 else 0:=by unfold regE;rw[hb,V5 zd]
 simp only[eZ,seval,V3,eY,lt_T c6,hg,fr1 d5,h1,y1,Trg,s2,Es,Co,CM,Bl,hc,hv,AD,tadd];refine AO (λv:VRm=>⟨[(3,true,.ptr 1 0),(9,true,.sl v.tk (((r.ls.take v.j).map srt).map eIs)),(14,true,eRgs d.regs),(15,true,.int .i64 d.regs.length),(16,true,.int .i64 i),(31,true,eLl r.ls),(32,true,.int .i64 r.ls.length),(33,true,.int .i64 v.j)],v.H,v.n⟩) (IRm g r) (λv=>r.ls.length-v.j)
  ⟨0,.nil,hset H (n+2) (.box [.str r.nm,eLl r.ls]),n+4⟩ rfl ⟨V8 _,d5.hset (m:=n+4) zo zo,zp,by simp only[];rw[AA _ _ _ _ zo];exact h1,.inl rfl,.inr rfl,λk _ h=>absurd h (WE _)⟩ ?_
 rintro⟨j,tk,H1,n1⟩ hI;have hj:=hI.hj;have e9:=hI.fr;have j9:=hI.hn;have h11:=hI.h1;have c7:=hI.tok;have d9:=hI.es;have i7:=hI.no;simp only at hj e9 j9 h11 c7 d9 i7;by_cases i4:j<r.ls.length
 ·have s6:=V2 i4;have ej:=AG (k:=j) zo;have hlf:few r.ls[j]:=by
   obtain⟨q1,-,q3⟩:=Ee (W4.1 l5 _ (W1 i4));have h1:=HV q1 q3;have h2:=(Ax hG).2.1;show r.ls[j].length<_;omega
  have o7:=map_take (f:=srt) i4;have hhit:=λq=>Si m0 i4 q
  have hnx:JL r.ls j r.ls[j]=false->∀k (hk:k<r.ls.length),k<j+1->JL r.ls k r.ls[k]=false:=λq k hk h=>by
   by_cases z:k=j
   ·subst z;exact q
   ·exact i7 k hk zo
  generalize r.ls[j]=l at s6 hlf o7 hhit hnx;have hmf:Bm ((r.ls.take j).map srt):=⟨show((r.ls.take j).map srt).length<_ by rw[V0,W0];omega,λx hx=>by
   obtain⟨y,hy,rfl⟩:=WL.1 hx;show(srt y).length<_;rw[DJ];exact hrf.2 _ (Y1 hy)⟩
  have hsf:few (srt l):=show(srt l).length<_ by rw[DJ];exact hlf
  have z1:∀q,(n1+q=1)=False:=λq=>Vs zo
  have hmb:((r.ls.take j).map srt).contains (srt l)=JL r.ls j l:=rfl;simp only[eZ,seval,eY,lt_T i4,s6];refine(t_vals (n:=n1+5) λj hj=>e9 j zo).mono ?_;rintro o H2 n2 ⟨rfl,rfl,rfl⟩;cases hb3:JL r.ls j l with
  |true=>
   rw[hregE,hhit hb3,Vv rfl,V5 zd]at heq;rw[heq];simp only[eZ,seval,retK,Trg,sSr,FJ hlf,DV,fr1 e9,sIf,FJ hsf,Q1 d9,NC,V1 hmf,hmb,hb3,AD,tadd]
  |false=>
   have gt:tkG 1 2 (hset (hset H1 (n1+5) (.box [eIs l])) (n1+3) (.box [eIs (srt l)])) tk:=(c7.set (.inr (.inr (fr1 e9 5)))).set (.inr (.inr (by rw[AA _ _ _ _ zo];exact fr1 e9 3)));have gf:AR (hset (hset H1 (n1+5) (.box [eIs l])) (n1+3) (.box [eIs (srt l)])) (n1+12):=(e9.hset (m:=n1+12) zo zo).hset (m:=n1+12) zo zo;have q1:At (hset (hset H1 (n1+5) (.box [eIs l])) (n1+3) (.box [eIs (srt l)])) 1 tk=True:=V1 gt.app;have q2:((r.ls.take j).length<=35184372088831)=True:=V1 (by rw[W0];omega);have q3:small ((r.ls.take j).length+1) 24=True:=V1 (AP (by rw[W0];omega) zd);simp only[eZ,seval,V0,retK,Trg,sSr,FJ hlf,DV,fr1 e9,sIf,FJ hsf,Q1 d9,NC,V1 hmf,hmb,hb3,AD,q2,q3,q1,ej,tadd];refine .mk ⟨j+1,.own (n1+10) 1,hset (AL (hset (hset H1 (n1+5) (.box [eIs l])) (n1+3) (.box [eIs (srt l)])) tk) (n1+10) .tok,n1+12⟩ ?_ ⟨i4,(AT gt gf).hset (V4 _) (show n1+10<n1+12 by omega),zp,?_,.inr (.inr ⟨n1+10,rfl,zo,AB ..⟩),.inl rfl,hnx hb3⟩ zp
   ·simp only[o7,Vt];rfl
   ·simp only[];rw[AA _ _ _ _ zo,AX gt (.inl zo),AA _ _ _ _ zo,AA _ _ _ _ zo];exact h11
 obtain rfl:j=r.ls.length:=zo
 rw[hregE,Q0 m0 λj hj=>i7 j hj hj]at heq;simp only[eZ,seval,lt_F i4,e];exact .mk ⟨i+1,H1,n1⟩ rfl ⟨c6,e9,j9,h11,heq⟩ zp
end
section
def whn(b:Bool)(e:Int):Int:=if b=true then 0 else e
def OC(d:Z8):Int:=whn (limD d) 2
def Ly(d:Z8):Int:=match resD d with
 | .error e=>e
 | .ok x=>whn (decide (x=d)) 170
def OD(d:Z8):Int:=whn (decide (1<=d.ver)&&decide (d.ver<=255)) 170
def OE(d:Z8):Int:=match Ak d.sh d.w d.h d.holes with
 |some _=>0
 |none=>130
def OF(d:Z8):Int:=whn (Bb d) 170
def Q2(d:Z8):Int:=whn (decide (Bc d.ruls=[])) 171
def Dd{d:Z8}{e:Int}(h:resD d= .error e):e≠0:=by
 unfold resD at h
 rintro rfl
 repeat' split at h
 all_goals simp at h
def dB:Dc Bool:=⟨.bool,toB,λv=>match v with| .bool _=>True|_=>False,λv h=>by
 cases v<;>first|exact Wk.refl _|exact h.elim⟩
theorem Q3(b:Bool):dB.ok (.bool b)=True:=rfl
theorem Ki(b:Bool):dB.dec (.bool b)=b:=rfl
def Tst:Tab:=tadd 65 (s2 dB dI any2 λb e=>.int .i64 (whn b e)) (tadd 19 (s1 dD Z4 Bh) (tadd 21 (s2 dD dD (λ_ b=>Z4 b) λa b=>.bool (decide (a=b))) (tadd 73 (s1 dD Z4 λd=>.bool (Bb d)) (tadd 75 (s1 dD Z4 λd=>eIs (Bc d.ruls)) (tadd 71 (s2 dD dGd (λd g=>Z4 d/\Ak g.sh g.w g.h g.holes=some g.cells/\few g.holes) λd g=>.int .i64 (Cx g.cells d.regs)) tnil)))))
def Ih:AI prog Tst:=(((((AI.tnil.add (q2 λd g h=>p71 d g h.1 h.2.1 h.2.2)).add (q1 λd h=>p75 d h.ru)).add (q1 λd h=>p73 d h)).add (q2 λa b h=>p21 a b h)).add (q1 λd h=>p19 d h)).add (q2 λb e _=>p65 b e)
def Tg{H:AC}{n i:Nat}(hf:AR H n)(hi:n<=i)(a b:Z7):Ce H (hset (hset H i a) i b):=λid ob h=>by
 have:=hf.lt h;rw[AA _ _ _ _ zo,AA _ _ _ _ zo];exact h
def Sk(d:Z8):(decide ((0:Int)<d.syms.length)&&decide ((d.syms.length:Int)<=16)&&decide ((d.regs.length:Int)<=4)&&decide ((d.clus.length:Int)<=4)&&decide ((d.ruls.length:Int)<=16))=limD d:=by
 rw[Wg];simp [limD];omega
def Vo(l:List Int):decide ((l.length:Int)=0)=decide (l=[]):=by
 cases l<;>simp;omega
variable {d:Z8} {H:AC} {n q:Nat}
theorem u1(hd:Z4 d)(h0:hget H q=some (.box (AK d))):Ab prog 64 [.ptr q 0] H n (.int .i64 (OC d)):=by
 refine Ab.of c64.l trivial λhf=>c64.a (AE Ih (AF ?_))
 simp only[eZ,seval,V0,c64,h0,Tst,s2,Q3,Ki,BH,As,Sk,tadd];exact⟨rfl,λ_ _ h=>h⟩
theorem u2(hd:Z4 d)(h0:hget H q=some (.box (AK d))):Ab prog 66 [.ptr q 0] H n (.int .i64 (Ly d)):=by
 refine Ab.of c66.l trivial λhf=>c66.a (AE Ih (AF ?_))
 have hq:=hf.lt h0;have y1:∀k,(n+k=q)=False:=λk=>Vs zo
 unfold Ly;cases hr:resD d with
 |error e=>
  have hv:Bh d= .tup [encD dcl0,.int .i64 e]:=by unfold Bh;rw[hr]
  have he:(e=0)=False:=Vs (Dd hr);simp only[eZ,seval,V6,eY,c66,h0,Tst,s1,A0,Aj,V1 hd,hv,fr1 hf,he,tadd];exact Tg hf zo _ _
 |ok x=>
  have hv:Bh d= .tup [encD x,.int .i64 0]:=by unfold Bh;rw[hr]
  simp only[eZ,seval,V3,eY,c66,h0,Tst,s1,s2,A0,Aj,V1 hd,hv,fr1 hf,y1,Q3,Ki,BH,As,tadd];exact Tg hf zo _ _
theorem u3(h0:hget H q=some (.box (AK d))):Ab prog 67 [.ptr q 0] H n (.int .i64 (OD d)):=by
 refine Ab.of c67.l trivial λhf=>c67.a (AE Ih (AF ?_))
 simp only[eZ,seval,c67,h0,Tst,s2,Q3,Ki,BH,As,tadd];exact⟨rfl,λ_ _ h=>h⟩
theorem u6(hd:Z4 d)(h0:hget H q=some (.box (AK d))):Ab prog 72 [.ptr q 0] H n (.int .i64 (OF d)):=by
 refine Ab.of c72.l trivial λhf=>c72.a (AE Ih (AF ?_))
 simp only[eE,eN,seval,c72,h0,Tst,s1,s2,Q3,Ki,BH,As,A0,Aj,V1 hd,tadd];exact⟨rfl,λ_ _ h=>h⟩
theorem u7(hd:Z4 d)(h0:hget H q=some (.box (AK d))):Ab prog 74 [.ptr q 0] H n (.int .i64 (Q2 d)):=by
 refine Ab.of c74.l trivial λhf=>c74.a (AE Ih (AF ?_))
 simp only[eE,eN,seval,V0,c74,h0,Tst,s1,s2,Q3,Ki,BH,As,A0,Aj,V1 hd,Vo,tadd];exact⟨rfl,λ_ _ h=>h⟩
theorem u5{g:Zc}{q':Nat}(hd:Z4 d)(hG:Ak g.sh g.w g.h g.holes=some g.cells)(hh:few g.holes)(h0:hget H q=some (.box (AK d)))(h1:hget H q'=some (.box (AH g.sh g.w g.h g.holes g.cells))):Ab prog 70 [.ptr q 0,.ptr q' 0] H n (.int .i64 (Cx g.cells d.regs)):=by
 refine Ab.of c70.l trivial λhf=>c70.a (AE Ih (AF ?_))
 simp only[eE,eN,seval,c70,h0,h1,Tst,s2,Es,Co,A0,Aj,V1 hd,hG,V1 hh,tadd];exact λ_ _ h=>h
abbrev gr0:List Fs:=[.int .i64 0,.int .i64 0,.int .i64 0,.sl .nil [],.sl .nil []]
def Tmc:Tab:=tadd 69 (λa H=>match a with
 |[.int .i64 sh,.int .i64 w,.int .i64 h,x]=>(dIs.ok x/\few (dIs.dec x),BL sh w h (dIs.dec x))
 |_=>(False,.tup [])) tnil
theorem Tmc_ok:AI prog Tmc:=AI.tnil.add TZ
theorem u4{q':Nat}(hne:q≠q')(hh:few d.holes)(h0:hget H q=some (.box (AK d)))(h1:hget H q'=some (.box gr0)):
  AN prog 68 [.ptr q 0,.ptr q' 0] H n λo H' n'=>o= .ret (.int .i64 (OE d))/\n'=n/\∃cs,H'=hset H q' (.box cs)/\∀cells,Ak d.sh d.w d.h d.holes=some cells->cs=AH d.sh d.w d.h d.holes cells:=by
 refine c68.a (AE Tmc_ok (AF ?_));unfold OE;cases hc:Ak d.sh d.w d.h d.holes with
 |none=>
  have hv:BL d.sh d.w d.h d.holes= .tup [encG 0 0 0 [] [],.int .i64 130]:=by unfold BL;rw[hc]
  simp only[eE,eN,seval,eY,c68,h0,h1,Tmc,Al,AZ,V1 hh,hv,tadd];exact⟨_,rfl⟩
 |some cells=>
  have hv:BL d.sh d.w d.h d.holes= .tup [encG d.sh d.w d.h d.holes cells,.int .i64 0]:=by unfold BL;rw[hc]
  simp only[eE,eN,seval,eY,c68,h0,h1,Tmc,Al,AZ,V1 hh,hv,tadd];exact⟨_,rfl,λc h=>by cases h;rfl⟩
end
section
def idxP(m:Nat)(p:Nat->Bool):List Int:=((List.range m).filter p).map λ(i:Nat)=>(i:Int)
variable {x sh n:Int} {m:Nat} {p:Nat->Bool}
theorem Fo:x∈idxP m p↔∃i:Nat,i<m/\p i=true/\x=(i:Int):=by grind [idxP]
theorem JM{i:Nat}:(i:Int)∈idxP m p↔i<m/\p i=true:=by grind [Fo]
theorem Hc(m:Nat)(p:Nat->Bool):List.Pairwise (λx y=>x<y) (idxP m p):=by
 unfold idxP;rw[XZ];exact(XL.sublist Ye).imp λq=>zo
theorem Ci(m:Nat)(p:Nat->Bool):idxP (m+1) p=if p m=true then idxP m p++[(m:Int)]else idxP m p:=by grind [idxP,List.range_succ]
theorem Bq(m:Nat)(p:Nat->Bool):(idxP m p).length<=m:=by grind [idxP]
theorem CW{q:Nat->Bool}(h:∀i,i<m->p i=q i):idxP m p=idxP m q:=by grind [idxP,List.filter_congr]
theorem ND(m:Nat):idxP m (λ_=>true)=(List.range m).map λ(i:Nat)=>(i:Int):=by
 unfold idxP;rw[Yd.2 λ_ _=>rfl]
abbrev Spot:=Int×Int
def Cz(sh w p:Int):Spot:=(if sh=2 then p.tmod w-(p.tdiv w).tdiv 2 else p.tmod w,p.tdiv w)
def AQ(sh w:Int)(cells:List Int):List Spot:=cells.map (Cz sh w)
def D9(sh:Int):List Spot:=(([(1,0),(-1,0),(0,1),(0,-1),(1,-1),(-1,1)]:List Spot)).take (if sh=1 then 4 else 6)
def addP(s d:Spot):Spot:=(s.1+d.1,s.2+d.2)
def EC(S:List Spot)(s:Spot):Option Int:=(S.findIdx? λx=>decide (x=s)).map λ(i:Nat)=>(i:Int)
def nbS(sh:Int)(S:List Spot)(s:Spot):List Int:=idxP S.length λb=>(D9 sh).any λd=>decide (S[b]?=some (addP s d))
def nbsS(sh:Int)(S:List Spot):List (List Int):=S.map (nbS sh S)
def Bv(S:List Spot)(f:Spot->Option Int)(n:Int):List Int:=idxP S.length λc=>decide (S[c]?.bind f=some n)
def JN:List Int:=(List.range 49).map λ(k:Nat)=>(k:Int)-16
def Bd(S:List Spot)(f:Spot->Option Int):List (List Int):=(JN.map (Bv S f)).filter λl=>!l.isEmpty
def Kj(w:Int)(S:List Spot):List (List Int):=
 let a:=Bv S (λs=>if s.1=s.2 then some 0 else none) 0
 let b:=Bv S (λs=>if s.1+s.2=w-1 then some 0 else none) 0
 (if a.isEmpty then[]else[a])++(if b.isEmpty||decide (a=b)then[]else[b])
def famS(sh w h:Int)(S:List Spot)(f:Nat):List (List Int):=
 if f=0 then(idxP S.length λ_=>true).map λc=>[c]
 else if f=1 then Bd S λs=>some s.2
 else if f=2 then Bd S λs=>some s.1
 else if f=3 then(if sh=2 then Bd S λs=>some (s.1+s.2)else if w=h then Kj w S else[])
 else if f=4 then nbsS sh S
 else if f=5 then(List.range S.length).map λ(c:Nat)=>idxP S.length λb=>decide (b=c)||((D9 sh).any λd=>decide (S[b]?=(S[c]?).map λs=>addP s d))
 else if f=6 then(List.range S.length).flatMap λ(c:Nat)=>(((nbsS sh S)[c]?.getD []).filter λb=>decide ((c:Int)<b)).map λb=>[(c:Int),b]
 else[(idxP S.length λ_=>true)]
theorem Er{S:List Spot}(hd:S.Nodup){s:Spot}{i:Nat}:EC S s=some (i:Int)↔S[i]?=some s:=by
 unfold EC;constructor
 ·intro h;obtain⟨j,h1,h2⟩:=WY.1 h;have:j=i:=zo
  subst this;obtain⟨hl,h3,-⟩:=X9.1 h1;rw[V2 hl,Wn h3]
 ·intro h;obtain⟨hl,h1⟩:=WN.1 h;have:S.findIdx? (λx=>decide (x=s))=some i:=by
   rw[X9];refine⟨hl,by simp [h1],λj hj=>?_⟩;simp only[Vu];intro h2;have:=(WW.1 hd) j i zo hl hj;exact this (h2.trans h1.symm)
  rw[this];rfl
theorem Kk{S:List Spot}{s:Spot}(h:EC S s=some x):∃i:Nat,x=(i:Int):=by
 unfold EC at h;obtain⟨j,-,h2⟩:=WY.1 h;exact⟨j,h2.symm⟩
theorem Ii{S:List Spot}{s:Spot}:EC S s=none↔s∉S:=by grind [EC,Option.map_eq_none_iff,List.findIdx?_eq_none_iff,decide_eq_false_iff_not]
def GJ(sh:Int)(S:List Spot)(s:Spot):List Int:=(D9 sh).filterMap λd=>EC S (addP s d)
theorem Lz(sh:Int):(D9 sh).Nodup:=by
 unfold D9;split<;>decide
theorem Vp{s a b:Spot}(h:addP s a=addP s b):a=b:=by grind [addP,Prod.mk.injEq]
theorem L1(sh:Int){S:List Spot}(hd:S.Nodup)(s:Spot):(GJ sh S s).Nodup:=by
 unfold GJ;have h:=Lz sh;generalize D9 sh=L at h;induction L with
 |nil=>simp
 |cons d r ih=>
  obtain⟨h1,h2⟩:=Xv.1 h;rw[List.filterMap_cons];cases he:EC S (addP s d)with
  |none=>exact ih h2
  |some x=>
   refine Xv.2 ⟨λhm=>?_,ih h2⟩;obtain⟨e,he1,he2⟩:=List.mem_filterMap.1 hm;obtain⟨i,rfl⟩:=Kk he;have a:=(Er hd).1 he;have b:=(Er hd).1 he2;rw[a]at b;have:=Vp (Option.some.inj b);subst this;exact h1 he1
theorem Q4{S:List Spot}(hd:S.Nodup){s:Spot}:x∈GJ sh S s↔x∈nbS sh S s:=by
 unfold GJ nbS;rw[List.mem_filterMap,Fo];constructor
 ·rintro⟨d,hm,he⟩;obtain⟨i,rfl⟩:=Kk he;have h:=(Er hd).1 he;exact⟨i,(WN.1 h).1,List.any_eq_true.2 ⟨d,hm,by simp [h]⟩,rfl⟩
 ·rintro⟨i,hi,ha,rfl⟩;obtain⟨d,hm,he⟩:=List.any_eq_true.1 ha;exact⟨d,hm,(Er hd).2 (Wn he)⟩
theorem Hd{l m:List Int}(hd:l.Nodup)(hm:List.Pairwise (λx y=>x<y) m)(h:∀x,x∈l↔x∈m):l.mergeSort leI=m:=by
 refine JJ ?_ hm λx=>?_
 ·have h1:=Ff l;have h2:(l.mergeSort leI).Nodup:=(Xp l leI).nodup_iff.2 hd;rw[WW]at h1⊢;intro i j hi hj hij;have a:=h1 i j hi hj hij;have b:=WW.1 h2 i j hi hj hij;have b':¬(l.mergeSort leI)[i]=(l.mergeSort leI)[j]:=b;omega
 ·rw[(Xp l leI).mem_iff];exact h x
theorem OG(sh:Int){S:List Spot}(hd:S.Nodup)(s:Spot):(GJ sh S s).mergeSort leI=nbS sh S s:=Hd (L1 sh hd s) (Hc ..) λx=>Q4 hd
theorem NE{S:List Spot}{f:Spot->Option Int}{c:Nat}:(c:Int)∈Bv S f n↔∃s,S[c]?=some s/\f s=some n:=by
 unfold Bv;rw[JM];simp only[Vu,Option.bind_eq_some_iff];constructor
 ·exact λh=>h.2
 ·grind
theorem L2{S:List Spot}{f:Spot->Option Int}:(Bv S f n).isEmpty=false↔∃s∈S,f s=some n:=by
 rw[List.isEmpty_eq_false_iff_exists_mem];constructor
 ·rintro⟨x,hx⟩;obtain⟨i,-,-,rfl⟩:=Fo.1 hx;obtain⟨s,h1,h2⟩:=NE.1 hx;exact⟨s,XE h1,h2⟩
 ·rintro⟨s,h1,h2⟩;obtain⟨i,hi,h3⟩:=WP.1 h1;exact⟨(i:Int),NE.2 ⟨s,by rw[V2 hi,h3],h2⟩⟩
theorem Q5:List.Pairwise (λx y=>x<y) JN:=by
 unfold JN;rw[XZ];exact XL.imp λq=>zo
theorem Sl:n∈JN↔ -16<=n/\n<=32:=by
 unfold JN;rw[WL];constructor
 ·rintro⟨k,hk,rfl⟩;have:=Wy.1 hk;omega
 ·intro h;exact⟨(n+16).toNat,Wy.2 zo,zo⟩
theorem Sm{S:List Spot}{f:Spot->Option Int}{K:List Int}(hn:K.Nodup)(hk:∀n,n∈K↔∃s∈S,f s=some n)(hb:∀s∈S,∀n,f s=some n-> -16<=n/\n<=32):(K.mergeSort leI).map (Bv S f)=Bd S f:=by
 have h:K.mergeSort leI=JN.filter λn=>!(Bv S f n).isEmpty:=by
  refine Hd hn (Q5.sublist Ye) λn=>?_
  rw[hk,Xb,Sl,Xu,L2];exact⟨λq=>let ⟨s,h1,h2⟩:=q;⟨hb s h1 n h2,q⟩,λq=>q.2⟩
 rw[h,Bd,List.filter_map];rfl
theorem Sn{w p q:Int}(hw:1<=w)(hp:0<=p)(hq:0<=q)(h:Cz sh w p=Cz sh w q):p=q:=by
 unfold Cz at h;simp only[Prod.mk.injEq]at h;obtain⟨h1,h2⟩:=h;have e1:=Int.tmod_add_mul_tdiv p w;have e2:=Int.tmod_add_mul_tdiv q w;rw[h2]at h1 e1;split at h1<;>omega
theorem He{w:Int}{cells:List Int}(hw:1<=w)(hr:List.Pairwise (λx y=>x<y) cells)(h0:∀p∈cells,0<=p):(AQ sh w cells).Nodup:=by
 unfold AQ;rw[List.Nodup,XZ,WW];intro i j hi hj hij e;have:=Sn hw (h0 _ (W1 hi)) (h0 _ (W1 hj)) e;have:=WW.1 hr i j hi hj hij;omega
end
structure Knd where
 d:Z8
 g:Zc
 nb:List (List Int)
 ls:List (List (List Int))
 deriving DecidableEq
def Av(x:Z8)(cells:List Int):Zc:=⟨x.sh,x.w,x.h,x.holes,cells⟩
def OH(x:Z8)(cells:List Int):Knd:=
 ⟨x,Av x cells,nbsS x.sh (AQ x.sh x.w cells),((List.range 8).map λf=>famS x.sh x.w x.h (AQ x.sh x.w cells) f)++x.regs.map λr=>r.ls.map (BO cells)⟩
def CA(d:Z8):Except Int Knd:=match resD d with
 | .error e=>.error e
 | .ok x=>if chkD x≠0 then .error (chkD x)else match Ak x.sh x.w x.h x.holes with
  |none=>.error 130
  |some cells=>.ok (OH x cells)
def NF(k:Knd):Bool:=match CA k.d with
 | .ok x=>decide (k=x)
 | .error _=>false
def CN(k:Knd):Int:=if NF k then 0 else 180
def JO{x:Z8}(h:chkD x=0):∃cells,Ak x.sh x.w x.h x.holes=some cells:=by
 unfold chkD at h;split at h
 ·cases h
 ·split at h
  ·rename_i e he;have:=Dd he;exact absurd h this
  ·grind
def So{d:Z8}{k:Knd}(h:CA d= .ok k):∃x cells,resD d= .ok x/\chkD x=0/\Ak x.sh x.w x.h x.holes=some cells/\k=OH x cells:=by grind [CA]
abbrev eLLs(ls:List (List (List Int))):Fs:=.sl (.none 1) (ls.map eLl)
abbrev Ah(k:Knd):List Fs:=AK k.d++(AH k.g.sh k.g.w k.g.h k.g.holes k.g.cells++[eLl k.nb,eLLs k.ls])
abbrev BR(k:Knd):Fs:=.agg (Ah k)
def Q6:Fs->List (List (List Int))
 | .sl _ L=>L.map N9
 |_=>[]
def decKn:Fs->Knd
 | .agg [nm,v,sh,w,h,ho,sy,rg,cl,ru,gs,gw,gh,gho,gce,nb,ls]=>⟨decD (.agg [nm,v,sh,w,h,ho,sy,rg,cl,ru]),Qv (.agg [gs,gw,gh,gho,gce]),N9 nb,Q6 ls⟩
 |_=>⟨dcl0,⟨0,0,0,[],[]⟩,[],[]⟩
def Dn(n:Nat)(l:List (List (List Int))):(eLLs l).under n:=⟨trivial,AV (Am n) _⟩
def BT(n:Nat)(k:Knd):(BR k).under n:=⟨trivial,trivial,trivial,trivial,trivial,Ai n _,Ep n _,C2 n _,C3 n _,B9 n _,trivial,trivial,trivial,Ai n _,Ai n _,Am n _,Dn n _,trivial⟩
def OI(l:List (List (List Int))):Q6 (eLLs l)=l:=EX EZ l
def Kl(k:Knd):decKn (BR k)=k:=by
 have h1:=JI k.d;have h2:=HU k.g;show Knd.mk (decD (encD k.d)) (Qv (Bu k.g)) (N9 (eLl k.nb)) (Q6 (eLLs k.ls))=k;rw[h1,h2,EZ,OI]
def dLLs:Dc (List (List (List Int))):=dLi 1 eLl N9
def Vq(l:List (List (List Int))):dLLs.ok (eLLs l)=True:=HO EZ (.inl rfl)
def Sp(l:List (List (List Int))):dLLs.dec (eLLs l)=l:=FH EZ
def dKn:Dc Knd:=dWk BR decKn
def GK(x:Knd):dKn.ok (BR x)=True:=HM Kl x
def Eg(x:Knd):dKn.dec (BR x)=x:=Kl x
def p46(a b:List (List Int))(hb:Bm b):Pur prog 46 [eLl a,eLl b] (.bool (decide (a=b))):=by
 refine .mk ⟨Am 0 a,Am 0 b,trivial⟩ trivial (c46.a (AE TU (AF ?_)));simp only[eE,eN,seval,c46,Tcl,s2f,CM,Bl,V1 hb,tadd]
def Tke:Tab:=tadd 46 (s2 dLl dLl (λ_ b=>Bm b) λa b=>.bool (decide (a=b))) tnil
def Th:AI prog Tke:=AI.tnil.add (q2 p46)
def p47(a b:List (List (List Int)))(hb:few b)(hx:∀x∈b,Bm x):Pur prog 47 [eLLs a,eLLs b,.fn (.func 46) [] []] (.bool (decide (a=b))):=by
 refine .mk ⟨Dn 0 a,Dn 0 b,by simp [Fs.under,unders],trivial⟩ trivial (c47.a (AE Th (AF ?_)));by_cases hl:a.length=b.length;case neg=>
  simp only[eZ,seval,V6,V0,c47,GF hl,V6];exact(W2 λe=>hl (by rw[e])).symm
 simp only[eZ,seval,V3,V0,c47,GG hl];refine AO (λi:Nat=>⟨[(1,true,eLLs b),(2,true,.fn (.func 46) [] []),(15,true,eLLs a),(16,true,.int .i64 a.length),(17,true,.int .i64 i)],hnil,0⟩) (λi=>i<=a.length/\∀j,j<i->a[j]?=b[j]?) (λi=>a.length-i) 0 rfl ⟨V8 _,λj hj=>zo⟩ ?_;rintro i ⟨hi,hall⟩;by_cases c6:i<a.length;case neg=>
  simp only[eZ,seval,lt_F c6];exact(Wo (DT hl λj hj=>hall j zo)).symm
 have d4:i<b.length:=zo
 have hga:=V2 c6;have d8:=V2 d4;have e:=AG (k:=i) (by have:b.length<1000000000:=hb;omega);have hf:=hx _ (W1 d4);by_cases hs:a[i]=b[i]
 ·simp only[eZ,seval,V3,W7,Vy,Wa,V0,W3,lt_T c6,lt_T d4,hga,d8,e,Tke,s2,CM,Bl,V1 hf,BA hs,tadd];refine lpN.drop (i+1) rfl rfl rfl rfl AR.nil (λ_ _ h=>by cases h) ⟨Dn 0 b,by simp [Fs.under,unders],Dn 0 a,trivial,trivial,trivial⟩ ⟨c6,λj h=>?_⟩ zo;by_cases q:j=i
  ·subst q;rw[hga,d8,hs]
  ·exact hall j zo
 ·simp only[eZ,seval,V6,W7,Vy,Wa,V0,W3,lt_T c6,lt_T d4,hga,d8,Tke,s2,CM,Bl,V1 hf,Az hs,tadd];exact(W2 λq=>hs (by simp [q])).symm
structure FewKn(k:Knd):Prop where
 d:Z4 k.d
 ho:wide k.g.holes
 ce:wide k.g.cells
 nb:Bm k.nb
 ls:few k.ls
 lx:∀x∈k.ls,Bm x
def Tks:Tab:=tadd 45 (s2 dIs dIs (λ_ b=>wide b) λa b=>.bool (decide (a=b))) (tadd 21 (s2 dD dD (λ_ b=>Z4 b) λa b=>.bool (decide (a=b))) (tadd 47 (s2f 46 dLLs dLLs (λ_ b=>few b/\∀x∈b,Bm x) λa b=>.bool (decide (a=b))) Tke))
def Tks_ok:AI prog Tks:=((Th.add (q2f λa b h=>p47 a b h.1 h.2)).add (q2 p21)).add (q2 p45)
theorem Tks_i(a:List Fs)(H:AC):Tks 45 a H=s2 dIs dIs (λ_ b=>wide b) (λa b=>.bool (decide (a=b))) a H:=rfl
theorem Tks_s(a:List Fs)(H:AC):Tks 21 a H=s2 dD dD (λ_ b=>Z4 b) (λa b=>.bool (decide (a=b))) a H:=rfl
theorem Tks_f(a:List Fs)(H:AC):Tks 47 a H=s2f 46 dLLs dLLs (λ_ b=>few b/\∀x∈b,Bm x) (λa b=>.bool (decide (a=b))) a H:=rfl
theorem Tks_e(a:List Fs)(H:AC):Tks 46 a H=s2 dLl dLl (λ_ b=>Bm b) (λa b=>.bool (decide (a=b))) a H:=rfl
def Vr{a b:Knd}:a=b↔(((((((a.g.sh=b.g.sh/\a.g.w=b.g.w)/\a.g.h=b.g.h)/\a.g.holes=b.g.holes)/\a.g.cells=b.g.cells)/\a.d=b.d)/\a.nb=b.nb)/\a.ls=b.ls):=by
 obtain⟨ad,⟨a1,a2,a3,a4,a5⟩,an,al⟩:=a;obtain⟨bd,⟨b1,b2,b3,b4,b5⟩,bn,bl⟩:=b;simp only[Knd.mk.injEq,Zc.mk.injEq];constructor
 ·simp_all
 ·simp_all
def p18(a b:Knd)(hb:FewKn b):Pur prog 18 [BR a,BR b] (.bool (decide (a=b))):=by
 refine .mk ⟨BT 0 a,BT 0 b,trivial⟩ trivial (c18.a (AE Tks_ok (AF ?_)));have e1:dD.ok (.agg (AK a.d))=True:=A0 a.d;have e2:dD.dec (.agg (AK a.d))=a.d:=Aj a.d;have e3:dD.ok (.agg (AK b.d))=True:=A0 b.d;have e4:dD.dec (.agg (AK b.d))=b.d:=Aj b.d;simp only[AK]at e1 e2 e3 e4;simp only[eZ,seval,c18,Ah,AH,AK,Tks_i,Tks_s,Tks_f,Tks_e,s2,s2f,Al,AZ,CM,Bl,Vq,Sp,e1,e2,e3,e4,V1 hb.d,V1 hb.ho,V1 hb.ce,V1 hb.nb,V1 hb.ls,V1 hb.lx];rw[Wg];simp only[V7,Vu,Vr]
theorem Q7(d:Z8):chkD d=if OC d≠0 then OC d else if Ly d≠0 then Ly d else if OD d≠0 then OD d else match Ak d.sh d.w d.h d.holes with
  |none=>130
  |some cells=>if Cx cells d.regs≠0 then Cx cells d.regs else if OF d≠0 then OF d else Q2 d:=by
 unfold chkD OC Ly OD OF Q2;cases limD d with
 |false=>rfl
 |true=>
 cases hr:resD d with
 |error e=>simp [whn,Dd hr]
 |ok x=>
 by_cases hx:x=d
 ·by_cases hv:d.ver<1\/255<d.ver
  ·have:(decide (1<=d.ver)&&decide (d.ver<=255))=false:=by simp;omega
   simp [whn,hx,hv,this]
  ·have:(decide (1<=d.ver)&&decide (d.ver<=255))=true:=by simp;omega
   cases hc:Ak d.sh d.w d.h d.holes with
   |none=>simp [whn,hx,hv,this]
   |some cells=>
    cases Bb d<;>by_cases hu:Bc d.ruls=[]<;>simp [whn,hx,hv,this,hu]
 ·simp [whn,hx]
abbrev stA:List Fs:=[.fn (.func 64) [] [.ptr 0 0],.fn (.func 66) [] [.ptr 0 0],.fn (.func 67) [] [.ptr 0 0],.fn (.func 68) [] [.ptr 0 0,.ptr 2 0],.fn (.func 70) [] [.ptr 0 0,.ptr 2 0],.fn (.func 72) [] [.ptr 0 0],.fn (.func 74) [] [.ptr 0 0]]
structure IChk(d:Z8)(v:VF):Prop where
 hi:v.i<=7
 h0:hget v.H 0=some (.box (AK d))
 z1:0<v.i->OC d=0
 z2:1<v.i->Ly d=0
 z3:2<v.i->OD d=0
 g0:v.i<=3->hget v.H 2=some (.box gr0)
 z4:3<v.i->∃cells,Ak d.sh d.w d.h d.holes=some cells/\hget v.H 2=some (.box (AH d.sh d.w d.h d.holes cells))/\(4<v.i->Cx cells d.regs=0)
 z6:5<v.i->OF d=0
 z7:6<v.i->Q2 d=0
def p20(d:Z8)(hd:Z4 d):Pur prog 20 [encD d] (.int .i64 (chkD d)):=by
 refine .mk ⟨AW 0 d,trivial⟩ trivial (c20.a (AE AI.tnil (AF ?_)));simp only[eE,eN,seval,c20];have h7:((7:Nat):Int)=7:=rfl;refine AO (λv:VF=>⟨[(14,true,.sl (.exact 1) stA),(15,true,.int .i64 7),(16,true,.int .i64 v.i)],v.H,v.n⟩) (IChk d) (λv=>7-v.i)
  ⟨0,hset (hset hnil 0 (.box (AK d))) 2 (.box gr0),3⟩ rfl ⟨V8 _,rfl,λh=>absurd h (WE _),λh=>absurd h (WE _),λh=>absurd h (WE _),λ_=>rfl,λh=>absurd h (WE _),λh=>absurd h (WE _),λh=>absurd h (WE _)⟩ ?_
 rintro⟨i,H,n⟩ hI;obtain⟨hi,h0,z1,z2,z3,g0,z4,z6,z7⟩:=hI;simp only at hi h0 z1 z2 z3 g0 z4 z6 z7;have hS:=Q7 d;by_cases c6:i<7;case neg=>
  obtain⟨cells,hc,-,hr⟩:=z4 zo;have hlF:((i:Int)<7)=False:=Vs zo;simp only[z1 zo,z2 zo,z3 zo,hc,hr zo,z6 zo,z7 zo,ne_eq,XH,Wf]at hS;rw[hS];simp only[eZ,seval,hlF]
 have hlT:((i:Int)<7)=True:=V1 zo;have hlN:((i:Int)<((7:Nat):Int))=True:=hlT;have e:=AG (k:=i) zo;have h8:i=0\/i=1\/i=2\/i=3\/i=4\/i=5\/i=6:=zo
 rcases h8 with h8|h8|h8|h8|h8|h8|h8
 ·have hg:stA[i]?=some (.fn (.func 64) [] [.ptr 0 0]):=by rw[h8];rfl
  have hl7:i<stA.length:=c6;simp only[eZ,seval,W7,Vy,Wa,hlT,hlN,hg];refine(u1 hd h0).mono ?_;rintro o H' n' ⟨rfl,rfl,rfl⟩;by_cases hz:OC d=0
  ·rw[hz];simp only[eZ,seval,V3,retK,e];exact .mk ⟨i+1,H',n'⟩ rfl ⟨c6,h0,λ_=>hz,λh=>absurd h zp,λh=>absurd h zp,λ_=>g0 zo,λh=>absurd h zp,λh=>absurd h zp,λh=>absurd h zp⟩ zp
  ·rw[Vv hz]at hS;rw[hS];simp only[eZ,seval,V6,retK,Vs hz]
 ·have hg:stA[i]?=some (.fn (.func 66) [] [.ptr 0 0]):=by rw[h8];rfl
  have hl7:i<stA.length:=c6;simp only[eZ,seval,W7,Vy,Wa,hlT,hlN,hg];refine(u2 hd h0).mono ?_;rintro o H' n' ⟨rfl,rfl,rfl⟩;simp only[z1 zo,ne_eq,XH,Wf]at hS;by_cases hz:Ly d=0
  ·rw[hz];simp only[eZ,seval,V3,retK,e];exact .mk ⟨i+1,H',n'⟩ rfl ⟨c6,h0,λ_=>z1 zo,λ_=>hz,λh=>absurd h zp,λ_=>g0 zo,λh=>absurd h zp,λh=>absurd h zp,λh=>absurd h zp⟩ zp
  ·rw[Vv hz]at hS;rw[hS];simp only[eZ,seval,V6,retK,Vs hz]
 ·have hg:stA[i]?=some (.fn (.func 67) [] [.ptr 0 0]):=by rw[h8];rfl
  have hl7:i<stA.length:=c6;simp only[eZ,seval,W7,Vy,Wa,hlT,hlN,hg];refine(u3 h0).mono ?_;rintro o H' n' ⟨rfl,rfl,rfl⟩;simp only[z1 zo,z2 zo,ne_eq,XH,Wf]at hS;by_cases hz:OD d=0
  ·rw[hz];simp only[eZ,seval,V3,retK,e];exact .mk ⟨i+1,H',n'⟩ rfl ⟨c6,h0,λ_=>z1 zo,λ_=>z2 zo,λ_=>hz,λ_=>g0 zo,λh=>absurd h zp,λh=>absurd h zp,λh=>absurd h zp⟩ zp
  ·rw[Vv hz]at hS;rw[hS];simp only[eZ,seval,V6,retK,Vs hz]
 ·have hg:stA[i]?=some (.fn (.func 68) [] [.ptr 0 0,.ptr 2 0]):=by rw[h8];rfl
  have hl7:i<stA.length:=c6;simp only[eZ,seval,W7,Vy,Wa,hlT,hlN,hg];refine(u4 zd hd.ho h0 (g0 zo)).mono ?_;rintro o H' n' ⟨rfl,rfl,cs,rfl,hcs⟩;have h0':hget (hset H 2 (.box cs)) 0=some (.box (AK d)):=by rw[AA _ _ _ _ zd];exact h0
  simp only[z1 zo,z2 zo,z3 zo,ne_eq,XH,Wf]at hS;cases hc:Ak d.sh d.w d.h d.holes with
  |none=>
   have hs4:OE d=130:=by unfold OE;rw[hc]
   rw[hc]at hS;rw[hS,hs4];simp only[eZ,seval,V6,retK]
  |some cells=>
   have hs4:OE d=0:=by unfold OE;rw[hc]
   rw[hs4];simp only[eZ,seval,V3,retK,e];refine .mk ⟨i+1,hset H 2 (.box cs),n'⟩ rfl ⟨c6,h0',λ_=>z1 zo,λ_=>z2 zo,λ_=>z3 zo,λh=>absurd h zp,λ_=>⟨cells,hc,by simp only[];rw[AB,hcs cells hc],λh=>absurd h zp⟩,λh=>absurd h zp,λh=>absurd h zp⟩ zp
 ·have hg:stA[i]?=some (.fn (.func 70) [] [.ptr 0 0,.ptr 2 0]):=by rw[h8];rfl
  have hl7:i<stA.length:=c6;obtain⟨cells,hc,hg2,hr⟩:=z4 zo;simp only[eZ,seval,W7,Vy,Wa,hlT,hlN,hg];refine(u5 (g:=⟨d.sh,d.w,d.h,d.holes,cells⟩) hd hc hd.ho h0 hg2).mono ?_;rintro o H' n' ⟨rfl,rfl,rfl⟩;simp only[z1 zo,z2 zo,z3 zo,hc,ne_eq,XH,Wf]at hS;by_cases hz:Cx cells d.regs=0
  ·rw[hz];simp only[eZ,seval,V3,retK,e];exact .mk ⟨i+1,H',n'⟩ rfl ⟨c6,h0,λ_=>z1 zo,λ_=>z2 zo,λ_=>z3 zo,λh=>absurd h zp,λ_=>⟨cells,hc,hg2,λ_=>hz⟩,λh=>absurd h zp,λh=>absurd h zp⟩ zp
  ·rw[Vv hz]at hS;rw[hS];simp only[eZ,seval,V6,retK,Vs hz]
 ·have hg:stA[i]?=some (.fn (.func 72) [] [.ptr 0 0]):=by rw[h8];rfl
  have hl7:i<stA.length:=c6;obtain⟨cells,hc,hg2,hr⟩:=z4 zo;simp only[eZ,seval,W7,Vy,Wa,hlT,hlN,hg];refine(u6 hd h0).mono ?_;rintro o H' n' ⟨rfl,rfl,rfl⟩;simp only[z1 zo,z2 zo,z3 zo,hc,hr zo,ne_eq,XH,Wf]at hS;by_cases hz:OF d=0
  ·rw[hz];simp only[eZ,seval,V3,retK,e];exact .mk ⟨i+1,H',n'⟩ rfl ⟨c6,h0,λ_=>z1 zo,λ_=>z2 zo,λ_=>z3 zo,λh=>absurd h zp,λ_=>⟨cells,hc,hg2,λ_=>hr zo⟩,λ_=>hz,λh=>absurd h zp⟩ zp
  ·rw[Vv hz]at hS;rw[hS];simp only[eZ,seval,V6,retK,Vs hz]
 ·have hg:stA[i]?=some (.fn (.func 74) [] [.ptr 0 0]):=by rw[h8];rfl
  have hl7:i<stA.length:=c6;obtain⟨cells,hc,hg2,hr⟩:=z4 zo;simp only[eZ,seval,W7,Vy,Wa,hlT,hlN,hg];refine(u7 hd h0).mono ?_;rintro o H' n' ⟨rfl,rfl,rfl⟩;simp only[z1 zo,z2 zo,z3 zo,hc,hr zo,z6 zo,ne_eq,XH,Wf]at hS;by_cases hz:Q2 d=0
  ·rw[hz];simp only[eZ,seval,V3,retK,e];exact .mk ⟨i+1,H',n'⟩ rfl ⟨c6,h0,λ_=>z1 zo,λ_=>z2 zo,λ_=>z3 zo,λh=>absurd h zp,λ_=>⟨cells,hc,hg2,λ_=>hr zo⟩,λ_=>z6 zo,λ_=>hz⟩ zp
  ·rw[hS];simp only[eZ,seval,V6,retK,Vs hz]
end Go.AM
